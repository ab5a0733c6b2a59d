import PyProof.Rows.All
import Wide.All
import OpenK.AllK
import Wide.FinOn
import HandS.ForMost
import HandS.Exc
import HandS.TryOnly
import HandS.ExcOwn
import HandS.WordsExc
import HandS.ExcInit
import HandS.ExcField
import HandS.IsInst
import HandS.Walk
import HandS.Codes
import PySem.Challenge.RW_struckdeeds_k05_whole_texts_of_worlds
set_option Elab.async false
set_option linter.all false
set_option maxRecDepth 100000
set_option maxHeartbeats 8000000
/-! law_k05: whole texts of worlds. Each def of the program and of the law by a promise; the mathematics over lists of signs. -/
/-! The plain law of law_k05: numbers, things and worlds as texts. No program in sight. -/
namespace K5
open PySem TL

/-! ### signs -/
def isFig (c : Nat) : Bool := decide (48 ≤ c ∧ c ≤ 57)
def isSmall (c : Nat) : Bool := decide (97 ≤ c ∧ c ≤ 122)
theorem fig_mem (c : Nat) : decide (c ∈ tl ("0123456789" : Str)) = isFig c := by
  have e : tl ("0123456789" : Str) = [48, 49, 50, 51, 52, 53, 54, 55, 56, 57] := by decide +kernel
  rw [e]
  unfold isFig
  refine decide_eq_decide.mpr ?_
  simp only [List.mem_cons, List.not_mem_nil, or_false]
  omega
theorem small_mem (c : Nat) : decide (c ∈ tl ("abcdefghijklmnopqrstuvwxyz" : Str)) = isSmall c := by
  have e : tl ("abcdefghijklmnopqrstuvwxyz" : Str) = [97, 98, 99, 100, 101, 102, 103, 104, 105, 106, 107, 108, 109, 110, 111, 112, 113, 114, 115, 116, 117, 118, 119, 120, 121, 122] := by decide +kernel
  rw [e]
  unfold isSmall
  refine decide_eq_decide.mpr ?_
  simp only [List.mem_cons, List.not_mem_nil, or_false]
  omega

/-! ### figures -/
theorem allDigits_of {l : List Nat} (h : l.all isFig = true) : NumText.AllDigits l := fun c hc => by
  have q := List.all_eq_true.mp h c hc
  exact of_decide_eq_true q
theorem val_snoc (l : List Nat) (c : Nat) : NumText.digitsVal (l ++ [c]) = NumText.digitsVal l * 10 + (c - 48) := by
  unfold NumText.digitsVal
  rw [List.foldl_append]
  rfl
theorem numL_head {n : Nat} (h : (numL n).head? = some 48) : n = 0 := by
  induction n using Nat.strongRecOn with
  | _ n ih =>
    by_cases hn : n < 10
    · rw [numL_lt hn] at h
      have e : 48 + n = 48 := Option.some.inj h
      omega
    · rw [numL_step (by omega)] at h
      have e : (numL (n / 10) ++ [48 + n % 10]).head? = (numL (n / 10)).head? := by
        cases q : numL (n / 10) with
        | nil => exact absurd q (numL_ne _)
        | cons a r => rfl
      rw [e] at h
      have z := ih (n / 10) (by omega) h
      omega
theorem numL_back : ∀ (k : Nat) (d : List Nat), d.length = k → NumText.AllDigits d → d ≠ [] → d.head? ≠ some 48 → numL (NumText.digitsVal d) = d := by
  intro k
  induction k with
  | zero =>
    intro d hk _ hne _
    exact absurd (List.length_eq_zero_iff.mp hk) hne
  | succ k ih =>
    intro d hk hd hne h0
    rcases List.eq_nil_or_concat d with e | ⟨l, c, e⟩
    · exact absurd e hne
    · rw [List.concat_eq_append] at e
      subst e
      have hl : l.length = k := by
        rw [List.length_append] at hk
        simpa using hk
      have hc : 48 ≤ c ∧ c ≤ 57 := hd c (by simp)
      rw [val_snoc]
      cases l with
      | nil =>
        have hc0 : c ≠ 48 := fun z => h0 (by rw [z]; rfl)
        have ev : NumText.digitsVal [] = 0 := rfl
        rw [ev, numL_lt (by omega)]
        have e2 : 48 + (0 * 10 + (c - 48)) = c := by omega
        rw [e2]
        rfl
      | cons a r =>
        have hd2 : NumText.AllDigits (a :: r) := fun x hx => hd x (List.mem_append_left _ hx)
        have i := ih (a :: r) hl hd2 (by simp) (fun z => h0 z)
        have hpos : 0 < NumText.digitsVal (a :: r) := by
          rcases Nat.eq_zero_or_pos (NumText.digitsVal (a :: r)) with z | z
          · rw [z, numL_lt (by decide)] at i
            exact absurd (show (a :: r).head? = some 48 by rw [← i]; rfl) h0
          · exact z
        rw [numL_step (by omega)]
        have e1 : (NumText.digitsVal (a :: r) * 10 + (c - 48)) / 10 = NumText.digitsVal (a :: r) := by omega
        have e2 : 48 + (NumText.digitsVal (a :: r) * 10 + (c - 48)) % 10 = c := by omega
        rw [e1, e2, i]
theorem val_lt : ∀ (l : List Nat) (a : Nat), NumText.AllDigits l → l.foldl (fun acc c => acc * 10 + (c - 48)) a < (a + 1) * 10 ^ l.length
  | [], a, _ => by
    show a < (a + 1) * 10 ^ 0
    rw [Nat.pow_zero]
    omega
  | c :: r, a, h => by
    have hc : 48 ≤ c ∧ c ≤ 57 := h c (by simp)
    have i := val_lt r (a * 10 + (c - 48)) fun x hx => h x (List.mem_cons_of_mem _ hx)
    rw [List.foldl_cons]
    refine Nat.lt_of_lt_of_le i ?_
    rw [List.length_cons, Nat.pow_succ, Nat.mul_comm (10 ^ r.length) 10, ← Nat.mul_assoc]
    exact Nat.mul_le_mul_right _ (by omega)
theorem val_bound {l : List Nat} {k : Nat} (h : NumText.AllDigits l) (hk : l.length ≤ k) : NumText.digitsVal l < 10 ^ k := by
  have i := val_lt l 0 h
  rw [Nat.zero_add, Nat.one_mul] at i
  exact Nat.lt_of_lt_of_le i (Nat.pow_le_pow_right (by decide) hk)

/-! ### numbers -/
/-- the figures of a word -/
def figs (l : List Nat) : List Nat := if l.head? = some 45 then l.tail else l
def valOf (l : List Nat) : Int := if l.head? = some 45 then -((NumText.digitsVal l.tail : Nat) : Int) else ((NumText.digitsVal l : Nat) : Int)
/-- the number of a word -/
def numOf (l : List Nat) : Option Int :=
  if figs l = [] ∨ (figs l).all isFig = false then none
  else if (figs l).head? = some 48 ∧ l ≠ [48] then none
  else some (valOf l)
theorem numOf_bad {l : List Nat} (h : figs l = [] ∨ (figs l).all isFig = false) : numOf l = none := if_pos h
theorem numOf_nought {l : List Nat} (h : ¬ (figs l = [] ∨ (figs l).all isFig = false)) (h2 : (figs l).head? = some 48 ∧ l ≠ [48]) : numOf l = none := (if_neg h).trans (if_pos h2)
theorem numOf_ok {l : List Nat} (h : ¬ (figs l = [] ∨ (figs l).all isFig = false)) (h2 : ¬ ((figs l).head? = some 48 ∧ l ≠ [48])) : numOf l = some (valOf l) := (if_neg h).trans (if_neg h2)
theorem numOf_some {l : List Nat} {n : Int} (h : numOf l = some n) : ¬ (figs l = [] ∨ (figs l).all isFig = false) ∧ ¬ ((figs l).head? = some 48 ∧ l ≠ [48]) ∧ n = valOf l := by
  by_cases h1 : figs l = [] ∨ (figs l).all isFig = false
  · rw [numOf_bad h1] at h
    cases h
  · by_cases h2 : (figs l).head? = some 48 ∧ l ≠ [48]
    · rw [numOf_nought h1 h2] at h
      cases h
    · rw [numOf_ok h1 h2] at h
      exact ⟨h1, h2, (Option.some.inj h).symm⟩
theorem good_figs {l : List Nat} (h : ¬ (figs l = [] ∨ (figs l).all isFig = false)) : figs l ≠ [] ∧ NumText.AllDigits (figs l) := by
  refine ⟨fun z => h (.inl z), allDigits_of ?_⟩
  cases q : (figs l).all isFig with
  | true => rfl
  | false => exact absurd (.inr q) h
theorem figs_minus {l : List Nat} (h : l.head? = some 45) : l = 45 :: figs l := by
  unfold figs
  rw [if_pos h]
  cases l with
  | nil => cases h
  | cons a r =>
    have e : a = 45 := Option.some.inj h
    rw [e]
    rfl
theorem figs_plain {l : List Nat} (h : ¬ l.head? = some 45) : figs l = l := if_neg h
theorem valOf_minus {l : List Nat} (h : l.head? = some 45) : valOf l = -((NumText.digitsVal (figs l) : Nat) : Int) := by
  unfold valOf figs
  rw [if_pos h, if_pos h]
theorem valOf_plain {l : List Nat} (h : ¬ l.head? = some 45) : valOf l = ((NumText.digitsVal (figs l) : Nat) : Int) := by
  unfold valOf figs
  rw [if_neg h, if_neg h]
theorem figs_len (l : List Nat) : (figs l).length ≤ l.length := by
  unfold figs
  split
  · rw [List.length_tail]
    omega
  · exact Nat.le_refl _
/-- int(word) -/
theorem int_val {x : Str} (h : ¬ (figs (tl x) = [] ∨ (figs (tl x)).all isFig = false)) (hl : x.length ≤ 640) : PySem.intText? x = some (valOf (tl x)) := by
  obtain ⟨h1, h2⟩ := good_figs h
  by_cases hm : (tl x).head? = some 45
  · rw [valOf_minus hm]
    exact PySem.intText_neg (figs_minus hm) h2 h1 (Nat.le_trans hl (by decide))
  · rw [valOf_plain hm]
    rw [figs_plain hm] at h1 h2 ⊢
    exact PySem.intText_digits h2 h1 (Nat.le_trans hl (by decide))
theorem tl_neg (n : Nat) : tl (Str.ofString (toString (-((n + 1 : Nat) : Int)))) = 45 :: numL (n + 1) := by
  have e : toString (-((n + 1 : Nat) : Int)) = "-" ++ toString (((n + 1 : Nat) : Int)) := rfl
  rw [e, tl_ofString, String.toList_append, List.map_append, ← tl_ofString, ← tl_ofString, tl_num]
  have e2 : tl (Str.ofString "-") = [45] := by decide +kernel
  rw [e2]
  rfl
/-- str(int(word)) == word -/
theorem str_val {x : Str} (h : ¬ (figs (tl x) = [] ∨ (figs (tl x)).all isFig = false)) : Str.ofString (toString (valOf (tl x))) = x ↔ ¬ ((figs (tl x)).head? = some 48 ∧ tl x ≠ [48]) := by
  obtain ⟨h1, h2⟩ := good_figs h
  by_cases hm : (tl x).head? = some 45
  · rw [valOf_minus hm]
    have ex := figs_minus hm
    have h48 : tl x ≠ [48] := fun z => by
      rw [z] at hm
      cases hm
    constructor
    · rintro e ⟨hh, _⟩
      have e2 := congrArg tl e
      cases hv : NumText.digitsVal (figs (tl x)) with
      | zero =>
        rw [hv] at e2
        have e3 : tl (Str.ofString (toString (-((0 : Nat) : Int)))) = [48] := by decide +kernel
        rw [e3] at e2
        exact h48 e2.symm
      | succ n =>
        rw [hv, tl_neg] at e2
        rw [ex] at e2
        injection e2 with _ e3
        rw [← e3] at hh
        have z := numL_head hh
        omega
    · intro hn
      have hh : (figs (tl x)).head? ≠ some 48 := fun z => hn ⟨z, h48⟩
      have b := numL_back _ _ rfl h2 h1 hh
      refine ext_tl ?_
      cases hv : NumText.digitsVal (figs (tl x)) with
      | zero =>
        rw [hv, numL_lt (by decide)] at b
        exact absurd (show (figs (tl x)).head? = some 48 by rw [← b]; rfl) hh
      | succ n =>
        rw [tl_neg, ← hv, b]
        exact ex.symm
  · rw [valOf_plain hm]
    have ex := figs_plain hm
    rw [ex] at h1 h2 ⊢
    constructor
    · rintro e ⟨hh, h48⟩
      have e2 := congrArg tl e
      rw [tl_num] at e2
      rw [← e2] at hh
      have z := numL_head hh
      rw [z, numL_lt (by decide)] at e2
      exact h48 e2.symm
    · intro hn
      refine ext_tl ?_
      rw [tl_num]
      by_cases hh : (tl x).head? = some 48
      · have e48 : tl x = [48] := Classical.byContradiction fun z => hn ⟨hh, z⟩
        rw [e48]
        have ev : NumText.digitsVal [48] = 0 := rfl
        rw [ev, numL_lt (by decide)]
      · exact numL_back _ _ rfl h2 h1 hh
/-- what is told is written so -/
theorem show_num {x : Str} {n : Int} (h : numOf (tl x) = some n) : Str.ofString (toString n) = x := by
  obtain ⟨h1, h2, rfl⟩ := numOf_some h
  exact (str_val h1).mpr h2
theorem numOf_foreign {l : List Nat} {c : Nat} (hc : c ∈ l) (h45 : c ≠ 45) (hf : isFig c = false) : numOf l = none := by
  refine numOf_bad (.inr ?_)
  have hm : c ∈ figs l := by
    by_cases h : l.head? = some 45
    · have e := figs_minus h
      rw [e] at hc
      rcases List.mem_cons.mp hc with z | z
      · exact absurd z h45
      · exact z
    · rw [figs_plain h]
      exact hc
  cases q : (figs l).all isFig with
  | false => rfl
  | true =>
    have z := List.all_eq_true.mp q c hm
    rw [hf] at z
    cases z
theorem pow10_2 : (10 : Nat) ^ 400 < 2 ^ 1600 := by decide +kernel
theorem numOf_bound {l : List Nat} {n : Int} (h : numOf l = some n) (hl : l.length ≤ 400) : n.natAbs < 2 ^ 1600 := by
  obtain ⟨h1, _, rfl⟩ := numOf_some h
  obtain ⟨_, h2⟩ := good_figs h1
  have b := val_bound h2 (Nat.le_trans (figs_len l) hl)
  have b2 : NumText.digitsVal (figs l) < 2 ^ 1600 := Nat.lt_trans b pow10_2
  generalize 2 ^ 1600 = m at b2 ⊢
  by_cases hm : l.head? = some 45
  · rw [valOf_minus hm]
    omega
  · rw [valOf_plain hm]
    omega

/-! ### parting by one sign -/
theorem par_mem {s : Nat} : ∀ (l acc : List Nat), (s ∉ l ∧ par [s] acc l = none ∧ spl [s] 0 acc l = [acc ++ l]) ∨
    ∃ a b, s ∉ a ∧ l = a ++ s :: b ∧ par [s] acc l = some (acc ++ a, b) ∧ spl [s] 0 acc l = (acc ++ a) :: spl [s] 0 [] b
  | [], acc => .inl ⟨by simp, rfl, by rw [spl_nil, List.append_nil]⟩
  | c :: r, acc => by
    by_cases h : c = s
    · subst h
      have hp : pre [c] (c :: r) = true := pre_self [c] r
      refine .inr ⟨[], r, by simp, rfl, ?_, ?_⟩
      · rw [par_hit hp, List.append_nil]
        rfl
      · rw [spl_hit hp, List.append_nil]
        rfl
    · have hp : pre [s] (c :: r) = false := pre_of_head [] r h
      rcases par_mem r (acc ++ [c]) with ⟨h1, h2, h3⟩ | ⟨a, b, h1, h2, h3, h4⟩
      · refine .inl ⟨?_, by rw [par_miss hp, h2], by rw [spl_miss hp, h3, List.append_assoc]; rfl⟩
        simp only [List.mem_cons, not_or]
        exact ⟨fun z => h z.symm, h1⟩
      · refine .inr ⟨c :: a, b, ?_, by rw [h2]; rfl, by rw [par_miss hp, h3, List.append_assoc]; rfl, by rw [spl_miss hp, h4, List.append_assoc]; rfl⟩
        simp only [List.mem_cons, not_or]
        exact ⟨fun z => h z.symm, h1⟩
theorem spl_ne (S : List Nat) : ∀ (l : List Nat) (k : Nat) (acc : List Nat), spl S k acc l ≠ []
  | [], k, acc => by
    rw [spl_nil]
    simp
  | c :: r, 0, acc => by
    cases h : pre S (c :: r) with
    | true =>
      rw [spl_hit h]
      simp
    | false =>
      rw [spl_miss h]
      exact spl_ne S r 0 _
  | c :: r, k + 1, acc => spl_ne S r k acc
/-- exactly two parts -/
theorem spl_two {s : Nat} {l : List Nat} {a b : List Nat} (h : spl [s] 0 [] l = [a, b]) : par [s] [] l = some (a, b) := by
  rcases par_mem (s := s) l [] with ⟨_, _, h3⟩ | ⟨x, y, _, _, h3, h4⟩
  · rw [h3] at h
    simp at h
  · rw [h4] at h
    injection h with e1 e2
    rcases par_mem (s := s) y [] with ⟨_, _, k3⟩ | ⟨_, _, _, _, _, k4⟩
    · rw [k3] at e2
      injection e2 with e3 _
      rw [h3, ← e1, ← e3]
      rfl
    · rw [k4] at e2
      injection e2 with _ e4
      exact absurd e4 (spl_ne _ _ _ _)
/-- not two parts: no sign, or it stands behind the first once more -/
theorem spl_not_two {s : Nat} {l : List Nat} (h : (spl [s] 0 [] l).length ≠ 2) : par [s] [] l = none ∨ ∃ a b, par [s] [] l = some (a, b) ∧ s ∈ b := by
  rcases par_mem (s := s) l [] with ⟨_, h2, _⟩ | ⟨x, y, _, _, h3, h4⟩
  · exact .inl h2
  · refine .inr ⟨_, y, h3, ?_⟩
    rcases par_mem (s := s) y [] with ⟨_, _, k3⟩ | ⟨a, b, _, k2, _, _⟩
    · rw [h4, k3] at h
      exact absurd rfl h
    · rw [k2]
      simp
theorem par_app {s : Nat} {l a b : List Nat} (h : par [s] [] l = some (a, b)) : l = a ++ s :: b := by
  rcases par_mem (s := s) l [] with ⟨_, h2, _⟩ | ⟨x, y, _, e, h3, _⟩
  · rw [h2] at h
    cases h
  · rw [h3] at h
    have z := Option.some.inj h
    injection z with z1 z2
    rw [← z1, ← z2, List.nil_append]
    exact e

/-! ### things -/
abbrev T := Str × Int × Int
def nameOk (a : List Nat) : Bool := decide (1 ≤ a.length ∧ a.length ≤ 8) && a.all isSmall
def placeOk (n : Int) : Bool := decide (0 ≤ n ∧ n ≤ 999)
/-- name, place and count put together -/
def made (a : List Nat) (p c : Option Int) : Option T :=
  match p, c with
  | some n, some m => if nameOk a = true ∧ placeOk n = true then some (⟨a.toArray⟩, n, m) else none
  | _, _ => none
def rest2 (a b : List Nat) : Option T :=
  match par [58] [] b with
  | none => none
  | some (q, r) => made a (numOf q) (numOf r)
/-- the thing of a part -/
def thgOf (p : Str) : Option T :=
  match par [64] [] (tl p) with
  | none => none
  | some (a, b) => rest2 a b
theorem made_none1 {a : List Nat} {c : Option Int} : made a none c = none := rfl
theorem made_none2 {a : List Nat} {p : Option Int} : made a p none = none := by
  cases p <;> rfl
theorem made_badname {a : List Nat} {p c : Option Int} (h : nameOk a = false) : made a p c = none := by
  cases p with
  | none => rfl
  | some n =>
    cases c with
    | none => rfl
    | some m => exact if_neg fun z => by rw [h] at z; exact absurd z.1 Bool.false_ne_true
theorem made_badplace {a : List Nat} {n : Int} {c : Option Int} (h : placeOk n = false) : made a (some n) c = none := by
  cases c with
  | none => rfl
  | some m => exact if_neg fun z => by rw [h] at z; exact absurd z.2 Bool.false_ne_true
theorem made_ok {a : List Nat} {n m : Int} (h : nameOk a = true) (h2 : placeOk n = true) : made a (some n) (some m) = some (⟨a.toArray⟩, n, m) := if_pos ⟨h, h2⟩
theorem made_some {a : List Nat} {p c : Option Int} {t : T} (h : made a p c = some t) : ∃ n m, p = some n ∧ c = some m ∧ nameOk a = true ∧ placeOk n = true ∧ t = (⟨a.toArray⟩, n, m) := by
  cases p with
  | none => cases h
  | some n =>
    cases c with
    | none => cases h
    | some m =>
      by_cases z : nameOk a = true ∧ placeOk n = true
      · have e : made a (some n) (some m) = some (⟨a.toArray⟩, n, m) := if_pos z
        rw [e] at h
        exact ⟨n, m, rfl, rfl, z.1, z.2, (Option.some.inj h).symm⟩
      · have e : made a (some n) (some m) = none := if_neg z
        rw [e] at h
        cases h
theorem rest2_none {a b : List Nat} (h : par [58] [] b = none) : rest2 a b = none := by
  unfold rest2
  rw [h]
theorem rest2_some {a b q r : List Nat} (h : par [58] [] b = some (q, r)) : rest2 a b = made a (numOf q) (numOf r) := by
  unfold rest2
  rw [h]
theorem thg_none {p : Str} (h : par [64] [] (tl p) = none) : thgOf p = none := by
  unfold thgOf
  rw [h]
theorem thg_some {p : Str} {a b : List Nat} (h : par [64] [] (tl p) = some (a, b)) : thgOf p = rest2 a b := by
  unfold thgOf
  rw [h]
theorem rest2_foreign {a b : List Nat} (h : 64 ∈ b) : rest2 a b = none := by
  cases hp : par [58] [] b with
  | none => exact rest2_none hp
  | some x =>
    obtain ⟨q, r⟩ := x
    rw [rest2_some hp]
    have e := par_app hp
    rw [e] at h
    rcases List.mem_append.mp h with z | z
    · rw [numOf_foreign z (by decide) (by decide), made_none1]
    · rcases List.mem_cons.mp z with z | z
      · cases z
      · rw [numOf_foreign (l := r) z (by decide) (by decide), made_none2]
/-- the law's way, not two parts by @ -/
theorem law_words {p : Str} (h : (spl [64] 0 [] (tl p)).length ≠ 2) : thgOf p = none := by
  rcases spl_not_two h with z | ⟨a, b, z, hb⟩
  · exact thg_none z
  · rw [thg_some z]
    exact rest2_foreign hb
/-- .., not two parts by : -/
theorem law_numbers {a b : List Nat} (h : (spl [58] 0 [] b).length ≠ 2) : rest2 a b = none := by
  rcases spl_not_two h with z | ⟨q, r, z, hb⟩
  · exact rest2_none z
  · rw [rest2_some z, numOf_foreign (l := r) hb (by decide) (by decide), made_none2]

/-! ### written things -/
def showT (t : T) : Str := t.1 ++ ("@" : Str) ++ Str.ofString (toString t.2.1) ++ (":" : Str) ++ Str.ofString (toString t.2.2)
theorem tl_at : tl ("@" : Str) = [64] := by decide +kernel
theorem tl_colon : tl (":" : Str) = [58] := by decide +kernel
theorem thg_inv {p : Str} {t : T} (h : thgOf p = some t) : ∃ a q r, tl p = a ++ 64 :: (q ++ 58 :: r) ∧ nameOk a = true ∧ numOf q = some t.2.1 ∧ numOf r = some t.2.2 ∧ placeOk t.2.1 = true ∧ tl t.1 = a := by
  cases hp : par [64] [] (tl p) with
  | none =>
    rw [thg_none hp] at h
    cases h
  | some x =>
    obtain ⟨a, b⟩ := x
    rw [thg_some hp] at h
    cases hq : par [58] [] b with
    | none =>
      rw [rest2_none hq] at h
      cases h
    | some y =>
      obtain ⟨q, r⟩ := y
      rw [rest2_some hq] at h
      obtain ⟨n, m, h1, h2, h3, h4, rfl⟩ := made_some h
      refine ⟨a, q, r, ?_, h3, h1, h2, h4, rfl⟩
      rw [par_app hp, par_app hq]
theorem show_thg {p : Str} {t : T} (h : thgOf p = some t) : showT t = p := by
  obtain ⟨a, q, r, e, _, h1, h2, _, e3⟩ := thg_inv h
  have s1 : tl (Str.ofString (toString t.2.1)) = q := by
    rw [show_num (x := ⟨q.toArray⟩) h1]
  have s2 : tl (Str.ofString (toString t.2.2)) = r := by
    rw [show_num (x := ⟨r.toArray⟩) h2]
  refine ext_tl ?_
  unfold showT
  rw [tl_append, tl_append, tl_append, tl_append, tl_at, tl_colon, s1, s2, e3, e]
  simp
/-- what stands in a thing that is read -/
def TOk (t : T) : Prop := nameOk (tl t.1) = true ∧ t.2.1.natAbs < 2 ^ 1600 ∧ t.2.2.natAbs < 2 ^ 1600
theorem TOk.len {t : T} (h : TOk t) : t.1.length ≤ 8 := by
  rw [len_tl]
  exact (of_decide_eq_true (Bool.and_eq_true_iff.mp h.1).1).2
theorem TOk.ok {t : T} (h : TOk t) : PyData.strOk t.1 = true := by
  have h2 := (Bool.and_eq_true_iff.mp h.1).2
  unfold PyData.strOk
  rw [← Array.all_toList]
  refine List.all_eq_true.mpr fun c hc => ?_
  have z := of_decide_eq_true (List.all_eq_true.mp h2 c hc)
  refine decide_eq_true ?_
  omega
theorem thg_bounds {p : Str} {t : T} (h : thgOf p = some t) (hl : p.length ≤ 400) : TOk t := by
  obtain ⟨a, q, r, e, hn, h1, h2, _, e3⟩ := thg_inv h
  have hlen : (tl p).length ≤ 400 := by
    rw [← len_tl]
    exact hl
  rw [e] at hlen
  simp only [List.length_append, List.length_cons] at hlen
  refine ⟨?_, numOf_bound h1 (by omega), numOf_bound h2 (by omega)⟩
  rw [e3]
  exact hn

/-! ### worlds -/
/-- above the one ahead -/
def above (acc : List T) (t : T) : Bool := match acc.getLast? with
  | none => true
  | some u => decide (tl u.1 < tl t.1)
/-- part by part -/
def runW : List Str → Nat → List T → Sum Nat (List T)
  | [], _, acc => .inr acc
  | p :: ps, i, acc => match thgOf p with
    | none => .inl i
    | some t => if above acc t = true then runW ps (i + 1) (acc ++ [t]) else .inl i
theorem runW_nil {i : Nat} {acc : List T} : runW [] i acc = .inr acc := rfl
theorem runW_none {p : Str} {ps : List Str} {i : Nat} {acc : List T} (h : thgOf p = none) : runW (p :: ps) i acc = .inl i := by
  unfold runW
  rw [h]
theorem runW_bad {p : Str} {ps : List Str} {i : Nat} {acc : List T} {t : T} (h : thgOf p = some t) (h2 : above acc t = false) : runW (p :: ps) i acc = .inl i := by
  unfold runW
  rw [h]
  exact if_neg (by rw [h2]; exact Bool.false_ne_true)
theorem runW_go {p : Str} {ps : List Str} {i : Nat} {acc : List T} {t : T} (h : thgOf p = some t) (h2 : above acc t = true) : runW (p :: ps) i acc = runW ps (i + 1) (acc ++ [t]) := by
  show (match thgOf p with
    | none => (Sum.inl i : Sum Nat (List T))
    | some t => if above acc t = true then runW ps (i + 1) (acc ++ [t]) else .inl i) = _
  rw [h]
  exact if_pos h2
theorem runW_show : ∀ (ps : List Str) (i : Nat) (acc ts : List T), runW ps i acc = .inr ts → ts.map showT = acc.map showT ++ ps
  | [], i, acc, ts, h => by
    have e : acc = ts := Sum.inr.inj h
    rw [e, List.append_nil]
  | p :: ps, i, acc, ts, h => by
    cases hp : thgOf p with
    | none =>
      rw [runW_none hp] at h
      cases h
    | some t =>
      cases ha : above acc t with
      | false =>
        rw [runW_bad hp ha] at h
        cases h
      | true =>
        rw [runW_go hp ha] at h
        have z := runW_show ps (i + 1) (acc ++ [t]) ts h
        rw [z, List.map_append, List.append_assoc]
        show acc.map showT ++ ([showT t] ++ ps) = _
        rw [show_thg hp]
        rfl
theorem runW_bounds : ∀ (ps : List Str) (i : Nat) (acc ts : List T), runW ps i acc = .inr ts → (∀ p ∈ ps, p.length ≤ 400) → (∀ t ∈ acc, TOk t) →
    ∀ t ∈ ts, TOk t
  | [], i, acc, ts, h, _, ha => by
    have e : acc = ts := Sum.inr.inj h
    rw [← e]
    exact ha
  | p :: ps, i, acc, ts, h, hp, ha => by
    cases ht : thgOf p with
    | none =>
      rw [runW_none ht] at h
      cases h
    | some t =>
      cases hb : above acc t with
      | false =>
        rw [runW_bad ht hb] at h
        cases h
      | true =>
        rw [runW_go ht hb] at h
        refine runW_bounds ps (i + 1) (acc ++ [t]) ts h (fun q hq => hp q (List.mem_cons_of_mem _ hq)) fun u hu => ?_
        rcases List.mem_append.mp hu with z | z
        · exact ha u z
        · rw [List.mem_singleton.mp z]
          exact thg_bounds ht (hp p (List.mem_cons_self ..))

/-! ### split, then join -/
theorem joinL_cons {S p : List Nat} {r : List (List Nat)} (h : r ≠ []) : joinL S (p :: r) = p ++ (S ++ joinL S r) := by
  cases r with
  | nil => exact absurd rfl h
  | cons a b => rfl
theorem join_spl {S : List Nat} (hS : S ≠ []) : ∀ (k : Nat) (l acc : List Nat), l.length ≤ k → joinL S (spl S 0 acc l) = acc ++ l
  | k, [], acc, _ => by
    rw [spl_nil, List.append_nil]
    rfl
  | 0, c :: r, acc, h => by
    rw [List.length_cons] at h
    omega
  | k + 1, c :: r, acc, h => by
    rw [List.length_cons] at h
    cases hp : pre S (c :: r) with
    | false =>
      rw [spl_miss hp, join_spl hS k r (acc ++ [c]) (by omega), List.append_assoc]
      rfl
    | true =>
      have e := spl_at (L := c :: r) (acc := acc) (c := 0) hS (by rw [List.drop_zero]; exact hp)
      rw [List.drop_zero, Nat.zero_add] at e
      have hSl : 0 < S.length := List.length_pos_iff.mpr hS
      rw [e, joinL_cons (spl_ne _ _ _ _), join_spl hS k ((c :: r).drop S.length) [] (by
        rw [List.length_drop, List.length_cons]
        omega), List.nil_append]
      have e2 : (c :: r).take S.length = S := eq_of_beq hp
      have e3 : S ++ (c :: r).drop S.length = c :: r := by
        have z := List.take_append_drop S.length (c :: r)
        rw [e2] at z
        exact z
      rw [e3]
theorem mem_joinL {S : List Nat} : ∀ {l : List (List Nat)} {p : List Nat}, p ∈ l → p.length ≤ (joinL S l).length
  | [], p, h => by cases h
  | [q], p, h => by
    rw [List.mem_singleton.mp h]
    exact Nat.le_refl _
  | q :: r :: t, p, h => by
    rw [joinL_cons (by simp), List.length_append, List.length_append]
    rcases List.mem_cons.mp h with z | z
    · rw [z]
      omega
    · have i := mem_joinL (S := S) z
      omega
theorem tl_sep : tl (", " : Str) = [44, 32] := by decide +kernel
theorem sep_ne : tl (", " : Str) ≠ [] := by
  rw [tl_sep]
  simp
theorem sep_kind : (", " : Str).cps.all (· < 256) = true := by decide +kernel
theorem split_parts (x : Str) : (Txt.split x ", ").map tl = spl (tl (", " : Str)) 0 [] (tl x) := split_spl x _ sep_ne (kind_ok sep_kind)
theorem join_split (x : Str) : Txt.join (", " : Str) (Txt.split x ", ") = x := by
  refine ext_tl ?_
  rw [join_eq, tl_join, split_parts, join_spl sep_ne _ (tl x) [] (Nat.le_refl _)]
  rfl
theorem split_ne (x : Str) : Txt.split x ", " ≠ [] := fun z => by
  have e := split_parts x
  rw [z] at e
  exact spl_ne _ _ _ _ e.symm
theorem split_short {x p : Str} (h : p ∈ Txt.split x ", ") : p.length ≤ x.length := by
  have hm : tl p ∈ spl (tl (", " : Str)) 0 [] (tl x) := by
    rw [← split_parts]
    exact List.mem_map.mpr ⟨p, h, rfl⟩
  have z := mem_joinL (S := tl (", " : Str)) hm
  rw [join_spl sep_ne _ (tl x) [] (Nat.le_refl _)] at z
  rw [len_tl, len_tl]
  exact z
/-- the world that a text tells, or the number of its first part that is none -/
def dueOf (x : Str) : Sum Nat (List T) := if x = ("-" : Str) then .inr [] else runW (Txt.split x ", ") 0 []
theorem due_dash : dueOf ("-" : Str) = .inr [] := if_pos rfl
theorem due_other {x : Str} (h : ¬ x = ("-" : Str)) : dueOf x = runW (Txt.split x ", ") 0 [] := if_neg h
def showW (ts : List T) : Str := if ts = [] then ("-" : Str) else Txt.join (", " : Str) (ts.map showT)
/-- the law: what is read is written as that text -/
theorem show_due {x : Str} {ts : List T} (h : dueOf x = .inr ts) : showW ts = x := by
  by_cases hx : x = ("-" : Str)
  · rw [hx, due_dash] at h
    have e : [] = ts := Sum.inr.inj h
    rw [← e, hx]
    exact if_pos rfl
  · rw [due_other hx] at h
    have z := runW_show _ _ _ _ h
    rw [List.map_nil, List.nil_append] at z
    have hne : ts ≠ [] := fun e => by
      rw [e] at z
      exact split_ne x z.symm
    unfold showW
    rw [if_neg hne, z]
    exact join_split x
theorem due_bounds {x : Str} {ts : List T} (h : dueOf x = .inr ts) (hl : x.length ≤ 400) : (∀ t ∈ ts, TOk t) ∧ (∀ t ∈ ts, (showT t).length ≤ 400) ∧ ts.length ≤ 402 := by
  by_cases hx : x = ("-" : Str)
  · rw [hx, due_dash] at h
    have e : [] = ts := Sum.inr.inj h
    rw [← e]
    exact ⟨fun t ht => (by cases ht), fun t ht => (by cases ht), (by decide)⟩
  · rw [due_other hx] at h
    have hs : ∀ p ∈ Txt.split x ", ", p.length ≤ 400 := fun p hp => Nat.le_trans (split_short hp) hl
    have z := runW_show _ _ _ _ h
    rw [List.map_nil, List.nil_append] at z
    refine ⟨runW_bounds _ _ _ _ h hs (fun t ht => (by cases ht)), fun t ht => ?_, ?_⟩
    · refine hs _ ?_
      rw [← z]
      exact List.mem_map.mpr ⟨t, ht, rfl⟩
    · have e := congrArg List.length z
      rw [List.length_map] at e
      have q := PyProof.Rows.split_le x (", " : Str)
      omega
end K5
/-! The program's text by places, heaps, and what the top has written. -/
namespace K5
open PySem PySem.Spec PyProof.Rows L2 TL
def topS (i : Nat) : Stmt := PySem.Challenge.pw_struckdeeds_k05_whole_texts_of_worlds.main.body.getD i (.Pass ⟨0, 0, 0, 0⟩)
abbrev sInit : Stmt := inClass (topS 2) 0
abbrev sWhole : Stmt := topS 7
abbrev sName : Stmt := topS 8
abbrev sPlace : Stmt := topS 9
abbrev sThing : Stmt := topS 11
abbrev sNumIn : Stmt := topS 14
abbrev sShow : Stmt := topS 15
abbrev sThgIn : Stmt := topS 16
abbrev sRead : Stmt := topS 17
abbrev sPool : Stmt := topS 19
abbrev sDraw : Stmt := topS 20
abbrev sPart : Stmt := topS 21
abbrev sBent : Stmt := topS 22
abbrev sText : Stmt := topS 23
abbrev sLNum : Stmt := topS 24
abbrev sLThg : Stmt := topS 25
abbrev sDue : Stmt := topS 26
abbrev sTold : Stmt := topS 27
abbrev sLaw : Stmt := topS 28
theorem scInit : FnScope ["self", "part"] ["self", "part"] (defScope sInit) := ⟨rfl, rfl, rfl, by decide +kernel, rfl, by decide +kernel, by decide +kernel⟩
theorem scWhole : FnScope ["thing"] ["thing"] (defScope sWhole) := ⟨rfl, rfl, rfl, by decide +kernel, rfl, by decide +kernel, by decide +kernel⟩
theorem scName : FnScope ["thing", "sign"] ["thing"] (defScope sName) := ⟨rfl, rfl, rfl, by decide +kernel, rfl, by decide +kernel, by decide +kernel⟩
theorem scPlace : FnScope ["thing"] ["thing"] (defScope sPlace) := ⟨rfl, rfl, rfl, by decide +kernel, rfl, by decide +kernel, by decide +kernel⟩
theorem scThing : FnScope ["thing"] ["thing"] (defScope sThing) := ⟨rfl, rfl, rfl, by decide +kernel, rfl, by decide +kernel, by decide +kernel⟩
theorem scNumIn : FnScope ["word", "figures", "sign"] ["word"] (defScope sNumIn) := ⟨rfl, rfl, rfl, by decide +kernel, rfl, by decide +kernel, by decide +kernel⟩
theorem scShow : FnScope ["world", "name", "place", "count"] ["world"] (defScope sShow) := ⟨rfl, rfl, rfl, by decide +kernel, rfl, by decide +kernel, by decide +kernel⟩
theorem scThgIn : FnScope ["part", "name", "sign", "rest", "place", "more", "count", "found"] ["part"] (defScope sThgIn) := ⟨rfl, rfl, rfl, by decide +kernel, rfl, by decide +kernel, by decide +kernel⟩
theorem scRead : FnScope ["text", "found", "number", "part", "thing"] ["text"] (defScope sRead) := ⟨rfl, rfl, rfl, by decide +kernel, rfl, by decide +kernel, by decide +kernel⟩
theorem scPool : FnScope ["_law_cell", "_law_rest", "_law_one"] ["_law_cell"] (defScope sPool) := ⟨rfl, rfl, rfl, by decide +kernel, rfl, by decide +kernel, by decide +kernel⟩
theorem scDraw : FnScope ["_law_pool_here", "_law_top", "_law_found"] ["_law_pool_here", "_law_top"] (defScope sDraw) := ⟨rfl, rfl, rfl, by decide +kernel, rfl, by decide +kernel, by decide +kernel⟩
theorem scPart : FnScope ["_law_pool_here", "_law_names", "_law_place", "_law_count"] ["_law_pool_here", "_law_names"] (defScope sPart) := ⟨rfl, rfl, rfl, by decide +kernel, rfl, by decide +kernel, by decide +kernel⟩
theorem scBent : FnScope ["_law_pool_here", "_law_text_here", "_law_odd", "_law_at", "_law_sign"] ["_law_pool_here", "_law_text_here"] (defScope sBent) := ⟨rfl, rfl, rfl, by decide +kernel, rfl, by decide +kernel, by decide +kernel⟩
theorem scText : FnScope ["_law_cell", "_law_pool_here", "_law_names", "_law_parts", "_law_k", "_law_text_here"] ["_law_cell"] (defScope sText) := ⟨rfl, rfl, rfl, by decide +kernel, rfl, by decide +kernel, by decide +kernel⟩
theorem scLNum : FnScope ["_law_word", "_law_figures", "_law_sign"] ["_law_word"] (defScope sLNum) := ⟨rfl, rfl, rfl, by decide +kernel, rfl, by decide +kernel, by decide +kernel⟩
theorem scLThg : FnScope ["_law_part_here", "_law_words", "_law_numbers", "_law_sign", "_law_word"] ["_law_part_here"] (defScope sLThg) := ⟨rfl, rfl, rfl, by decide +kernel, rfl, by decide +kernel, by decide +kernel⟩
theorem scDue : FnScope ["_law_text_here", "_law_found", "_law_number", "_law_part_here", "_law_thing"] ["_law_text_here"] (defScope sDue) := ⟨rfl, rfl, rfl, by decide +kernel, rfl, by decide +kernel, by decide +kernel⟩
theorem scTold : FnScope ["_law_text_here", "_law_found", "e"] ["_law_text_here"] (defScope sTold) := ⟨rfl, rfl, rfl, by decide +kernel, rfl, by decide +kernel, by decide +kernel⟩
theorem scLaw : FnScope ["_law_script", "_law_cell", "_law_text_here", "_law_due_here"] ["_law_script"] (defScope sLaw) := ⟨rfl, rfl, rfl, by decide +kernel, rfl, by decide +kernel, by decide +kernel⟩

/-! ### heaps -/
theorem same_upd {H : Hp} {p : Addr} {o : HO} (h : H p = none) : Same H (upd H p o) := fun b x e => by
  rw [upd_ne (ne_of_none e h)]
  exact e
/-- all but what stands at p is as it was -/
def But (p : Addr) (H H' : Hp) : Prop := ∀ b o, H b = some o → b ≠ p → H' b = some o
theorem But.refl (p : Addr) (H : Hp) : But p H H := fun _ _ h _ => h
theorem But.trans {p : Addr} {H H1 H2 : Hp} (a : But p H H1) (b : But p H1 H2) : But p H H2 := fun c o h n => b c o (a c o h n) n
theorem But.of {p : Addr} {H H1 : Hp} (a : Same H H1) : But p H H1 := fun c o h _ => a c o h
/-- what was made behind H and changed since -/
theorem But.same {p : Addr} {H0 H H' : Hp} (s : Same H0 H) (n : H0 p = none) (b : But p H H') : Same H0 H' := fun c o e => b c o (s c o e) (ne_of_none e n)

/-! ### values -/
def optV : Option Int → V
  | none => .non
  | some n => .int n
def tupT (t : T) : HO := .tup [.str t.1, .int t.2.1, .int t.2.2]
/-- a thing's tuple -/
def IsT (H : Hp) (v : V) (t : T) : Prop := ∃ a, v = .ref a ∧ H a = some (tupT t)
abbrev IsTs (H : Hp) (vs : List V) (ts : List T) : Prop := Paired (IsT H) vs ts
theorem IsTs.mono {H H' : Hp} (s : Same H H') : ∀ {vs : List V} {ts : List T}, IsTs H vs ts → IsTs H' vs ts
  | _, _, .nil => .nil
  | _, _, .cons h t => .cons (by
      obtain ⟨a, e1, e2⟩ := h
      exact ⟨a, e1, s _ _ e2⟩) (IsTs.mono s t)
theorem IsTs.snoc {H : Hp} {vs : List V} {ts : List T} {v : V} {t : T} (h : IsTs H vs ts) (h2 : IsT H v t) : IsTs H (vs ++ [v]) (ts ++ [t]) := Paired.snoc h h2
theorem IsTs.get {H : Hp} : ∀ {vs : List V} {ts : List T} {i : Nat} {v : V}, IsTs H vs ts → vs[i]? = some v → ∃ t, ts[i]? = some t ∧ IsT H v t
  | _, _, _, _, .nil, e => by simp at e
  | _, _, 0, v, .cons (b := b) h _, e => by
    have e2 : _ = v := Option.some.inj e
    subst e2
    exact ⟨b, rfl, h⟩
  | _, _, i + 1, v, .cons _ t, e => by
    obtain ⟨u, h1, h2⟩ := IsTs.get (i := i) (v := v) t e
    exact ⟨u, h1, h2⟩
def dT (t : T) : PyData := .tuple [.str t.1, .int t.2.1, .int t.2.2]
theorem IsT.dp {K : PySem.W.Frag} {H : Hp} {v : V} {t : T} (h : IsT H v t) : Dp K H v (dT t) := by
  obtain ⟨a, rfl, e⟩ := h
  exact .tup (SqT.of e) (.cons (.str _) (.cons (.int _) (.cons (.int _) .nil)))
theorem IsTs.dp {K : PySem.W.Frag} {H : Hp} : ∀ {vs : List V} {ts : List T}, IsTs H vs ts → DpAll K H vs (ts.map dT)
  | _, _, .nil => .nil
  | _, _, .cons h t => .cons h.dp (IsTs.dp t)
theorem shapedAll : ∀ ts : List T, (∀ t ∈ ts, TOk t) → PyData.canLayAll0 (ts.map dT) = true ∧ PyData.depthAll (ts.map dT) ≤ 1
  | [], _ => ⟨rfl, Nat.zero_le _⟩
  | t :: ts, h => by
    obtain ⟨h1, h2⟩ := shapedAll ts fun u hu => h u (List.mem_cons_of_mem _ hu)
    refine ⟨?_, ?_⟩
    · show (PyData.canLay0 (dT t) && PyData.canLayAll0 (ts.map dT)) = true
      rw [h1, Bool.and_true]
      show (PyData.strOk t.1 && _) = true
      rw [(h t (List.mem_cons_self ..)).ok]
      rfl
    · show max (PyData.depth (dT t)) (PyData.depthAll (ts.map dT)) ≤ 1
      have e : PyData.depth (dT t) = 1 := rfl
      omega
/-- a world, read -/
def dW (ts : List T) : PyData := .tuple [.str "read", .tuple (ts.map dT)]
def dN (n : Int) : PyData := .tuple [.str "none", .int n]
theorem shaped_list {ts : List T} (h : ∀ t ∈ ts, TOk t) : SeqAt.shaped (.list (ts.map dT)) = true := by
  obtain ⟨h1, h2⟩ := shapedAll ts h
  refine Bool.and_eq_true_iff.mpr ⟨h1, decide_eq_true ?_⟩
  show PyData.depthAll (ts.map dT) + 1 ≤ 64
  omega
theorem shaped_tup {ts : List T} (h : ∀ t ∈ ts, TOk t) : SeqAt.shaped (.tuple (ts.map dT)) = true := by
  obtain ⟨h1, h2⟩ := shapedAll ts h
  refine Bool.and_eq_true_iff.mpr ⟨h1, decide_eq_true ?_⟩
  show PyData.depthAll (ts.map dT) + 1 ≤ 64
  omega
theorem shaped_dW {ts : List T} (h : ∀ t ∈ ts, TOk t) : SeqAt.shaped (dW ts) = true := by
  obtain ⟨h1, h2⟩ := shapedAll ts h
  refine Bool.and_eq_true_iff.mpr ⟨?_, decide_eq_true ?_⟩
  · show (PyData.strOk "read" && (PyData.canLayAll0 (ts.map dT) && true)) = true
    rw [h1]
    decide +kernel
  · show max 0 (max (PyData.depthAll (ts.map dT) + 1) 0) + 1 ≤ 64
    omega
theorem shaped_dN (n : Int) : SeqAt.shaped (dN n) = true := by
  refine Bool.and_eq_true_iff.mpr ⟨?_, decide_eq_true ?_⟩
  · show (PyData.strOk "none" && _) = true
    have e : PyData.strOk "none" = true := by decide +kernel
    rw [e]
    rfl
  · show max 0 (max 0 0) + 1 ≤ 64
    decide
theorem eqv_self {d : PyData} (h : SeqAt.shaped d = true) : PyData.eqv d d = true := SeqAt.eqv_refl d (SeqAt.canLay_of_shaped h)
theorem eqvAll_nil {ds : List PyData} : PyData.eqvAll ds [] = ds.isEmpty := by
  cases ds <;> rfl

/-! ### what the top has written -/
structure Txt (K : PySem.W.Frag) (mg : Str → Option Value) : Prop where
  isinst : mg "isinstance" = none
  int : mg "int" = none
  str : mg "str" = none
  bool : mg "bool" = none
  tup : mg "tuple" = none
  len : mg "len" = none
  all : mg "all" = none
  enum : mg "enumerate" = none
  abs : mg "abs" = none
  range : mg "range" = none
  sorted : mg "sorted" = none
  small : ∃ t, mg "SMALL" = some (.str "abcdefghijklmnopqrstuvwxyz" t)
  letters : ∃ t, mg "MOST_LETTERS" = some (.int 8 t)
  place : ∃ t, mg "MOST_PLACE" = some (.int 999 t)
  fig : ∃ t, mg "FIGURES" = some (.str "0123456789" t)
end K5
/-! Small defs: is_whole, is_name, is_place, is_thing, number_in. -/
namespace K5
open PySem PySem.Spec PyProof.Rows L2 TL
theorem b_isinst : bootBuiltins "isinstance" = some (.builtin "isinstance") := by decide +kernel
theorem b_int : bootBuiltins "int" = some (.type "int") := by decide +kernel
theorem b_str : bootBuiltins "str" = some (.type "str") := by decide +kernel
theorem b_bool : bootBuiltins "bool" = some (.type "bool") := by decide +kernel
theorem b_tup : bootBuiltins "tuple" = some (.type "tuple") := by decide +kernel
theorem b_len : bootBuiltins "len" = some (.builtin "len") := by decide +kernel
theorem b_all : bootBuiltins "all" = some (.builtin "all") := by decide +kernel
theorem b_abs : bootBuiltins "abs" = some (.builtin "abs") := by decide +kernel
theorem b_sorted : bootBuiltins "sorted" = some (.builtin "sorted") := by decide +kernel

/-! ### texts as values -/
theorem line_ge {n : Nat} (h : n ≤ 100000) : n ≤ sizeLine := Nat.le_trans h (by decide)
theorem str_eq {x y : Str} : (V.str x = V.str y) ↔ x = y := ⟨fun h => V.str.inj h, fun h => by rw [h]⟩
theorem tl_eq {x y : Str} : x = y ↔ tl x = tl y := ⟨fun h => by rw [h], ext_tl⟩
theorem tl_one (c : Nat) : tl (⟨#[c]⟩ : Str) = [c] := rfl
theorem cut_take (z : Str) (n : Nat) : tl (cutS z none (some (n : Int))) = (tl z).take n := by
  show ((z.cps.toList.drop (HT.sIx z.length 0 none)).take (HT.sIx z.length z.length (some (n : Int)) - HT.sIx z.length 0 none)) = _
  rw [HT.sIx_none, HT.sIx_nat, List.drop_zero, Nat.sub_zero]
  show (tl z).take (min n z.length) = (tl z).take n
  rw [len_tl, ← List.take_take, List.take_length]
theorem cut_drop (z : Str) (n : Nat) : tl (cutS z (some (n : Int)) none) = (tl z).drop n := by
  show ((z.cps.toList.drop (HT.sIx z.length 0 (some (n : Int)))).take (HT.sIx z.length z.length none - HT.sIx z.length 0 (some (n : Int)))) = _
  rw [HT.sIx_none, HT.sIx_nat]
  show ((tl z).drop (min n z.length)).take (z.length - min n z.length) = (tl z).drop n
  rw [len_tl]
  by_cases h : n ≤ (tl z).length
  · rw [Nat.min_eq_left h]
    exact List.take_of_length_le (by rw [List.length_drop]; exact Nat.le_refl _)
  · rw [Nat.min_eq_right (by omega), List.drop_length, List.take_nil, List.drop_eq_nil_of_le (by omega)]
theorem tl_minus : tl ("-" : Str) = [45] := by decide +kernel
theorem tl_zero : tl ("0" : Str) = [48] := by decide +kernel
theorem tl_empty : tl ("" : Str) = [] := by decide +kernel
theorem head_minus (z : Str) : (V.str (cutS z none (some 1)) = V.str ("-" : Str)) ↔ (tl z).head? = some 45 := by
  rw [str_eq, tl_eq, show (1 : Int) = ((1 : Nat) : Int) from rfl, cut_take, tl_minus]
  cases tl z with
  | nil => simp
  | cons a r => simp
theorem is_empty (z : Str) : (V.str z = V.str ("" : Str)) ↔ tl z = [] := by
  rw [str_eq, tl_eq, tl_empty]

/-! ### [c in .. for c in x] -/
section
variable {K : PySem.W.Frag} {x : Str} {f : Nat → Bool} {j : Nat} {ti te : TE} {σ : L2.St} {H : Hp} {Q : VK}
theorem signs_lc (hj : j < σ.length) (hx : x.length ≤ 1000) (hti : ∀ k : VK, k (.str x) H → ti σ H k)
    (hte : ∀ (c : Nat) (σ2 : L2.St) (H3 : Hp) (k : VK), σ2[j]? = some (some (.str ⟨#[c]⟩)) → k (.bl (f c)) H3 → te σ2 H3 k)
    (q : ∀ D H', H D = none → Same H H' → H' D = some (.lst (((tl x).map f).map V.bl)) → Q (.ref D) H') : tLc (iStr ti) (gName j) tYes te [j] σ H Q := by
  refine hti _ ⟨x, rfl, fun D hD => lc_it walk_str (fun i H' => Same H H' ∧ H' D = some (.lst ((((tl x).take i).map f).map V.bl))) ⟨same_upd hD, upd_same⟩ (fun _ _ _ _ => True.intro) ?_ ?_⟩
  · rintro i v H1 H2 hi ⟨s1, e1⟩ ⟨rfl, c, hc, rfl⟩
    have hc2 : (tl x)[i]? = some c := by
      rw [← hc]
      exact Array.getElem?_toList
    refine ⟨?_, ?_⟩
    · show (σ.set j none |>.set j _).set j none = σ.set j none
      rw [List.set_set, List.set_set]
    · refine hte c _ _ _ ?_ ?_
      · show ((σ.set j none).set j _)[j]? = _
        rw [List.getElem?_set_self (by rw [List.length_set]; exact hj)]
      · refine ⟨_, e1, ?_, ?_, ?_⟩
        · rw [List.length_map, List.length_map, List.length_take]
          refine small1000 (Nat.le_trans (Nat.min_le_right _ _) ?_)
          rw [← len_tl]
          exact hx
        · intro b o e
          have nb : b ≠ D := ne_of_none e hD
          rw [upd_ne nb]
          exact s1 b o e
        · rw [upd_same, List.take_add_one, hc2, List.map_append, List.map_append]
          rfl
  · rintro H1 ⟨s1, e1⟩
    refine q D H1 hD s1 ?_
    rw [e1]
    have el : (tl x).take x.cps.size = tl x := List.take_of_length_le (by rw [← len_tl]; exact Nat.le_refl _)
    rw [el]
end
theorem all_id {l : List Nat} {f : Nat → Bool} : (l.map f).all id = l.all f := by
  induction l with
  | nil => rfl
  | cons a r ih =>
    show (f a && (r.map f).all id) = (f a && r.all f)
    rw [ih]

/-! ### promises -/
def spWhole : Sp := fun vs H Q _ => ∃ o : Option Int, vs = [optV o] ∧ Q (.bl o.isSome) H
def spName : Sp := fun vs H Q _ => ∃ x : Str, vs = [.str x] ∧ x.length ≤ 1000 ∧ ∀ H', Same H H' → Q (.bl (nameOk (tl x))) H'
def spPlace : Sp := fun vs H Q _ => ∃ o : Option Int, vs = [optV o] ∧ Q (.bl (o.any placeOk)) H
def spThing (K : PySem.W.Frag) : Sp := fun vs H Q _ => ∃ (a : Addr) (x : Str) (o1 o2 : Option Int), vs = [.ref a] ∧ H a = some (.tup [.str x, optV o1, optV o2]) ∧ x.length ≤ 1000 ∧
  ∀ H', Same H H' → Q (.bl (made (tl x) o1 o2).isSome) H'
def spNumIn : Sp := fun vs H Q _ => ∃ x : Str, vs = [.str x] ∧ x.length ≤ 400 ∧ ∀ H', Same H H' → Q (optV (numOf (tl x))) H'

section
variable {P : Program} {w : World} {K : PySem.W.Frag} {mg : Str → Option Value} {base : Heap}
/-! ### is_whole -/
theorem ok_whole {f : Addr} {fd : FuncData} (F : Fun K "is_whole" "is_whole" sWhole f fd) (T : Txt K mg) : FnOk P w K mg base CX0 1 f fd ["thing"] spWhole := by
  refine F.ok scWhole (fun vs H Q E h => ?_) (fun cdv A outer s H vs Q E hr h => ?_)
  · obtain ⟨o, rfl, _⟩ := h
    rfl
  · obtain ⟨o, rfl, q⟩ := h
    refine ⟨_, pss_one (ps_ret (pe_and (pe_callB call_isi (by rfl) T.isinst b_isinst (pa_cons (pv 0) (pa_cons (pe_bltn (v := .ty "int") (by rfl) T.int b_int rfl) pa_nil)))
      (pe_one (pe_not (pe_callB call_isi (by rfl) T.isinst b_isinst (pa_cons (pv 0) (pa_cons (pe_bltn (v := .ty "bool") (by rfl) T.bool b_bool rfl) pa_nil))))))), ?_⟩
    cases o with
    | none => exact ⟨_, rfl, .non, .ty "int", _, _, false, rfl, .ty _, .base .non, kit_ty (by decide +kernel), false, rfl, iteF q⟩
    | some n => exact ⟨_, rfl, .int n, .ty "int", _, _, true, rfl, .ty _, .base (.int _), kit_ty (by decide +kernel), true, rfl, iteT ⟨_, rfl, .int n, .ty "bool", _, _, false, rfl, .ty _, .base (.int _), kit_ty (by decide +kernel), false, rfl, q⟩⟩

/-! ### is_name -/
theorem ok_name {f : Addr} {fd : FuncData} (F : Fun K "is_name" "is_name" sName f fd) (T : Txt K mg) : FnOk P w K mg base CX0 1 f fd ["thing"] spName := by
  refine F.ok scName (fun vs H Q E h => ?_) (fun cdv A outer s H vs Q E hr h => ?_)
  · obtain ⟨x, rfl, _⟩ := h
    rfl
  · obtain ⟨x, rfl, hx, q⟩ := h
    obtain ⟨t1, hs⟩ := T.small
    obtain ⟨t2, hl⟩ := T.letters
    refine ⟨_, pss_cons (ps_if (PW.pt (pw_or (pt_not (pt_val (pe_callB call_isi (by rfl) T.isinst b_isinst (pa_cons (pv 0) (pa_cons (pe_bltn (v := .ty "str") (by rfl) T.str b_str rfl) pa_nil)))))
        (pw_or1 (pt_not (pt_chain op_le op_le pe_int (pe_callB call_len_str (by rfl) T.len b_len (pa_cons (pv 0) pa_nil)) (pe_glob (v := .int 8) rfl hl ⟨_, rfl⟩))))))
        (pss_one (ps_ret pe_bl)) pss_nil)
      (pss_one (ps_ret (pe_callB (cr_all rfl) (by rfl) T.all b_all (pa_cons
        (pe_lc (own := [("sign", 1)]) (g := gName 1) (tt := tYes) rfl scName.nd (pi_str (pv 0)) (blkOk_by (N := ["thing", "sign"]) (sc := defScope sName) (by decide +kernel))
          (fun _ _ _ _ _ => pg_name (i := 1) scName.nd rfl (Or.inl rfl)) (fun _ _ _ _ _ => pts_nil)
          (fun _ _ _ _ _ => pe_cmpR op_in_sign (pv 1) (pe_glob (v := .str "abcdefghijklmnopqrstuvwxyz") rfl hs ⟨_, rfl⟩) (by rfl))) pa_nil)))), ?_⟩
    refine ⟨_, rfl, .str x, .ty "str", _, _, true, rfl, .ty _, .base (.str _), kit_ty (by decide +kernel), true, rfl, iteF ?_⟩
    -- the length
    have hlen : x.length = (tl x).length := len_tl x
    have fin : nameOk (tl x) = (decide (1 ≤ (tl x).length ∧ (tl x).length ≤ 8) && (tl x).all isSmall) := rfl
    have stop : ¬ (1 ≤ (tl x).length ∧ (tl x).length ≤ 8) → Q (.bl false) H := fun hn => by
      have z := q H (Same.refl H)
      rw [fin, decide_eq_false hn, Bool.false_and] at z
      exact z
    refine ⟨_, rfl, x, rfl, line_ge (by omega), _, _, rfl, rfl, _, rfl, ?_⟩
    by_cases h1 : (1 : Int) ≤ (x.length : Int)
    · rw [decide_eq_true h1]
      refine iteT ⟨_, _, rfl, rfl, _, rfl, ?_⟩
      by_cases h2 : (x.length : Int) ≤ 8
      · rw [decide_eq_true h2]
        refine iteF ?_
        unfold tNext tRet tCB tCons
        dsimp only
        refine signs_lc (x := x) (f := isSmall) (j := 1) (σ := [some (.str x), none]) (H := H) (by show 1 < 2; decide) hx (fun k hk => ⟨_, rfl, hk⟩) (fun c σ2 H3 k e hk => ⟨_, e, c, _, rfl, rfl, ?_⟩) (fun D H' hD s1 e1 => ?_)
        · rw [show ("abcdefghijklmnopqrstuvwxyz" : Str).cps.toList = tl ("abcdefghijklmnopqrstuvwxyz" : Str) from rfl, small_mem]
          exact hk
        · refine ⟨D, _, rfl, SqL.of e1, ?_⟩
          have z := q H' s1
          rw [fin, decide_eq_true (show 1 ≤ (tl x).length ∧ (tl x).length ≤ 8 by omega), Bool.true_and] at z
          rw [all_id]
          exact z
      · rw [decide_eq_false h2]
        refine iteT (stop (by omega))
    · rw [decide_eq_false h1]
      refine iteF ⟨_, rfl, ?_⟩
      refine iteT (stop (by omega))

/-! ### is_place -/
theorem ok_place {f fW : Addr} {fd fdW : FuncData} (F : Fun K "is_place" "is_place" sPlace f fd) (T : Txt K mg) (FW : Fun K "is_whole" "is_whole" sWhole fW fdW) (bW : Binds K fdW ["thing"] []) (gW : mg "is_whole" = some (.ref fW)) :
    FnOk P w K mg base CX0 2 f fd ["thing"] spPlace := by
  have GW : FnOk P w K mg base CX0 1 fW fdW ["thing"] spWhole := ok_whole FW T
  refine F.ok scPlace (fun vs H Q E h => ?_) (fun cdv A outer s H vs Q E hr h => ?_)
  · obtain ⟨o, rfl, _⟩ := h
    rfl
  · obtain ⟨o, rfl, q⟩ := h
    obtain ⟨t2, hl⟩ := T.place
    refine ⟨_, pss_one (ps_ret (pe_and (pe_call GW hr (by rfl) gW FW.kp bW .nil pass0 (pa_cons (pv 0) pa_nil))
      (pe_one (pe_chain op_le op_le pe_int (pv 0) (pe_glob (v := .int 999) rfl hl ⟨_, rfl⟩))))), ?_⟩
    cases o with
    | none => exact ⟨_, rfl, none, rfl, false, rfl, iteF q⟩
    | some n =>
      refine ⟨_, rfl, some n, rfl, true, rfl, iteT ⟨_, rfl, _, _, rfl, rfl, _, rfl, ?_⟩⟩
      have e : (some n : Option Int).any placeOk = decide (0 ≤ n ∧ n ≤ 999) := rfl
      rw [e] at q
      by_cases h1 : (0 : Int) ≤ n
      · rw [decide_eq_true h1]
        refine iteT ⟨_, _, rfl, rfl, ?_⟩
        show Q (.bl (decide (n ≤ 999))) H
        by_cases h2 : n ≤ 999
        · rw [decide_eq_true h2]
          rw [decide_eq_true (show 0 ≤ n ∧ n ≤ 999 from ⟨h1, h2⟩)] at q
          exact q
        · rw [decide_eq_false h2]
          rw [decide_eq_false (show ¬ (0 ≤ n ∧ n ≤ 999) from fun z => h2 z.2)] at q
          exact q
      · rw [decide_eq_false h1]
        rw [decide_eq_false (show ¬ (0 ≤ n ∧ n ≤ 999) from fun z => h1 z.1)] at q
        exact iteF q

/-! ### is_thing -/
theorem made_isSome (a : List Nat) (o1 o2 : Option Int) : (made a o1 o2).isSome = (nameOk a && (o1.any placeOk && o2.isSome)) := by
  cases o1 with
  | none =>
    rw [made_none1]
    show false = (nameOk a && (false && _))
    rw [Bool.false_and, Bool.and_false]
  | some n =>
    cases o2 with
    | none =>
      rw [made_none2]
      show false = (nameOk a && (_ && false))
      rw [Bool.and_false, Bool.and_false]
    | some m =>
      show _ = (nameOk a && (placeOk n && true))
      cases h1 : nameOk a with
      | false =>
        rw [made_badname h1]
        rfl
      | true =>
        cases h2 : placeOk n with
        | false =>
          rw [made_badplace h2]
          rfl
        | true =>
          rw [made_ok h1 h2]
          rfl
theorem ok_thing {f fW fN fP : Addr} {fd fdW fdN fdP : FuncData} (F : Fun K "is_thing" "is_thing" sThing f fd) (T : Txt K mg)
    (FW : Fun K "is_whole" "is_whole" sWhole fW fdW) (bW : Binds K fdW ["thing"] []) (gW : mg "is_whole" = some (.ref fW))
    (FN : Fun K "is_name" "is_name" sName fN fdN) (bN : Binds K fdN ["thing"] []) (gN : mg "is_name" = some (.ref fN))
    (FP : Fun K "is_place" "is_place" sPlace fP fdP) (bP : Binds K fdP ["thing"] []) (gP : mg "is_place" = some (.ref fP)) :
    FnOk P w K mg base CX0 3 f fd ["thing"] (spThing K) := by
  have GW : FnOk P w K mg base CX0 1 fW fdW ["thing"] spWhole := ok_whole FW T
  have GN : FnOk P w K mg base CX0 1 fN fdN ["thing"] spName := ok_name FN T
  have GP : FnOk P w K mg base CX0 2 fP fdP ["thing"] spPlace := ok_place FP T FW bW gW
  refine F.ok scThing (fun vs H Q E h => ?_) (fun cdv A outer s H vs Q E hr h => ?_)
  · obtain ⟨a, x, o1, o2, rfl, _⟩ := h
    rfl
  · obtain ⟨a, x, o1, o2, rfl, ha, hx, q⟩ := h
    have hr1 : Room 1 _ := hr.mono (by decide)
    refine ⟨_, pss_cons (ps_if (PW.pt (pw_or (pt_not (pt_val (pe_callB call_isi (by rfl) T.isinst b_isinst (pa_cons (pv 0) (pa_cons (pe_bltn (v := .ty "tuple") (by rfl) T.tup b_tup rfl) pa_nil)))))
        (pw_or1 (pt_cmpR op_ne (pe_callB call_len_seq (by rfl) T.len b_len (pa_cons (pv 0) pa_nil)) pe_int (nomark _)))))
        (pss_one (ps_ret pe_bl)) pss_nil)
      (pss_one (ps_ret (pe_and (pe_call GN hr1 (by rfl) gN FN.kp bN .nil pass0 (pa_cons (pe_ix ix_tup (pv 0) pe_int (fun _ _ => rfl)) pa_nil))
        (pe_and (pe_call GP hr (by rfl) gP FP.kp bP .nil pass0 (pa_cons (pe_ix ix_tup (pv 0) pe_int (fun _ _ => rfl)) pa_nil))
          (pe_one (pe_call GW hr1 (by rfl) gW FW.kp bW .nil pass0 (pa_cons (pe_ix ix_tup (pv 0) pe_int (fun _ _ => rfl)) pa_nil))))))), ?_⟩
    refine ⟨_, rfl, .ref a, .ty "tuple", _, _, true, rfl, .ty _, .base (.tup ha), kit_ty (by decide +kernel), true, rfl, iteF ?_⟩
    refine ⟨_, rfl, a, _, rfl, .inr (SqT.of ha), rfl, _, rfl, iteF ?_⟩
    refine ⟨_, rfl, a, _, 0, .str x, rfl, rfl, SqT.of ha, atI_nat (j := 0) rfl, x, rfl, hx, fun H1 s1 => ⟨_, rfl, ?_⟩⟩
    have z := q H1 s1
    rw [made_isSome] at z
    have h1 : H1 a = some (.tup [.str x, optV o1, optV o2]) := s1 _ _ ha
    cases e1 : nameOk (tl x) with
    | false =>
      rw [e1, Bool.false_and] at z
      exact iteF z
    | true =>
      rw [e1, Bool.true_and] at z
      refine iteT ⟨_, rfl, a, _, 1, optV o1, rfl, rfl, SqT.of h1, atI_nat (j := 1) rfl, o1, rfl, _, rfl, ?_⟩
      cases e2 : o1.any placeOk with
      | false =>
        rw [e2, Bool.false_and] at z
        exact iteF z
      | true =>
        rw [e2, Bool.true_and] at z
        exact iteT ⟨_, rfl, a, _, 2, optV o2, rfl, rfl, SqT.of h1, atI_nat (j := 2) rfl, o2, rfl, z⟩

/-! ### number_in -/
theorem figs_take (x : Str) (h : (tl x).head? = some 45) : tl (cutS x (some 1) none) = figs (tl x) := by
  rw [show (1 : Int) = ((1 : Nat) : Int) from rfl, cut_drop]
  unfold figs
  rw [if_pos h, List.drop_one]
theorem ok_numIn {f : Addr} {fd : FuncData} (F : Fun K "number_in" "number_in" sNumIn f fd) (T : Txt K mg) : FnOk P w K mg base CX0 1 f fd ["word"] spNumIn := by
  refine F.ok scNumIn (fun vs H Q E h => ?_) (fun cdv A outer s H vs Q E hr h => ?_)
  · obtain ⟨x, rfl, _⟩ := h
    rfl
  · obtain ⟨x, rfl, hx, q⟩ := h
    obtain ⟨t1, hf⟩ := T.fig
    refine ⟨_, pss_cons (ps_set (i := 1) scNumIn.nd rfl (Or.inl rfl) (pv 0))
      (C8.pss_cut (ps_if (pt_cmpR op_eq (pe_slice sl_str (pv 0) po_none (po_some pe_int)) pe_str (nomark _))
        (pss_one (ps_set (i := 1) scNumIn.nd rfl (Or.inl rfl) (pe_slice sl_str (pv 0) (po_some pe_int) po_none))) pss_nil)
      (pss_cons (ps_if (PW.pt (pw_or (pt_cmpR op_eq (pv 1) pe_str (nomark _))
          (pw_or1 (pt_not (pt_val (pe_callB (cr_all rfl) (by rfl) T.all b_all (pa_cons
            (pe_lc (own := [("sign", 2)]) (g := gName 2) (tt := tYes) rfl scNumIn.nd (pi_str (pv 1)) (blkOk_by (N := ["word", "figures", "sign"]) (sc := defScope sNumIn) (by decide +kernel))
              (fun _ _ _ _ _ => pg_name (i := 2) scNumIn.nd rfl (Or.inl rfl)) (fun _ _ _ _ _ => pts_nil)
              (fun _ _ _ _ _ => pe_cmpR op_in_sign (pv 2) (pe_glob (v := .str "0123456789") rfl hf ⟨_, rfl⟩) (by rfl))) pa_nil)))))))
        (pss_one (ps_ret pe_non)) pss_nil)
      (pss_cons (ps_if (PW.pt (pw_and (pt_cmpR op_eq (pe_ix ix_str (pv 1) pe_int (fun _ _ => rfl)) pe_str (nomark _)) (pw_and1 (pt_cmpR op_ne (pv 0) pe_str (nomark _)))))
        (pss_one (ps_ret pe_non)) pss_nil)
      (pss_one (ps_ret (pe_callTy call_int_str (by rfl) T.int b_int (pa_cons (pv 0) pa_nil))))))), ?_⟩
    refine ⟨_, rfl, fun σ' H' => ∃ y : Str, σ' = [some (.str x), some (.str y), none] ∧ tl y = figs (tl x) ∧ H' = H, ?_, ?_⟩
    · -- the sign ahead
      refine ⟨_, rfl, 1, rfl, x, rfl, line_ge (by omega), rfl, _, rfl, ite2 (fun e => ?_) (fun e => ?_)⟩
      · have hm := (head_minus x).mp (of_decide_eq_true e)
        exact ⟨_, rfl, 1, rfl, x, rfl, line_ge (by omega), _, rfl, figs_take x hm, rfl⟩
      · have hm : ¬ (tl x).head? = some 45 := fun z => e (decide_eq_true ((head_minus x).mpr z))
        exact ⟨x, rfl, (figs_plain hm).symm, rfl⟩
    · rintro σ' H' ⟨y, rfl, ey, rfl⟩
      have hy : y.length ≤ 400 := by
        rw [len_tl, ey]
        refine Nat.le_trans (figs_len _) ?_
        rw [← len_tl]
        exact hx
      -- no figures, or a foreign sign
      refine ⟨_, rfl, rfl, _, rfl, ?_⟩
      have bad : ∀ H2, Same H' H2 → (figs (tl x) = [] ∨ (figs (tl x)).all isFig = false) → Q .non H2 := fun H2 s2 hb => by
        have z := q H2 s2
        rw [numOf_bad hb] at z
        exact z
      by_cases h1 : tl y = []
      · rw [decide_eq_true ((is_empty y).mpr h1)]
        exact iteT (iteT (bad H' (Same.refl _) (.inl (ey ▸ h1))))
      · rw [decide_eq_false (fun z => h1 ((is_empty y).mp z))]
        refine iteF ?_
        unfold tNot tB tCB tCons
        refine signs_lc (x := y) (f := isFig) (j := 2) (σ := [some (.str x), some (.str y), none]) (H := H') (by show 2 < 3; decide) (by omega) (fun k hk => ⟨_, rfl, hk⟩) (fun c σ2 H3 k e hk => ⟨_, e, c, _, rfl, rfl, ?_⟩) (fun D H2 hD s2 e2 => ?_)
        · rw [show ("0123456789" : Str).cps.toList = tl ("0123456789" : Str) from rfl, fig_mem]
          exact hk
        · refine ⟨D, _, rfl, SqL.of e2, _, rfl, ?_⟩
          rw [all_id]
          cases h2 : (tl y).all isFig with
          | false => exact iteT (bad H2 s2 (.inr (ey ▸ h2)))
          | true =>
            refine iteF ?_
            have hg : ¬ (figs (tl x) = [] ∨ (figs (tl x)).all isFig = false) := fun z => by
              rw [← ey] at z
              rcases z with z | z
              · exact h1 z
              · rw [h2] at z
                cases z
            obtain ⟨c, r, hc⟩ : ∃ c r, tl y = c :: r := by
              cases hq : tl y with
              | nil => exact absurd hq h1
              | cons c r => exact ⟨c, r, rfl⟩
            -- noughts ahead
            refine ⟨_, rfl, y, 0, c, rfl, rfl, line_ge (by omega), atI_nat (j := 0) (show (tl y)[0]? = some c by rw [hc]; rfl), rfl, _, rfl, ?_⟩
            have hz : (V.str ⟨#[c]⟩ = V.str ("0" : Str)) ↔ c = 48 := by
              rw [str_eq, tl_eq, tl_one, tl_zero]
              simp
            have hh : (figs (tl x)).head? = some 48 ↔ c = 48 := by
              rw [← ey, hc]
              simp
            have hw : (V.str x = V.str ("0" : Str)) ↔ tl x = [48] := by
              rw [str_eq, tl_eq, tl_zero]
            have nought : ((figs (tl x)).head? = some 48 ∧ tl x ≠ [48]) → Q .non H2 := fun hb => by
              have z := q H2 s2
              rw [numOf_nought hg hb] at z
              exact z
            have good : ¬ ((figs (tl x)).head? = some 48 ∧ tl x ≠ [48]) → Q (.int (valOf (tl x))) H2 := fun hb => by
              have z := q H2 s2
              rw [numOf_ok hg hb] at z
              exact z
            by_cases h3 : c = 48
            · rw [decide_eq_true (hz.mpr h3)]
              refine iteT ⟨_, rfl, rfl, _, rfl, ?_⟩
              by_cases h4 : tl x = [48]
              · rw [decide_eq_true (hw.mpr h4)]
                refine iteF ?_
                exact ⟨_, rfl, x, _, rfl, int_val hg (by omega), by omega, good fun z => z.2 h4⟩
              · rw [decide_eq_false (fun z => h4 (hw.mp z))]
                exact iteT (nought ⟨hh.mpr h3, h4⟩)
            · rw [decide_eq_false (fun z => h3 (hz.mp z))]
              refine iteF (iteF ?_)
              exact ⟨_, rfl, x, _, rfl, int_val hg (by omega), by omega, good fun z => h3 (hh.mp z.1)⟩
end
end K5
/-! thing_in, show_world, NoText's __init__. -/
namespace K5
open PySem PySem.Spec PyProof.Rows L2 TL

/-! ### partition by one sign -/
theorem part_facts {x y : Str} {s : Nat} (ey : tl y = [s]) : (par [s] [] (tl x) = none ∧ (Txt.partition x y).2.1 = Str.empty ∧ (Txt.partition x y).2.2 = Str.empty) ∨
    ∃ a b, par [s] [] (tl x) = some (a, b) ∧ tl (Txt.partition x y).1 = a ∧ (Txt.partition x y).2.1 = y ∧ tl (Txt.partition x y).2.2 = b ∧ a.length ≤ x.length ∧ b.length ≤ x.length := by
  rw [partition_par x y (by rw [ey]; simp), ey]
  cases hp : par [s] [] (tl x) with
  | none => exact .inl ⟨rfl, rfl, rfl⟩
  | some z =>
    obtain ⟨a, b⟩ := z
    have e := congrArg List.length (par_app hp)
    rw [List.length_append, List.length_cons, ← len_tl] at e
    exact .inr ⟨a, b, rfl, rfl, rfl, rfl, by omega, by omega⟩
theorem empty_eq : (V.str Str.empty = V.str ("" : Str)) := by decide +kernel
theorem at_ne_empty : ¬ (V.str ("@" : Str) = V.str ("" : Str)) := by decide +kernel
theorem colon_ne_empty : ¬ (V.str (":" : Str) = V.str ("" : Str)) := by decide +kernel
theorem part_len1 {x y : Str} {s : Nat} (ey : tl y = [s]) : (Txt.partition x y).1.length ≤ x.length := by
  rw [partition_par x y (by rw [ey]; simp), ey]
  cases hp : par [s] [] (tl x) with
  | none => exact Nat.le_refl _
  | some z =>
    obtain ⟨a, b⟩ := z
    have e := congrArg List.length (par_app hp)
    rw [List.length_append, List.length_cons, ← len_tl] at e
    show a.toArray.size ≤ _
    rw [List.size_toArray]
    omega
theorem part_len3 {x y : Str} {s : Nat} (ey : tl y = [s]) : (Txt.partition x y).2.2.length ≤ x.length := by
  rw [partition_par x y (by rw [ey]; simp), ey]
  cases hp : par [s] [] (tl x) with
  | none => exact Nat.zero_le _
  | some z =>
    obtain ⟨a, b⟩ := z
    have e := congrArg List.length (par_app hp)
    rw [List.length_append, List.length_cons, ← len_tl] at e
    show b.toArray.size ≤ _
    rw [List.size_toArray]
    omega

/-! ### promises -/
def spThgIn : Sp := fun vs H Q _ => ∃ x : Str, vs = [.str x] ∧ x.length ≤ 400 ∧ (thgOf x = none → ∀ H', Same H H' → Q .non H') ∧
  ∀ t, thgOf x = some t → ∀ H' p, Same H H' → H' p = some (tupT t) → Q (.ref p) H'
def spShow : Sp := fun vs H Q _ => ∃ (a : Addr) (us : List V) (ts : List T), vs = [.ref a] ∧ H a = some (.tup us) ∧ IsTs H us ts ∧ (∀ t ∈ ts, TOk t) ∧ (∀ t ∈ ts, (showT t).length ≤ 400) ∧ ts.length ≤ 402 ∧
  ∀ H', Same H H' → Q (.str (showW ts)) H'

section
variable {P : Program} {w : World} {K : PySem.W.Frag} {mg : Str → Option Value} {base : Heap}
/-! ### thing_in -/
theorem ok_thgIn {f fI fN fT : Addr} {fd fdI fdN fdT : FuncData} (F : Fun K "thing_in" "thing_in" sThgIn f fd) (Tx : Txt K mg)
    (GI : FnOk P w K mg base CX0 1 fI fdI ["word"] spNumIn) (kI : PySem.W.keepIn K (.ref fI) = true) (bI : Binds K fdI ["word"] []) (gI : mg "number_in" = some (.ref fI))
    (GN : FnOk P w K mg base CX0 1 fN fdN ["thing"] spName) (kN : PySem.W.keepIn K (.ref fN) = true) (bN : Binds K fdN ["thing"] []) (gN : mg "is_name" = some (.ref fN))
    (GT : FnOk P w K mg base CX0 3 fT fdT ["thing"] (spThing K)) (kT : PySem.W.keepIn K (.ref fT) = true) (bT : Binds K fdT ["thing"] []) (gT : mg "is_thing" = some (.ref fT)) :
    FnOk P w K mg base CX0 4 f fd ["part"] spThgIn := by
  refine F.ok scThgIn (fun vs H Q E h => ?_) (fun cdv A outer s H vs Q E hr h => ?_)
  · obtain ⟨x, rfl, _⟩ := h
    rfl
  · obtain ⟨x, rfl, hx, qN, qT⟩ := h
    have hr1 : Room 1 _ := hr.mono (by decide)
    refine ⟨_, pss_cons (ps_asg (pe_partition (pv 0) pe_str) (pg_tup rfl (pgs_cons (pg_name (i := 1) scThgIn.nd rfl (.inl rfl)) (pgs_cons (pg_name (i := 2) scThgIn.nd rfl (.inl rfl)) (pgs_cons (pg_name (i := 3) scThgIn.nd rfl (.inl rfl)) pgs_nil)))))
      (pss_cons (ps_asg (pe_partition (pv 3) pe_str) (pg_tup rfl (pgs_cons (pg_name (i := 4) scThgIn.nd rfl (.inl rfl)) (pgs_cons (pg_name (i := 5) scThgIn.nd rfl (.inl rfl)) (pgs_cons (pg_name (i := 6) scThgIn.nd rfl (.inl rfl)) pgs_nil)))))
      (pss_cons (ps_set (i := 7) scThgIn.nd rfl (.inl rfl) (pe_tup (pa_cons (pv 1) (pa_cons (pe_call GI hr1 (by rfl) gI kI bI .nil pass0 (pa_cons (pv 4) pa_nil))
          (pa_cons (pe_call GI hr1 (by rfl) gI kI bI .nil pass0 (pa_cons (pv 6) pa_nil)) pa_nil)))))
      (pss_cons (ps_if (PW.pt (pw_or (pt_cmpR op_eq (pv 2) pe_str (nomark _)) (pw_or (pt_cmpR op_eq (pv 5) pe_str (nomark _))
          (pw_or (pt_not (pt_val (pe_call GN hr1 (by rfl) gN kN bN .nil pass0 (pa_cons (pv 1) pa_nil))))
            (pw_or1 (pt_not (pt_val (pe_call GT hr (by rfl) gT kT bT .nil pass0 (pa_cons (pv 7) pa_nil)))))))))
        (pss_one (ps_ret pe_non)) pss_nil)
      (pss_one (ps_ret (pv 7)))))), ?_⟩
    -- name, sign, rest
    refine ⟨_, rfl, ⟨_, rfl⟩, x, _, rfl, rfl, by rfl, line_ge (by omega), fun p1 n1 => ?_⟩
    refine ⟨p1, _, rfl, SqT.of upd_same, rfl, _, _, rfl, _, _, rfl, _, _, rfl, rfl, ?_⟩
    have l1 := part_len1 (x := x) tl_at
    have l3 := part_len3 (x := x) tl_at
    have f1 := part_facts (x := x) tl_at
    generalize (Txt.partition x ("@" : Str)).1 = nm at *
    generalize (Txt.partition x ("@" : Str)).2.1 = sg at *
    generalize (Txt.partition x ("@" : Str)).2.2 = rs at *
    -- place, more, count
    refine ⟨_, rfl, ⟨_, rfl⟩, rs, _, rfl, rfl, by rfl, line_ge (by omega), fun p2 n2 => ?_⟩
    refine ⟨p2, _, rfl, SqT.of upd_same, rfl, _, _, rfl, _, _, rfl, _, _, rfl, rfl, ?_⟩
    have m1 := part_len1 (x := rs) tl_colon
    have m3 := part_len3 (x := rs) tl_colon
    have f2 := part_facts (x := rs) tl_colon
    generalize (Txt.partition rs (":" : Str)).1 = pl at *
    generalize (Txt.partition rs (":" : Str)).2.1 = mo at *
    generalize (Txt.partition rs (":" : Str)).2.2 = ct at *
    -- found
    refine ⟨_, rfl, _, rfl, pl, rfl, by omega, fun H1 s1 => ⟨_, rfl, ct, rfl, by omega, fun H2 s2 => ⟨by show 3 ≤ sizeLine; decide, fun p3 n3 => ?_⟩⟩⟩
    have s0 : Same H H2 := ((same_upd n1).trans (same_upd n2)).trans (s1.trans s2)
    have s3 : Same H (upd H2 p3 (.tup [.str nm, optV (numOf (tl pl)), optV (numOf (tl ct))])) := s0.trans (same_upd n3)
    generalize hH3 : upd H2 p3 (.tup [.str nm, optV (numOf (tl pl)), optV (numOf (tl ct))]) = H3 at s3
    have e3 : H3 p3 = some (.tup [.str nm, optV (numOf (tl pl)), optV (numOf (tl ct))]) := by
      rw [← hH3]
      exact upd_same
    -- sign == ""
    refine ⟨_, rfl, rfl, _, rfl, ?_⟩
    rcases f1 with ⟨k1, k2, k3⟩ | ⟨a, b, k1, k2, k3, k4, k5, k6⟩
    · rw [k2, decide_eq_true empty_eq]
      exact iteT (iteT (qN (thg_none k1) _ s3))
    · rw [k3, decide_eq_false at_ne_empty]
      have et : thgOf x = rest2 a b := thg_some k1
      refine iteF ⟨_, rfl, rfl, _, rfl, ?_⟩
      rw [k4] at f2
      rcases f2 with ⟨j1, j2, j3⟩ | ⟨q, r, j1, j2, j3, j4, j5, j6⟩
      · rw [j2, decide_eq_true empty_eq]
        exact iteT (iteT (qN (et.trans (rest2_none j1)) _ s3))
      · rw [j3, decide_eq_false colon_ne_empty]
        have et2 : thgOf x = made a (numOf q) (numOf r) := et.trans (rest2_some j1)
        refine iteF ⟨_, rfl, nm, rfl, by omega, fun H4 s4 => ⟨_, rfl, ?_⟩⟩
        rw [k2]
        cases hn : nameOk a with
        | false => exact iteT (iteT (qN (et2.trans (made_badname hn)) _ (s3.trans s4)))
        | true =>
          refine iteF ⟨_, rfl, p3, nm, _, _, rfl, s4 _ _ e3, by omega, fun H5 s5 => ⟨_, rfl, ?_⟩⟩
          rw [k2, j2, j4]
          cases hm : made a (numOf q) (numOf r) with
          | none => exact iteT (qN (et2.trans hm) _ ((s3.trans s4).trans s5))
          | some t =>
            refine iteF ⟨_, rfl, qT t (et2.trans hm) _ p3 ((s3.trans s4).trans s5) ?_⟩
            obtain ⟨n, m, g1, g2, _, _, g5⟩ := made_some hm
            have z := s5 _ _ (s4 _ _ e3)
            rw [j2, j4, g1, g2] at z
            have en : nm = ⟨a.toArray⟩ := ext_tl k2
            rw [z, g5, en]
            rfl

/-! ### show_world -/
theorem sum_le : ∀ {l : List Nat} {k : Nat}, (∀ n ∈ l, n ≤ k) → l.sum ≤ l.length * k
  | [], k, _ => by simp
  | a :: r, k, h => by
    have i := sum_le (l := r) (k := k) fun n hn => h n (List.mem_cons_of_mem _ hn)
    have h1 := h a (List.mem_cons_self ..)
    rw [List.sum_cons, List.length_cons, Nat.succ_mul]
    omega
theorem log_ok {n : Int} (h : n.natAbs < 2 ^ 1600) : n.natAbs.log2 < 1920 := Nat.lt_trans (PySem.Flt.log2_lt_of (by decide) h) (by decide)
theorem app_len (x y : Str) : (x ++ y).length = x.length + y.length := by
  rw [len_tl, tl_append, List.length_append, ← len_tl, ← len_tl]
theorem ok_show {f : Addr} {fd : FuncData} (F : Fun K "show_world" "show_world" sShow f fd) (Tx : Txt K mg) : FnOk P w K mg base CX0 1 f fd ["world"] spShow := by
  refine F.ok scShow (fun vs H Q E h => ?_) (fun cdv A outer s H vs Q E hr h => ?_)
  · obtain ⟨a, us, ts, rfl, _⟩ := h
    rfl
  · obtain ⟨a, us, ts, rfl, ha, hT, hok, hlen, hn, q⟩ := h
    refine ⟨_, pss_cons (ps_if (pt_cmpR (op_eqD hr.units) (pv 0) (pe_tup pa_nil) (nomark _)) (pss_one (ps_ret pe_str)) pss_nil)
      (pss_one (ps_ret (pe_join pe_str (pe_lc (own := [("name", 1), ("place", 2), ("count", 3)]) (g := gTup K 3 (gCons (gName 1) (gCons (gName 2) (gCons (gName 3) gNil)))) (tt := tYes) rfl scShow.nd (pi_tup (pv 0)) (blkOk_by (N := ["world", "name", "place", "count"]) (sc := defScope sShow) (by decide +kernel))
        (fun _ _ _ _ _ => pg_tup rfl (pgs_cons (pg_name (i := 1) scShow.nd rfl (.inl rfl) (.inr rfl)) (pgs_cons (pg_name (i := 2) scShow.nd rfl (.inl rfl) (.inr rfl)) (pgs_cons (pg_name (i := 3) scShow.nd rfl (.inl rfl) (.inr rfl)) pgs_nil))))
        (fun _ _ _ _ _ => pts_nil)
        (fun _ _ _ _ _ => pe_op op_add_str (pe_op op_add_str (pe_op op_add_str (pe_op op_add_str (pv 1) pe_str) (pe_callTy call_str_int (by rfl) Tx.str b_str (pa_cons (pv 2) pa_nil))) pe_str)
          (pe_callTy call_str_int (by rfl) Tx.str b_str (pa_cons (pv 3) pa_nil))))))), ?_⟩
    -- world == ()
    refine ⟨_, rfl, Nat.zero_le _, fun p1 n1 => ?_⟩
    have s1 : Same H (upd H p1 (.tup [])) := same_upd n1
    have e1 := s1 _ _ ha
    have hT1 := IsTs.mono s1 hT
    refine ⟨.tuple (ts.map dT), .tuple [], .tup (SqT.of e1) hT1.dp, .tup (SqT.of upd_same) .nil, shaped_tup hok, rfl, _, rfl, ?_⟩
    have ee : PyData.eqv (.tuple (ts.map dT)) (.tuple []) = ts.isEmpty := by
      show PyData.eqvAll (ts.map dT) [] = _
      rw [eqvAll_nil]
      cases ts <;> rfl
    rw [ee]
    cases ts with
    | nil => exact iteT (q _ s1)
    | cons t0 ts0 =>
      refine iteF ?_
      have ew : showW (t0 :: ts0) = Txt.join (", " : Str) ((t0 :: ts0).map showT) := if_neg (by simp)
      rw [ew] at q
      generalize (t0 :: ts0) = ts at *
      have hlu : us.length = ts.length := Paired.length hT
      refine ⟨⟨_, rfl⟩, _, rfl, a, rfl, ⟨_, SqT.of e1⟩, fun D hD => lc_tup (K := K) (a := a) (xs := us)
        (fun i H' => Same (upd H p1 (.tup [])) H' ∧ H' D = some (.lst (((ts.take i).map showT).map V.str))) ⟨same_upd hD, upd_same⟩ (fun i H' _ z => SqT.of (z.1 _ _ e1)) ?_ ?_⟩
      · rintro i v H2 hi ⟨s2, eD⟩
        obtain ⟨t, ht, b, rfl, eb⟩ := IsTs.get (IsTs.mono s2 hT1) hi
        have hm : t ∈ ts := List.mem_of_getElem? ht
        have hk := hok t hm
        have hl := hlen t hm
        have hil : i < ts.length := (List.getElem?_eq_some_iff.mp ht).1
        have en : (showT t).length = t.1.length + 1 + (Str.ofString (toString t.2.1)).length + 1 + (Str.ofString (toString t.2.2)).length := by
          unfold showT
          rw [app_len, app_len, app_len, app_len]
          rfl
        have c1 : (Str.ofString "@").length = 1 := rfl
        have c2 : (Str.ofString ":").length = 1 := rfl
        refine ⟨b, _, rfl, SqT.of eb, rfl, _, _, rfl, _, _, rfl, _, _, rfl, rfl, rfl, ?_⟩
        refine ⟨_, rfl, t.1, _, rfl, rfl, ?_, _, rfl, t.2.1, rfl, log_ok hk.2.1, _, _, rfl, rfl, ?_, _, _, rfl, rfl, ?_, _, rfl, t.2.2, rfl, log_ok hk.2.2, _, _, rfl, rfl, ?_, _, eD, ?_, ?_, ?_⟩
        · exact line_ge (by omega)
        · exact line_ge (by rw [app_len]; omega)
        · exact line_ge (by rw [app_len, app_len]; omega)
        · exact line_ge (by rw [app_len, app_len, app_len]; omega)
        · rw [List.length_map, List.length_map, List.length_take]
          exact small1000 (by omega)
        · intro c o e
          rw [upd_ne (ne_of_none e hD)]
          exact s2 c o e
        · rw [upd_same, List.take_add_one, ht, List.map_append, List.map_append]
          rfl
      · rintro H2 ⟨s2, eD⟩
        have el : ts.take us.length = ts := List.take_of_length_le (by omega)
        rw [el] at eD
        refine ⟨_, D, ts.map showT, rfl, rfl, .inl (SqL.of eD), ?_, q _ (s1.trans s2)⟩
        have c1 : (Str.ofString ", ").length = 2 := rfl
        have z := sum_le (l := (ts.map showT).map (·.length)) (k := 400) fun n hn => by
          obtain ⟨y, hy, rfl⟩ := List.mem_map.mp hn
          obtain ⟨t, ht, rfl⟩ := List.mem_map.mp hy
          exact hlen t ht
        rw [List.length_map, List.length_map] at z
        rw [List.length_map, c1]
        omega
end
end K5
/-! NoText and read_world. -/
namespace K5
open PySem PySem.Spec PyProof.Rows L2 TL

/-! ### Base.__init__(self, ..), Base an own class that has ValueError's -/
theorem pe_baseInit {X : Cx} {b : Str} {S : Addr} {e : Expr} {es : List Expr} {ta : TA} {q1 q2 qq : Pos} {plain : Sem Bool}
    (hg : Gl X b) (hm : X.mg b = some (.ref S)) (gets : PySem.W.specialIn X.K (.ref S) "__getattribute__" = some (some (.builtin "type.__getattribute__")))
    (rd : PySem.W.readsIn X.K S (.type "type") = true) (fc : PySem.W.findCls X.K (.ref S) (.type "type") "__init__" = some (.val (.builtin "ValueError.__init__")))
    (ha : PA X (e :: es) ta) (hdb : (b == ("__debug__" : Str)) = false)
    (hc : eval (.Call (.Attribute (.Name b q1) "__init__" q2) (e :: es) [] qq) X.env =
      (do
        let base ← eval (.Name b q1) X.env
        standAt q2.atName
        let (g, ahead) ← holding [base] (getMethod base "__init__" plain)
        callWith qq g ahead (backTo qq (starEach (e :: es) X.env)) (backToKw qq (keywordEach [] X.env))) := by rfl)
    (he : starEach (e :: es) X.env = (false, eval e X.env) :: starEach es X.env := by rfl)
    (hp : (backTo qq (starEach es X.env)).any (·.1) = false := by rfl) :
    PE X (.Call (.Attribute (.Name b q1) "__init__" q2) (e :: es) [] qq) (tVeI X.K ta) := by
  refine ⟨fun pins s σ H Q I h => ?_⟩
  refine PySem.W.methodCall_KW (ld_glob I hg hm ?_ hdb) hc
  refine PySem.W.method_cls I.kIn gets (PySem.W.cls_value I.kIn rd fc (by decide +kernel) ?_)
  show wpAny _ _ (callWith qq (.builtin "ValueError.__init__") [] (backTo qq (starEach (e :: es) X.env)) []) _ _ _
  refine PyProof.Rows.callWith_method1 (thn (ha.run qq pins _ σ H _ (I.tok _) h) fun us s1 z => ?_) he hp
  obtain ⟨vs, H1, I1, r1, a, C, ws, ev, hl, To, ea, q⟩ := z
  subst ev
  cases r1 with
  | cons ra rr =>
    cases ra
    exact oinit_ok To I1 ea (by rw [← Paired.length rr]; exact line_ge (by omega)) fun s' J => ⟨.non, H1, J, rfl, q⟩

/-- what the top has written of NoText, at C, of StrikeError, at S, and of NoText's __init__, at fI -/
structure ExcT (K : PySem.W.Frag) (mg : Str → Option Value) (C S fI : Addr) : Prop where
  oex : OexC K C
  iC : PySem.W.findIn K (.ref C) "__init__" = some (some (.ref fI))
  tI : PySem.W.typeIn K (.ref fI) = some (.type "function")
  mgC : mg "NoText" = some (.ref C)
  mgS : mg "StrikeError" = some (.ref S)
  gets : PySem.W.specialIn K (.ref S) "__getattribute__" = some (some (.builtin "type.__getattribute__"))
  rd : PySem.W.readsIn K S (.type "type") = true
  fc : PySem.W.findCls K (.ref S) (.type "type") "__init__" = some (.val (.builtin "ValueError.__init__"))
  noP : PySem.W.findIn K (.ref C) "part" = some none
  xf : XfC K C
  te : PySem.W.exmOne K (.ref C) (.ref C) = some true

/-! ### promises -/
def spInit (C : Addr) : Sp := fun vs H Q _ => ∃ (a : Addr) (v : V), vs = [.ref a, v] ∧ H a = some (exo a C none) ∧
  ∀ dx, H dx = none → dx ≠ a → Q .non (upd (upd H dx (exd dx [("part", v)])) a (exo a C (some dx)))
def spRead (C : Addr) : Sp := fun vs H Q E => ∃ x : Str, vs = [.str x] ∧ x.length ≤ 400 ∧
  (∀ n, dueOf x = .inl n → ∀ (d : Addr) H', H d = none → Same H H' → H' d = some (.xd [("part", .int (n : Nat))]) → E (.ref C) (some d) H') ∧
  (∀ ts, dueOf x = .inr ts → ∀ H' p us, Same H H' → H' p = some (.tup us) → IsTs H' us ts → Q (.ref p) H')

section
variable {P : Program} {w : World} {K : PySem.W.Frag} {mg : Str → Option Value} {base : Heap} {C S fI : Addr}
/-! ### NoText.__init__ -/
theorem ok_init {fd : FuncData} (F : Fun K "__init__" "NoText.__init__" sInit fI fd) (X : ExcT K mg C S fI) : FnOk P w K mg base CX0 1 fI fd ["self", "part"] (spInit C) := by
  refine F.ok scInit (fun vs H Q E h => ?_) (fun cdv A outer s H vs Q E hr h => ?_)
  · obtain ⟨a, v, rfl, _⟩ := h
    rfl
  · obtain ⟨a, v, rfl, ha, q⟩ := h
    refine ⟨_, pss_cons (ps_expr (pe_baseInit (by rfl) X.mgS X.gets X.rd X.fc (pa_cons (pv 0) (pa_cons pe_str pa_nil)) (by decide)))
      (pss_one (ps_ost (pv 0) (pv 1))), ?_⟩
    refine ⟨_, rfl, a, C, _, rfl, by show 1 ≤ 1000; decide, X.oex, ha, ?_⟩
    exact ⟨_, rfl, _, rfl, a, C, rfl, X.oex, X.noP, .inl ⟨ha, fun dx hn ne => q dx hn ne⟩⟩

/-! ### read_world -/
theorem last_at (us : List V) (h : us ≠ []) : ∃ v, atI us (-1) = some v ∧ us.getLast? = some v := by
  refine ⟨us.getLast h, ?_, List.getLast?_eq_getLast h⟩
  have e : us = us.dropLast ++ [us.getLast h] := (List.dropLast_concat_getLast h).symm
  have z := atI_last us.dropLast (us.getLast h)
  rw [← e] at z
  exact z
theorem IsTs.last {H : Hp} {us : List V} {ts : List T} {v : V} (h : IsTs H us ts) (hv : us.getLast? = some v) : ∃ t, ts.getLast? = some t ∧ IsT H v t := by
  rw [List.getLast?_eq_getElem?] at hv
  obtain ⟨t, h1, h2⟩ := IsTs.get h hv
  refine ⟨t, ?_, h2⟩
  rw [List.getLast?_eq_getElem?, ← Paired.length h]
  exact h1
/-- raise NoText(v), v in slot 2 -/
theorem raise_ok {σ : L2.St} {H H3 : Hp} {E : XK} {v : V} (hσ : σ[2]? = some (some v)) (s : Same H H3)
    (q : ∀ (d : Addr) H', H d = none → Same H H' → H' d = some (.xd [("part", v)]) → E (.ref C) (some d) H') :
    tMkO C (spInit C) [] (tCons (tVar 2) tNil) σ H3 (fun cls d H' => E cls d H') := by
  refine ⟨v, hσ, by show 1 ≤ 1000; decide, fun a na => ⟨a, v, rfl, upd_same, fun dx ndx nda => ⟨rfl, dx, [("part", v)], upd_same, (upd_ne nda).trans upd_same, ?_, ?_⟩⟩⟩
  · rw [upd_ne nda] at ndx
    exact ndx
  · rw [upd_ne nda] at ndx
    refine q dx _ (s.free ndx) (fun b o e => ?_) upd_same
    have e3 := s _ _ e
    have n1 : b ≠ dx := ne_of_none e3 ndx
    have n2 : b ≠ a := ne_of_none e3 na
    rw [upd_ne n1, del_ne n2, upd_ne n2, upd_ne n1, upd_ne n2]
    exact e3
theorem ok_read {f fT : Addr} {fd fdT fdI : FuncData} (F : Fun K "read_world" "read_world" sRead f fd) (Tx : Txt K mg) (X : ExcT K mg C S fI) (FI : Fun K "__init__" "NoText.__init__" sInit fI fdI) (bI : Binds K fdI ["self", "part"] [])
    (GT : FnOk P w K mg base CX0 4 fT fdT ["part"] spThgIn) (kT : PySem.W.keepIn K (.ref fT) = true) (bT : Binds K fdT ["part"] []) (gT : mg "thing_in" = some (.ref fT)) :
    FnOk P w K mg base (L2.CX P w) 5 f fd ["text"] (spRead C) := by
  have GI : FnOk P w K mg base CX0 1 fI fdI ["self", "part"] (spInit C) := ok_init FI X
  refine F.okX scRead (fun vs H Q E h => ?_) (fun cdv A outer s H vs Q E hr h => ?_)
  · obtain ⟨x, rfl, _⟩ := h
    rfl
  · obtain ⟨x, rfl, hx, qN, qR⟩ := h
    have hr2 : Room 2 _ := hr.mono (by decide)
    refine ⟨_, pss_cons (ps_if (pt_not (pt_val (pe_callB call_isi (by rfl) Tx.isinst b_isinst (pa_cons (pv 0) (pa_cons (pe_bltn (v := .ty "str") (by rfl) Tx.str b_str rfl) pa_nil))))) (pss_one ps_never) pss_nil)
      (pss_cons (ps_if (pt_cmpR op_eq (pv 0) pe_str (nomark _)) (pss_one (ps_ret (pe_tup pa_nil))) pss_nil)
      (pss_cons (ps_set (i := 1) scRead.nd rfl (.inl rfl) (pe_lst pa_nil))
      (pss_cons (ps_for (passes_of rfl) rfl (pi_enum (by rfl) Tx.enum (pa_cons (pe_split (pv 0) pe_str) pa_nil)) (pg_tup rfl (pgs_cons (pg_name (i := 2) scRead.nd rfl (.inl rfl)) (pgs_cons (pg_name (i := 3) scRead.nd rfl (.inl rfl)) pgs_nil)))
        (pss_cons (ps_set (i := 4) scRead.nd rfl (.inl rfl) (pe_call GT hr (by rfl) gT kT bT .nil pass0 (pa_cons (pv 3) pa_nil)))
        (C8.pss_cut (ps_if (PW.pt (pw_or (pt_cmpR op_isN (pv 4) pe_non (nomark _)) (pw_or1 (PW.pt (pw_and (pt_cmpR (op_neD hr.units) (pv 1) (pe_lst pa_nil) (nomark _))
            (pw_and1 (pt_cmpR op_le_str (pe_ix ix_tup (pv 4) pe_int (fun _ _ => rfl)) (pe_ix ix_tup (pe_ix ix_list (pv 1) (pe_un un_neg pe_int) (fun _ _ => rfl)) pe_int (fun _ _ => rfl)) (nomark _))))))))
          (pss_one (ps_raise rfl (takes_of rfl rfl rfl rfl) (pmk_oex X.oex X.iC X.tI GI hr2 bI .nil pass0 rfl X.mgC (pa_cons (pv 2) pa_nil)))) pss_nil)
        (pss_one (ps_expr (pe_bm PySem.F.plainAttrs_list PySem.F.slot_list_append PySem.F.type_list_append mt_append (pv 1) (pa_cons (pv 4) pa_nil)))))))
      (pss_one (ps_ret (pe_callTy call_tuple_of (by rfl) Tx.tup b_tup (pa_cons (pv 1) pa_nil))))))), ?_⟩
    refine ⟨_, rfl, .str x, .ty "str", _, _, true, rfl, .ty _, .base (.str _), kit_ty (by decide +kernel), true, rfl, iteF ?_⟩
    refine ⟨_, rfl, rfl, _, rfl, ?_⟩
    by_cases hd : x = ("-" : Str)
    · rw [decide_eq_true (str_eq.mpr hd)]
      refine iteT ⟨Nat.zero_le _, fun p n1 => ?_⟩
      exact qR [] (by rw [hd]; exact due_dash) _ p [] (same_upd n1) upd_same .nil
    · rw [decide_eq_false (fun z => hd (str_eq.mp z))]
      refine iteF ⟨Nat.zero_le _, fun r nr => ?_⟩
      refine ⟨_, rfl, ⟨_, rfl⟩, x, _, rfl, rfl, by rfl, line_ge (by omega), fun l nl => ?_⟩
      have s1 : Same H (upd H r (.lst [])) := same_upd nr
      have nlH : H l = none := s1.free nl
      have nlr : l ≠ r := fun z => by
        rw [z, upd_same] at nl
        cases nl
      have hps : ∀ (i : Nat) (p : Str), (Txt.split x ", ")[i]? = some p → p.length ≤ 400 := fun i p h => Nat.le_trans (split_short (List.mem_of_getElem? h)) hx
      generalize hpsE : Txt.split x ", " = ps at *
      have hpl : ps.length ≤ 402 := by
        have z := PyProof.Rows.split_le x (", " : Str)
        rw [hpsE] at z
        omega
      refine ⟨l, _, rfl, SqL.of upd_same, for_it (walk_enum (K := K) (a := l) (xs := ps.map V.str))
        (fun i σ H' => ∃ (v2 v3 v4 : Option V) (us : List V) (acc : List T), σ = [some (.str x), some (.ref r), v2, v3, v4] ∧ Same H H' ∧ H' l = some (.lst (ps.map V.str)) ∧ H' r = some (.lst us) ∧ IsTs H' us acc ∧
          runW (ps.drop i) i acc = dueOf x ∧ acc.length = i ∧ ∀ t ∈ acc, TOk t) ?_ ?_ ?_ ?_⟩
      · exact ⟨none, none, none, [], [], rfl, s1.trans (same_upd nl), upd_same, (upd_ne nlr.symm).trans upd_same, .nil, by rw [List.drop_zero, ← hpsE]; exact (due_other hd).symm, rfl, fun t ht => by cases ht⟩
      · rintro i σ H' _ ⟨_, _, _, _, _, _, _, e, _⟩
        exact SqL.of e
      · rintro i v σ H1 H2 hi ⟨v2, v3, v4, us, acc, rfl, t1, el, er, hT, hrun, hacc, hok⟩ ⟨Tp, y1, y2, rfl, nT, rfl, ey1, ey2⟩
        have hil : i < ps.length := by
          rw [List.length_map] at hi
          exact hi
        obtain ⟨p, hp⟩ : ∃ p, ps[i]? = some p := ⟨ps[i], List.getElem?_eq_getElem hil⟩
        have ep : y2 = .str p := by
          have z : (ps.map V.str)[i]? = some y2 := ey2
          rw [List.getElem?_map, hp] at z
          exact (Option.some.inj z).symm
        have ei : y1 = .int (i : Nat) := (Option.some.inj ey1).symm
        subst ep
        subst ei
        have hrun2 : runW (p :: ps.drop (i + 1)) i acc = dueOf x := by
          rw [← hrun, List.drop_eq_getElem_cons hil, (List.getElem?_eq_some_iff.mp hp).2]
        have t2 : Same H (upd H1 Tp (.tup [.int (i : Nat), .str p])) := t1.trans (same_upd nT)
        have el2 := same_upd (o := .tup [.int (i : Nat), .str p]) nT _ _ el
        have er2 := same_upd (o := .tup [.int (i : Nat), .str p]) nT _ _ er
        have hT2 := IsTs.mono (same_upd (o := .tup [.int (i : Nat), .str p]) nT) hT
        refine ⟨Tp, _, rfl, SqT.of upd_same, rfl, _, _, rfl, _, _, rfl, rfl, ?_⟩
        generalize upd H1 Tp (.tup [.int (i : Nat), .str p]) = H2 at t2 el2 er2 hT2
        -- thing = thing_in(part)
        refine ⟨_, rfl, p, rfl, hps i p hp, fun hnone H3 s3 => ?_, fun t ht H3 q s3 e3 => ?_⟩
        · rw [runW_none hnone] at hrun2
          refine ⟨fun _ _ => False, ⟨_, rfl, rfl, _, rfl, ?_⟩, fun _ _ z => z.elim⟩
          rw [decide_eq_true rfl]
          exact iteT (iteT (raise_ok rfl (t2.trans s3) fun d H' nd sd ed => qN i hrun2.symm d H' nd sd ed))
        · have el3 := s3 _ _ el2
          have er3 := s3 _ _ er2
          have hT3 := IsTs.mono s3 hT2
          have t3 : Same H H3 := t2.trans s3
          refine ⟨fun σ' H' => ∃ (H4 : Hp), σ' = [some (.str x), some (.ref r), some (.int (i : Nat)), some (.str p), some (.ref q)] ∧ H' = H4 ∧ Same H3 H4 ∧ above acc t = true, ⟨_, rfl, rfl, _, rfl, ?_⟩, ?_⟩
          · rw [decide_eq_false (show ¬ V.ref q = V.non from fun z => nomatch z)]
            -- found != [] and ..
            refine iteF ⟨_, rfl, Nat.zero_le _, fun z nz => ?_⟩
            have s4 : Same H3 (upd H3 z (.lst [])) := same_upd nz
            refine ⟨.list (acc.map dT), .list [], .lst (SqL.of (s4 _ _ er3)) (IsTs.mono s4 hT3).dp, .lst (SqL.of upd_same) .nil, shaped_list hok, rfl, _, rfl, ?_⟩
            have ee : PyData.eqv (.list (acc.map dT)) (.list []) = acc.isEmpty := by
              show PyData.eqvAll (acc.map dT) [] = _
              rw [eqvAll_nil]
              cases acc <;> rfl
            rw [ee]
            cases hac : acc.isEmpty with
            | true =>
              have ea : acc = [] := List.isEmpty_iff.mp hac
              refine iteF (iteF ?_)
              exact ⟨_, rfl, rfl, s4, by rw [ea]; rfl⟩
            | false =>
              have hne : us ≠ [] := fun z => by
                have e := Paired.length hT
                rw [z] at e
                have e2 : acc = [] := List.length_eq_zero_iff.mp e.symm
                rw [e2] at hac
                cases hac
              obtain ⟨v, hv1, hv2⟩ := last_at us hne
              obtain ⟨u, hu, b, rfl, eb⟩ := IsTs.last (IsTs.mono s4 hT3) hv2
              refine iteT ⟨_, rfl, q, _, 0, .str t.1, rfl, rfl, SqT.of (s4 _ _ e3), atI_nat (j := 0) rfl, _, rfl, _, rfl, r, us, -1, _, rfl, rfl, SqL.of (s4 _ _ er3), hv1, b, _, 0, .str u.1, rfl, rfl, SqT.of eb, atI_nat (j := 0) rfl, _, _, rfl, rfl, _, rfl, ?_⟩
              have ab : above acc t = decide (tl u.1 < tl t.1) := by
                unfold above
                rw [hu]
              show if (!decide (tl u.1 < tl t.1)) = true then _ else _
              rw [← ab]
              cases hab : above acc t with
              | true =>
                refine iteF ?_
                exact ⟨_, rfl, rfl, s4, rfl⟩
              | false =>
                rw [runW_bad ht hab] at hrun2
                exact iteT (raise_ok rfl (t3.trans s4) fun d H' nd sd ed => qN i hrun2.symm d H' nd sd ed)
          · rintro σ' H' ⟨H4, rfl, rfl, s4, hab⟩
            rw [runW_go ht hab] at hrun2
            have er4 := s4 _ _ er3
            have hul : us.length = acc.length := Paired.length hT
            refine ⟨_, rfl, .inl ⟨rfl, _, SqL.of er4⟩, _, rfl, r, us, .ref q, rfl, rfl, er4, small1000 (by omega), ?_⟩
            have nr3 : H r = none := nr
            have keep : ∀ b o, H' b = some o → b ≠ r → upd H' r (.lst (us ++ [.ref q])) b = some o := fun b o e ne => by
              rw [upd_ne ne]
              exact e
            have hT5 : IsTs (upd H' r (.lst (us ++ [.ref q]))) (us ++ [.ref q]) (acc ++ [t]) := by
              have up : ∀ {v : V} {t : T}, IsT H' v t → IsT (upd H' r (.lst (us ++ [.ref q]))) v t := fun {v t} h => by
                obtain ⟨b, e1, e2⟩ := h
                refine ⟨b, e1, keep b _ e2 fun z => ?_⟩
                rw [z, er4] at e2
                cases e2
              exact IsTs.snoc (Paired.mono (fun _ _ h => up h) (IsTs.mono s4 hT3)) (up ⟨q, rfl, s4 _ _ e3⟩)
            refine ⟨_, _, _, _, acc ++ [t], rfl, fun b o e => keep b o (s4 _ _ (t3 _ _ e)) (ne_of_none e nr), keep l _ (s4 _ _ el3) nlr, upd_same, hT5, hrun2, ?_, ?_⟩
            · rw [List.length_append, hacc]
              rfl
            · intro u hu
              rcases List.mem_append.mp hu with z | z
              · exact hok u z
              · rw [List.mem_singleton.mp z]
                exact thg_bounds ht (hps i p hp)
      · rintro σ H1 ⟨v2, v3, v4, us, acc, rfl, t1, el, er, hT, hrun, hacc, hok⟩
        have e0 : runW (ps.drop (ps.map V.str).length) (ps.map V.str).length acc = .inr acc := by
          rw [List.length_map, List.drop_length]
          exact runW_nil
        rw [e0] at hrun
        refine ⟨_, rfl, r, us, rfl, .inl ⟨SqL.of er, fun p np => ?_⟩⟩
        exact qR acc hrun.symm _ p us (t1.trans (same_upd np)) upd_same (IsTs.mono (same_upd np) hT)
end
end K5
/-! The law's own reading: _law_number_in, _law_thing_in. -/
namespace K5
open PySem PySem.Spec PyProof.Rows L2 TL

theorem valOf_bound {l : List Nat} (h1 : ¬ (figs l = [] ∨ (figs l).all isFig = false)) (hl : l.length ≤ 400) : (valOf l).natAbs < 2 ^ 1600 := by
  obtain ⟨_, h2⟩ := good_figs h1
  have b := val_bound h2 (Nat.le_trans (figs_len l) hl)
  have b2 : NumText.digitsVal (figs l) < 2 ^ 1600 := Nat.lt_trans b pow10_2
  generalize 2 ^ 1600 = m at b2 ⊢
  by_cases hm : l.head? = some 45
  · rw [valOf_minus hm]
    omega
  · rw [valOf_plain hm]
    omega
/-- the figures, cut as the law cuts them -/
theorem law_cut (x : Str) : tl (cutS x (some (if decide (V.str (cutS x none (some 1)) = V.str ("-" : Str)) = true then 1 else 0)) none) = figs (tl x) := by
  by_cases hm : (tl x).head? = some 45
  · rw [decide_eq_true ((head_minus x).mpr hm), if_pos rfl]
    exact figs_take x hm
  · rw [decide_eq_false (fun z => hm ((head_minus x).mp z)), if_neg Bool.false_ne_true, figs_plain hm, show (0 : Int) = ((0 : Nat) : Int) from rfl, cut_drop, List.drop_zero]
theorem rest2_badname {a b : List Nat} (h : nameOk a = false) : rest2 a b = none := by
  cases hp : par [58] [] b with
  | none => exact rest2_none hp
  | some z =>
    obtain ⟨q, r⟩ := z
    rw [rest2_some hp]
    exact made_badname h
theorem split1 {x y : Str} {s : Nat} (ey : tl y = [s]) (hs : s < 256) : (Txt.split x y).map tl = spl [s] 0 [] (tl x) := by
  have hk : y.cps.all (· < 256) = true := by
    rw [← Array.all_toList, show y.cps.toList = [s] from ey]
    simp [hs]
  rw [split_spl x y (by rw [ey]; simp) (kind_ok hk), ey]
theorem two_of {l : List Str} (h : l.length = 2) : ∃ p q, l = [p, q] := by
  match l, h with
  | [p, q], _ => exact ⟨p, q, rfl⟩
/-- parts are no longer than the whole -/
theorem split1_short {x y p : Str} {s : Nat} (ey : tl y = [s]) (hs : s < 256) (h : p ∈ Txt.split x y) : p.length ≤ x.length := by
  have hm : tl p ∈ spl [s] 0 [] (tl x) := by
    rw [← split1 ey hs]
    exact List.mem_map.mpr ⟨p, h, rfl⟩
  have z := mem_joinL (S := [s]) hm
  rw [join_spl (by simp) _ (tl x) [] (Nat.le_refl _)] at z
  rw [len_tl, len_tl]
  exact z
theorem flat_opt (o : Option Int) : flatV (optV o) = true := by
  cases o <;> rfl
theorem non_in (o : Option Int) : eqV (optV o) .non = o.isNone := by
  cases o <;> rfl

section
variable {P : Program} {w : World} {K : PySem.W.Frag} {mg : Str → Option Value} {base : Heap}
/-! ### _law_number_in -/
theorem ok_lnum {f : Addr} {fd : FuncData} (F : Fun K "_law_number_in" "_law_number_in" sLNum f fd) (Tx : Txt K mg) : FnOk P w K mg base CX0 1 f fd ["_law_word"] spNumIn := by
  refine F.ok scLNum (fun vs H Q E h => ?_) (fun cdv A outer s H vs Q E hr h => ?_)
  · obtain ⟨x, rfl, _⟩ := h
    rfl
  · obtain ⟨x, rfl, hx, q⟩ := h
    refine ⟨_, pss_cons (ps_set (i := 1) scLNum.nd rfl (.inl rfl) (pe_slice sl_str (pv 0) (po_some (pe_callTy call_int1 (by rfl) Tx.int b_int
          (pa_cons (pe_cmpR op_eq (pe_slice sl_str (pv 0) po_none (po_some pe_int)) pe_str (nomark _)) pa_nil))) po_none))
      (pss_cons (ps_if (PW.pt (pw_or (pt_cmpR op_eq (pv 1) pe_str (nomark _))
          (pw_or1 (pt_not (pt_val (pe_callB (cr_all rfl) (by rfl) Tx.all b_all (pa_cons
            (pe_lc (own := [("_law_sign", 2)]) (g := gName 2) (tt := tYes) rfl scLNum.nd (pi_str (pv 1)) (blkOk_by (N := ["_law_word", "_law_figures", "_law_sign"]) (sc := defScope sLNum) (by decide +kernel))
              (fun _ _ _ _ _ => pg_name (i := 2) scLNum.nd rfl (.inl rfl)) (fun _ _ _ _ _ => pts_nil)
              (fun _ _ _ _ _ => pe_cmpR op_in_sign (pv 2) pe_str (by rfl))) pa_nil)))))))
        (pss_one (ps_ret pe_non)) pss_nil)
      (pss_cons (ps_if (pt_cmpR op_ne (pe_callTy call_str_int (by rfl) Tx.str b_str (pa_cons (pe_callTy call_int_str (by rfl) Tx.int b_int (pa_cons (pv 0) pa_nil)) pa_nil)) (pv 0) (nomark _))
        (pss_one (ps_ret pe_non)) pss_nil)
      (pss_one (ps_ret (pe_callTy call_int_str (by rfl) Tx.int b_int (pa_cons (pv 0) pa_nil)))))), ?_⟩
    refine ⟨_, rfl, _, rfl, 1, rfl, x, rfl, line_ge (by omega), rfl, .inr ⟨_, rfl, _, rfl, x, rfl, line_ge (by omega), ?_⟩⟩
    have ey := law_cut x
    generalize cutS x (some (if decide (V.str (cutS x none (some 1)) = V.str ("-" : Str)) = true then 1 else 0)) none = y at *
    have hy : y.length ≤ 400 := by
      rw [len_tl, ey]
      refine Nat.le_trans (figs_len _) ?_
      rw [← len_tl]
      exact hx
    have bad : ∀ H2, Same H H2 → (figs (tl x) = [] ∨ (figs (tl x)).all isFig = false) → Q .non H2 := fun H2 s2 hb => by
      have z := q H2 s2
      rw [numOf_bad hb] at z
      exact z
    refine ⟨_, rfl, rfl, _, rfl, ?_⟩
    by_cases h1 : tl y = []
    · rw [decide_eq_true ((is_empty y).mpr h1)]
      exact iteT (iteT (bad H (Same.refl _) (.inl (ey ▸ h1))))
    · rw [decide_eq_false (fun z => h1 ((is_empty y).mp z))]
      refine iteF ?_
      unfold tNot tB tCB tCons
      refine signs_lc (x := y) (f := isFig) (j := 2) (σ := [some (.str x), some (.str y), none]) (H := H) (by show 2 < 3; decide) (by omega) (fun k hk => ⟨_, rfl, hk⟩) (fun c σ2 H3 k e hk => ⟨_, e, c, _, rfl, rfl, ?_⟩) (fun D H2 hD s2 e2 => ?_)
      · rw [show ("0123456789" : Str).cps.toList = tl ("0123456789" : Str) from rfl, fig_mem]
        exact hk
      · refine ⟨D, _, rfl, SqL.of e2, _, rfl, ?_⟩
        rw [all_id]
        cases h2 : (tl y).all isFig with
        | false => exact iteT (bad H2 s2 (.inr (ey ▸ h2)))
        | true =>
          refine iteF ?_
          have hg : ¬ (figs (tl x) = [] ∨ (figs (tl x)).all isFig = false) := fun z => by
            rw [← ey] at z
            rcases z with z | z
            · exact h1 z
            · rw [h2] at z
              cases z
          have hl : (tl x).length ≤ 400 := by
            rw [← len_tl]
            exact hx
          refine ⟨_, rfl, x, _, rfl, int_val hg (by omega), by omega, _, rfl, log_ok (valOf_bound hg hl), _, rfl, rfl, _, rfl, ?_⟩
          have sv := str_val hg
          by_cases h3 : (figs (tl x)).head? = some 48 ∧ tl x ≠ [48]
          · rw [decide_eq_false (fun z => sv.mp (str_eq.mp z) h3)]
            refine iteT ?_
            have z := q H2 s2
            rw [numOf_nought hg h3] at z
            exact z
          · rw [decide_eq_true (str_eq.mpr (sv.mpr h3))]
            refine iteF ⟨_, rfl, x, _, rfl, int_val hg (by omega), by omega, ?_⟩
            have z := q H2 s2
            rw [numOf_ok hg h3] at z
            exact z

/-! ### _law_thing_in -/
theorem ok_lthg {f fL : Addr} {fd fdL : FuncData} (F : Fun K "_law_thing_in" "_law_thing_in" sLThg f fd) (Tx : Txt K mg)
    (GL : FnOk P w K mg base CX0 1 fL fdL ["_law_word"] spNumIn) (kL : PySem.W.keepIn K (.ref fL) = true) (bL : Binds K fdL ["_law_word"] []) (gL : mg "_law_number_in" = some (.ref fL)) :
    FnOk P w K mg base CX0 2 f fd ["_law_part_here"] spThgIn := by
  refine F.ok scLThg (fun vs H Q E h => ?_) (fun cdv A outer s H vs Q E hr h => ?_)
  · obtain ⟨x, rfl, _⟩ := h
    rfl
  · obtain ⟨x, rfl, hx, qN, qT⟩ := h
    refine ⟨_, pss_cons (ps_set (i := 1) scLThg.nd rfl (.inl rfl) (pe_split (pv 0) pe_str))
      (pss_cons (ps_if (PW.pt (pw_or (pt_cmpR op_ne (pe_callB call_len_seq (by rfl) Tx.len b_len (pa_cons (pv 1) pa_nil)) pe_int (nomark _))
          (pw_or1 (pt_not (pt_chain op_le op_le pe_int (pe_callB call_len_str (by rfl) Tx.len b_len (pa_cons (pe_ix ix_list (pv 1) pe_int (fun _ _ => rfl)) pa_nil)) pe_int)))))
        (pss_one (ps_ret pe_non)) pss_nil)
      (pss_cons (ps_if (pt_not (pt_val (pe_callB (cr_all rfl) (by rfl) Tx.all b_all (pa_cons
            (pe_lc (own := [("_law_sign", 3)]) (g := gName 3) (tt := tYes) rfl scLThg.nd (pi_str (pe_ix ix_list (pv 1) pe_int (fun _ _ => rfl))) (blkOk_by (N := ["_law_part_here", "_law_words", "_law_numbers", "_law_sign", "_law_word"]) (sc := defScope sLThg) (by decide +kernel))
              (fun _ _ _ _ _ => pg_name (i := 3) scLThg.nd rfl (.inl rfl)) (fun _ _ _ _ _ => pts_nil)
              (fun _ _ _ _ _ => pe_cmpR op_in_sign (pv 3) pe_str (by rfl))) pa_nil))))
        (pss_one (ps_ret pe_non)) pss_nil)
      (pss_cons (ps_setLc (i := 2) (own := [("_law_word", 4)]) (g := gName 4) (tt := tYes) rfl scLThg.nd rfl rfl (sw_true rfl rfl rfl (by decide +kernel))
          (pi_list (pe_split (pe_ix ix_list (pv 1) pe_int (fun _ _ => rfl)) pe_str)) (blkOk_by (N := ["_law_part_here", "_law_words", "_law_numbers", "_law_sign", "_law_word"]) (sc := defScope sLThg) (by decide +kernel))
          (fun _ _ _ _ _ => pg_name (i := 4) scLThg.nd rfl (.inl rfl)) (fun _ _ _ _ _ => pts_nil)
          (fun _ _ _ _ _ => pe_call GL hr (by rfl) gL kL bL .nil pass0 (pa_cons (pv 4) pa_nil)))
      (pss_cons (ps_if (PW.pt (pw_or (pt_cmpR op_ne (pe_callB call_len_seq (by rfl) Tx.len b_len (pa_cons (pv 2) pa_nil)) pe_int (nomark _))
          (pw_or (pt_cmpR op_in_seq pe_non (pv 2) (by rfl))
            (pw_or1 (pt_not (pt_chain op_le op_le pe_int (pe_ix ix_list (pv 2) pe_int (fun _ _ => rfl)) pe_int))))))
        (pss_one (ps_ret pe_non)) pss_nil)
      (pss_one (ps_ret (pe_tup (pa_cons (pe_ix ix_list (pv 1) pe_int (fun _ _ => rfl)) (pa_cons (pe_ix ix_list (pv 2) pe_int (fun _ _ => rfl)) (pa_cons (pe_ix ix_list (pv 2) pe_int (fun _ _ => rfl)) pa_nil)))))))))), ?_⟩
    refine ⟨_, rfl, ⟨_, rfl⟩, x, _, rfl, rfl, by rfl, line_ge (by omega), fun p1 n1 => ?_⟩
    have hw := split1 (x := x) tl_at (by decide)
    have hws : ∀ z ∈ Txt.split x ("@" : Str), z.length ≤ 400 := fun z hz => Nat.le_trans (split1_short tl_at (by decide) hz) hx
    generalize Txt.split x ("@" : Str) = ws at *
    have s1 : Same H (upd H p1 (.lst (ws.map V.str))) := same_upd n1
    have e1 : upd H p1 (.lst (ws.map V.str)) p1 = some (.lst (ws.map V.str)) := upd_same
    generalize upd H p1 (.lst (ws.map V.str)) = H1 at s1 e1
    -- len(words) != 2
    refine ⟨_, rfl, p1, _, rfl, .inl (SqL.of e1), rfl, _, rfl, ?_⟩
    by_cases hl : ws.length = 2
    · obtain ⟨A1, B1, rfl⟩ := two_of hl
      rw [decide_eq_true (show V.int ((List.map V.str [A1, B1]).length : Int) = V.int 2 from rfl)]
      have hpar : par [64] [] (tl x) = some (tl A1, tl B1) := spl_two hw.symm
      have et : thgOf x = rest2 (tl A1) (tl B1) := thg_some hpar
      have hA := hws A1 (by simp)
      have hB := hws B1 (by simp)
      have iA : atI ([A1, B1].map V.str) 0 = some (.str A1) := atI_nat (j := 0) rfl
      have iB : atI ([A1, B1].map V.str) 1 = some (.str B1) := atI_nat (j := 1) rfl
      have hlenA : A1.length = (tl A1).length := len_tl A1
      have stop : ∀ H2, Same H H2 → nameOk (tl A1) = false → Q .non H2 := fun H2 s2 hb => qN (et.trans (rest2_badname hb)) H2 s2
      have fin : nameOk (tl A1) = (decide (1 ≤ (tl A1).length ∧ (tl A1).length ≤ 8) && (tl A1).all isSmall) := rfl
      refine iteF ⟨_, rfl, p1, _, 0, _, rfl, rfl, SqL.of e1, iA, A1, rfl, line_ge (by omega), _, _, rfl, rfl, _, rfl, ?_⟩
      by_cases h1 : (1 : Int) ≤ (A1.length : Int)
      · rw [decide_eq_true h1]
        refine iteT ⟨_, _, rfl, rfl, _, rfl, ?_⟩
        by_cases h2 : (A1.length : Int) ≤ 8
        · rw [decide_eq_true h2]
          rw [decide_eq_true (show 1 ≤ (tl A1).length ∧ (tl A1).length ≤ 8 by omega), Bool.true_and] at fin
          refine iteF ?_
          unfold tNext tSeq tIfS tNot tB tCB tCons
          dsimp only
          refine signs_lc (x := A1) (f := isSmall) (j := 3) (σ := [some (.str x), some (.ref p1), none, none, none]) (H := H1) (by show 3 < 5; decide) (by omega) (fun k hk => ⟨_, rfl, p1, _, 0, _, rfl, rfl, SqL.of e1, iA, hk⟩) (fun c σ2 H3 k e hk => ⟨_, e, c, _, rfl, rfl, ?_⟩) (fun D H2 hD s2 e2 => ?_)
          · rw [show ("abcdefghijklmnopqrstuvwxyz" : Str).cps.toList = tl ("abcdefghijklmnopqrstuvwxyz" : Str) from rfl, small_mem]
            exact hk
          · have t2 : Same H H2 := s1.trans s2
            refine ⟨D, _, rfl, SqL.of e2, _, rfl, ?_⟩
            rw [all_id, ← fin]
            cases hn : nameOk (tl A1) with
            | false => exact iteT (stop H2 t2 hn)
            | true =>
              refine iteF ?_
              -- the numbers
              have e1b := s2 _ _ e1
              refine ⟨_, rfl, p1, _, 1, _, rfl, rfl, SqL.of e1b, iB, ⟨_, rfl⟩, B1, _, rfl, rfl, by rfl, line_ge (by omega), fun p2 n2 => ?_⟩
              have hq := split1 (x := B1) tl_colon (by decide)
              have hqs : ∀ z ∈ Txt.split B1 (":" : Str), z.length ≤ 400 := fun z hz => Nat.le_trans (split1_short tl_colon (by decide) hz) hB
              have hql : (Txt.split B1 (":" : Str)).length ≤ 402 := by
                have z := PyProof.Rows.split_le B1 (":" : Str)
                omega
              generalize Txt.split B1 (":" : Str) = qs at *
              have s3 : Same H2 (upd H2 p2 (.lst (qs.map V.str))) := same_upd n2
              have e3 : upd H2 p2 (.lst (qs.map V.str)) p2 = some (.lst (qs.map V.str)) := upd_same
              generalize upd H2 p2 (.lst (qs.map V.str)) = H3 at s3 e3
              refine ⟨p2, rfl, ⟨_, SqL.of e3⟩, fun D2 hD2 => lc_list (K := K) (a := p2) (xs := qs.map V.str)
                (fun i H' => Same H3 H' ∧ H' D2 = some (.lst ((qs.take i).map fun z => optV (numOf (tl z))))) ⟨same_upd hD2, upd_same⟩ (fun i H' _ z => SqL.of (z.1 _ _ e3)) ?_ ?_⟩
              · rintro i v H4 hi ⟨s4, eD⟩
                obtain ⟨z, hz, rfl⟩ : ∃ z, qs[i]? = some z ∧ v = .str z := by
                  rw [List.getElem?_map] at hi
                  cases hz : qs[i]? with
                  | none =>
                    rw [hz] at hi
                    cases hi
                  | some z =>
                    rw [hz] at hi
                    exact ⟨z, rfl, (Option.some.inj hi).symm⟩
                refine ⟨rfl, ?_⟩
                refine ⟨_, rfl, z, rfl, hqs z (List.mem_of_getElem? hz), fun H5 s5 => ⟨_, s5 _ _ eD, ?_, ?_, ?_⟩⟩
                · rw [List.length_map, List.length_take]
                  exact small1000 (by omega)
                · intro b o e
                  rw [upd_ne (ne_of_none e hD2)]
                  exact s5 _ _ (s4 _ _ e)
                · rw [upd_same, List.take_add_one, hz, List.map_append]
                  rfl
              · rintro H4 ⟨s4, eD⟩
                rw [List.length_map, List.take_length] at eD
                have t4 : Same H H4 := (t2.trans s3).trans s4
                have e1c := s4 _ _ (s3 _ _ e1b)
                -- len(numbers) != 2
                refine ⟨_, rfl, D2, _, rfl, .inl (SqL.of eD), rfl, _, rfl, ?_⟩
                by_cases hl2 : qs.length = 2
                · obtain ⟨Q1, R1, rfl⟩ := two_of hl2
                  have hpar2 : par [58] [] (tl B1) = some (tl Q1, tl R1) := spl_two hq.symm
                  have et2 : thgOf x = made (tl A1) (numOf (tl Q1)) (numOf (tl R1)) := et.trans (rest2_some hpar2)
                  have eD2 : H4 D2 = some (.lst [optV (numOf (tl Q1)), optV (numOf (tl R1))]) := eD
                  generalize numOf (tl Q1) = o1 at *
                  generalize numOf (tl R1) = o2 at *
                  rw [decide_eq_true (show V.int ((List.map (fun z => optV (numOf (tl z))) [Q1, R1]).length : Int) = V.int 2 from rfl)]
                  refine iteF ⟨_, rfl, D2, _, rfl, .inl (SqL.of eD2), rfl, ?_, _, rfl, ?_⟩
                  · show (flatV (optV o1) && (flatV (optV o2) && true)) = true
                    rw [flat_opt, flat_opt]
                    rfl
                  · have ein : inV .non [optV o1, optV o2] = (o1.isNone || o2.isNone) := by
                      show (eqV (optV o1) .non || (eqV (optV o2) .non || false)) = _
                      rw [non_in, non_in, Bool.or_false]
                    show if inV .non [optV o1, optV o2] = true then _ else _
                    rw [ein]
                    cases o1 with
                    | none => exact iteT (iteT (qN et2 _ t4))
                    | some n =>
                      cases o2 with
                      | none => exact iteT (iteT (qN et2 _ t4))
                      | some m =>
                        refine iteF ⟨_, rfl, D2, _, 0, _, rfl, rfl, SqL.of eD2, atI_nat (j := 0) rfl, _, _, rfl, rfl, _, rfl, ?_⟩
                        have badp : placeOk n = false → Q .non H4 := fun z => qN (et2.trans (made_badplace z)) _ t4
                        by_cases h5 : (0 : Int) ≤ n
                        · rw [decide_eq_true h5]
                          refine iteT ⟨_, _, rfl, rfl, _, rfl, ?_⟩
                          by_cases h6 : n ≤ 999
                          · rw [decide_eq_true h6]
                            have hpl : placeOk n = true := decide_eq_true ⟨h5, h6⟩
                            refine iteF ⟨_, rfl, p1, _, 0, _, rfl, rfl, SqL.of e1c, iA, _, rfl, D2, _, 0, _, rfl, rfl, SqL.of eD2, atI_nat (j := 0) rfl, _, rfl, D2, _, 1, _, rfl, rfl, SqL.of eD2, atI_nat (j := 1) rfl, by show 3 ≤ sizeLine; decide, fun p3 n3 => ?_⟩
                            refine qT (⟨(tl A1).toArray⟩, n, m) (et2.trans (made_ok hn hpl)) _ p3 (t4.trans (same_upd n3)) ?_
                            rw [upd_same]
                            rfl
                          · rw [decide_eq_false h6]
                            exact iteT (badp (decide_eq_false fun z => h6 z.2))
                        · rw [decide_eq_false h5]
                          exact iteF ⟨_, rfl, iteT (badp (decide_eq_false fun z => h5 z.1))⟩
                · have z : ¬ V.int ((qs.map fun z => optV (numOf (tl z))).length : Int) = V.int 2 := fun e => hl2 (by
                    have e2 := V.int.inj e
                    rw [List.length_map] at e2
                    omega)
                  rw [decide_eq_false z]
                  refine iteT (iteT (qN (et.trans (law_numbers ?_)) _ t4))
                  rw [← hq, List.length_map]
                  exact hl2
        · rw [decide_eq_false h2]
          refine iteT (stop _ s1 ?_)
          rw [fin, decide_eq_false (show ¬ (1 ≤ (tl A1).length ∧ (tl A1).length ≤ 8) by omega), Bool.false_and]
      · rw [decide_eq_false h1]
        refine iteF ⟨_, rfl, ?_⟩
        refine iteT (stop _ s1 ?_)
        rw [fin, decide_eq_false (show ¬ (1 ≤ (tl A1).length ∧ (tl A1).length ≤ 8) by omega), Bool.false_and]
    · have z : ¬ V.int ((ws.map V.str).length : Int) = V.int 2 := fun e => hl (by
        have e2 := V.int.inj e
        rw [List.length_map] at e2
        omega)
      rw [decide_eq_false z]
      refine iteT (iteT (qN (law_words ?_) _ s1))
      rw [← hw, List.length_map]
      exact hl
end
end K5
/-! What is due, what is told. -/
namespace K5
open PySem PySem.Spec PyProof.Rows L2 TL

def spDue : Sp := fun vs H Q _ => ∃ x : Str, vs = [.str x] ∧ x.length ≤ 400 ∧
  (∀ n : Nat, dueOf x = .inl n → ∀ H' p, Same H H' → H' p = some (.tup [.str "none", .int (n : Nat)]) → Q (.ref p) H') ∧
  (∀ ts, dueOf x = .inr ts → ∀ H' p q us, Same H H' → H' p = some (.tup [.str "read", .ref q]) → H' q = some (.tup us) → IsTs H' us ts → Q (.ref p) H')

section
variable {P : Program} {w : World} {K : PySem.W.Frag} {mg : Str → Option Value} {base : Heap} {C S fI : Addr}
/-! ### _law_due -/
theorem ok_due {f fT : Addr} {fd fdT : FuncData} (F : Fun K "_law_due" "_law_due" sDue f fd) (Tx : Txt K mg)
    (GT : FnOk P w K mg base CX0 2 fT fdT ["_law_part_here"] spThgIn) (kT : PySem.W.keepIn K (.ref fT) = true) (bT : Binds K fdT ["_law_part_here"] []) (gT : mg "_law_thing_in" = some (.ref fT)) :
    FnOk P w K mg base CX0 3 f fd ["_law_text_here"] spDue := by
  refine F.ok scDue (fun vs H Q E h => ?_) (fun cdv A outer s H vs Q E hr h => ?_)
  · obtain ⟨x, rfl, _⟩ := h
    rfl
  · obtain ⟨x, rfl, hx, qN, qR⟩ := h
    refine ⟨_, pss_cons (ps_if (pt_cmpR op_eq (pv 0) pe_str (nomark _)) (pss_one (ps_ret (pe_tup (pa_cons pe_str (pa_cons (pe_tup pa_nil) pa_nil))))) pss_nil)
      (pss_cons (ps_set (i := 1) scDue.nd rfl (.inl rfl) (pe_lst pa_nil))
      (pss_cons (ps_for PassesOwn.never rfl (pi_enum (by rfl) Tx.enum (pa_cons (pe_split (pv 0) pe_str) pa_nil)) (pg_tup rfl (pgs_cons (pg_name (i := 2) scDue.nd rfl (.inl rfl)) (pgs_cons (pg_name (i := 3) scDue.nd rfl (.inl rfl)) pgs_nil)))
        (pss_cons (ps_set (i := 4) scDue.nd rfl (.inl rfl) (pe_call GT hr (by rfl) gT kT bT .nil pass0 (pa_cons (pv 3) pa_nil)))
        (C8.pss_cut (ps_if (PW.pt (pw_or (pt_cmpR op_isN (pv 4) pe_non (nomark _)) (pw_or1 (PW.pt (pw_and (pt_cmpR (op_neD hr.units) (pv 1) (pe_lst pa_nil) (nomark _))
            (pw_and1 (pt_cmpR op_le_str (pe_ix ix_tup (pv 4) pe_int (fun _ _ => rfl)) (pe_ix ix_tup (pe_ix ix_list (pv 1) (pe_un un_neg pe_int) (fun _ _ => rfl)) pe_int (fun _ _ => rfl)) (nomark _))))))))
          (pss_one (ps_ret (pe_tup (pa_cons pe_str (pa_cons (pv 2) pa_nil))))) pss_nil)
        (pss_one (ps_expr (pe_bm PySem.F.plainAttrs_list PySem.F.slot_list_append PySem.F.type_list_append mt_append (pv 1) (pa_cons (pv 4) pa_nil)))))))
      (pss_one (ps_ret (pe_tup (pa_cons pe_str (pa_cons (pe_callTy call_tuple_of (by rfl) Tx.tup b_tup (pa_cons (pv 1) pa_nil)) pa_nil))))))), ?_⟩
    refine ⟨_, rfl, rfl, _, rfl, ?_⟩
    by_cases hd : x = ("-" : Str)
    · rw [decide_eq_true (str_eq.mpr hd)]
      refine iteT ⟨Nat.zero_le _, fun p n1 => ⟨by show 2 ≤ sizeLine; decide, fun p2 n2 => ?_⟩⟩
      exact qR [] (by rw [hd]; exact due_dash) _ p2 p [] ((same_upd n1).trans (same_upd n2)) upd_same (same_upd n2 _ _ upd_same) .nil
    · rw [decide_eq_false (fun z => hd (str_eq.mp z))]
      refine iteF ⟨Nat.zero_le _, fun r nr => ?_⟩
      refine ⟨_, rfl, ⟨_, rfl⟩, x, _, rfl, rfl, by rfl, line_ge (by omega), fun l nl => ?_⟩
      have s1 : Same H (upd H r (.lst [])) := same_upd nr
      have nlr : l ≠ r := fun z => by
        rw [z, upd_same] at nl
        cases nl
      have hps : ∀ (i : Nat) (p : Str), (Txt.split x ", ")[i]? = some p → p.length ≤ 400 := fun i p h => Nat.le_trans (split_short (List.mem_of_getElem? h)) hx
      generalize hpsE : Txt.split x ", " = ps at *
      have hpl : ps.length ≤ 402 := by
        have z := PyProof.Rows.split_le x (", " : Str)
        rw [hpsE] at z
        omega
      refine ⟨l, _, rfl, SqL.of upd_same, for_it (walk_enum (K := K) (a := l) (xs := ps.map V.str))
        (fun i σ H' => ∃ (v2 v3 v4 : Option V) (us : List V) (acc : List T), σ = [some (.str x), some (.ref r), v2, v3, v4] ∧ Same H H' ∧ H' l = some (.lst (ps.map V.str)) ∧ H' r = some (.lst us) ∧ IsTs H' us acc ∧
          runW (ps.drop i) i acc = dueOf x ∧ acc.length = i ∧ ∀ t ∈ acc, TOk t) ?_ ?_ ?_ ?_⟩
      · exact ⟨none, none, none, [], [], rfl, s1.trans (same_upd nl), upd_same, (upd_ne nlr.symm).trans upd_same, .nil, by rw [List.drop_zero, ← hpsE]; exact (due_other hd).symm, rfl, fun t ht => by cases ht⟩
      · rintro i σ H' _ ⟨_, _, _, _, _, _, _, e, _⟩
        exact SqL.of e
      · rintro i v σ H1 H2 hi ⟨v2, v3, v4, us, acc, rfl, t1, el, er, hT, hrun, hacc, hok⟩ ⟨Tp, y1, y2, rfl, nT, rfl, ey1, ey2⟩
        have hil : i < ps.length := by
          rw [List.length_map] at hi
          exact hi
        obtain ⟨p, hp⟩ : ∃ p, ps[i]? = some p := ⟨ps[i], List.getElem?_eq_getElem hil⟩
        have ep : y2 = .str p := by
          have z : (ps.map V.str)[i]? = some y2 := ey2
          rw [List.getElem?_map, hp] at z
          exact (Option.some.inj z).symm
        have ei : y1 = .int (i : Nat) := (Option.some.inj ey1).symm
        subst ep
        subst ei
        have hrun2 : runW (p :: ps.drop (i + 1)) i acc = dueOf x := by
          rw [← hrun, List.drop_eq_getElem_cons hil, (List.getElem?_eq_some_iff.mp hp).2]
        have t2 : Same H (upd H1 Tp (.tup [.int (i : Nat), .str p])) := t1.trans (same_upd nT)
        have el2 := same_upd (o := .tup [.int (i : Nat), .str p]) nT _ _ el
        have er2 := same_upd (o := .tup [.int (i : Nat), .str p]) nT _ _ er
        have hT2 := IsTs.mono (same_upd (o := .tup [.int (i : Nat), .str p]) nT) hT
        refine ⟨Tp, _, rfl, SqT.of upd_same, rfl, _, _, rfl, _, _, rfl, rfl, ?_⟩
        generalize upd H1 Tp (.tup [.int (i : Nat), .str p]) = H2 at t2 el2 er2 hT2
        refine ⟨_, rfl, p, rfl, hps i p hp, fun hnone H3 s3 => ?_, fun t ht H3 q s3 e3 => ?_⟩
        · rw [runW_none hnone] at hrun2
          refine ⟨fun _ _ => False, ⟨_, rfl, rfl, _, rfl, ?_⟩, fun _ _ z => z.elim⟩
          rw [decide_eq_true rfl]
          refine iteT (iteT ⟨_, rfl, by show 2 ≤ sizeLine; decide, fun p5 n5 => ?_⟩)
          exact qN i hrun2.symm _ p5 ((t2.trans s3).trans (same_upd n5)) upd_same
        · have el3 := s3 _ _ el2
          have er3 := s3 _ _ er2
          have hT3 := IsTs.mono s3 hT2
          have t3 : Same H H3 := t2.trans s3
          refine ⟨fun σ' H' => ∃ (H4 : Hp), σ' = [some (.str x), some (.ref r), some (.int (i : Nat)), some (.str p), some (.ref q)] ∧ H' = H4 ∧ Same H3 H4 ∧ above acc t = true, ⟨_, rfl, rfl, _, rfl, ?_⟩, ?_⟩
          · rw [decide_eq_false (show ¬ V.ref q = V.non from fun z => nomatch z)]
            refine iteF ⟨_, rfl, Nat.zero_le _, fun z nz => ?_⟩
            have s4 : Same H3 (upd H3 z (.lst [])) := same_upd nz
            refine ⟨.list (acc.map dT), .list [], .lst (SqL.of (s4 _ _ er3)) (IsTs.mono s4 hT3).dp, .lst (SqL.of upd_same) .nil, shaped_list hok, rfl, _, rfl, ?_⟩
            have ee : PyData.eqv (.list (acc.map dT)) (.list []) = acc.isEmpty := by
              show PyData.eqvAll (acc.map dT) [] = _
              rw [eqvAll_nil]
              cases acc <;> rfl
            rw [ee]
            cases hac : acc.isEmpty with
            | true =>
              have ea : acc = [] := List.isEmpty_iff.mp hac
              refine iteF (iteF ?_)
              exact ⟨_, rfl, rfl, s4, by rw [ea]; rfl⟩
            | false =>
              have hne : us ≠ [] := fun z => by
                have e := Paired.length hT
                rw [z] at e
                have e2 : acc = [] := List.length_eq_zero_iff.mp e.symm
                rw [e2] at hac
                cases hac
              obtain ⟨v, hv1, hv2⟩ := last_at us hne
              obtain ⟨u, hu, b, rfl, eb⟩ := IsTs.last (IsTs.mono s4 hT3) hv2
              refine iteT ⟨_, rfl, q, _, 0, .str t.1, rfl, rfl, SqT.of (s4 _ _ e3), atI_nat (j := 0) rfl, _, rfl, _, rfl, r, us, -1, _, rfl, rfl, SqL.of (s4 _ _ er3), hv1, b, _, 0, .str u.1, rfl, rfl, SqT.of eb, atI_nat (j := 0) rfl, _, _, rfl, rfl, _, rfl, ?_⟩
              have ab : above acc t = decide (tl u.1 < tl t.1) := by
                unfold above
                rw [hu]
              show if (!decide (tl u.1 < tl t.1)) = true then _ else _
              rw [← ab]
              cases hab : above acc t with
              | true =>
                refine iteF ?_
                exact ⟨_, rfl, rfl, s4, rfl⟩
              | false =>
                rw [runW_bad ht hab] at hrun2
                refine iteT ⟨_, rfl, by show 2 ≤ sizeLine; decide, fun p5 n5 => ?_⟩
                exact qN i hrun2.symm _ p5 ((t3.trans s4).trans (same_upd n5)) upd_same
          · rintro σ' H' ⟨H4, rfl, rfl, s4, hab⟩
            rw [runW_go ht hab] at hrun2
            have er4 := s4 _ _ er3
            have hul : us.length = acc.length := Paired.length hT
            refine ⟨_, rfl, .inl ⟨rfl, _, SqL.of er4⟩, _, rfl, r, us, .ref q, rfl, rfl, er4, small1000 (by omega), ?_⟩
            have keep : ∀ b o, H' b = some o → b ≠ r → upd H' r (.lst (us ++ [.ref q])) b = some o := fun b o e ne => by
              rw [upd_ne ne]
              exact e
            have hT5 : IsTs (upd H' r (.lst (us ++ [.ref q]))) (us ++ [.ref q]) (acc ++ [t]) := by
              have up : ∀ {v : V} {t : T}, IsT H' v t → IsT (upd H' r (.lst (us ++ [.ref q]))) v t := fun {v t} h => by
                obtain ⟨b, e1, e2⟩ := h
                refine ⟨b, e1, keep b _ e2 fun z => ?_⟩
                rw [z, er4] at e2
                cases e2
              exact IsTs.snoc (Paired.mono (fun _ _ h => up h) (IsTs.mono s4 hT3)) (up ⟨q, rfl, s4 _ _ e3⟩)
            refine ⟨_, _, _, _, acc ++ [t], rfl, fun b o e => keep b o (s4 _ _ (t3 _ _ e)) (ne_of_none e nr), keep l _ (s4 _ _ el3) nlr, upd_same, hT5, hrun2, ?_, ?_⟩
            · rw [List.length_append, hacc]
              rfl
            · intro u hu
              rcases List.mem_append.mp hu with z | z
              · exact hok u z
              · rw [List.mem_singleton.mp z]
                exact thg_bounds ht (hps i p hp)
      · rintro σ H1 ⟨v2, v3, v4, us, acc, rfl, t1, el, er, hT, hrun, hacc, hok⟩
        have e0 : runW (ps.drop (ps.map V.str).length) (ps.map V.str).length acc = .inr acc := by
          rw [List.length_map, List.drop_length]
          exact runW_nil
        rw [e0] at hrun
        refine ⟨_, rfl, r, us, rfl, .inl ⟨SqL.of er, fun p np => ⟨by show 2 ≤ sizeLine; decide, fun p2 n2 => ?_⟩⟩⟩
        exact qR acc hrun.symm _ p2 p us ((t1.trans (same_upd np)).trans (same_upd n2)) upd_same (same_upd n2 _ _ upd_same) (IsTs.mono (same_upd n2) (IsTs.mono (same_upd np) hT))

/-! ### _law_told -/
def tSuite (K : PySem.W.Frag) (C : Addr) : Addr → Value → Option Addr → TS := fun a cls d =>
  tSeq (tAsg (tTup (tCons (tC (.str "none")) (tCons (tXf a cls d C "part" (tVar 2)) tNil))) (gName 1))
    (tIfS (tB (tCB (rIsi K) (tCons (tXf a cls d C "part" (tVar 2)) (tCons (tC (.ty "bool")) tNil)))) (tAsg (tC .non) (gName 1)) tNext)
theorem ok_told {f fR : Addr} {fd fdR : FuncData} (F : Fun K "_law_told" "_law_told" sTold f fd) (Tx : Txt K mg) (X : ExcT K mg C S fI)
    (GR : FnOk P w K mg base (L2.CX P w) 5 fR fdR ["text"] (spRead C)) (kR : PySem.W.keepIn K (.ref fR) = true) (bR : Binds K fdR ["text"] []) (gR : mg "read_world" = some (.ref fR)) :
    FnOk P w K mg base CX0 6 f fd ["_law_text_here"] spDue := by
  refine F.ok scTold (fun vs H Q E h => ?_) (fun cdv A outer s H vs Q E hr h => ?_)
  · obtain ⟨x, rfl, _⟩ := h
    rfl
  · obtain ⟨x, rfl, hx, qN, qR⟩ := h
    refine ⟨_, pss_cons (ps_set (i := 1) scTold.nd rfl (.inl rfl) pe_non)
      (pss_cons (ps_try_as (i := 2) (tb := fun W => tAsg (tTup (tCons (tC (.str "read")) (tCons (tCallS (spRead C) (WE W) (tCons (tVar 0) tNil)) tNil))) (gName 1)) (ts := tSuite K C) (Wout := fun _ _ _ _ => False)
          rfl rfl scTold.nd rfl rfl ⟨rfl, by decide, .inl X.mgC⟩ takes0
          (fun W pn xe tk _ => pss_one (ps_set (i := 1) scTold.nd rfl (.inl rfl) (by exact (pe_tup (pa_cons pe_str (pa_cons (pe_callS GR hr rfl gR kR bR (fun σ => passAt tk σ) (pa_cons (pv 0) pa_nil)) pa_nil))))))
          (fun a oe cls d pn hz hf => pss_cons (ps_set (i := 1) scTold.nd rfl (.inl rfl) (by exact (pe_tup (pa_cons pe_str (pa_cons (pe_xf X.xf X.noP hz hf (pv 2)) pa_nil)))))
            (pss_one (ps_if (pt_val (by exact (pe_callB call_isi (by rfl) Tx.isinst b_isinst (pa_cons (pe_xf X.xf X.noP hz hf (pv 2)) (pa_cons (pe_bltn (v := .ty "bool") (by rfl) Tx.bool b_bool rfl) pa_nil)))))
              (pss_one (ps_set (i := 1) scTold.nd rfl (.inl rfl) pe_non)) pss_nil))))
      (pss_one (ps_ret (pv 1)))), ?_⟩
    refine ⟨_, rfl, x, rfl, hx, fun n hn d H1 nd s1 ed => ?_, fun ts ht H1 p us s1 e1 hT => ⟨by show 2 ≤ sizeLine; decide, fun p2 n2 => ⟨_, rfl, ?_⟩⟩⟩
    · refine ⟨true, X.te, fun _ a na => ?_, fun z => Bool.noConfusion z⟩
      have hlk : List.lookup ("part" : Str) [(("part" : Str), V.int (n : Nat))] = some (.int (n : Nat)) := by simp [List.lookup]
      refine ⟨_, rfl, rfl, rfl, d, _, _, rfl, ed, hlk, by show 2 ≤ sizeLine; decide, fun p np => ?_⟩
      have ed2 := same_upd (o := .tup [.str "none", .int (n : Nat)]) np _ _ ed
      refine ⟨_, rfl, rfl, rfl, d, _, _, rfl, ed2, hlk, .int (n : Nat), .ty "bool", _, _, false, rfl, .ty _, .base (.int _), kit_ty (by decide +kernel), false, rfl, iteF ⟨_, rfl, ?_⟩⟩
      exact qN n hn _ p (s1.trans (same_upd np)) upd_same
    · exact qR ts ht _ p2 p us (s1.trans (same_upd n2)) upd_same (same_upd n2 _ _ e1) (IsTs.mono (same_upd n2) hT)
end
end K5
/-! The law's drawing: _law_pool, _law_draw, _law_part, _law_bent. Told is only what they are bounded by. -/
namespace K5
open PySem PySem.Spec PyProof.Rows L2 TL

def poolL (a b c : Int) : HO := .lst [.int a, .int b, .int c]
/-- a pool stands at p -/
def PoolAt (H : Hp) (p : Addr) : Prop := ∃ a b c : Int, H p = some (poolL a b c) ∧ 0 ≤ a ∧ 0 ≤ b ∧ b < 1000000403 ∧ 0 ≤ c ∧ c < 1000000513
theorem PoolAt.same {H H' : Hp} {p : Addr} (h : PoolAt H p) (s : Same H H') : PoolAt H' p := by
  obtain ⟨a, b, c, e, z⟩ := h
  exact ⟨a, b, c, s _ _ e, z⟩
theorem PoolAt.ne {H : Hp} {p q : Addr} (h : PoolAt H p) (n : H q = none) : q ≠ p := by
  obtain ⟨a, b, c, e, z⟩ := h
  exact (ne_of_none e n).symm
/-- a short text, its signs signs -/
def Good (k : Nat) (z : Str) : Prop := z.length ≤ k ∧ PyData.strOk z = true
theorem strOk_app {x y : Str} (hx : PyData.strOk x = true) (hy : PyData.strOk y = true) : PyData.strOk (x ++ y) = true := by
  unfold PyData.strOk at *
  rw [← Array.all_toList] at *
  show (tl (x ++ y)).all _ = true
  rw [tl_append, List.all_append]
  exact Bool.and_eq_true_iff.mpr ⟨hx, hy⟩
theorem Good.app {j k : Nat} {x y : Str} (hx : Good j x) (hy : Good k y) : Good (j + k) (x ++ y) :=
  ⟨by rw [app_len]; exact Nat.add_le_add hx.1 hy.1, strOk_app hx.2 hy.2⟩
theorem Good.mono {j k : Nat} {x : Str} (hx : Good j x) (h : j ≤ k) : Good k x := ⟨Nat.le_trans hx.1 h, hx.2⟩
def goodB (k : Nat) (zs : List Str) : Bool := zs.all fun z => decide (z.length ≤ k) && PyData.strOk z
theorem goodB_mem {k : Nat} {zs : List Str} (h : goodB k zs = true) {z : Str} (hz : z ∈ zs) : Good k z := by
  have q := Bool.and_eq_true_iff.mp (List.all_eq_true.mp h z hz)
  exact ⟨of_decide_eq_true q.1, q.2⟩
/-- an item at a drawn place -/
theorem pick {k : Nat} {zs : List Str} (hg : goodB k zs = true) {d : Int} (h0 : 0 ≤ d) (h1 : d < (zs.length : Int)) : ∃ z, Good k z ∧ atI (zs.map V.str) d = some (.str z) := by
  obtain ⟨n, rfl⟩ := Int.eq_ofNat_of_zero_le h0
  have hn : n < zs.length := by omega
  refine ⟨zs[n], goodB_mem hg (List.getElem_mem hn), atI_nat ?_⟩
  rw [List.getElem?_map, List.getElem?_eq_getElem hn]
  rfl

/-! ### promises -/
def spPool : Sp := fun vs H Q _ => ∃ z : Int, vs = [.int z] ∧ ∀ H' p, Same H H' → H p = none → PoolAt H' p → Q (.ref p) H'
def spDraw : Sp := fun vs H Q _ => ∃ (p : Addr) (top : Int), vs = [.ref p, .int top] ∧ PoolAt H p ∧ 0 < top ∧ top < 1000 ∧
  ∀ H' d, But p H H' → PoolAt H' p → 0 ≤ d → d < top → Q (.int d) H'
def spPart : Sp := fun vs H Q _ => ∃ (p a : Addr) (nm : List Str), vs = [.ref p, .ref a] ∧ PoolAt H p ∧ H a = some (.lst (nm.map V.str)) ∧ a ≠ p ∧ 0 < nm.length ∧ nm.length < 1000 ∧ goodB 8 nm = true ∧
  ∀ H' x, But p H H' → PoolAt H' p → Good 24 x → Q (.str x) H'
def spBent : Sp := fun vs H Q _ => ∃ (p : Addr) (x : Str), vs = [.ref p, .str x] ∧ PoolAt H p ∧ x.length ≤ 160 ∧
  ∀ H' y, But p H H' → PoolAt H' p → y.length ≤ 400 → Q (.str y) H'

section
variable {P : Program} {w : World} {K : PySem.W.Frag} {mg : Str → Option Value} {base : Heap}
/-! ### _law_pool -/
theorem ok_pool {f : Addr} {fd : FuncData} (F : Fun K "_law_pool" "_law_pool" sPool f fd) (Tx : Txt K mg) : FnOk P w K mg base CX0 1 f fd ["_law_cell"] spPool := by
  refine F.ok scPool (fun vs H Q E h => ?_) (fun cdv A outer s H vs Q E hr h => ?_)
  · obtain ⟨z, rfl, _⟩ := h
    rfl
  · obtain ⟨z, rfl, q⟩ := h
    refine ⟨_, pss_cons (ps_set (i := 1) scPool.nd rfl (.inl rfl) pe_int)
      (C8.pss_cut (ps_if (PW.pt (pw_or (pt_cmpR op_lt (pv 0) pe_int (nomark _)) (pw_or1 (pt_cmpR op_ge (pv 0) (pe_op op_pow pe_int pe_int) (nomark _)))))
        (pss_one (ps_set (i := 1) scPool.nd rfl (.inl rfl) (pe_callB call_abs (by rfl) Tx.abs b_abs (pa_cons (pv 0) pa_nil)))) pss_nil)
      (pss_cons (ps_set (i := 2) scPool.nd rfl (.inl rfl) (pe_op op_mod (pv 0) pe_int))
      (pss_one (ps_ret (pe_lst (pa_cons (pv 1) (pa_cons (pv 2) (pa_cons (pe_op op_mod (pe_op op_add (pe_op op_mul (pv 2) pe_int) pe_int) pe_int) pa_nil)))))))), ?_⟩
    refine ⟨fun σ' H' => ∃ a : Int, σ' = [some (.int z), some (.int a), none] ∧ 0 ≤ a ∧ H' = H, ?_, ?_⟩
    · have big : ∀ D : Ends, (∀ a : Int, 0 ≤ a → D.nx [some (.int z), some (.int a), none] H) → D.nx [some (.int z), some (.int (if z < 0 then -z else z)), none] H := fun D hD => hD _ (by
        split <;> omega)
      refine ⟨_, rfl, z, 0, rfl, rfl, _, rfl, ?_⟩
      by_cases h1 : z < 0
      · rw [decide_eq_true h1]
        refine iteT (iteT ⟨_, rfl, z, rfl, _, rfl, ?_, rfl⟩)
        split <;> omega
      · rw [decide_eq_false h1]
        refine iteF ⟨_, rfl, 10, 18, rfl, rfl, ⟨by decide, by decide, by decide⟩, _, _, rfl, rfl, _, rfl, ite2 (fun _ => ?_) (fun _ => ?_)⟩
        · refine ⟨_, rfl, z, rfl, _, rfl, ?_, rfl⟩
          split <;> omega
        · exact ⟨0, rfl, by decide, rfl⟩
    · rintro σ' H' ⟨a, rfl, ha, rfl⟩
      refine ⟨_, rfl, z, 1000000403, rfl, rfl, (by show (0 : Int) < 1000000403; decide), ?_⟩
      have b0 : 0 ≤ z % 1000000403 := Int.emod_nonneg _ (by decide)
      have b1 : z % 1000000403 < 1000000403 := Int.emod_lt_of_pos _ (by decide)
      refine ⟨_, rfl, _, rfl, _, rfl, z % 1000000403, 48271, rfl, rfl, .inl ⟨by omega, by omega⟩, _, _, rfl, rfl, _, _, rfl, rfl, (by show (0 : Int) < 1000000513; decide), by show 3 ≤ sizeLine; decide, fun p np => ?_⟩
      refine q _ p (same_upd np) np ⟨a, z % 1000000403, _, upd_same, ha, b0, b1, Int.emod_nonneg _ (by decide), Int.emod_lt_of_pos _ (by decide)⟩

/-! ### _law_draw -/
theorem ok_draw {f : Addr} {fd : FuncData} (F : Fun K "_law_draw" "_law_draw" sDraw f fd) (Tx : Txt K mg) : FnOk P w K mg base CX0 1 f fd ["_law_pool_here", "_law_top"] spDraw := by
  refine F.ok scDraw (fun vs H Q E h => ?_) (fun cdv A outer s H vs Q E hr h => ?_)
  · obtain ⟨p, top, rfl, _⟩ := h
    rfl
  · obtain ⟨p, top, rfl, ⟨a, b, c, hp, a0, b0, b1, c0, c1⟩, t0, t1, q⟩ := h
    refine ⟨_, pss_cons (ps_if (pt_cmpR op_gt (pe_ix ix_list (pv 0) pe_int (fun _ _ => rfl)) pe_int (nomark _))
        (pss_cons (ps_set (i := 2) scDraw.nd rfl (.inl rfl) (pe_op op_mod (pe_ix ix_list (pv 0) pe_int (fun _ _ => rfl)) (pv 1)))
        (pss_cons (ps_asg (pe_op op_fdiv (pe_ix ix_list (pv 0) pe_int (fun _ _ => rfl)) (pv 1)) (pg_sub (pv 0) pe_int set_list))
        (pss_one (ps_ret (pv 2))))) pss_nil)
      (pss_cons (ps_asg (pe_op op_mod (pe_op op_add (pe_op op_add (pe_op op_mul (pe_ix ix_list (pv 0) pe_int (fun _ _ => rfl)) pe_int) (pe_ix ix_list (pv 0) pe_int (fun _ _ => rfl))) pe_int) pe_int) (pg_sub (pv 0) pe_int set_list))
      (pss_cons (ps_asg (pe_op op_mod (pe_op op_add (pe_op op_add (pe_op op_mul (pe_ix ix_list (pv 0) pe_int (fun _ _ => rfl)) pe_int)
          (pe_op op_mod (pe_op op_mul (pe_ix ix_list (pv 0) pe_int (fun _ _ => rfl)) (pe_ix ix_list (pv 0) pe_int (fun _ _ => rfl))) pe_int)) pe_int) pe_int) (pg_sub (pv 0) pe_int set_list))
      (pss_one (ps_ret (pe_op op_mod (pe_op op_fdiv (pe_op op_add (pe_ix ix_list (pv 0) pe_int (fun _ _ => rfl)) (pe_op op_mul pe_int (pe_ix ix_list (pv 0) pe_int (fun _ _ => rfl)))) pe_int) (pv 1)))))), ?_⟩
    have g0 : ∀ (x y z : Int), atI [V.int x, V.int y, V.int z] 0 = some (.int x) := fun x y z => atI_nat (j := 0) rfl
    have g1 : ∀ (x y z : Int), atI [V.int x, V.int y, V.int z] 1 = some (.int y) := fun x y z => atI_nat (j := 1) rfl
    have g2 : ∀ (x y z : Int), atI [V.int x, V.int y, V.int z] 2 = some (.int z) := fun x y z => atI_nat (j := 2) rfl
    have but : ∀ o, But p H (upd H p o) := fun o b u e n => by
      rw [upd_ne n]
      exact e
    refine ⟨_, rfl, p, _, 0, _, rfl, rfl, SqL.of hp, g0 _ _ _, _, _, rfl, rfl, _, rfl, ite2 (fun _ => ?_) (fun _ => ?_)⟩
    · refine ⟨_, rfl, p, _, 0, _, rfl, rfl, SqL.of hp, g0 _ _ _, _, rfl, _, _, rfl, rfl, t0, ?_⟩
      refine ⟨_, rfl, p, _, 0, _, rfl, rfl, SqL.of hp, g0 _ _ _, _, rfl, _, _, rfl, rfl, ⟨t0, by omega⟩, ?_⟩
      refine ⟨_, rfl, p, _, 0, 0, rfl, rfl, hp, rfl, _, rfl, ?_⟩
      exact q _ _ (but _) ⟨a / top, b, c, upd_same, Int.ediv_nonneg a0 (by omega), b0, b1, c0, c1⟩ (Int.emod_nonneg _ (by omega)) (Int.emod_lt_of_pos _ t0)
    · -- pool[1]
      refine ⟨_, rfl, p, _, 1, _, rfl, rfl, SqL.of hp, g1 _ _ _, _, _, rfl, rfl, .inl ⟨by omega, by omega⟩, _, rfl, p, _, 2, _, rfl, rfl, SqL.of hp, g2 _ _ _, _, _, rfl, rfl, _, _, rfl, rfl, _, _, rfl, rfl, (by show (0 : Int) < 1000000403; decide), ?_⟩
      have x0 : 0 ≤ (b * 40014 + c + 7) % 1000000403 := Int.emod_nonneg _ (by decide)
      have x1 : (b * 40014 + c + 7) % 1000000403 < 1000000403 := Int.emod_lt_of_pos _ (by decide)
      refine ⟨_, rfl, p, _, 1, 1, rfl, rfl, hp, rfl, ?_⟩
      show tSeq _ _ _ _ (upd H p (poolL a ((b * 40014 + c + 7) % 1000000403) c))
      generalize (b * 40014 + c + 7) % 1000000403 = b' at x0 x1
      have hp1 : (upd H p (poolL a b' c)) p = some (poolL a b' c) := upd_same
      -- pool[2]
      refine ⟨_, rfl, p, _, 2, _, rfl, rfl, SqL.of hp1, g2 _ _ _, _, _, rfl, rfl, .inl ⟨by omega, by omega⟩, _, rfl, p, _, 1, _, rfl, rfl, SqL.of hp1, g1 _ _ _, _, rfl, p, _, 1, _, rfl, rfl, SqL.of hp1, g1 _ _ _, _, _, rfl, rfl, .inl ⟨by omega, by omega⟩,
        _, _, rfl, rfl, (by show (0 : Int) < 65537; decide), _, _, rfl, rfl, _, _, rfl, rfl, _, _, rfl, rfl, (by show (0 : Int) < 1000000513; decide), ?_⟩
      have y0 : 0 ≤ (c * 40699 + b' * b' % 65537 + 1) % 1000000513 := Int.emod_nonneg _ (by decide)
      have y1 : (c * 40699 + b' * b' % 65537 + 1) % 1000000513 < 1000000513 := Int.emod_lt_of_pos _ (by decide)
      refine ⟨_, rfl, p, _, 2, 2, rfl, rfl, hp1, rfl, ?_⟩
      have hp2 : (upd (upd H p (poolL a b' c)) p (poolL a b' ((c * 40699 + b' * b' % 65537 + 1) % 1000000513))) p = some (poolL a b' ((c * 40699 + b' * b' % 65537 + 1) % 1000000513)) := upd_same
      refine ⟨_, rfl, p, _, 1, _, rfl, rfl, SqL.of hp2, g1 _ _ _, _, rfl, p, _, 2, _, rfl, rfl, SqL.of hp2, g2 _ _ _, _, _, rfl, rfl, .inl ⟨by decide, by decide⟩, _, _, rfl, rfl, _, _, rfl, rfl, ⟨by decide, by decide⟩, _, rfl, _, _, rfl, rfl, t0, ?_⟩
      refine q _ _ ((but (poolL a b' c)).trans fun u v e n => ?_) ⟨a, b', _, hp2, a0, x0, x1, y0, y1⟩ (Int.emod_nonneg _ (by omega)) (Int.emod_lt_of_pos _ t0)
      rw [upd_ne n]
      exact e
end
end K5
/-! _law_part, _law_bent, _law_text. -/
namespace K5
open PySem PySem.Spec PyProof.Rows L2 TL

def mPlace : List Str := ["0", "7", "10", "999", "1000", "42"]
def mCount : List Str := ["0", "-1", "5", "-12", "1000000000", "-0", "3", "30"]
def mOdd : List Str := ["", " ", ",", "@", ":", "-", "0", "1", "a", "A", ", ", "@1:1", "b", "99", "\n", "."]
def mName : List Str := ["a", "ab", "abc", "b", "ba", "z", "abcdefgh", "zz"]
def mSep : List Str := [", ", ", ", ", ", ", ", ", ", ",", " ,", "; "]
def mNone : List Str := ["-", "", "--", "- "]
theorem good_place : goodB 4 mPlace = true := by decide +kernel
theorem good_count : goodB 10 mCount = true := by decide +kernel
theorem good_odd : goodB 4 mOdd = true := by decide +kernel
theorem good_name : goodB 8 mName = true := by decide +kernel
theorem good_sep : goodB 2 mSep = true := by decide +kernel
theorem good_none : goodB 2 mNone = true := by decide +kernel
theorem good_at : Good 1 ("@" : Str) := ⟨by decide +kernel, by decide +kernel⟩
theorem good_colon : Good 1 (":" : Str) := ⟨by decide +kernel, by decide +kernel⟩

/-- joined texts are short -/
theorem joinL_len (S : List Nat) : ∀ l : List (List Nat), (∀ p ∈ l, p.length ≤ 24) → (joinL S l).length ≤ l.length * (24 + S.length)
  | [], _ => Nat.zero_le _
  | [p], h => by
    have z := h p (List.mem_singleton.mpr rfl)
    show p.length ≤ 1 * _
    omega
  | p :: q :: r, h => by
    have z := h p (List.mem_cons_self ..)
    have i := joinL_len S (q :: r) fun x hx => h x (List.mem_cons_of_mem _ hx)
    rw [joinL_cons (by simp), List.length_append, List.length_append, List.length_cons, Nat.succ_mul]
    omega
theorem join_len {y : Str} {l : List Str} (h : ∀ p ∈ l, Good 24 p) (hy : y.length ≤ 2) (hl : l.length ≤ 6) : (Txt.join y l).length ≤ 156 := by
  rw [len_tl, join_eq, tl_join]
  have z := joinL_len (tl y) (l.map tl) fun p hp => by
    obtain ⟨x, hx, rfl⟩ := List.mem_map.mp hp
    rw [← len_tl]
    exact (h x hx).1
  rw [List.length_map, ← len_tl] at z
  have z2 : l.length * (24 + y.length) ≤ 6 * 26 := Nat.mul_le_mul hl (by omega)
  omega

section
variable {P : Program} {w : World} {K : PySem.W.Frag} {mg : Str → Option Value} {base : Heap}
/-! ### _law_part -/
theorem ok_part {f fD : Addr} {fd fdD : FuncData} (F : Fun K "_law_part" "_law_part" sPart f fd) (Tx : Txt K mg)
    (GD : FnOk P w K mg base CX0 1 fD fdD ["_law_pool_here", "_law_top"] spDraw) (kD : PySem.W.keepIn K (.ref fD) = true) (bD : Binds K fdD ["_law_pool_here", "_law_top"] []) (gD : mg "_law_draw" = some (.ref fD)) :
    FnOk P w K mg base CX0 2 f fd ["_law_pool_here", "_law_names"] spPart := by
  refine F.ok scPart (fun vs H Q E h => ?_) (fun cdv A outer s H vs Q E hr h => ?_)
  · obtain ⟨p, a, nm, rfl, _⟩ := h
    rfl
  · obtain ⟨p, a, nm, rfl, hP, ha, nap, l0, l1, hg, q⟩ := h
    refine ⟨_, pss_cons (ps_set (i := 2) scPart.nd rfl (.inl rfl) (pe_ix ix_list (pe_lst (pa_cons pe_str (pa_cons pe_str (pa_cons pe_str (pa_cons pe_str (pa_cons pe_str (pa_cons pe_str pa_nil)))))))
          (pe_call GD hr (by rfl) gD kD bD .nil pass0 (pa_cons (pv 0) (pa_cons pe_int pa_nil))) (fun _ _ => rfl)))
      (pss_cons (ps_set (i := 3) scPart.nd rfl (.inl rfl) (pe_ix ix_list (pe_lst (pa_cons pe_str (pa_cons pe_str (pa_cons pe_str (pa_cons pe_str (pa_cons pe_str (pa_cons pe_str (pa_cons pe_str (pa_cons pe_str pa_nil)))))))))
          (pe_call GD hr (by rfl) gD kD bD .nil pass0 (pa_cons (pv 0) (pa_cons pe_int pa_nil))) (fun _ _ => rfl)))
      (pss_one (ps_ret (pe_op op_add_str (pe_op op_add_str (pe_op op_add_str (pe_op op_add_str (pe_ix ix_list (pv 1)
          (pe_call GD hr (by rfl) gD kD bD .nil pass0 (pa_cons (pv 0) (pa_cons (pe_callB call_len_seq (by rfl) Tx.len b_len (pa_cons (pv 1) pa_nil)) pa_nil))) (fun _ _ => rfl)) pe_str) (pv 2)) pe_str) (pv 3))))), ?_⟩
    -- place
    refine ⟨by show 6 ≤ sizeLine; decide, fun l nl => ⟨_, rfl, p, 6, rfl, hP.same (same_upd nl), by decide, by decide, fun H1 d hb hP1 d0 d1 => ?_⟩⟩
    have nlp := hP.ne nl
    have t1 : But p H H1 := (But.of (same_upd nl)).trans hb
    have e1 : H1 l = some (.lst (mPlace.map V.str)) := hb l _ upd_same nlp
    obtain ⟨z1, g1, i1⟩ := pick good_place d0 d1
    refine ⟨l, _, d, _, rfl, rfl, SqL.of e1, i1, ?_⟩
    -- count
    refine ⟨by show 8 ≤ sizeLine; decide, fun l2 nl2 => ⟨_, rfl, p, 8, rfl, hP1.same (same_upd nl2), by decide, by decide, fun H2 d' hb2 hP2 d0' d1' => ?_⟩⟩
    have nlp2 := hP1.ne nl2
    have t2 : But p H H2 := (t1.trans (But.of (same_upd nl2))).trans hb2
    have e2 : H2 l2 = some (.lst (mCount.map V.str)) := hb2 l2 _ upd_same nlp2
    obtain ⟨z2, g2, i2⟩ := pick good_count d0' d1'
    refine ⟨l2, _, d', _, rfl, rfl, SqL.of e2, i2, ?_⟩
    -- the name
    have ea2 : H2 a = some (.lst (nm.map V.str)) := t2 _ _ ha nap
    have ln : (nm.map V.str).length = nm.length := List.length_map ..
    refine ⟨_, rfl, _, rfl, _, rfl, a, _, rfl, .inl (SqL.of ea2), p, _, rfl, hP2, by omega, by omega, fun H3 d3 hb3 hP3 d03 d13 => ?_⟩
    have ea3 : H3 a = some (.lst (nm.map V.str)) := hb3 _ _ ea2 nap
    obtain ⟨z3, g3, i3⟩ := pick hg d03 (by omega)
    have l1 := g1.1
    have l2 := g2.1
    have l3 := g3.1
    have c1 : (Str.ofString "@").length = 1 := rfl
    have c2 : (Str.ofString ":").length = 1 := rfl
    refine ⟨a, _, d3, _, rfl, rfl, SqL.of ea3, i3, _, _, rfl, rfl, line_ge (by omega), _, rfl, _, _, rfl, rfl, line_ge (by rw [app_len]; omega), _, _, rfl, rfl, line_ge (by rw [app_len, app_len]; omega), _, rfl, _, _, rfl, rfl, line_ge (by rw [app_len, app_len, app_len]; omega), ?_⟩
    exact q _ _ (t2.trans hb3) hP3 ((((g3.app good_at).app g1).app good_colon).app g2)

/-! ### _law_bent -/
theorem ok_bent {f fD : Addr} {fd fdD : FuncData} (F : Fun K "_law_bent" "_law_bent" sBent f fd) (Tx : Txt K mg)
    (GD : FnOk P w K mg base CX0 1 fD fdD ["_law_pool_here", "_law_top"] spDraw) (kD : PySem.W.keepIn K (.ref fD) = true) (bD : Binds K fdD ["_law_pool_here", "_law_top"] []) (gD : mg "_law_draw" = some (.ref fD)) :
    FnOk P w K mg base CX0 2 f fd ["_law_pool_here", "_law_text_here"] spBent := by
  refine F.ok scBent (fun vs H Q E h => ?_) (fun cdv A outer s H vs Q E hr h => ?_)
  · obtain ⟨p, x, rfl, _⟩ := h
    rfl
  · obtain ⟨p, x, rfl, hP, hx, q⟩ := h
    refine ⟨_, pss_cons (ps_set (i := 2) scBent.nd rfl (.inl rfl) (pe_lst (pa_cons pe_str (pa_cons pe_str (pa_cons pe_str (pa_cons pe_str (pa_cons pe_str (pa_cons pe_str (pa_cons pe_str (pa_cons pe_str
          (pa_cons pe_str (pa_cons pe_str (pa_cons pe_str (pa_cons pe_str (pa_cons pe_str (pa_cons pe_str (pa_cons pe_str (pa_cons pe_str pa_nil))))))))))))))))))
      (pss_cons (ps_set (i := 3) scBent.nd rfl (.inl rfl) (pe_call GD hr (by rfl) gD kD bD .nil pass0 (pa_cons (pv 0) (pa_cons (pe_op op_add (pe_callB call_len_str (by rfl) Tx.len b_len (pa_cons (pv 1) pa_nil)) pe_int) pa_nil))))
      (pss_cons (ps_set (i := 4) scBent.nd rfl (.inl rfl) (pe_ix ix_list (pv 2) (pe_call GD hr (by rfl) gD kD bD .nil pass0 (pa_cons (pv 0) (pa_cons (pe_callB call_len_seq (by rfl) Tx.len b_len (pa_cons (pv 2) pa_nil)) pa_nil))) (fun _ _ => rfl)))
      (pss_one (ps_ret (pe_op op_add_str (pe_op op_add_str (pe_slice sl_str (pv 1) po_none (po_some (pv 3))) (pv 4))
        (pe_slice sl_str (pv 1) (po_some (pe_op op_add (pv 3) (pe_call GD hr (by rfl) gD kD bD .nil pass0 (pa_cons (pv 0) (pa_cons pe_int pa_nil))))) po_none)))))), ?_⟩
    refine ⟨by show 16 ≤ sizeLine; decide, fun l nl => ?_⟩
    have nlp := hP.ne nl
    have hP0 := hP.same (same_upd (o := .lst (mOdd.map V.str)) nl)
    have t0 : But p H (upd H l (.lst (mOdd.map V.str))) := But.of (same_upd nl)
    -- at
    refine ⟨_, rfl, _, rfl, x, rfl, line_ge (by omega), _, _, rfl, rfl, p, _, rfl, hP0, by omega, by omega, fun H1 d hb hP1 d0 d1 => ?_⟩
    have e1 : H1 l = some (.lst (mOdd.map V.str)) := hb l _ upd_same nlp
    have t1 := t0.trans hb
    -- sign
    refine ⟨_, rfl, _, rfl, _, rfl, l, _, rfl, .inl (SqL.of e1), p, 16, rfl, hP1, by decide, by decide, fun H2 d' hb2 hP2 d0' d1' => ?_⟩
    have e2 : H2 l = some (.lst (mOdd.map V.str)) := hb2 l _ e1 nlp
    have t2 := t1.trans hb2
    obtain ⟨z, g, i2⟩ := pick good_odd d0' d1'
    refine ⟨l, _, d', _, rfl, rfl, SqL.of e2, i2, ?_⟩
    -- the pieces
    have c1 := cutS_length x none (some d)
    have lz := g.1
    refine ⟨_, rfl, _, rfl, d, rfl, x, rfl, line_ge (by omega), _, rfl, _, _, rfl, rfl, line_ge (by omega), _, rfl, _, rfl, _, rfl, p, 3, rfl, hP2, by decide, by decide, fun H3 d3 hb3 hP3 d03 d13 => ?_⟩
    have c2 := cutS_length x (some (d + d3)) none
    refine ⟨d, d3, rfl, rfl, _, rfl, x, rfl, line_ge (by omega), _, _, rfl, rfl, line_ge (by rw [app_len]; omega), ?_⟩
    refine q _ _ (t2.trans hb3) hP3 ?_
    rw [app_len, app_len]
    omega
end
end K5
/-! _law_text. -/
namespace K5
open PySem PySem.Spec PyProof.Rows L2 TL

def spText : Sp := fun vs H Q _ => ∃ z : Int, vs = [.int z] ∧ ∀ H' x, Same H H' → x.length ≤ 400 → Q (.str x) H'
theorem strs_dp {K : PySem.W.Frag} {H : Hp} : ∀ ys : List Str, DpAll K H (ys.map V.str) (ys.map PyData.str)
  | [] => .nil
  | y :: r => .cons (.str y) (strs_dp r)
theorem strs_lay : ∀ ys : List Str, (∀ y ∈ ys, Good 24 y) → PyData.canLayAll0 (ys.map PyData.str) = true ∧ PyData.depthAll (ys.map PyData.str) = 0
  | [], _ => ⟨rfl, rfl⟩
  | y :: r, h => by
    obtain ⟨h1, h2⟩ := strs_lay r fun z hz => h z (List.mem_cons_of_mem _ hz)
    refine ⟨?_, ?_⟩
    · show (PyData.strOk y && PyData.canLayAll0 (r.map PyData.str)) = true
      rw [h1, (h y (List.mem_cons_self ..)).2]
      rfl
    · show max 0 (PyData.depthAll (r.map PyData.str)) = 0
      omega
theorem strs_shaped {ys : List Str} (h : ∀ y ∈ ys, Good 24 y) : SeqAt.shaped (.list (ys.map PyData.str)) = true := by
  obtain ⟨h1, h2⟩ := strs_lay ys h
  refine Bool.and_eq_true_iff.mpr ⟨h1, decide_eq_true ?_⟩
  show PyData.depthAll (ys.map PyData.str) + 1 ≤ 64
  omega

section
variable {P : Program} {w : World} {K : PySem.W.Frag} {mg : Str → Option Value} {base : Heap}
theorem ok_text {f fP fD fA fB : Addr} {fd fdP fdD fdA fdB : FuncData} (F : Fun K "_law_text" "_law_text" sText f fd) (Tx : Txt K mg)
    (GP : FnOk P w K mg base CX0 1 fP fdP ["_law_cell"] spPool) (kP : PySem.W.keepIn K (.ref fP) = true) (bP : Binds K fdP ["_law_cell"] []) (gP : mg "_law_pool" = some (.ref fP))
    (GD : FnOk P w K mg base CX0 1 fD fdD ["_law_pool_here", "_law_top"] spDraw) (kD : PySem.W.keepIn K (.ref fD) = true) (bD : Binds K fdD ["_law_pool_here", "_law_top"] []) (gD : mg "_law_draw" = some (.ref fD))
    (GA : FnOk P w K mg base CX0 2 fA fdA ["_law_pool_here", "_law_names"] spPart) (kA : PySem.W.keepIn K (.ref fA) = true) (bA : Binds K fdA ["_law_pool_here", "_law_names"] []) (gA : mg "_law_part" = some (.ref fA))
    (GB : FnOk P w K mg base CX0 2 fB fdB ["_law_pool_here", "_law_text_here"] spBent) (kB : PySem.W.keepIn K (.ref fB) = true) (bB : Binds K fdB ["_law_pool_here", "_law_text_here"] []) (gB : mg "_law_bent" = some (.ref fB)) :
    FnOk P w K mg base CX0 3 f fd ["_law_cell"] spText := by
  refine F.ok scText (fun vs H Q E h => ?_) (fun cdv A outer s H vs Q E hr h => ?_)
  · obtain ⟨z, rfl, _⟩ := h
    rfl
  · obtain ⟨z, rfl, q⟩ := h
    have hr1 : Room 1 _ := hr.mono (by decide)
    refine ⟨_, pss_cons (ps_set (i := 1) scText.nd rfl (.inl rfl) (pe_call GP hr1 (by rfl) gP kP bP .nil pass0 (pa_cons (pv 0) pa_nil)))
      (pss_cons (ps_set (i := 2) scText.nd rfl (.inl rfl) (pe_lst (pa_cons pe_str (pa_cons pe_str (pa_cons pe_str (pa_cons pe_str (pa_cons pe_str (pa_cons pe_str (pa_cons pe_str (pa_cons pe_str pa_nil))))))))))
      (pss_cons (ps_set (i := 3) scText.nd rfl (.inl rfl) (pe_lst pa_nil))
      (pss_cons (ps_for PassesOwn.never rfl (pi_range1 (by rfl) Tx.range (pa_cons (pe_call GD hr1 (by rfl) gD kD bD .nil pass0 (pa_cons (pv 1) (pa_cons pe_int pa_nil))) pa_nil)) (pg_name (i := 4) scText.nd rfl (.inl rfl))
        (pss_one (ps_expr (pe_bm PySem.F.plainAttrs_list PySem.F.slot_list_append PySem.F.type_list_append mt_append (pv 3)
          (pa_cons (pe_call GA hr (by rfl) gA kA bA .nil pass0 (pa_cons (pv 1) (pa_cons (pv 2) pa_nil))) pa_nil)))))
      (C8.pss_cut (ps_if (pt_cmpR op_gt (pe_call GD hr1 (by rfl) gD kD bD .nil pass0 (pa_cons (pv 1) (pa_cons pe_int pa_nil))) pe_int (nomark _))
        (pss_one (ps_set (i := 3) scText.nd rfl (.inl rfl) (pe_callB cr_sortedS (by rfl) Tx.sorted b_sorted (pa_cons (pv 3) pa_nil)))) pss_nil)
      (pss_cons (ps_set (i := 5) scText.nd rfl (.inl rfl) (pe_join (pe_ix ix_list (pe_lst (pa_cons pe_str (pa_cons pe_str (pa_cons pe_str (pa_cons pe_str (pa_cons pe_str (pa_cons pe_str (pa_cons pe_str (pa_cons pe_str pa_nil)))))))))
          (pe_call GD hr1 (by rfl) gD kD bD .nil pass0 (pa_cons (pv 1) (pa_cons pe_int pa_nil))) (fun _ _ => rfl)) (pv 3)))
      (C8.pss_cut (ps_if (pt_cmpR (op_eqD hr.units) (pv 3) (pe_lst pa_nil) (nomark _))
        (pss_one (ps_set (i := 5) scText.nd rfl (.inl rfl) (pe_ix ix_list (pe_lst (pa_cons pe_str (pa_cons pe_str (pa_cons pe_str (pa_cons pe_str pa_nil)))))
          (pe_call GD hr1 (by rfl) gD kD bD .nil pass0 (pa_cons (pv 1) (pa_cons pe_int pa_nil))) (fun _ _ => rfl)))) pss_nil)
      (C8.pss_cut (ps_if (pt_cmpR op_eq (pe_call GD hr1 (by rfl) gD kD bD .nil pass0 (pa_cons (pv 1) (pa_cons pe_int pa_nil))) pe_int (nomark _))
        (pss_one (ps_set (i := 5) scText.nd rfl (.inl rfl) (pe_call GB hr (by rfl) gB kB bB .nil pass0 (pa_cons (pv 1) (pa_cons (pv 5) pa_nil))))) pss_nil)
      (pss_one (ps_ret (pv 5)))))))))), ?_⟩
    -- the pool, the names, the parts
    refine ⟨_, rfl, z, rfl, fun H1 p s1 np hP1 => ⟨by show 8 ≤ sizeLine; decide, fun a na => ⟨Nat.zero_le _, fun r nr => ?_⟩⟩⟩
    have nap := hP1.ne na
    have hP2 := hP1.same (same_upd (o := .lst (mName.map V.str)) na)
    have nrp := hP2.ne nr
    have nra : a ≠ r := fun e => by
      rw [← e, upd_same] at nr
      cases nr
    have hrH : H r = none := s1.free ((same_upd (o := .lst (mName.map V.str)) na).free nr)
    have haH : H a = none := s1.free na
    refine ⟨_, rfl, p, 7, rfl, hP2.same (same_upd nr), by decide, by decide, fun H2 d hb hP3 d0 d1 => ⟨d, rfl, by omega, by omega, for_range (lo := 0) (n := d.toNat)
      (fun i σ H' => ∃ (v4 : Option V) (ys : List Str), σ = [some (.int z), some (.ref p), some (.ref a), some (.ref r), v4, none] ∧ Same H H' ∧ PoolAt H' p ∧ H' a = some (.lst (mName.map V.str)) ∧
        H' r = some (.lst (ys.map V.str)) ∧ ys.length = i ∧ ∀ y ∈ ys, Good 24 y) ?_ ?_ ?_⟩⟩
    · have t : But p H H2 := ((But.of (s1.trans ((same_upd na).trans (same_upd nr)))).trans hb)
      exact ⟨none, [], rfl, But.same (Same.refl H) np t, hP3, hb a _ ((upd_ne nra).trans upd_same) nap, hb r _ upd_same nrp, rfl, fun y hy => by cases hy⟩
    · rintro i σ H3 hi ⟨v4, ys, rfl, t3, hP, ea, er, hl, hg⟩
      refine ⟨_, rfl, .inl ⟨rfl, _, SqL.of er⟩, _, rfl, _, rfl, p, a, mName, rfl, hP, ea, nap, by decide, by decide, good_name, fun H4 x hb4 hP4 hx => ?_⟩
      have er4 := hb4 _ _ er nrp
      have ea4 := hb4 _ _ ea nap
      refine ⟨r, _, _, rfl, rfl, er4, ?_, ?_⟩
      · rw [List.length_map]
        exact small1000 (by omega)
      · have nr' : ∀ {b : Addr} {o : HO}, H4 b = some o → b ≠ r → upd H4 r (.lst (ys.map V.str ++ [.str x])) b = some o := fun {b o} e n => by
          rw [upd_ne n]
          exact e
        refine ⟨_, ys ++ [x], rfl, fun b o e => ?_, ?_, nr' ea4 nra, ?_, ?_, ?_⟩
        · exact nr' (But.same t3 np hb4 _ _ e) (ne_of_none e hrH)
        · obtain ⟨u, v, y, e, z⟩ := hP4
          exact ⟨u, v, y, nr' e nrp.symm, z⟩
        · rw [upd_same, List.map_append]
          rfl
        · rw [List.length_append, hl]
          rfl
        · intro y hy
          rcases List.mem_append.mp hy with k | k
          · exact hg y k
          · rw [List.mem_singleton.mp k]
            exact hx
    · rintro σ H3 ⟨v4, ys, rfl, t3, hP, ea, er, hl, hg⟩
      have h6 : ys.length ≤ 6 := by omega
      -- sorted, at times
      refine ⟨fun σ' H' => ∃ (r' : Addr) (zs : List Str), σ' = [some (.int z), some (.ref p), some (.ref a), some (.ref r'), v4, none] ∧ Same H H' ∧ PoolAt H' p ∧ H' r' = some (.lst (zs.map V.str)) ∧ r' ≠ p ∧ zs.length ≤ 6 ∧ ∀ y ∈ zs, Good 24 y, ?_, ?_⟩
      · refine ⟨_, rfl, p, 4, rfl, hP, by decide, by decide, fun H4 d' hb4 hP4 d0' d1' => ⟨_, _, rfl, rfl, _, rfl, ?_⟩⟩
        have er4 := hb4 _ _ er nrp
        have t4 := But.same t3 np hb4
        refine ite2 (fun _ => ?_) (fun _ => ?_)
        · refine ⟨_, rfl, r, ys, rfl, SqL.of er4, by omega, fun zs r' hperm _ nr' => ?_⟩
          refine ⟨r', zs, rfl, t4.trans (same_upd nr'), hP4.same (same_upd nr'), upd_same, hP4.ne nr', ?_, fun y hy => hg y (hperm.mem_iff.mp hy)⟩
          rw [hperm.length_eq]
          exact h6
        · exact ⟨r, ys, rfl, t4, hP4, er4, nrp, h6, hg⟩
      · rintro σ' H4 ⟨r', zs, rfl, t4, hP4, er4, nrp', hz6, hzg⟩
        -- joined
        refine ⟨by show 8 ≤ sizeLine; decide, fun l nl => ⟨_, rfl, p, 8, rfl, hP4.same (same_upd nl), by decide, by decide, fun H5 d5 hb5 hP5 d05 d15 => ?_⟩⟩
        have nlp := hP4.ne nl
        have el5 : H5 l = some (.lst (mSep.map V.str)) := hb5 l _ upd_same nlp
        have er5 := hb5 _ _ (same_upd (o := .lst (mSep.map V.str)) nl _ _ er4) nrp'
        have t5 := But.same (t4.trans (same_upd nl)) np hb5
        obtain ⟨sp, gs, i5⟩ := pick good_sep d05 d15
        have hj := join_len (y := sp) hzg gs.1 hz6
        refine ⟨l, _, d5, _, rfl, rfl, SqL.of el5, i5, ⟨_, rfl⟩, _, rfl, sp, r', zs, rfl, rfl, .inl (SqL.of er5), ?_, ?_⟩
        · have k1 := sum_le (l := zs.map (·.length)) (k := 24) fun n hn => by
            obtain ⟨y, hy, rfl⟩ := List.mem_map.mp hn
            exact (hzg y hy).1
          rw [List.length_map] at k1
          have k2 : zs.length * sp.length ≤ 6 * 2 := Nat.mul_le_mul hz6 gs.1
          omega
        · -- none at all
          refine ⟨fun σ' H' => ∃ (y : Str), σ' = [some (.int z), some (.ref p), some (.ref a), some (.ref r'), v4, some (.str y)] ∧ Same H H' ∧ PoolAt H' p ∧ y.length ≤ 156, ?_, ?_⟩
          · refine ⟨_, rfl, Nat.zero_le _, fun l2 nl2 => ?_⟩
            refine ⟨.list (zs.map PyData.str), .list [], .lst (SqL.of (same_upd nl2 _ _ er5)) (strs_dp zs), .lst (SqL.of upd_same) .nil, strs_shaped hzg, rfl, _, rfl, ite2 (fun _ => ?_) (fun _ => ?_)⟩
            · refine ⟨by show 4 ≤ sizeLine; decide, fun l3 nl3 => ⟨_, rfl, p, 4, rfl, (hP5.same (same_upd nl2)).same (same_upd nl3), by decide, by decide, fun H6 d6 hb6 hP6 d06 d16 => ?_⟩⟩
              have nlp3 := (hP5.same (same_upd (o := .lst []) nl2)).ne nl3
              have el6 : H6 l3 = some (.lst (mNone.map V.str)) := hb6 l3 _ upd_same nlp3
              obtain ⟨y, gy, i6⟩ := pick good_none d06 d16
              have hy := gy.1
              refine ⟨l3, _, d6, _, rfl, rfl, SqL.of el6, i6, y, rfl, But.same ((t5.trans (same_upd nl2)).trans (same_upd nl3)) np hb6, hP6, by omega⟩
            · exact ⟨_, rfl, t5.trans (same_upd nl2), hP5.same (same_upd nl2), hj⟩
          · rintro σ' H6 ⟨y, rfl, t6, hP6, hy⟩
            -- bent, at times
            refine ⟨fun σ' H' => ∃ (x : Str), σ' = [some (.int z), some (.ref p), some (.ref a), some (.ref r'), v4, some (.str x)] ∧ Same H H' ∧ x.length ≤ 400, ?_, ?_⟩
            · refine ⟨_, rfl, p, 2, rfl, hP6, by decide, by decide, fun H7 d7 hb7 hP7 d07 d17 => ⟨rfl, _, rfl, ?_⟩⟩
              have t7 := But.same t6 np hb7
              refine ite2 (fun _ => ?_) (fun _ => ?_)
              · refine ⟨_, rfl, _, rfl, p, y, rfl, hP7, by omega, fun H8 x hb8 hP8 hx => ⟨x, rfl, But.same t7 np hb8, hx⟩⟩
              · exact ⟨y, rfl, t7, by omega⟩
            · rintro σ' H7 ⟨x, rfl, t7, hx⟩
              exact ⟨_, rfl, q _ x t7 hx⟩
end
end K5
/-! law. -/
namespace K5
open PySem PySem.Spec PyProof.Rows L2 TL

def spLaw (K : PySem.W.Frag) : Sp := fun vs H Q _ => ∃ (a : Addr) (ns : List Int), vs = [.ref a] ∧ SqL K H a (ns.map V.int) ∧ ns.length ≤ 63 ∧ ∀ H', Q (.bl true) H'
theorem cut_int {ns : List Int} {lo hi : Option Int} {v : V} (h : v ∈ [V.int 0] ++ cutV (ns.map V.int) lo hi) : ∃ z, v = .int z := by
  rcases List.mem_append.mp h with h | h
  · exact ⟨0, List.mem_singleton.mp h⟩
  · have h2 : v ∈ ns.map V.int := List.mem_of_mem_drop (List.mem_of_mem_take h)
    obtain ⟨z, _, e⟩ := List.mem_map.mp h2
    exact ⟨z, e.symm⟩
theorem read_none : ¬ (V.str ("none" : Str) = V.str ("read" : Str)) := by decide +kernel

section
variable {P : Program} {w : World} {K : PySem.W.Frag} {mg : Str → Option Value} {base : Heap}
theorem ok_law {f fT fD fR fS : Addr} {fd fdT fdD fdR fdS : FuncData} (F : Fun K "law" "law" sLaw f fd) (Tx : Txt K mg)
    (GT : FnOk P w K mg base CX0 3 fT fdT ["_law_cell"] spText) (kT : PySem.W.keepIn K (.ref fT) = true) (bT : Binds K fdT ["_law_cell"] []) (gT : mg "_law_text" = some (.ref fT))
    (GD : FnOk P w K mg base CX0 3 fD fdD ["_law_text_here"] spDue) (kD : PySem.W.keepIn K (.ref fD) = true) (bD : Binds K fdD ["_law_text_here"] []) (gD : mg "_law_due" = some (.ref fD))
    (GR : FnOk P w K mg base CX0 6 fR fdR ["_law_text_here"] spDue) (kR : PySem.W.keepIn K (.ref fR) = true) (bR : Binds K fdR ["_law_text_here"] []) (gR : mg "_law_told" = some (.ref fR))
    (GS : FnOk P w K mg base CX0 1 fS fdS ["world"] spShow) (kS : PySem.W.keepIn K (.ref fS) = true) (bS : Binds K fdS ["world"] []) (gS : mg "show_world" = some (.ref fS)) :
    FnOk P w K mg base CX0 7 f fd ["_law_script"] (spLaw K) := by
  refine F.ok scLaw (fun vs H Q E h => ?_) (fun cdv A outer s H vs Q E hr h => ?_)
  · obtain ⟨a, ns, rfl, _⟩ := h
    rfl
  · obtain ⟨a, ns, rfl, hS, hlen, q⟩ := h
    have hr1 : Room 1 _ := hr.mono (by decide)
    have hr3 : Room 3 _ := hr.mono (by decide)
    refine ⟨_, pss_cons (ps_for PassesOwn.never rfl (pi_list (pe_op op_cat (pe_lst (pa_cons pe_int pa_nil)) (pe_slice sl_list (pv 0) po_none (po_some pe_int)))) (pg_name (i := 1) scLaw.nd rfl (.inl rfl))
        (pss_cons (ps_set (i := 2) scLaw.nd rfl (.inl rfl) (pe_call GT hr3 (by rfl) gT kT bT .nil pass0 (pa_cons (pv 1) pa_nil)))
        (pss_cons (ps_set (i := 3) scLaw.nd rfl (.inl rfl) (pe_call GD hr3 (by rfl) gD kD bD .nil pass0 (pa_cons (pv 2) pa_nil)))
        (pss_one (ps_if (PW.pt (pw_or (pt_cmpR (op_neD hr.units) (pe_call GR hr (by rfl) gR kR bR .nil pass0 (pa_cons (pv 2) pa_nil)) (pv 3) (nomark _))
            (pw_or1 (PW.pt (pw_and (pt_cmpR op_eq (pe_ix ix_tup (pv 3) pe_int (fun _ _ => rfl)) pe_str (nomark _))
              (pw_and1 (pt_cmpR op_ne (pe_call GS hr1 (by rfl) gS kS bS .nil pass0 (pa_cons (pe_ix ix_tup (pv 3) pe_int (fun _ _ => rfl)) pa_nil)) (pv 2) (nomark _))))))))
          (pss_one (ps_ret pe_bl)) pss_nil)))))
      (pss_one (ps_ret pe_bl)), ?_⟩
    refine ⟨by show 1 ≤ sizeLine; decide, fun l nl => ⟨_, rfl, 60, rfl, a, _, rfl, (same_upd nl).seq hS, fun b nb => ?_⟩⟩
    have nbl : l ≠ b := fun e => by
      rw [← e, upd_same] at nb
      cases nb
    have hc : (cutV (ns.map V.int) none (some 60)).length ≤ 63 := by
      refine Nat.le_trans (cutV_length _ _ _) ?_
      rw [List.length_map]
      exact hlen
    refine ⟨l, b, _, _, rfl, rfl, (upd_ne nbl).trans upd_same, upd_same, line_ge (by show 1 + _ ≤ _; omega), fun c nc => ?_⟩
    refine ⟨c, rfl, ⟨_, SqL.of upd_same⟩, for_list (K := K) (a := c) (xs := [V.int 0] ++ cutV (ns.map V.int) none (some 60))
      (fun i σ H' => ∃ v1 v2 v3 : Option V, σ = [some (.ref a), v1, v2, v3] ∧ H' c = some (.lst ([V.int 0] ++ cutV (ns.map V.int) none (some 60)))) ⟨none, none, none, rfl, upd_same⟩ (fun i σ H' _ ⟨_, _, _, _, e⟩ => SqL.of e) ?_ ?_⟩
    · rintro i y σ H1 hi ⟨v1, v2, v3, rfl, ec⟩
      obtain ⟨z, rfl⟩ := cut_int (List.mem_of_getElem? hi)
      -- text
      refine ⟨_, rfl, z, rfl, fun H2 x s2 hx => ?_⟩
      have ec2 := s2 _ _ ec
      -- due
      refine ⟨_, rfl, x, rfl, hx, fun n hn H3 p s3 e3 => ?_, fun ts ht H3 p pq us s3 e3 eq3 hT3 => ?_⟩
      · -- told
        refine ⟨_, rfl, x, rfl, hx, fun n' hn' H4 p' s4 e4 => ?_, fun ts' ht' => ?_⟩
        · have en : n' = n := by
            rw [hn] at hn'
            exact (Sum.inl.inj hn').symm
          subst en
          refine ⟨_, rfl, dN (n' : Nat), dN (n' : Nat), .tup (SqT.of e4) (.cons (.str _) (.cons (.int _) .nil)), .tup (SqT.of (s4 _ _ e3)) (.cons (.str _) (.cons (.int _) .nil)), shaped_dN _, shaped_dN _, _, rfl, ?_⟩
          rw [eqv_self (shaped_dN _)]
          refine iteF ⟨_, rfl, p, _, 0, _, rfl, rfl, SqT.of (s4 _ _ e3), atI_nat (j := 0) rfl, rfl, _, rfl, ?_⟩
          rw [decide_eq_false read_none]
          refine iteF (iteF ?_)
          exact ⟨_, _, _, rfl, s4 _ _ (s3 _ _ ec2)⟩
        · rw [hn] at ht'
          cases ht'
      · refine ⟨_, rfl, x, rfl, hx, fun n' hn' => ?_, fun ts' ht' H4 p' pq' us' s4 e4 eq4 hT4 => ?_⟩
        · rw [ht] at hn'
          cases hn'
        · have en : ts' = ts := by
            rw [ht] at ht'
            exact (Sum.inr.inj ht').symm
          subst en
          obtain ⟨k1, k2, k3⟩ := due_bounds ht hx
          have e3b := s4 _ _ e3
          have eq3b := s4 _ _ eq3
          have hT3b := IsTs.mono s4 hT3
          refine ⟨_, rfl, dW ts', dW ts', .tup (SqT.of e4) (.cons (.str _) (.cons (.tup (SqT.of eq4) hT4.dp) .nil)), .tup (SqT.of e3b) (.cons (.str _) (.cons (.tup (SqT.of eq3b) hT3b.dp) .nil)), shaped_dW k1, shaped_dW k1, _, rfl, ?_⟩
          rw [eqv_self (shaped_dW k1)]
          refine iteF ⟨_, rfl, p, _, 0, _, rfl, rfl, SqT.of e3b, atI_nat (j := 0) rfl, rfl, _, rfl, ?_⟩
          rw [decide_eq_true rfl]
          refine iteT ⟨_, rfl, p, _, 1, _, rfl, rfl, SqT.of e3b, atI_nat (j := 1) rfl, pq, us, ts', rfl, eq3b, hT3b, k1, k2, k3, fun H5 s5 => ⟨_, rfl, rfl, _, rfl, ?_⟩⟩
          rw [show_due ht, decide_eq_true rfl]
          refine iteF ?_
          exact ⟨_, _, _, rfl, s5 _ _ (s4 _ _ (s3 _ _ ec2))⟩
    · rintro σ H1 _
      exact q H1
end
end K5
/-! What the top has written, and the end. -/
namespace K5
open PySem PySem.Spec PyProof.Rows L2 TL
theorem exm_here {K : PySem.W.Frag} {C : Addr} (b : PySem.W.subIn K (.ref C) (.type "BaseException") = some true) (c : PySem.W.isClsIn K C = true) (t : PySem.W.typeIn K (.ref C) = some (.type "type"))
    (r : PySem.W.subIn K (.ref C) (.ref C) = some true) : PySem.W.exmOne K (.ref C) (.ref C) = some true := by
  have c' : (PySem.W.clsIn K C).isSome = true := c
  have k1 : (PySem.W.subIn K (.ref C) (.type "BaseException") == some true) = true := by rw [b]; rfl
  have k2 : ((PySem.W.clsIn K C).isSome && PySem.W.typeIn K (.ref C) == some (.type "type")) = true := by rw [c', t]; rfl
  refine Eq.trans (if_pos k1) (Eq.trans (if_pos k2) r)
theorem all_mk {l : PySem.W.OpenLaw} {w : World} {K : PySem.W.Frag} {h : Heap} {mg : Str → Option Value} {fa C S fIn fWh fNm fPl fTh fNi fSh fTi fRd fPo fDr fPa fBe fTx fLn fLt fDu fTo fLa : Addr} (X : K.In h) (G : h.Ns mainGlobals mg) (hfa : mg "law" = some (.ref fa))
    {odIn anIn odWh anWh odNm anNm odPl anPl odTh anTh odNi anNi odSh anSh odTi anTi odRd anRd odPo anPo odDr anDr odPa anPa odBe anBe odTx anTx odLn anLn odLt anLt odDu anDu odTo anTo odLa anLa : Option Addr}
    {slIn slWh slNm slPl slTh slNi slSh slTi slRd slPo slDr slPa slBe slTx slLn slLt slDu slTo slLa : Array (Option Value)}
    {ocIn kVIn dcIn pmIn cdIn ctIn ocWh kVWh dcWh pmWh cdWh ctWh ocNm kVNm dcNm pmNm cdNm ctNm ocPl kVPl dcPl pmPl cdPl ctPl ocTh kVTh dcTh pmTh cdTh ctTh ocNi kVNi dcNi pmNi cdNi ctNi ocSh kVSh dcSh pmSh cdSh ctSh ocTi kVTi dcTi pmTi cdTi ctTi ocRd kVRd dcRd pmRd cdRd ctRd ocPo kVPo dcPo pmPo cdPo ctPo ocDr kVDr dcDr pmDr cdDr ctDr ocPa kVPa dcPa pmPa cdPa ctPa ocBe kVBe dcBe pmBe cdBe ctBe ocTx kVTx dcTx pmTx cdTx ctTx ocLn kVLn dcLn pmLn cdLn ctLn ocLt kVLt dcLt pmLt cdLt ctLt ocDu kVDu dcDu pmDu cdDu ctDu ocTo kVTo dcTo pmTo cdTo ctTo ocLa kVLa dcLa pmLa cdLa ctLa : Value}
    {nm qn : Str} {N : Addr} {bs : List Value} {sn : List Str} {sub : List Value} {ab : Bool} {col : Option Bool} {dd : Option Addr} {k0 k1 k2 k3 k5 : Option Value} {t1 t2 t3 t4 : Tok}
    (aC : PySem.W.nsIn K mainGlobals "NoText" = some (some (.ref C)))
    (aS : PySem.W.nsIn K mainGlobals "StrikeError" = some (some (.ref S)))
    (xC : K.lookup C = some (excClassObj nm qn C N bs [.ref S, .type "ValueError", .type "Exception", .type "BaseException", .type "object"] true sn sub ab col dd k0 k1 k2 k3 k5 "ValueError.__new__"))
    (saC : PySem.W.findIn K (.ref C) "__setattr__" = some (some (.builtin "object.__setattr__")))
    (exC : PySem.W.subIn K (.ref C) (.type "BaseException") = some true)
    (tyC : PySem.W.typeIn K (.ref C) = some (.type "type"))
    (kpC : PySem.W.keepIn K (.ref C) = true)
    (clC : PySem.W.isClsIn K C = true)
    (suC : PySem.W.subIn K (.ref C) (.ref C) = some true)
    (gaC : PySem.W.findIn K (.ref C) "__getattribute__" = some (some (.builtin "BaseException.__getattribute__")))
    (ggC : PySem.W.findIn K (.ref C) "__getattr__" = some none)
    (hdC : PySem.W.hasDictIn K C = true)
    (noP : PySem.W.findIn K (.ref C) "part" = some none)
    (geS : PySem.W.specialIn K (.ref S) "__getattribute__" = some (some (.builtin "type.__getattribute__")))
    (rdS : PySem.W.readsIn K S (.type "type") = true)
    (fcS : PySem.W.findCls K (.ref S) (.type "type") "__init__" = some (.val (.builtin "ValueError.__init__")))
    (aIn : PySem.W.findIn K (.ref C) "__init__" = some (some (.ref fIn)))
    (tIn : PySem.W.typeIn K (.ref fIn) = some (.type "function"))
    (lIn : K.lookup fIn = some ⟨ocIn, odIn, .func (PySem.W.fnOf "__init__" "NoText.__init__" (defArgs sInit) (defBody sInit) (defScope sInit) .none kVIn dcIn pmIn anIn cdIn ctIn), slIn⟩)
    (cIn : PySem.W.codeIn K cdIn "NoText.__init__" = true)
    (kIn : PySem.W.keepIn K (.ref fIn) = true)
    (aWh : PySem.W.nsIn K mainGlobals "is_whole" = some (some (.ref fWh)))
    (lWh : K.lookup fWh = some ⟨ocWh, odWh, .func (PySem.W.fnOf "is_whole" "is_whole" (defArgs sWhole) (defBody sWhole) (defScope sWhole) .none kVWh dcWh pmWh anWh cdWh ctWh), slWh⟩)
    (cWh : PySem.W.codeIn K cdWh "is_whole" = true)
    (kWh : PySem.W.keepIn K (.ref fWh) = true)
    (aNm : PySem.W.nsIn K mainGlobals "is_name" = some (some (.ref fNm)))
    (lNm : K.lookup fNm = some ⟨ocNm, odNm, .func (PySem.W.fnOf "is_name" "is_name" (defArgs sName) (defBody sName) (defScope sName) .none kVNm dcNm pmNm anNm cdNm ctNm), slNm⟩)
    (cNm : PySem.W.codeIn K cdNm "is_name" = true)
    (kNm : PySem.W.keepIn K (.ref fNm) = true)
    (aPl : PySem.W.nsIn K mainGlobals "is_place" = some (some (.ref fPl)))
    (lPl : K.lookup fPl = some ⟨ocPl, odPl, .func (PySem.W.fnOf "is_place" "is_place" (defArgs sPlace) (defBody sPlace) (defScope sPlace) .none kVPl dcPl pmPl anPl cdPl ctPl), slPl⟩)
    (cPl : PySem.W.codeIn K cdPl "is_place" = true)
    (kPl : PySem.W.keepIn K (.ref fPl) = true)
    (aTh : PySem.W.nsIn K mainGlobals "is_thing" = some (some (.ref fTh)))
    (lTh : K.lookup fTh = some ⟨ocTh, odTh, .func (PySem.W.fnOf "is_thing" "is_thing" (defArgs sThing) (defBody sThing) (defScope sThing) .none kVTh dcTh pmTh anTh cdTh ctTh), slTh⟩)
    (cTh : PySem.W.codeIn K cdTh "is_thing" = true)
    (kTh : PySem.W.keepIn K (.ref fTh) = true)
    (aNi : PySem.W.nsIn K mainGlobals "number_in" = some (some (.ref fNi)))
    (lNi : K.lookup fNi = some ⟨ocNi, odNi, .func (PySem.W.fnOf "number_in" "number_in" (defArgs sNumIn) (defBody sNumIn) (defScope sNumIn) .none kVNi dcNi pmNi anNi cdNi ctNi), slNi⟩)
    (cNi : PySem.W.codeIn K cdNi "number_in" = true)
    (kNi : PySem.W.keepIn K (.ref fNi) = true)
    (aSh : PySem.W.nsIn K mainGlobals "show_world" = some (some (.ref fSh)))
    (lSh : K.lookup fSh = some ⟨ocSh, odSh, .func (PySem.W.fnOf "show_world" "show_world" (defArgs sShow) (defBody sShow) (defScope sShow) .none kVSh dcSh pmSh anSh cdSh ctSh), slSh⟩)
    (cSh : PySem.W.codeIn K cdSh "show_world" = true)
    (kSh : PySem.W.keepIn K (.ref fSh) = true)
    (aTi : PySem.W.nsIn K mainGlobals "thing_in" = some (some (.ref fTi)))
    (lTi : K.lookup fTi = some ⟨ocTi, odTi, .func (PySem.W.fnOf "thing_in" "thing_in" (defArgs sThgIn) (defBody sThgIn) (defScope sThgIn) .none kVTi dcTi pmTi anTi cdTi ctTi), slTi⟩)
    (cTi : PySem.W.codeIn K cdTi "thing_in" = true)
    (kTi : PySem.W.keepIn K (.ref fTi) = true)
    (aRd : PySem.W.nsIn K mainGlobals "read_world" = some (some (.ref fRd)))
    (lRd : K.lookup fRd = some ⟨ocRd, odRd, .func (PySem.W.fnOf "read_world" "read_world" (defArgs sRead) (defBody sRead) (defScope sRead) .none kVRd dcRd pmRd anRd cdRd ctRd), slRd⟩)
    (cRd : PySem.W.codeIn K cdRd "read_world" = true)
    (kRd : PySem.W.keepIn K (.ref fRd) = true)
    (aPo : PySem.W.nsIn K mainGlobals "_law_pool" = some (some (.ref fPo)))
    (lPo : K.lookup fPo = some ⟨ocPo, odPo, .func (PySem.W.fnOf "_law_pool" "_law_pool" (defArgs sPool) (defBody sPool) (defScope sPool) .none kVPo dcPo pmPo anPo cdPo ctPo), slPo⟩)
    (cPo : PySem.W.codeIn K cdPo "_law_pool" = true)
    (kPo : PySem.W.keepIn K (.ref fPo) = true)
    (aDr : PySem.W.nsIn K mainGlobals "_law_draw" = some (some (.ref fDr)))
    (lDr : K.lookup fDr = some ⟨ocDr, odDr, .func (PySem.W.fnOf "_law_draw" "_law_draw" (defArgs sDraw) (defBody sDraw) (defScope sDraw) .none kVDr dcDr pmDr anDr cdDr ctDr), slDr⟩)
    (cDr : PySem.W.codeIn K cdDr "_law_draw" = true)
    (kDr : PySem.W.keepIn K (.ref fDr) = true)
    (aPa : PySem.W.nsIn K mainGlobals "_law_part" = some (some (.ref fPa)))
    (lPa : K.lookup fPa = some ⟨ocPa, odPa, .func (PySem.W.fnOf "_law_part" "_law_part" (defArgs sPart) (defBody sPart) (defScope sPart) .none kVPa dcPa pmPa anPa cdPa ctPa), slPa⟩)
    (cPa : PySem.W.codeIn K cdPa "_law_part" = true)
    (kPa : PySem.W.keepIn K (.ref fPa) = true)
    (aBe : PySem.W.nsIn K mainGlobals "_law_bent" = some (some (.ref fBe)))
    (lBe : K.lookup fBe = some ⟨ocBe, odBe, .func (PySem.W.fnOf "_law_bent" "_law_bent" (defArgs sBent) (defBody sBent) (defScope sBent) .none kVBe dcBe pmBe anBe cdBe ctBe), slBe⟩)
    (cBe : PySem.W.codeIn K cdBe "_law_bent" = true)
    (kBe : PySem.W.keepIn K (.ref fBe) = true)
    (aTx : PySem.W.nsIn K mainGlobals "_law_text" = some (some (.ref fTx)))
    (lTx : K.lookup fTx = some ⟨ocTx, odTx, .func (PySem.W.fnOf "_law_text" "_law_text" (defArgs sText) (defBody sText) (defScope sText) .none kVTx dcTx pmTx anTx cdTx ctTx), slTx⟩)
    (cTx : PySem.W.codeIn K cdTx "_law_text" = true)
    (kTx : PySem.W.keepIn K (.ref fTx) = true)
    (aLn : PySem.W.nsIn K mainGlobals "_law_number_in" = some (some (.ref fLn)))
    (lLn : K.lookup fLn = some ⟨ocLn, odLn, .func (PySem.W.fnOf "_law_number_in" "_law_number_in" (defArgs sLNum) (defBody sLNum) (defScope sLNum) .none kVLn dcLn pmLn anLn cdLn ctLn), slLn⟩)
    (cLn : PySem.W.codeIn K cdLn "_law_number_in" = true)
    (kLn : PySem.W.keepIn K (.ref fLn) = true)
    (aLt : PySem.W.nsIn K mainGlobals "_law_thing_in" = some (some (.ref fLt)))
    (lLt : K.lookup fLt = some ⟨ocLt, odLt, .func (PySem.W.fnOf "_law_thing_in" "_law_thing_in" (defArgs sLThg) (defBody sLThg) (defScope sLThg) .none kVLt dcLt pmLt anLt cdLt ctLt), slLt⟩)
    (cLt : PySem.W.codeIn K cdLt "_law_thing_in" = true)
    (kLt : PySem.W.keepIn K (.ref fLt) = true)
    (aDu : PySem.W.nsIn K mainGlobals "_law_due" = some (some (.ref fDu)))
    (lDu : K.lookup fDu = some ⟨ocDu, odDu, .func (PySem.W.fnOf "_law_due" "_law_due" (defArgs sDue) (defBody sDue) (defScope sDue) .none kVDu dcDu pmDu anDu cdDu ctDu), slDu⟩)
    (cDu : PySem.W.codeIn K cdDu "_law_due" = true)
    (kDu : PySem.W.keepIn K (.ref fDu) = true)
    (aTo : PySem.W.nsIn K mainGlobals "_law_told" = some (some (.ref fTo)))
    (lTo : K.lookup fTo = some ⟨ocTo, odTo, .func (PySem.W.fnOf "_law_told" "_law_told" (defArgs sTold) (defBody sTold) (defScope sTold) .none kVTo dcTo pmTo anTo cdTo ctTo), slTo⟩)
    (cTo : PySem.W.codeIn K cdTo "_law_told" = true)
    (kTo : PySem.W.keepIn K (.ref fTo) = true)
    (aLa : PySem.W.nsIn K mainGlobals "law" = some (some (.ref fLa)))
    (lLa : K.lookup fLa = some ⟨ocLa, odLa, .func (PySem.W.fnOf "law" "law" (defArgs sLaw) (defBody sLaw) (defScope sLaw) .none kVLa dcLa pmLa anLa cdLa ctLa), slLa⟩)
    (cLa : PySem.W.codeIn K cdLa "law" = true)
    (kLa : PySem.W.keepIn K (.ref fLa) = true)
    (z0 : PySem.W.nsIn K mainGlobals "isinstance" = some none)
    (z1 : PySem.W.nsIn K mainGlobals "int" = some none)
    (z2 : PySem.W.nsIn K mainGlobals "str" = some none)
    (z3 : PySem.W.nsIn K mainGlobals "bool" = some none)
    (z4 : PySem.W.nsIn K mainGlobals "tuple" = some none)
    (z5 : PySem.W.nsIn K mainGlobals "len" = some none)
    (z6 : PySem.W.nsIn K mainGlobals "all" = some none)
    (z7 : PySem.W.nsIn K mainGlobals "enumerate" = some none)
    (z8 : PySem.W.nsIn K mainGlobals "abs" = some none)
    (z9 : PySem.W.nsIn K mainGlobals "range" = some none)
    (z10 : PySem.W.nsIn K mainGlobals "sorted" = some none)
    (v1 : PySem.W.nsIn K mainGlobals "SMALL" = some (some (.str "abcdefghijklmnopqrstuvwxyz" t1)))
    (v2 : PySem.W.nsIn K mainGlobals "MOST_LETTERS" = some (some (.int 8 t2)))
    (v3 : PySem.W.nsIn K mainGlobals "MOST_PLACE" = some (some (.int 999 t3)))
    (v4 : PySem.W.nsIn K mainGlobals "FIGURES" = some (some (.str "0123456789" t4)))
    : ∃ fd : FuncData, (∀ (s : Shared) (v : Value), BindsTo s fd ⟨[v], []⟩ [("_law_script", v)]) ∧ ∀ base : Heap, K.In base → base.Ns mainGlobals mg → FnOk l.prog w K mg base CX0 7 fa fd ["_law_script"] (spLaw K) := by
  have e := hfa.symm.trans (PySem.W.mg_of X G aLa)
  cases e
  have Tt : Txt K mg := ⟨PySem.W.mg_none_of X G z0, PySem.W.mg_none_of X G z1, PySem.W.mg_none_of X G z2, PySem.W.mg_none_of X G z3, PySem.W.mg_none_of X G z4, PySem.W.mg_none_of X G z5, PySem.W.mg_none_of X G z6, PySem.W.mg_none_of X G z7, PySem.W.mg_none_of X G z8, PySem.W.mg_none_of X G z9, PySem.W.mg_none_of X G z10, ⟨_, PySem.W.mg_of X G v1⟩, ⟨_, PySem.W.mg_of X G v2⟩, ⟨_, PySem.W.mg_of X G v3⟩, ⟨_, PySem.W.mg_of X G v4⟩⟩
  have Xx : ExcT K mg C S fIn := ⟨⟨⟨nm, qn, N, bs, _, sn, sub, ab, col, dd, k0, k1, k2, k3, k5, xC, rfl⟩, saC, exC, tyC, kpC⟩, aIn, tIn, PySem.W.mg_of X G aC, PySem.W.mg_of X G aS, geS, rdS, fcS, noP, ⟨gaC, ggC, exC, hdC⟩, exm_here exC clC tyC suC⟩
  have FIn := fun_mk (st := sInit) lIn cIn kIn
  have bIn := FIn.binds (ps := ["self", "part"]) fun _ _ _ _ _ _ us hl => match us, hl with | [_, _], _ => rfl
  have FWh := fun_mk (st := sWhole) lWh cWh kWh
  have bWh := FWh.binds (ps := ["thing"]) fun _ _ _ _ _ _ us hl => match us, hl with | [_], _ => rfl
  have gWh := PySem.W.mg_of X G aWh
  have FNm := fun_mk (st := sName) lNm cNm kNm
  have bNm := FNm.binds (ps := ["thing"]) fun _ _ _ _ _ _ us hl => match us, hl with | [_], _ => rfl
  have gNm := PySem.W.mg_of X G aNm
  have FPl := fun_mk (st := sPlace) lPl cPl kPl
  have bPl := FPl.binds (ps := ["thing"]) fun _ _ _ _ _ _ us hl => match us, hl with | [_], _ => rfl
  have gPl := PySem.W.mg_of X G aPl
  have FTh := fun_mk (st := sThing) lTh cTh kTh
  have bTh := FTh.binds (ps := ["thing"]) fun _ _ _ _ _ _ us hl => match us, hl with | [_], _ => rfl
  have gTh := PySem.W.mg_of X G aTh
  have FNi := fun_mk (st := sNumIn) lNi cNi kNi
  have bNi := FNi.binds (ps := ["word"]) fun _ _ _ _ _ _ us hl => match us, hl with | [_], _ => rfl
  have gNi := PySem.W.mg_of X G aNi
  have FSh := fun_mk (st := sShow) lSh cSh kSh
  have bSh := FSh.binds (ps := ["world"]) fun _ _ _ _ _ _ us hl => match us, hl with | [_], _ => rfl
  have gSh := PySem.W.mg_of X G aSh
  have FTi := fun_mk (st := sThgIn) lTi cTi kTi
  have bTi := FTi.binds (ps := ["part"]) fun _ _ _ _ _ _ us hl => match us, hl with | [_], _ => rfl
  have gTi := PySem.W.mg_of X G aTi
  have FRd := fun_mk (st := sRead) lRd cRd kRd
  have bRd := FRd.binds (ps := ["text"]) fun _ _ _ _ _ _ us hl => match us, hl with | [_], _ => rfl
  have gRd := PySem.W.mg_of X G aRd
  have FPo := fun_mk (st := sPool) lPo cPo kPo
  have bPo := FPo.binds (ps := ["_law_cell"]) fun _ _ _ _ _ _ us hl => match us, hl with | [_], _ => rfl
  have gPo := PySem.W.mg_of X G aPo
  have FDr := fun_mk (st := sDraw) lDr cDr kDr
  have bDr := FDr.binds (ps := ["_law_pool_here", "_law_top"]) fun _ _ _ _ _ _ us hl => match us, hl with | [_, _], _ => rfl
  have gDr := PySem.W.mg_of X G aDr
  have FPa := fun_mk (st := sPart) lPa cPa kPa
  have bPa := FPa.binds (ps := ["_law_pool_here", "_law_names"]) fun _ _ _ _ _ _ us hl => match us, hl with | [_, _], _ => rfl
  have gPa := PySem.W.mg_of X G aPa
  have FBe := fun_mk (st := sBent) lBe cBe kBe
  have bBe := FBe.binds (ps := ["_law_pool_here", "_law_text_here"]) fun _ _ _ _ _ _ us hl => match us, hl with | [_, _], _ => rfl
  have gBe := PySem.W.mg_of X G aBe
  have FTx := fun_mk (st := sText) lTx cTx kTx
  have bTx := FTx.binds (ps := ["_law_cell"]) fun _ _ _ _ _ _ us hl => match us, hl with | [_], _ => rfl
  have gTx := PySem.W.mg_of X G aTx
  have FLn := fun_mk (st := sLNum) lLn cLn kLn
  have bLn := FLn.binds (ps := ["_law_word"]) fun _ _ _ _ _ _ us hl => match us, hl with | [_], _ => rfl
  have gLn := PySem.W.mg_of X G aLn
  have FLt := fun_mk (st := sLThg) lLt cLt kLt
  have bLt := FLt.binds (ps := ["_law_part_here"]) fun _ _ _ _ _ _ us hl => match us, hl with | [_], _ => rfl
  have gLt := PySem.W.mg_of X G aLt
  have FDu := fun_mk (st := sDue) lDu cDu kDu
  have bDu := FDu.binds (ps := ["_law_text_here"]) fun _ _ _ _ _ _ us hl => match us, hl with | [_], _ => rfl
  have gDu := PySem.W.mg_of X G aDu
  have FTo := fun_mk (st := sTold) lTo cTo kTo
  have bTo := FTo.binds (ps := ["_law_text_here"]) fun _ _ _ _ _ _ us hl => match us, hl with | [_], _ => rfl
  have gTo := PySem.W.mg_of X G aTo
  have FLa := fun_mk (st := sLaw) lLa cLa kLa
  refine ⟨PySem.W.fnOf "law" "law" (defArgs sLaw) (defBody sLaw) (defScope sLaw) .none kVLa dcLa pmLa anLa cdLa ctLa, fun s v => .of_eq rfl, fun base _ _ => ?_⟩
  have GNi : FnOk l.prog w K mg base CX0 1 fNi _ ["word"] spNumIn := ok_numIn FNi Tt
  have GNm : FnOk l.prog w K mg base CX0 1 fNm _ ["thing"] spName := ok_name FNm Tt
  have GTh : FnOk l.prog w K mg base CX0 3 fTh _ ["thing"] (spThing K) := ok_thing FTh Tt FWh bWh gWh FNm bNm gNm FPl bPl gPl
  have GTi : FnOk l.prog w K mg base CX0 4 fTi _ ["part"] spThgIn := ok_thgIn FTi Tt GNi FNi.kp bNi gNi GNm FNm.kp bNm gNm GTh FTh.kp bTh gTh
  have GSh : FnOk l.prog w K mg base CX0 1 fSh _ ["world"] spShow := ok_show FSh Tt
  have GRd : FnOk l.prog w K mg base (L2.CX l.prog w) 5 fRd _ ["text"] (spRead C) := ok_read FRd Tt Xx FIn bIn GTi FTi.kp bTi gTi
  have GPo : FnOk l.prog w K mg base CX0 1 fPo _ ["_law_cell"] spPool := ok_pool FPo Tt
  have GDr : FnOk l.prog w K mg base CX0 1 fDr _ ["_law_pool_here", "_law_top"] spDraw := ok_draw FDr Tt
  have GPa : FnOk l.prog w K mg base CX0 2 fPa _ ["_law_pool_here", "_law_names"] spPart := ok_part FPa Tt GDr FDr.kp bDr gDr
  have GBe : FnOk l.prog w K mg base CX0 2 fBe _ ["_law_pool_here", "_law_text_here"] spBent := ok_bent FBe Tt GDr FDr.kp bDr gDr
  have GTx : FnOk l.prog w K mg base CX0 3 fTx _ ["_law_cell"] spText := ok_text FTx Tt GPo FPo.kp bPo gPo GDr FDr.kp bDr gDr GPa FPa.kp bPa gPa GBe FBe.kp bBe gBe
  have GLn : FnOk l.prog w K mg base CX0 1 fLn _ ["_law_word"] spNumIn := ok_lnum FLn Tt
  have GLt : FnOk l.prog w K mg base CX0 2 fLt _ ["_law_part_here"] spThgIn := ok_lthg FLt Tt GLn FLn.kp bLn gLn
  have GDu : FnOk l.prog w K mg base CX0 3 fDu _ ["_law_text_here"] spDue := ok_due FDu Tt GLt FLt.kp bLt gLt
  have GTo : FnOk l.prog w K mg base CX0 6 fTo _ ["_law_text_here"] spDue := ok_told FTo Tt Xx GRd FRd.kp bRd gRd
  exact ok_law FLa Tt GTx FTx.kp bTx gTx GDu FDu.kp bDu gDu GTo FTo.kp bTo gTo GSh FSh.kp bSh gSh
end K5
open PySem PySem.W PyProof.Rows
set_option maxRecDepth 100000 in
set_option maxHeartbeats 0 in
theorem PySem.Challenge.cw_struckdeeds_k05_whole_texts_of_worlds_holds : PySem.Challenge.rw_struckdeeds_k05_whole_texts_of_worlds.Holds := by
  w_on; o_law; k_head; (case hw => w_witness2)
  k_fill
  refine L2.walk_of (l := PySem.Challenge.rw_struckdeeds_k05_whole_texts_of_worlds) (n := 63) (k := 7) (x := "_law_script") (CX := fun _ => L2.CX0) (sp := fun w => K5.spLaw _) rfl (by decide) rfl ⟨rfl, by decide, by decide⟩ (fun w h Y => PySem.W.kIn_of Y) ?F (fun _ _ a ns hl _ hS => ⟨a, ns, rfl, hS, hl, fun _ => rfl⟩) (fun _ _ _ _ _ h => h)
  case F =>
    intro w mg fa h KX G hmg
    refine' K5.all_mk KX G hmg ?aC ?aS ?xC ?saC ?exC ?tyC ?kpC ?clC ?suC ?gaC ?ggC ?hdC ?noP ?geS ?rdS ?fcS ?aIn ?tIn ?lIn ?cIn ?kIn ?aWh ?lWh ?cWh ?kWh ?aNm ?lNm ?cNm ?kNm ?aPl ?lPl ?cPl ?kPl ?aTh ?lTh ?cTh ?kTh ?aNi ?lNi ?cNi ?kNi ?aSh ?lSh ?cSh ?kSh ?aTi ?lTi ?cTi ?kTi ?aRd ?lRd ?cRd ?kRd ?aPo ?lPo ?cPo ?kPo ?aDr ?lDr ?cDr ?kDr ?aPa ?lPa ?cPa ?kPa ?aBe ?lBe ?cBe ?kBe ?aTx ?lTx ?cTx ?kTx ?aLn ?lLn ?cLn ?kLn ?aLt ?lLt ?cLt ?kLt ?aDu ?lDu ?cDu ?kDu ?aTo ?lTo ?cTo ?kTo ?aLa ?lLa ?cLa ?kLa ?z0 ?z1 ?z2 ?z3 ?z4 ?z5 ?z6 ?z7 ?z8 ?z9 ?z10 ?v1 ?v2 ?v3 ?v4
    (case aC => k_is); (case aS => k_is); (case xC => k_is); (case saC => k_is); (case exC => k_is); (case tyC => k_is); (case kpC => k_is); (case clC => k_is)
    (case suC => k_is); (case gaC => k_is); (case ggC => k_is); (case hdC => k_is); (case noP => k_is); (case geS => k_is); (case rdS => k_is); (case fcS => k_is)
    (case aIn => k_is); (case tIn => k_is); (case lIn => k_is); (case cIn => k_is); (case kIn => k_is); (case aWh => k_is); (case lWh => k_is); (case cWh => k_is)
    (case kWh => k_is); (case aNm => k_is); (case lNm => k_is); (case cNm => k_is); (case kNm => k_is); (case aPl => k_is); (case lPl => k_is); (case cPl => k_is)
    (case kPl => k_is); (case aTh => k_is); (case lTh => k_is); (case cTh => k_is); (case kTh => k_is); (case aNi => k_is); (case lNi => k_is); (case cNi => k_is)
    (case kNi => k_is); (case aSh => k_is); (case lSh => k_is); (case cSh => k_is); (case kSh => k_is); (case aTi => k_is); (case lTi => k_is); (case cTi => k_is)
    (case kTi => k_is); (case aRd => k_is); (case lRd => k_is); (case cRd => k_is); (case kRd => k_is); (case aPo => k_is); (case lPo => k_is); (case cPo => k_is)
    (case kPo => k_is); (case aDr => k_is); (case lDr => k_is); (case cDr => k_is); (case kDr => k_is); (case aPa => k_is); (case lPa => k_is); (case cPa => k_is)
    (case kPa => k_is); (case aBe => k_is); (case lBe => k_is); (case cBe => k_is); (case kBe => k_is); (case aTx => k_is); (case lTx => k_is); (case cTx => k_is)
    (case kTx => k_is); (case aLn => k_is); (case lLn => k_is); (case cLn => k_is); (case kLn => k_is); (case aLt => k_is); (case lLt => k_is); (case cLt => k_is)
    (case kLt => k_is); (case aDu => k_is); (case lDu => k_is); (case cDu => k_is); (case kDu => k_is); (case aTo => k_is); (case lTo => k_is); (case cTo => k_is)
    (case kTo => k_is); (case aLa => k_is); (case lLa => k_is); (case cLa => k_is); (case kLa => k_is); (case z0 => k_is); (case z1 => k_is); (case z2 => k_is)
    (case z3 => k_is); (case z4 => k_is); (case z5 => k_is); (case z6 => k_is); (case z7 => k_is); (case z8 => k_is); (case z9 => k_is); (case z10 => k_is)
    (case v1 => k_is); (case v2 => k_is); (case v3 => k_is); (case v4 => k_is)
