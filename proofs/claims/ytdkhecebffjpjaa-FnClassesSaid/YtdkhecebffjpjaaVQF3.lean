import Derived.Test.YtdkhecebffjpjaaVQZt
import Derived.Test.YtdkhecebffjpjaaVQW
import Derived.Test.YtdkhecebffjpjaaVQNc
import Derived.Test.YtdkhecebffjpjaaY0
import Derived.Test.YtdkhecebffjpjaaY8
import Derived.Test.YtdkhecebffjpjaaY9
import Derived.Test.YtdkhecebffjpjaaY10
import Derived.Test.YtdkhecebffjpjaaY12
import Derived.Test.YtdkhecebffjpjaaY13
import Derived.Test.YtdkhecebffjpjaaY14
import Derived.Test.YtdkhecebffjpjaaY15
import Derived.Test.YtdkhecebffjpjaaY19
import Derived.Test.YtdkhecebffjpjaaY20
import Derived.Test.YtdkhecebffjpjaaY21
import Derived.Test.YtdkhecebffjpjaaY22
import Derived.Test.YtdkhecebffjpjaaY24
namespace Go.Proofs.Ytdkhecebffjpjaa.X
set_option linter.unusedVariables false
set_option linter.unusedSimpArgs false
open Go.RowKit Go.Proofs.YtdkhecebffjpjaaW.PrintWords Go.Proofs.YtdkhecebffjpjaaW.PrintLast
theorem spec_AreApart_eq (l : List S40) (hll : l.length ≤ 1048576) : ∀ k, 3000000 < k → spec_AreApart.f k l = some (if areClassesB l = true then (apartAll l l.length 0, (0 : Int)) else (false, 1)) := by
 intro k hk
 unfold spec_AreApart.f
 rw [l05Are_eq l (by omega) k (by omega), Option.bind_some]
 by_cases h : areClassesB l = true
 ·rw [if_pos h, if_pos h, specApart_eq _ (classes_len h).2 (fun x hx => by have := classes_mem h x hx; omega) k (by omega), Option.bind_some]
 ·rw [if_neg h, if_neg h]
theorem impl_AreApart_eq (l : List S40) (hll : l.length ≤ 1048576) : ∀ k, 3000000 < k → impl_AreApart.f k l = some (if areClassesB l = true then (apartAll l l.length 0, (0 : Int)) else (false, 1)) := by
 intro k hk
 unfold impl_AreApart.f
 rw [impl_AreClasses.f, Option.bind_some]
 by_cases h : areClassesB l = true
 ·rw [if_pos h, if_pos h, implApart_eq _ (classes_len h).2 (fun x hx => by have := classes_mem h x hx; omega) k (by omega), Option.bind_some]
 ·rw [if_neg h, if_neg h]
theorem spec_AreExact_eq (l : List S40) (hll : l.length ≤ 1048576) : ∀ k, 9223372036865000000 < k → spec_AreExact.f k l = some (if areClassesB l = true then (exactB l, (0 : Int)) else (false, 1)) := by
 intro k hk
 unfold spec_AreExact.f
 rw [l05Are_eq l (by omega) k (by omega), Option.bind_some]
 by_cases h : areClassesB l = true
 ·rw [if_pos h, if_pos h, specExact_eq _ (classes_len h).2 (fun x hx => by have := classes_mem h x hx; omega) k (by omega), Option.bind_some]
 ·rw [if_neg h, if_neg h]
theorem impl_AreExact_eq (l : List S40) (hll : l.length ≤ 1048576) : ∀ k, 9223372036865000000 < k → impl_AreExact.f k l = some (if areClassesB l = true then (exactB l, (0 : Int)) else (false, 1)) := by
 intro k hk
 unfold impl_AreExact.f
 rw [impl_AreClasses.f, Option.bind_some]
 by_cases h : areClassesB l = true
 ·rw [if_pos h, if_pos h, implExact_eq _ (classes_len h).2 (fun x hx => by have := classes_mem h x hx; omega) k (by omega), Option.bind_some]
 ·rw [if_neg h, if_neg h]
theorem openR_code (l : List S40) : (openR l).2 = 0 ∨ (openR l).2 = 4 := by
 unfold openR
 cases openF l (spanN l) 0 with
 | none => right; rfl
 | some m => left; rfl
theorem spec_DoCover_eq (l : List S40) (hll : l.length ≤ 1048576) : ∀ k, 9223372036865000000 < k → spec_DoCover.f k l = some (if areClassesB l = true then (if spanN l > 100000 then (false, (3 : Int)) else (decide ((openR l).2 = 4), 0)) else (false, 1)) := by
 intro k hk
 unfold spec_DoCover.f
 rw [specCode_eq l (by omega) k (by omega), Option.bind_some]
 by_cases h : areClassesB l = true
 ·rw [if_pos h, if_pos h]
  by_cases h2 : spanN l > 100000
  ·rw [if_pos h2, if_pos h2, if_neg (by omega)]
  ·rw [if_neg h2, if_neg h2, if_pos rfl, specOpen_eq _ (classes_len h).2 (fun x hx => by have := classes_mem h x hx; omega) (by omega) k (by omega), Option.bind_some]
   unfold openR
   cases openF l (spanN l) 0 with
   | none => simp
   | some m =>
    simp only
    rw [decide_eq_false (show ¬ (m : Int) < 0 by omega)]
    simp
 ·rw [if_neg h, if_neg h, if_neg (by omega)]
theorem impl_DoCover_eq (l : List S40) (hll : l.length ≤ 1048576) : ∀ k, 9223372036865000000 < k → impl_DoCover.f k l = some (if areClassesB l = true then (if spanN l > 100000 then (false, (3 : Int)) else (decide ((openR l).2 = 4), 0)) else (false, 1)) := by
 intro k hk
 unfold impl_DoCover.f
 rw [implFirst_eq l k (by omega), Option.bind_some]
 by_cases h : areClassesB l = true
 ·rw [if_pos h, if_pos h]
  by_cases h2 : spanN l > 100000
  ·rw [if_pos h2, if_pos h2]
   simp
  ·rw [if_neg h2, if_neg h2]
   rcases openR_code l with e | e
   ·rw [if_pos e, e]
    simp
   ·rw [if_neg (by omega), if_pos e, e]
    simp
 ·rw [if_neg h, if_neg h]
  simp
theorem spec_FirstUncovered_eq (l : List S40) (hll : l.length ≤ 1048576) : ∀ k, 9223372036865000000 < k → spec_FirstUncovered.f k l = some (if areClassesB l = true then (if spanN l > 100000 then ((0 : Int), (3 : Int)) else openR l) else (0, 1)) := by
 intro k hk
 unfold spec_FirstUncovered.f
 rw [specCode_eq l (by omega) k (by omega), Option.bind_some]
 by_cases h : areClassesB l = true
 ·rw [if_pos h, if_pos h]
  by_cases h2 : spanN l > 100000
  ·rw [if_pos h2, if_pos h2, if_neg (by omega)]
  ·rw [if_neg h2, if_neg h2, if_pos rfl, specOpen_eq _ (classes_len h).2 (fun x hx => by have := classes_mem h x hx; omega) (by omega) k (by omega), Option.bind_some]
   unfold openR
   cases openF l (spanN l) 0 with
   | none =>
    simp only
    rw [if_pos (by omega)]
   | some m =>
    simp only
    rw [if_neg (by omega)]
 ·rw [if_neg h, if_neg h, if_neg (by omega)]
theorem impl_FirstUncovered_eq (l : List S40) (hll : l.length ≤ 1048576) : ∀ k, 9223372036865000000 < k → impl_FirstUncovered.f k l = some (if areClassesB l = true then (if spanN l > 100000 then ((0 : Int), (3 : Int)) else openR l) else (0, 1)) := by
 intro k hk
 exact implFirst_eq l k (by omega)
theorem specToC_l0 (l : List S40) (hl : l.length ≤ 8) (hg : ∀ x ∈ l, 1 ≤ x.f1 ∧ x.f1 ≤ 40) (hs : spanN l ≤ 120) : ∀ (d n k : Nat) (o : List Int), n + d = spanN l → 9223372036860000100 + d < k → o.length = n → spec_TurnsOfClasses.l0 k l o (n : Int) = some (o ++ turnsF l d n, 0) := by
 intro d
 induction d with
 | zero =>
  intro n k o hi hk ho
  obtain ⟨k, rfl⟩ : ∃ m, k = m + 1 := ⟨k - 1, by omega⟩
  simp only [spec_TurnsOfClasses.l0, turnsF]
  rw [specSpan_eq l hl hg k (by omega), Option.bind_some, if_neg (by omega), List.append_nil]
 | succ d ih =>
  intro n k o hi hk ho
  obtain ⟨k, rfl⟩ : ∃ m, k = m + 1 := ⟨k - 1, by omega⟩
  simp only [spec_TurnsOfClasses.l0, turnsF]
  rw [specSpan_eq l hl hg k (by omega), Option.bind_some, if_pos (by omega), l05In_eq l hl hg _ k (by omega), Option.bind_some, if_pos (by omega), wrap_succ (n := spanN l) (by omega) (by omega), ih (n + 1) k _ (by omega) (by omega) (by rw [List.length_append, List.length_singleton]; omega), List.append_assoc]
  rfl
theorem implToC_l0 (l : List S40) (hg : gapsIn l = true) (hs : spanN l ≤ 120) : ∀ (d n k : Nat) (o : List Int), n + d = spanN l → d < k → o.length = n → impl_TurnsOfClasses.l0 k l o ((spanN l : Nat) : Int) (n : Int) = some (o ++ turnsF l d n, 0) := by
 intro d
 induction d with
 | zero =>
  intro n k o hi hk ho
  obtain ⟨k, rfl⟩ : ∃ m, k = m + 1 := ⟨k - 1, by omega⟩
  simp only [impl_TurnsOfClasses.l0, turnsF]
  rw [if_neg (by omega), List.append_nil]
 | succ d ih =>
  intro n k o hi hk ho
  obtain ⟨k, rfl⟩ : ∃ m, k = m + 1 := ⟨k - 1, by omega⟩
  simp only [impl_TurnsOfClasses.l0, turnsF]
  rw [if_pos (by omega), impl_TurnsOfClasses_1.f, if_pos hg, Option.bind_some, if_pos (by omega), wrap_succ (n := spanN l) (by omega) (by omega), ih (n + 1) k _ (by omega) (by omega) (by rw [List.length_append, List.length_singleton]; omega), List.append_assoc]
  rfl
theorem spec_TurnsOfClasses_eq (l : List S40) (hll : l.length ≤ 1048576) : ∀ k, 9223372036865000000 < k → spec_TurnsOfClasses.f k l = some (if areClassesB l = true then (if apartAll l l.length 0 = true then (if spanN l > 120 then ([], 3) else (turnsF l (spanN l) 0, (0 : Int))) else ([], 5)) else ([], 1)) := by
 intro k hk
 unfold spec_TurnsOfClasses.f
 rw [l05Are_eq l (by omega) k (by omega), Option.bind_some]
 by_cases h : areClassesB l = true
 ·have h1 := (classes_len h).2
  have h3 : ∀ x ∈ l, 1 ≤ x.f1 ∧ x.f1 ≤ 40 := fun x hx => by have := classes_mem h x hx; omega
  rw [if_pos h, if_pos h, specApart_eq _ h1 h3 k (by omega), Option.bind_some]
  by_cases h2 : apartAll l l.length 0 = true
  ·rw [if_pos h2, if_pos h2, specSpan_eq _ h1 h3 k (by omega), Option.bind_some]
   by_cases h4 : spanN l > 120
   ·rw [if_pos h4, if_pos (by omega)]
   ·have e := specToC_l0 l h1 h3 (by omega) (spanN l) 0 k [] (by omega) (by omega) rfl
    simp only [Int.natCast_zero, List.nil_append] at e
    rw [if_neg h4, if_neg (by omega), e]
  ·rw [if_neg h2, if_neg h2]
 ·rw [if_neg h, if_neg h]
theorem impl_TurnsOfClasses_eq (l : List S40) (hll : l.length ≤ 1048576) : ∀ k, 9223372036865000000 < k → impl_TurnsOfClasses.f k l = some (if areClassesB l = true then (if apartAll l l.length 0 = true then (if spanN l > 120 then ([], 3) else (turnsF l (spanN l) 0, (0 : Int))) else ([], 5)) else ([], 1)) := by
 intro k hk
 unfold impl_TurnsOfClasses.f
 rw [impl_AreClasses.f, Option.bind_some]
 by_cases h : areClassesB l = true
 ·have h1 := (classes_len h).2
  have h3 : ∀ x ∈ l, 1 ≤ x.f1 ∧ x.f1 ≤ 40 := fun x hx => by have := classes_mem h x hx; omega
  rw [if_pos h, if_pos h, gapsOf_eq _ h1 k (by omega), Option.bind_some, implSpan_eq _ h1 h3 k (by omega), Option.bind_some, implApart_eq _ h1 h3 k (by omega), Option.bind_some]
  by_cases h2 : apartAll l l.length 0 = true
  ·rw [if_pos h2, if_pos h2]
   by_cases h4 : spanN l > 120
   ·rw [if_pos h4, if_pos (by omega)]
   ·have e := implToC_l0 l (gapsIn_of h3) (by omega) (spanN l) 0 k [] (by omega) (by omega) rfl
    simp only [Int.natCast_zero, List.nil_append] at e
    rw [if_neg h4, if_neg (by omega), e]
  ·rw [if_neg h2, if_neg h2]
 ·rw [if_neg h, if_neg h]
def stepC (l : List Int) (t : Int) : Option S40 := if waitsL l t = [] then none else if ((waitsL l t).all fun n => n == rd (waitsL l t) 0) = true then some ⟨(placesFrom t l 0).headD (-1), rd (waitsL l t) 0⟩ else none
def cotL (l : List Int) : Nat → Nat → Option (List S40)
 | 0, _ => some []
 | d + 1, i => match stepC l (i : Int) with
  | none => none
  | some c => (cotL l d (i + 1)).map (c :: ·)
theorem cotL_length (l : List Int) : ∀ (d i : Nat) (L : List S40), cotL l d i = some L → L.length = d
 | 0, _, L, h => by
  rw [← Option.some.inj h]
  rfl
 | d + 1, i, L, h => by
  simp only [cotL] at h
  cases hs : stepC l (i : Int) with
  | none => rw [hs] at h; cases h
  | some c =>
   rw [hs] at h
   simp only [Option.map_eq_some_iff] at h
   obtain ⟨L', h', rfl⟩ := h
   rw [List.length_cons, cotL_length l d (i + 1) L' h']
def okC (c : S40) : Bool := decide (c.f1 ≤ 40)
def endC (o : List S40) : Option (List S40) → List S40 × Int
 | none => ([], 4)
 | some L => if ((o ++ L).all okC) = true then (o ++ L, 0) else ([], 3)
def cotR (l : List Int) (m : Int) : List S40 × Int := if withinB m 1 8 = true then (if areTurnsB l m = true then endC [] (cotL l m.toNat 0) else ([], 2)) else ([], 2)
theorem waits_nil (l : List Int) (t : Int) : waitsL l t = [] ↔ placesFrom t l 0 = [] := by
 unfold waitsL
 cases h : placesFrom t l 0 with
 | nil => simp [waitsP]
 | cons p r =>
  constructor
  ·intro e
   have := waitsW_length p (l.length : Int) r p
   rw [show waitsW p (l.length : Int) p r = [] from e] at this
   simp at this
  ·intro e
   cases e
theorem index_first (l : List Int) (t : Int) (hl : l.length ≤ 120) (p : Int) (r : List Int) : ∀ (d i k : Nat), i + d = l.length → d < k → placesFrom t (l.drop i) (i : Int) = p :: r → slices_Index_int64_int64.l0 k l t (l.length : Int) (i : Int) = some p := by
 intro d
 induction d with
 | zero =>
  intro i k hi hk h
  rw [List.drop_of_length_le (by omega)] at h
  cases h
 | succ d ih =>
  intro i k hi hk h
  obtain ⟨k, rfl⟩ : ∃ m, k = m + 1 := ⟨k - 1, by omega⟩
  rw [places_drop t l i (by omega)] at h
  simp only [slices_Index_int64_int64.l0]
  rw [if_pos (by omega), if_pos (by omega), if_pos (by omega), wrap_succ (n := l.length) (by omega) (by omega)]
  by_cases e : rd l (i : Int) = t
  ·rw [if_pos e] at h
   rw [if_pos e.symm, (List.cons.inj h).1]
  ·rw [if_neg e] at h
   rw [if_neg (fun z => e z.symm), ih (i + 1) k (by omega) (by omega) h]
theorem specCot_l2 (l : List Int) (m t : Int) (o : List S40) (g : Bool) (w : List Int) (hl : l.length ≤ 120) (hw : 0 < w.length) (ho : o.length ≤ 8) (p : Int) (r : List Int) : ∀ (d i k : Nat), i + d = l.length → d < k → placesFrom t (l.drop i) (i : Int) = p :: r →
  ∃ k', k ≤ k' + d + 1 ∧ spec_ClassesOfTurns.l2 k l m o g t w (i : Int) = spec_ClassesOfTurns.l0 k' l m (o ++ [⟨p, rd w 0⟩]) (g || decide (rd w 0 > 40)) (wrap64 (t + 1)) := by
 intro d
 induction d with
 | zero =>
  intro i k hi hk h
  rw [List.drop_of_length_le (by omega)] at h
  cases h
 | succ d ih =>
  intro i k hi hk h
  obtain ⟨k, rfl⟩ : ∃ m, k = m + 1 := ⟨k - 1, by omega⟩
  rw [places_drop t l i (by omega)] at h
  simp only [spec_ClassesOfTurns.l2]
  rw [if_pos (by omega), if_pos (by omega), wrap_succ (i := i) (n := l.length) (by omega) (by omega)]
  by_cases e : rd l (i : Int) = t
  ·rw [if_pos e] at h
   refine ⟨k, by omega, ?_⟩
   rw [if_pos e, (List.cons.inj h).1]
   cases g
   ·rw [if_neg Bool.false_ne_true, if_pos (by omega), if_pos (by omega), Bool.false_or]
   ·rw [if_pos rfl, if_pos (by omega), if_pos (by omega), Bool.true_or]
  ·rw [if_neg e] at h
   obtain ⟨k', h1, h2⟩ := ih (i + 1) k (by omega) (by omega) h
   exact ⟨k', by omega, by rw [if_neg e, h2]⟩
theorem specCot_l1 (l : List Int) (m t : Int) (o : List S40) (g : Bool) (w : List Int) (hw : w.length ≤ 120) (hw0 : 0 < w.length) : ∀ (d i k : Nat), i + d = w.length → d < k →
  ∃ k', k ≤ k' + d + 1 ∧ spec_ClassesOfTurns.l1 k l m o g t w (i : Int) = if ((w.drop i).all fun n => n == rd w 0) = true then spec_ClassesOfTurns.l2 k' l m o g t w 0 else some ([], 4) := by
 intro d
 induction d with
 | zero =>
  intro i k hi hk
  obtain ⟨k, rfl⟩ : ∃ m, k = m + 1 := ⟨k - 1, by omega⟩
  refine ⟨k, by omega, ?_⟩
  simp only [spec_ClassesOfTurns.l1]
  rw [if_neg (by omega), List.drop_of_length_le (by omega)]
  rfl
 | succ d ih =>
  intro i k hi hk
  obtain ⟨k, rfl⟩ : ∃ m, k = m + 1 := ⟨k - 1, by omega⟩
  obtain ⟨k', h1, h2⟩ := ih (i + 1) k (by omega) (by omega)
  refine ⟨k', by omega, ?_⟩
  simp only [spec_ClassesOfTurns.l1]
  rw [if_pos (by omega), if_pos (by omega), if_pos (by omega), wrap_succ (i := i) (n := w.length) (by omega) (by omega), h2, drop_rd w i (by omega), List.all_cons]
  by_cases e : rd w (i : Int) = rd w 0
  ·rw [if_pos e, e, beq_self_eq_true, Bool.true_and]
  ·rw [if_neg e, beq_eq_false_iff_ne.mpr e, Bool.false_and, if_neg Bool.false_ne_true]
theorem all_first (w : List Int) (h : 0 < w.length) : (w.all fun n => n == rd w 0) = ((w.drop 1).all fun n => n == rd w 0) := by
 have hd := drop_rd w 0 h
 simp only [Int.natCast_zero, List.drop_zero, Nat.zero_add] at hd
 generalize rd w 0 = x at hd
 rw [show (w.all fun n => n == x) = ((x :: w.drop 1).all fun n => n == x) by rw [← hd], List.all_cons, beq_self_eq_true, Bool.true_and]
theorem specCot_l0 (l : List Int) (m : Nat) (hl : l.length ≤ 120) (hm : m ≤ 8) : ∀ (d i k : Nat) (o : List S40), i + d = m → 1000 + 400 * d < k → o.length = i → spec_ClassesOfTurns.l0 k l (m : Int) o (!(o.all okC)) (i : Int) = some (endC o (cotL l d i)) := by
 intro d
 induction d with
 | zero =>
  intro i k o hi hk ho
  obtain ⟨k, rfl⟩ : ∃ m, k = m + 1 := ⟨k - 1, by omega⟩
  simp only [spec_ClassesOfTurns.l0, cotL, endC, List.append_nil]
  rw [if_neg (by omega)]
  cases o.all okC <;> rfl
 | succ d ih =>
  intro i k o hi hk ho
  obtain ⟨k, rfl⟩ : ∃ m, k = m + 1 := ⟨k - 1, by omega⟩
  have hwl := waitsL_length l (i : Int)
  simp only [spec_ClassesOfTurns.l0, cotL]
  rw [if_pos (by omega), l01Waits_eq l _ (by omega) k (by omega), Option.bind_some]
  by_cases h : waitsL l (i : Int) = []
  ·rw [if_pos (by rw [h]; rfl), show stepC l (i : Int) = none by unfold stepC; rw [if_pos h]]
   rfl
  ·have h0 : 0 < (waitsL l (i : Int)).length := List.length_pos_iff.mpr h
   have hp : placesFrom (i : Int) l 0 ≠ [] := fun z => h ((waits_nil l _).mpr z)
   obtain ⟨k1, hk1, e1⟩ := specCot_l1 l (m : Int) (i : Int) o (!(o.all okC)) _ (by omega) h0 ((waitsL l (i : Int)).length - 1) 1 k (by omega) (by omega)
   simp only [Int.natCast_one] at e1
   rw [if_neg (by omega), e1, ← all_first _ h0]
   by_cases h2 : ((waitsL l (i : Int)).all fun n => n == rd (waitsL l (i : Int)) 0) = true
   ·obtain ⟨p, r, hpr⟩ : ∃ p r, placesFrom (i : Int) l 0 = p :: r := by
     cases hq : placesFrom (i : Int) l 0 with
     | nil => exact absurd hq hp
     | cons p r => exact ⟨p, r, rfl⟩
    obtain ⟨k2, hk2, e2⟩ := specCot_l2 l (m : Int) (i : Int) o (!(o.all okC)) _ hl h0 (by omega) p r l.length 0 k1 (by omega) (by omega) (by simpa using hpr)
    simp only [Int.natCast_zero] at e2
    have hst : stepC l (i : Int) = some ⟨p, rd (waitsL l (i : Int)) 0⟩ := by
     unfold stepC
     rw [if_neg h, if_pos h2, hpr]
     rfl
    have hgr : (!(o.all okC) || decide (rd (waitsL l (i : Int)) 0 > 40)) = !((o ++ [(⟨p, rd (waitsL l (i : Int)) 0⟩ : S40)]).all okC) := by
     rw [List.all_append, List.all_cons, List.all_nil, Bool.and_true]
     unfold okC
     simp only
     by_cases hz : rd (waitsL l (i : Int)) 0 ≤ 40
     ·rw [decide_eq_true hz, decide_eq_false (by omega)]
      simp
     ·rw [decide_eq_false hz, decide_eq_true (by omega)]
      simp
    rw [if_pos h2, e2, hgr, wrap_succ (n := m) (by omega) (by omega), ih (i + 1) k2 _ (by omega) (by omega) (by rw [List.length_append, List.length_singleton]; omega), hst]
    simp only
    cases cotL l d (i + 1) with
    | none => rfl
    | some L => simp [endC]
   ·rw [if_neg h2, show stepC l (i : Int) = none by unfold stepC; rw [if_neg h, if_neg h2]]
    rfl
theorem implCot_l0 (l : List Int) (m : Nat) (hl : l.length ≤ 120) (hm : m ≤ 8) : ∀ (d i k : Nat) (o : List S40), i + d = m → 1000 + d < k → o.length = i → impl_ClassesOfTurns.l0 k l o (m : Int) (i : Int) = some (endC o (cotL l d i)) := by
 intro d
 induction d with
 | zero =>
  intro i k o hi hk ho
  obtain ⟨k, rfl⟩ : ∃ m, k = m + 1 := ⟨k - 1, by omega⟩
  simp only [impl_ClassesOfTurns.l0, cotL, endC, List.append_nil]
  rw [if_neg (by omega), impl_ClassesOfTurns_2.f, Option.bind_some]
  by_cases h : (o.all okC) = true
  ·rw [if_pos h, if_pos (show (o.all fun c => decide (c.f1 ≤ 40)) = true from h)]
  ·rw [if_neg h, if_neg (show ¬ (o.all fun c => decide (c.f1 ≤ 40)) = true from h)]
 | succ d ih =>
  intro i k o hi hk ho
  obtain ⟨k, rfl⟩ : ∃ m, k = m + 1 := ⟨k - 1, by omega⟩
  have hwl := waitsL_length l (i : Int)
  simp only [impl_ClassesOfTurns.l0, cotL]
  rw [if_pos (by omega), waits_eq l _ (by omega) k (by omega), Option.bind_some]
  by_cases h : waitsL l (i : Int) = []
  ·rw [if_pos (by rw [h]; rfl), show stepC l (i : Int) = none by unfold stepC; rw [if_pos h]]
   rfl
  ·have h0 : 0 < (waitsL l (i : Int)).length := List.length_pos_iff.mpr h
   have hp : placesFrom (i : Int) l 0 ≠ [] := fun z => h ((waits_nil l _).mpr z)
   rw [if_neg (by omega), impl_ClassesOfTurns_1.f, if_pos h0, Option.bind_some]
   by_cases h2 : ((waitsL l (i : Int)).all fun n => n == rd (waitsL l (i : Int)) 0) = true
   ·obtain ⟨p, r, hpr⟩ : ∃ p r, placesFrom (i : Int) l 0 = p :: r := by
     cases hq : placesFrom (i : Int) l 0 with
     | nil => exact absurd hq hp
     | cons p r => exact ⟨p, r, rfl⟩
    have e2 := index_first l (i : Int) hl p r l.length 0 k (by omega) (by omega) (by simpa using hpr)
    simp only [Int.natCast_zero] at e2
    have hst : stepC l (i : Int) = some ⟨p, rd (waitsL l (i : Int)) 0⟩ := by
     unfold stepC
     rw [if_neg h, if_pos h2, hpr]
     rfl
    rw [if_pos h2, slices_Index_int64_int64.f, e2, Option.bind_some, if_pos (by omega), if_pos (by omega), wrap_succ (n := m) (by omega) (by omega), ih (i + 1) k _ (by omega) (by omega) (by rw [List.length_append, List.length_singleton]; omega), hst]
    simp only
    cases cotL l d (i + 1) with
    | none => rfl
    | some L => simp [endC]
   ·rw [if_neg h2, show stepC l (i : Int) = none by unfold stepC; rw [if_neg h, if_neg h2]]
    rfl
theorem spec_ClassesOfTurns_eq (l : List Int) (m : Int) (hll : l.length ≤ 1048576) : ∀ k, 3000000 < k → spec_ClassesOfTurns.f k l m = some (cotR l m) := by
 intro k hk
 unfold spec_ClassesOfTurns.f cotR
 obtain ⟨k, rfl⟩ : ∃ m, k = m + 1 := ⟨k - 1, by omega⟩
 rw [l01In_f, Option.bind_some]
 by_cases h : withinB m 1 8 = true
 ·have hm := h
  unfold withinB at hm
  simp only [Bool.and_eq_true, decide_eq_true_eq] at hm
  rw [if_pos h, if_pos h, l01Turns_eq l _ (by omega) _ (by omega), Option.bind_some]
  simp only [spec_ClassesOfTurns.j0]
  by_cases h2 : areTurnsB l m = true
  ·have hl := areTurns_len h2
   obtain ⟨b, rfl⟩ : ∃ b : Nat, m = (b : Int) := ⟨m.toNat, by omega⟩
   have e := specCot_l0 l b hl.2 (by omega) b 0 k [] (by omega) (by omega) rfl
   simp only [Int.natCast_zero, List.all_nil, Bool.not_true] at e
   rw [if_pos h2, h2, if_neg (by simp), e, toNat_nat]
  ·rw [if_neg h2]
   simp only [Bool.not_eq_true] at h2
   rw [h2, if_pos (by simp)]
 ·rw [if_neg h, if_neg h]
  simp only [spec_ClassesOfTurns.j0]
  rw [if_pos trivial]
theorem impl_ClassesOfTurns_eq (l : List Int) (m : Int) (hll : l.length ≤ 1048576) : ∀ k, 3000000 < k → impl_ClassesOfTurns.f k l m = some (cotR l m) := by
 intro k hk
 unfold impl_ClassesOfTurns.f cotR
 obtain ⟨k, rfl⟩ : ∃ m, k = m + 1 := ⟨k - 1, by omega⟩
 rw [within_f, Option.bind_some]
 by_cases h : withinB m 1 8 = true
 ·have hm := h
  unfold withinB at hm
  simp only [Bool.and_eq_true, decide_eq_true_eq] at hm
  rw [if_pos h, if_pos h, impl_areTurns.f, Option.bind_some]
  simp only [impl_ClassesOfTurns.j0]
  by_cases h2 : areTurnsB l m = true
  ·have hl := areTurns_len h2
   obtain ⟨b, rfl⟩ : ∃ b : Nat, m = (b : Int) := ⟨m.toNat, by omega⟩
   have e := implCot_l0 l b hl.2 (by omega) b 0 k [] (by omega) (by omega) rfl
   simp only [Int.natCast_zero] at e
   rw [if_pos h2, h2, if_neg (by simp), e, toNat_nat]
  ·rw [if_neg h2]
   simp only [Bool.not_eq_true] at h2
   rw [h2, if_pos (by simp)]
 ·rw [if_neg h, if_neg h]
  simp only [impl_ClassesOfTurns.j0]
  rw [if_pos trivial]
def waitsR (l : List Int) (i : Int) : List Int × Int := if areTurnsB l 8 = true then (if withinB i 0 7 = true then (waitsL l i, 0) else ([], 2)) else ([], 2)
theorem impl_WaitsOf_eq (l : List Int) (i : Int) (hl : l.length ≤ 1048576) : ∀ k, 3000000 < k → impl_WaitsOf.f k l i = some (waitsR l i) := by
 intro k hk
 unfold impl_WaitsOf.f waitsR
 rw [impl_areTurns.f, Option.bind_some]
 by_cases h : areTurnsB l 8 = true
 ·rw [if_pos h, if_pos h, within_f, Option.bind_some]
  by_cases h2 : withinB i 0 7 = true
  ·rw [if_pos h2, if_pos h2, waits_eq l i hl _ (by omega), Option.bind_some]
  ·rw [if_neg h2, if_neg h2]
 ·rw [if_neg h, if_neg h]
end Go.Proofs.Ytdkhecebffjpjaa.X
