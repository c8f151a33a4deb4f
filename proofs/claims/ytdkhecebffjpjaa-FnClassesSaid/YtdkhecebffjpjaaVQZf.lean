import Derived.Test.YtdkhecebffjpjaaVQZe
import Derived.Test.YtdkhecebffjpjaaY0
import Derived.Test.YtdkhecebffjpjaaY8
import Derived.Test.YtdkhecebffjpjaaY9
import Derived.Test.YtdkhecebffjpjaaY11
import Derived.Test.YtdkhecebffjpjaaY12
import Derived.Test.YtdkhecebffjpjaaY14
import Derived.Test.YtdkhecebffjpjaaY15
namespace Go.Proofs.Ytdkhecebffjpjaa.X
set_option linter.unusedVariables false
set_option linter.unusedSimpArgs false
open Go.RowKit Go.Proofs.YtdkhecebffjpjaaW.PrintWords Go.Proofs.YtdkhecebffjpjaaW.PrintLast
def spanN (l : List S40) : Nat := mulF (gapsL l) 1
theorem spanN_range (l : List S40) (hl : l.length ≤ 8) (hg : ∀ x ∈ l, 1 ≤ x.f1 ∧ x.f1 ≤ 40) : 1 ≤ spanN l ∧ spanN l ≤ 6553600000000 := mulF_range (gapsL l) (by rw [gapsL_length]; exact hl) (gapsL_mem hg)
theorem implSpan_eq (l : List S40) (hl : l.length ≤ 8) (hg : ∀ x ∈ l, 1 ≤ x.f1 ∧ x.f1 ≤ 40) (k : Nat) (hk : 9223372036860000000 < k) : impl_Tasks_multiple.f k (gapsL l) = some ((spanN l : Nat) : Int) := multiple_eq (gapsL l) (by rw [gapsL_length]; exact hl) (gapsL_mem hg) k hk
theorem specSpan_l0 (l : List S40) (hl : l.length ≤ 8) (hg : ∀ x ∈ l, 1 ≤ x.f1 ∧ x.f1 ≤ 40) : ∀ (d i k : Nat) (x : Nat), i + d = l.length → 9223372036860000000 < k + 10 + i → 1 ≤ x → 40 ^ d * x ≤ 6553600000000 → spec_l05Span.l0 k l (x : Int) (i : Int) = some ((mulF (gapsL (l.drop i)) x : Nat) : Int) := by
 intro d
 induction d with
 | zero =>
  intro i k x hi hk h1 h2
  obtain ⟨k, rfl⟩ : ∃ m, k = m + 1 := ⟨k - 1, by omega⟩
  simp only [spec_l05Span.l0]
  rw [if_neg (by omega), List.drop_of_length_le (by omega)]
  rfl
 | succ d ih =>
  intro i k x hi hk h1 h2
  obtain ⟨k, rfl⟩ : ∃ m, k = m + 1 := ⟨k - 1, by omega⟩
  have hgi := hg _ (rdC_in l i (by omega))
  have hx : x ≤ 6553600000000 := Nat.le_trans (Nat.le_mul_of_pos_left x (Nat.pow_pos (by omega))) h2
  simp only [spec_l05Span.l0]
  rw [if_pos (by omega), if_pos (by omega), wrap_succ (n := l.length) (by omega) (by omega), dropC_rd l i (by omega)]
  generalize rd_T40 l (i : Int) = c at hgi
  obtain ⟨c0, c1⟩ := c
  simp only at hgi
  obtain ⟨n, rfl⟩ : ∃ n : Nat, c1 = (n : Int) := ⟨c1.toNat, by omega⟩
  have hle := lcmN_le x n (by omega)
  have h3 : 40 ^ d * lcmN x n ≤ 6553600000000 := by
   refine Nat.le_trans (Nat.mul_le_mul_left _ hle) ?_
   rw [← Nat.mul_assoc, ← Nat.pow_succ]
   exact h2
  rw [specLcm_eq x n (by omega) (by omega) (by omega) k (by omega), Option.bind_some, ih (i + 1) k _ (by omega) (by omega) (lcmN_pos x n h1 (by omega)) h3]
  simp only [gapsL, List.map_cons, mulF, Int.toNat_natCast]
theorem specSpan_eq (l : List S40) (hl : l.length ≤ 8) (hg : ∀ x ∈ l, 1 ≤ x.f1 ∧ x.f1 ≤ 40) (k : Nat) (hk : 9223372036860000000 < k) : spec_l05Span.f k l = some ((spanN l : Nat) : Int) := by
 unfold spec_l05Span.f spanN
 have := specSpan_l0 l hl hg l.length 0 k 1 (by omega) (by omega) (by omega) (by rw [Nat.mul_one]; exact pow40 _ hl)
 simp only [Int.natCast_zero, List.drop_zero, Int.natCast_one] at this
 exact this
theorem l05In_l0 (l : List S40) (hl : l.length ≤ 8) (hg : ∀ x ∈ l, 1 ≤ x.f1 ∧ x.f1 ≤ 40) (x : Int) : ∀ (d i k : Nat), i + d = l.length → d < k → (∀ j : Nat, j < i → hasB (rd_T40 l (j : Int)).f0 (rd_T40 l (j : Int)).f1 x = false) → spec_l05In.l0 k l x (i : Int) = some (idxC (fun c => hasB c.f0 c.f1 x) l) := by
 intro d
 induction d with
 | zero =>
  intro i k hi hk h
  obtain ⟨k, rfl⟩ : ∃ m, k = m + 1 := ⟨k - 1, by omega⟩
  simp only [spec_l05In.l0]
  rw [if_neg (by omega), idxC_miss _ l (fun j hj => h j (by omega))]
 | succ d ih =>
  intro i k hi hk h
  obtain ⟨k, rfl⟩ : ∃ m, k = m + 1 := ⟨k - 1, by omega⟩
  have hgi := hg _ (rdC_in l i (by omega))
  simp only [spec_l05In.l0]
  rw [if_pos (by omega), if_pos (by omega), if_neg (by omega), wrap_succ (n := l.length) (by omega) (by omega)]
  by_cases e : Int.tmod x (rd_T40 l (i : Int)).f1 = (rd_T40 l (i : Int)).f0
  ·rw [if_pos e, idxC_hit _ l i (by omega) h (by unfold hasB; rw [e]; simp)]
  ·rw [if_neg e, ih (i + 1) k (by omega) (by omega) ?_]
   intro j hj
   by_cases e2 : j = i
   ·subst e2
    unfold hasB
    simp [e]
   ·exact h j (by omega)
theorem l05In_eq (l : List S40) (hl : l.length ≤ 8) (hg : ∀ x ∈ l, 1 ≤ x.f1 ∧ x.f1 ≤ 40) (x : Int) (k : Nat) (hk : 10 < k) : spec_l05In.f k l x = some (idxC (fun c => hasB c.f0 c.f1 x) l) := by
 unfold spec_l05In.f
 have := l05In_l0 l hl hg x l.length 0 k (by omega) (by omega) (fun j hj => absurd hj (Nat.not_lt_zero _))
 simpa using this
def openP (l : List S40) (n : Nat) : Bool := l.all fun c => !(hasB c.f0 c.f1 (n : Int))
theorem idx_open (l : List S40) (n : Nat) : (idxC (fun c => hasB c.f0 c.f1 (n : Int)) l < 0) ↔ openP l n = true := by
 have h := idxC_any (fun c => hasB c.f0 c.f1 (n : Int)) l
 have e : openP l n = !(l.any fun c => hasB c.f0 c.f1 (n : Int)) := by
  unfold openP
  induction l with
  | nil => rfl
  | cons a t ih => rw [List.all_cons, List.any_cons, ih (idxC_any _ t), Bool.not_or]
 rw [e, ← h]
 simp
def openF (l : List S40) : Nat → Nat → Option Nat
 | 0, _ => none
 | d + 1, n => if openP l n = true then some n else openF l d (n + 1)
theorem specOpen_l0 (l : List S40) (hl : l.length ≤ 8) (hg : ∀ x ∈ l, 1 ≤ x.f1 ∧ x.f1 ≤ 40) (hs : spanN l ≤ 100000) : ∀ (d n k : Nat), n + d = spanN l → 9223372036860000100 + d < k → spec_l05Open.l0 k l (n : Int) = some (match openF l d n with | some m => (m : Int) | none => -1) := by
 intro d
 induction d with
 | zero =>
  intro n k hi hk
  obtain ⟨k, rfl⟩ : ∃ m, k = m + 1 := ⟨k - 1, by omega⟩
  simp only [spec_l05Open.l0, openF]
  rw [specSpan_eq l hl hg k (by omega), Option.bind_some, if_neg (by omega)]
 | succ d ih =>
  intro n k hi hk
  obtain ⟨k, rfl⟩ : ∃ m, k = m + 1 := ⟨k - 1, by omega⟩
  simp only [spec_l05Open.l0, openF]
  rw [specSpan_eq l hl hg k (by omega), Option.bind_some, if_pos (by omega), l05In_eq l hl hg _ k (by omega), Option.bind_some, wrap_succ (n := spanN l) (by omega) (by omega), ih (n + 1) k (by omega) (by omega)]
  by_cases h : openP l n = true
  ·rw [if_pos ((idx_open l n).mpr h), if_pos h]
  ·rw [if_neg (fun z => h ((idx_open l n).mp z)), if_neg h]
theorem specOpen_eq (l : List S40) (hl : l.length ≤ 8) (hg : ∀ x ∈ l, 1 ≤ x.f1 ∧ x.f1 ≤ 40) (hs : spanN l ≤ 100000) (k : Nat) (hk : 9223372036860300000 < k) : spec_l05Open.f k l = some (match openF l (spanN l) 0 with | some m => (m : Int) | none => -1) := by
 unfold spec_l05Open.f
 have := specOpen_l0 l hl hg hs (spanN l) 0 k (by omega) (by omega)
 simpa using this
theorem implOpen_l0 (l : List S40) (hg : gapsIn l = true) (hs : spanN l ≤ 100000) : ∀ (d n k : Nat), n + d = spanN l → d < k → impl_FirstUncovered.l0 k l ((spanN l : Nat) : Int) (n : Int) = some (match openF l d n with | some m => ((m : Int), 0) | none => (0, 4)) := by
 intro d
 induction d with
 | zero =>
  intro n k hi hk
  obtain ⟨k, rfl⟩ : ∃ m, k = m + 1 := ⟨k - 1, by omega⟩
  simp only [impl_FirstUncovered.l0, openF]
  rw [if_neg (by omega)]
 | succ d ih =>
  intro n k hi hk
  obtain ⟨k, rfl⟩ : ∃ m, k = m + 1 := ⟨k - 1, by omega⟩
  simp only [impl_FirstUncovered.l0, openF]
  rw [if_pos (by omega), impl_FirstUncovered_1.f, if_pos hg, Option.bind_some, wrap_succ (n := spanN l) (by omega) (by omega), ih (n + 1) k (by omega) (by omega)]
  by_cases h : openP l n = true
  ·rw [if_pos h, show (l.all fun c => !(hasB c.f0 c.f1 (n : Int))) = true from h, if_pos rfl]
  ·rw [if_neg h, if_neg (show ¬ (l.all fun c => !(hasB c.f0 c.f1 (n : Int))) = true from h)]
theorem implOpen_eq (l : List S40) (hl : l.length ≤ 8) (hg : ∀ x ∈ l, 1 ≤ x.f1 ∧ x.f1 ≤ 40) (hs : spanN l ≤ 100000) (k : Nat) (hk : 200000 < k) : impl_FirstUncovered.l0 k l ((spanN l : Nat) : Int) 0 = some (match openF l (spanN l) 0 with | some m => ((m : Int), 0) | none => (0, 4)) := by
 have := implOpen_l0 l (gapsIn_of hg) hs (spanN l) 0 k (by omega) (by omega)
 simpa using this
theorem specCode_eq (l : List S40) (hm : l.length ≤ 1048576) (k : Nat) (hk : 9223372036860000000 < k) : spec_l05Code.f k l = some (if areClassesB l = true then (if spanN l > 100000 then 3 else 0) else 1) := by
 unfold spec_l05Code.f
 rw [l05Are_eq l hm k (by omega), Option.bind_some]
 by_cases h : areClassesB l = true
 ·rw [if_pos h, if_pos h, specSpan_eq l (classes_len h).2 (fun x hx => by have := classes_mem h x hx; omega) k hk, Option.bind_some]
  by_cases h2 : spanN l > 100000
  ·rw [if_pos h2, if_pos (by omega)]
  ·rw [if_neg h2, if_neg (by omega)]
 ·rw [if_neg h, if_neg h]
def openR (l : List S40) : Int × Int := match openF l (spanN l) 0 with | some m => ((m : Int), 0) | none => (0, 4)
theorem implFirst_eq (l : List S40) (k : Nat) (hk : 9223372036864000000 < k) : impl_FirstUncovered.f k l = some (if areClassesB l = true then (if spanN l > 100000 then (0, 3) else openR l) else (0, 1)) := by
 unfold impl_FirstUncovered.f openR
 rw [impl_AreClasses.f, Option.bind_some]
 by_cases h : areClassesB l = true
 ·have h1 := (classes_len h).2
  have h3 : ∀ x ∈ l, 1 ≤ x.f1 ∧ x.f1 ≤ 40 := fun x hx => by have := classes_mem h x hx; omega
  rw [if_pos h, if_pos h, gapsOf_eq l h1 k (by omega), Option.bind_some, implSpan_eq l h1 h3 k (by omega), Option.bind_some]
  by_cases h2 : spanN l > 100000
  ·rw [if_pos h2, if_pos (by omega)]
  ·rw [if_neg h2, if_neg (by omega), implOpen_eq l h1 h3 (by omega) k (by omega)]
 ·rw [if_neg h, if_neg h]
def turnsF (l : List S40) : Nat → Nat → List Int
 | 0, _ => []
 | d + 1, n => idxC (fun c => hasB c.f0 c.f1 (n : Int)) l :: turnsF l d (n + 1)
theorem turnsF_length (l : List S40) : ∀ d n, (turnsF l d n).length = d
 | 0, _ => rfl
 | d + 1, n => by rw [turnsF, List.length_cons, turnsF_length l d]
end Go.Proofs.Ytdkhecebffjpjaa.X
