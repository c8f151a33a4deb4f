import Derived.Test.YtdkhecebffjpjaaVQB
import Derived.Test.YtdkhecebffjpjaaY19
import Derived.Test.YtdkhecebffjpjaaY20
import Derived.Test.YtdkhecebffjpjaaY23
namespace Go.Proofs.Ytdkhecebffjpjaa.X
set_option linter.unusedVariables false
set_option linter.unusedSimpArgs false
open Go.RowKit Go.Proofs.YtdkhecebffjpjaaW.PrintWords Go.Proofs.YtdkhecebffjpjaaW.PrintLast
def placesFrom (t : Int) : List Int → Int → List Int
 | [], _ => []
 | x :: xs, j => if x = t then j :: placesFrom t xs (j + 1) else placesFrom t xs (j + 1)
theorem places_len (t : Int) : ∀ (xs : List Int) (j : Int), (placesFrom t xs j).length ≤ xs.length
 | [], _ => by simp [placesFrom]
 | x :: xs, j => by
  have ih := places_len t xs (j + 1)
  simp only [placesFrom]
  by_cases e : x = t
  ·rw [if_pos e]
   simp only [List.length_cons]
   omega
  ·rw [if_neg e]
   simp only [List.length_cons]
   omega
def waitsW (f n : Int) : Int → List Int → List Int
 | p, [] => [n - p + f]
 | p, q :: r => (q - p) :: waitsW f n q r
def waitsP (n : Int) : List Int → List Int
 | [] => []
 | p :: r => waitsW p n p r
def waitsL (l : List Int) (t : Int) : List Int := waitsP (l.length : Int) (placesFrom t l 0)
theorem waitsW_length (f n : Int) : ∀ (r : List Int) (p : Int), (waitsW f n p r).length = r.length + 1
 | [], p => rfl
 | q :: r, p => by simp [waitsW, waitsW_length f n r q]
theorem waitsL_length (l : List Int) (t : Int) : (waitsL l t).length ≤ l.length := by
 unfold waitsL
 have h := places_len t l 0
 cases hp : placesFrom t l 0 with
 | nil => simp [waitsP]
 | cons p r =>
  rw [hp] at h
  simp only [waitsP, waitsW_length]
  simpa using h
theorem places_drop (t : Int) (l : List Int) (i : Nat) (h : i < l.length) : placesFrom t (l.drop i) (i : Int) = if rd l (i : Int) = t then (i : Int) :: placesFrom t (l.drop (i + 1)) ((i + 1 : Nat) : Int) else placesFrom t (l.drop (i + 1)) ((i + 1 : Nat) : Int) := by
 rw [drop_rd l i h]
 simp only [placesFrom, Int.natCast_add, Int.natCast_one]
theorem l01Waits_some (l : List Int) (t : Int) (hm : l.length ≤ 1048576) : ∀ (d i k : Nat) (out : List Int) (f p : Int), i + d = l.length → d < k → out.length ≤ i → 0 ≤ f → f ≤ p → p < (i : Int) → spec_l01Waits.l0 k l t out f p (i : Int) = some (out ++ waitsW f (l.length : Int) p (placesFrom t (l.drop i) (i : Int))) := by
 intro d
 induction d with
 | zero =>
  intro i k out f p hi hk ho hf hfp hp
  obtain ⟨k, rfl⟩ : ∃ m, k = m + 1 := ⟨k - 1, by omega⟩
  simp only [spec_l01Waits.l0]
  rw [if_neg (by omega), if_pos (by omega), if_pos (by omega), List.drop_of_length_le (by omega), wrap64_id (x := (l.length : Int) - p) (by omega) (by omega), wrap64_id (by omega) (by omega)]
  rfl
 | succ d ih =>
  intro i k out f p hi hk ho hf hfp hp
  obtain ⟨k, rfl⟩ : ∃ m, k = m + 1 := ⟨k - 1, by omega⟩
  simp only [spec_l01Waits.l0]
  rw [if_pos (by omega), if_pos (by omega), wrap_succ (n := l.length) (by omega) (by omega), places_drop t l i (by omega)]
  by_cases h : rd l (i : Int) = t
  ·rw [if_pos h, if_pos h, if_neg (by omega), if_pos (by omega), wrap64_id (by omega) (by omega), ih (i + 1) k _ f (i : Int) (by omega) (by omega) (by simp; omega) hf (by omega) (by omega), List.append_assoc]
   rfl
  ·rw [if_neg h, if_neg h, ih (i + 1) k out f p (by omega) (by omega) (by omega) hf hfp (by omega)]
theorem l01Waits_none (l : List Int) (t : Int) (hm : l.length ≤ 1048576) : ∀ (d i k : Nat), i + d = l.length → d < k → spec_l01Waits.l0 k l t [] (-1) (-1) (i : Int) = some (waitsP (l.length : Int) (placesFrom t (l.drop i) (i : Int))) := by
 intro d
 induction d with
 | zero =>
  intro i k hi hk
  obtain ⟨k, rfl⟩ : ∃ m, k = m + 1 := ⟨k - 1, by omega⟩
  simp only [spec_l01Waits.l0]
  rw [if_neg (by omega), if_neg (by omega), List.drop_of_length_le (by omega)]
  rfl
 | succ d ih =>
  intro i k hi hk
  obtain ⟨k, rfl⟩ : ∃ m, k = m + 1 := ⟨k - 1, by omega⟩
  simp only [spec_l01Waits.l0]
  rw [if_pos (by omega), if_pos (by omega), wrap_succ (n := l.length) (by omega) (by omega), places_drop t l i (by omega)]
  by_cases h : rd l (i : Int) = t
  ·rw [if_pos h, if_pos h, if_pos (by omega), l01Waits_some l t hm d (i + 1) k [] (i : Int) (i : Int) (by omega) (by omega) (by simp) (by omega) (by omega) (by omega)]
   rfl
  ·rw [if_neg h, if_neg h, ih (i + 1) k (by omega) (by omega)]
theorem l01Waits_eq (l : List Int) (t : Int) (hm : l.length ≤ 1048576) (k : Nat) (hk : l.length < k) : spec_l01Waits.f k l t = some (waitsL l t) := by
 unfold spec_l01Waits.f waitsL
 have := l01Waits_none l t hm l.length 0 k (by omega) hk
 simpa using this
theorem waits_l1 (x0 P : List Int) (hx : x0.length ≤ 1048576) (hP : P.length ≤ 1048576) (hr : ∀ q ∈ P, 0 ≤ q ∧ q < (x0.length : Int)) : ∀ (d i k : Nat) (out : List Int), i + d = P.length → d < k → out.length ≤ i → impl_waits.l1 k x0 P out P (P.length : Int) (i : Int) = some (out ++ (match P.drop i with | [] => [] | p :: r => waitsW (rd P 0) (x0.length : Int) p r)) := by
 intro d
 induction d with
 | zero =>
  intro i k out hi hk ho
  obtain ⟨k, rfl⟩ : ∃ m, k = m + 1 := ⟨k - 1, by omega⟩
  simp only [impl_waits.l1]
  rw [if_neg (by omega), List.drop_of_length_le (by omega)]
  simp
 | succ d ih =>
  intro i k out hi hk ho
  obtain ⟨k, rfl⟩ : ∃ m, k = m + 1 := ⟨k - 1, by omega⟩
  have h0 := hr _ (rd_in P 0 (by omega))
  have hi0 := hr _ (rd_in P i (by omega))
  simp only [Int.natCast_zero] at h0
  simp only [impl_waits.l1]
  rw [if_pos (by omega), if_pos (by omega), if_pos (by omega), wrap_succ (n := P.length) (by omega) (by omega)]
  by_cases h : i + 1 < P.length
  ·have hi1 := hr _ (rd_in P (i + 1) h)
   rw [if_pos (by omega), if_pos (by omega), if_pos (by omega), wrap64_id (by omega) (by omega), ih (i + 1) k _ (by omega) (by omega) (by simp; omega), drop_rd P i (by omega), drop_rd P (i + 1) h]
   simp [waitsW]
  ·rw [if_neg (by omega), if_pos (by omega), impl_length_int64.f, Option.bind_some, if_pos (by omega), wrap64_id (x := rd P 0 + (x0.length : Int)) (by omega) (by omega), wrap64_id (by omega) (by omega), ih (i + 1) k _ (by omega) (by omega) (by simp; omega), drop_rd P i (by omega), List.drop_of_length_le (l := P) (i := i + 1) (by omega)]
   simp only [waitsW, List.append_nil]
   rw [show rd P 0 + (x0.length : Int) - rd P (i : Int) = (x0.length : Int) - rd P (i : Int) + rd P 0 by omega]
theorem waits_l0 (l : List Int) (t : Int) (hm : l.length ≤ 1048576) : ∀ (d i k : Nat) (P : List Int), i + d = l.length → d + l.length + 1 < k → P.length ≤ i → (∀ q ∈ P, 0 ≤ q ∧ q < (l.length : Int)) → impl_waits.l0 k l t P l (l.length : Int) (i : Int) = some (waitsP (l.length : Int) (P ++ placesFrom t (l.drop i) (i : Int))) := by
 intro d
 induction d with
 | zero =>
  intro i k P hi hk hp hr
  obtain ⟨k, rfl⟩ : ∃ m, k = m + 1 := ⟨k - 1, by omega⟩
  simp only [impl_waits.l0]
  rw [if_neg (by omega), List.drop_of_length_le (by omega)]
  have := waits_l1 l P hm (by omega) hr P.length 0 k [] (by omega) (by omega) (by simp)
  simp only [Int.natCast_zero, List.nil_append, List.drop_zero] at this
  rw [this]
  cases P with
  | nil => rfl
  | cons p r => simp [waitsP, placesFrom, rd]
 | succ d ih =>
  intro i k P hi hk hp hr
  obtain ⟨k, rfl⟩ : ∃ m, k = m + 1 := ⟨k - 1, by omega⟩
  simp only [impl_waits.l0]
  rw [if_pos (by omega), if_pos (by omega), if_pos (by omega), wrap_succ (n := l.length) (by omega) (by omega), places_drop t l i (by omega)]
  by_cases h : rd l (i : Int) = t
  ·rw [if_pos h, if_pos h, if_pos (by omega), ih (i + 1) k _ (by omega) (by omega) (by simp; omega) (by
    intro q hq
    rcases List.mem_append.1 hq with hq | hq
    ·exact hr q hq
    ·simp only [List.mem_singleton] at hq
     omega), List.append_assoc]
   rfl
  ·rw [if_neg h, if_neg h, ih (i + 1) k P (by omega) (by omega) (by omega) hr]
theorem waits_eq (l : List Int) (t : Int) (hm : l.length ≤ 1048576) (k : Nat) (hk : 2 * l.length + 1 < k) : impl_waits.f k l t = some (waitsL l t) := by
 unfold impl_waits.f waitsL
 have := waits_l0 l t hm l.length 0 k [] (by omega) (by omega) (by simp) (by simp)
 simpa using this
end Go.Proofs.Ytdkhecebffjpjaa.X
