/- Turns shifted; no condition beside those stated. -/
import Derived.Test.YtndbfmbejopkkaaQB
import Derived.Test.YtndbfmbejopkkaaX0
import Derived.Test.YtndbfmbejopkkaaX22
import Derived.Test.YtndbfmbejopkkaaX23
import Derived.Test.YtndbfmbejopkkaaX24
namespace Go.Proofs.Ytndbfmbejopkkaa.X
set_option linter.unusedVariables false
set_option linter.unusedSimpArgs false
open Go.RowKit Go.Proofs.YtndbfmbejopkkaaW.PrintWords Go.Proofs.YtndbfmbejopkkaaW.PrintLast
theorem concat_l0 (a b : List Int) (hm : a.length + b.length ≤ 1048576) (k : Nat) (hk : 10 < k) : slices_Concat_int64_int64.f k [a, b] = some (a ++ b) := by
  unfold slices_Concat_int64_int64.f
  obtain ⟨k, rfl⟩ : ∃ m, k = m + 10 := ⟨k - 10, by omega⟩
  have r0 : rd_L1 [a, b] 0 = a := rfl
  have r1 : rd_L1 [a, b] 1 = b := rfl
  have w0 : wrap64 (0 + (a.length : Int)) = (a.length : Int) := by rw [wrap64_id (by omega) (by omega)]; omega
  have w1 : wrap64 ((a.length : Int) + (b.length : Int)) = (a.length : Int) + (b.length : Int) := wrap64_id (by omega) (by omega)
  have i1 : wrap64 (0 + 1) = 1 := wrap64_id (by omega) (by omega)
  have i2 : wrap64 (1 + 1) = 2 := wrap64_id (by omega) (by omega)
  have n2 : (([a, b] : List (List Int)).length : Int) = 2 := rfl
  rw [n2]
  simp only [slices_Concat_int64_int64.l0, n2]
  rw [if_pos (by omega), if_pos (by omega), if_pos (by omega), r0, w0, if_neg (by omega), i1, if_pos (by omega), if_pos (by omega), if_pos (by omega), r1, w1, if_neg (by omega), i2, if_neg (by omega), slices_Grow_int64_int64.f, if_pos ⟨by omega, by omega⟩, Option.bind_some]
  simp only [slices_Concat_int64_int64.l1, n2]
  rw [if_pos (by omega), if_pos (by omega), if_pos (by omega), r0, i1, if_pos (by simp; omega), if_pos (by omega), if_pos (by omega), if_pos (by omega), r1, i2, if_pos (by simp; omega), if_neg (by omega)]
  simp
def shiftL (l : List Int) (n : Nat) : List Int := l.drop n ++ l.take n
theorem shiftL_length (l : List Int) (n : Nat) : (shiftL l n).length = l.length := by
  unfold shiftL
  rw [List.length_append, List.length_drop, List.length_take]
  omega
theorem shifted_eq (l : List Int) (n : Nat) (hm : l.length ≤ 1048576) (hn : n ≤ l.length) (k : Nat) (hk : 10 < k) : impl_shifted.f k l (n : Int) = some (shiftL l n) := by
  unfold impl_shifted.f
  rw [if_pos (by omega), if_pos (by omega), toNat_nat, concat_l0 _ _ (by rw [List.length_drop, List.length_take]; omega) k hk, Option.bind_some]
  rfl
end Go.Proofs.Ytndbfmbejopkkaa.X
