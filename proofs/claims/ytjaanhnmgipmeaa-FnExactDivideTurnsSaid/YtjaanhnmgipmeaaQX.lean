/- The greatest member of a list; no condition beside those stated. -/
import Derived.Test.YtjaanhnmgipmeaaQL
import Derived.Test.YtjaanhnmgipmeaaX9
namespace Go.Proofs.Ytjaanhnmgipmeaa.X
set_option linter.unusedVariables false
set_option linter.unusedSimpArgs false
open Go.RowKit Go.Proofs.YtjaanhnmgipmeaaW.PrintWords Go.Proofs.YtjaanhnmgipmeaaW.PrintLast
theorem maxS_l0 (l : List Int) (hl : l.length ≤ 1048576) : ∀ (d i k : Nat) (a : Int), i + d = l.length → d < k → slices_Max_int64_int64.l0 k l a (i : Int) = some (maxL (l.drop i) a) := by
  intro d
  induction d with
  | zero =>
    intro i k a hi hk
    obtain ⟨k, rfl⟩ : ∃ m, k = m + 1 := ⟨k - 1, by omega⟩
    simp only [slices_Max_int64_int64.l0]
    rw [if_neg (by omega), List.drop_of_length_le (by omega)]
    rfl
  | succ d ih =>
    intro i k a hi hk
    obtain ⟨k, rfl⟩ : ∃ m, k = m + 1 := ⟨k - 1, by omega⟩
    simp only [slices_Max_int64_int64.l0]
    rw [if_pos (by omega), if_pos (by omega), wrap_succ (n := l.length) (by omega) (by omega), ih (i + 1) k _ (by omega) (by omega), drop_rd l i (by omega)]
    rfl
theorem maxS_eq (l : List Int) (hl : l.length ≤ 1048576) (h1 : 1 ≤ l.length) (lo : Int) (hlo : ∀ x ∈ l, lo ≤ x) (k : Nat) (hk : l.length < k) : slices_Max_int64_int64.f k l = some (maxL l lo) := by
  unfold slices_Max_int64_int64.f
  have e := maxS_l0 l hl (l.length - 1) 1 k (rd l 0) (by omega) (by omega)
  simp only [Int.natCast_one] at e
  rw [if_neg (by omega), if_pos (by omega), e]
  have h0 := hlo _ (rd_in l 0 (by omega))
  have hd := drop_rd l 0 (by omega)
  simp only [Int.natCast_zero, List.drop_zero, Nat.zero_add] at h0 hd
  congr 1
  rw [show maxL l lo = maxL (rd l 0 :: l.drop 1) lo by rw [← hd]]
  show maxL (l.drop 1) (rd l 0) = maxL (l.drop 1) (mx lo (rd l 0))
  have : mx lo (rd l 0) = rd l 0 := by
    unfold mx
    split
    · rfl
    · omega
  rw [this]
end Go.Proofs.Ytjaanhnmgipmeaa.X
