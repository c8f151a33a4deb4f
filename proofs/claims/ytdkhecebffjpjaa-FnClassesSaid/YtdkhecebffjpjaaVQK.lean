import Derived.Test.YtdkhecebffjpjaaVQB
import Derived.Test.YtdkhecebffjpjaaY8
import Derived.Test.YtdkhecebffjpjaaY10
namespace Go.Proofs.Ytdkhecebffjpjaa.X
set_option linter.unusedVariables false
set_option linter.unusedSimpArgs false
open Go.RowKit Go.Proofs.YtdkhecebffjpjaaW.PrintWords Go.Proofs.YtdkhecebffjpjaaW.PrintLast
def gF : Nat → Int → Int → Int
 | 0, a, _ => a
 | d + 1, a, b => if b = 0 then a else gF d b (Int.tmod a b)
theorem tmod_lt (a b : Int) (h : b ≠ 0) : (Int.tmod a b).natAbs < b.natAbs := by
 rw [Int.natAbs_tmod]
 exact Nat.mod_lt _ (by omega)
theorem specGcd_l0 : ∀ (d k : Nat) (a b : Int), b.natAbs ≤ d → d < k → spec_l01Gcd.l0 k a b = some (gF d a b) := by
 intro d
 induction d with
 | zero =>
  intro k a b h hk
  obtain ⟨k, rfl⟩ : ∃ m, k = m + 1 := ⟨k - 1, by omega⟩
  simp only [spec_l01Gcd.l0, gF]
  rw [if_pos (by omega)]
 | succ d ih =>
  intro k a b h hk
  obtain ⟨k, rfl⟩ : ∃ m, k = m + 1 := ⟨k - 1, by omega⟩
  simp only [spec_l01Gcd.l0, gF]
  by_cases e : b = 0
  ·rw [if_pos e, if_pos e]
  ·have := tmod_lt a b e
   rw [if_neg e, if_neg e, ih k b _ (by omega) (by omega)]
theorem implGcd_l0 : ∀ (k : Nat) (a b : Int), impl_divisor.l0 k a b = spec_l01Gcd.l0 k a b := by
 intro k
 induction k with
 | zero => intro a b; rfl
 | succ k ih =>
  intro a b
  simp only [spec_l01Gcd.l0, impl_divisor.l0]
  rw [ih]
theorem gF_ne : ∀ (d : Nat) (a b : Int), b.natAbs ≤ d → (a ≠ 0 ∨ b ≠ 0) → gF d a b ≠ 0 := by
 intro d
 induction d with
 | zero =>
  intro a b h h2
  simp only [gF]
  omega
 | succ d ih =>
  intro a b h h2
  simp only [gF]
  by_cases e : b = 0
  ·rw [if_pos e]
   omega
  ·have := tmod_lt a b e
   rw [if_neg e]
   exact ih b _ (by omega) (.inl e)
theorem gF_nat : ∀ (d a b : Nat), b ≤ d → gF d (a : Int) (b : Int) = ((Nat.gcd a b : Nat) : Int) := by
 intro d
 induction d with
 | zero =>
  intro a b h
  have : b = 0 := by omega
  subst this
  simp [gF]
 | succ d ih =>
  intro a b h
  simp only [gF]
  by_cases e : b = 0
  ·subst e
   simp
  ·have hlt := Nat.mod_lt a (show 0 < b by omega)
   rw [if_neg (by omega), ← Int.ofNat_tmod, ih b (a % b) (by omega), Nat.gcd_comm b (a % b), ← Nat.gcd_rec, Nat.gcd_comm]
def gI (a b : Int) : Int := gF 9223372036854775808 a b
theorem specGcd_eq (a b : Int) (h : b.natAbs ≤ 9223372036854775808) (k : Nat) (hk : 9223372036854775808 < k) : spec_l01Gcd.f k a b = some (gI a b) := by
 unfold spec_l01Gcd.f gI
 exact specGcd_l0 _ k a b h hk
theorem implGcd_eq (a b : Int) (h : b.natAbs ≤ 9223372036854775808) (k : Nat) (hk : 9223372036854775808 < k) : impl_divisor.f k a b = some (gI a b) := by
 unfold impl_divisor.f gI
 rw [implGcd_l0]
 exact specGcd_l0 _ k a b h hk
theorem gI_nat (a b : Nat) (h : b ≤ 9223372036854775808) : gI (a : Int) (b : Int) = ((Nat.gcd a b : Nat) : Int) := gF_nat _ a b h
theorem gI_ne (a b : Int) (h : b.natAbs ≤ 9223372036854775808) (h2 : b ≠ 0) : gI a b ≠ 0 := gF_ne _ a b h (.inr h2)
end Go.Proofs.Ytdkhecebffjpjaa.X
