/- Greatest common divisors; no condition beside those stated. -/
import Derived.Test.YtnmcglnkifkpnaaQB
import Derived.Test.YtnmcglnkifkpnaaX0
namespace Go.Proofs.Ytnmcglnkifkpnaa.X
set_option linter.unusedVariables false
set_option linter.unusedSimpArgs false
open Go.RowKit Go.Proofs.YtnmcglnkifkpnaaW.PrintWords Go.Proofs.YtnmcglnkifkpnaaW.PrintLast
def gF : Nat → Int → Int → Int
  | 0, a, _ => a
  | d + 1, a, b => if b = 0 then a else gF d b (Int.tmod a b)
theorem tmod_lt (a b : Int) (h : b ≠ 0) : (Int.tmod a b).natAbs < b.natAbs := by
  rw [Int.natAbs_tmod]
  exact Nat.mod_lt _ (by omega)
theorem gF_ne : ∀ (d : Nat) (a b : Int), b.natAbs ≤ d → (a ≠ 0 ∨ b ≠ 0) → gF d a b ≠ 0 := by
  intro d
  induction d with
  | zero =>
    intro a b h h2
    simp only [gF]
    omega
  | succ d ih =>
    intro a b h h2
    simp only [gF]
    by_cases e : b = 0
    · rw [if_pos e]
      omega
    · have := tmod_lt a b e
      rw [if_neg e]
      exact ih b _ (by omega) (.inl e)
theorem gF_nat : ∀ (d a b : Nat), b ≤ d → gF d (a : Int) (b : Int) = ((Nat.gcd a b : Nat) : Int) := by
  intro d
  induction d with
  | zero =>
    intro a b h
    have : b = 0 := by omega
    subst this
    simp [gF]
  | succ d ih =>
    intro a b h
    simp only [gF]
    by_cases e : b = 0
    · subst e
      simp
    · have hlt := Nat.mod_lt a (show 0 < b by omega)
      rw [if_neg (by omega), ← Int.ofNat_tmod, ih b (a % b) (by omega), Nat.gcd_comm b (a % b), ← Nat.gcd_rec, Nat.gcd_comm]
/-- the greatest divisor, as both of them compute it -/
def gI (a b : Int) : Int := gF 9223372036854775808 a b
theorem gI_nat (a b : Nat) (h : b ≤ 9223372036854775808) : gI (a : Int) (b : Int) = ((Nat.gcd a b : Nat) : Int) := gF_nat _ a b h
theorem gI_ne (a b : Int) (h : b.natAbs ≤ 9223372036854775808) (h2 : b ≠ 0) : gI a b ≠ 0 := gF_ne _ a b h (.inr h2)
end Go.Proofs.Ytnmcglnkifkpnaa.X
