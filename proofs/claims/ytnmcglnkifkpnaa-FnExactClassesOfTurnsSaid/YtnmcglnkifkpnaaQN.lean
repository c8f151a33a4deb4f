/- Divisors, multiples, sums and least members; no condition beside those stated. -/
import Derived.Test.YtnmcglnkifkpnaaQK
import Derived.Test.YtnmcglnkifkpnaaX0
namespace Go.Proofs.Ytnmcglnkifkpnaa.X
set_option linter.unusedVariables false
set_option linter.unusedSimpArgs false
open Go.RowKit Go.Proofs.YtnmcglnkifkpnaaW.PrintWords Go.Proofs.YtnmcglnkifkpnaaW.PrintLast
def lcmN (x g : Nat) : Nat := x / Nat.gcd x g * g
theorem lcmN_pos (x g : Nat) (hx : 1 ≤ x) (hg : 1 ≤ g) : 1 ≤ lcmN x g := by
  unfold lcmN
  have h0 : 0 < Nat.gcd x g := Nat.gcd_pos_of_pos_right x (by omega)
  have h1 : 0 < x / Nat.gcd x g := Nat.div_pos (Nat.gcd_le_left g (by omega)) h0
  exact Nat.mul_pos h1 hg
theorem lcmN_le (x g : Nat) (hg : g ≤ 40) : lcmN x g ≤ 40 * x := by
  unfold lcmN
  have h1 : x / Nat.gcd x g ≤ x := Nat.div_le_self x _
  calc x / Nat.gcd x g * g ≤ x * g := Nat.mul_le_mul_right g h1
    _ ≤ x * 40 := Nat.mul_le_mul_left x hg
    _ = 40 * x := Nat.mul_comm _ _
theorem lcm_int (x g : Nat) (hx : x ≤ 40000000000000) (hg : 1 ≤ g) (hg2 : g ≤ 40) : wrap64 (wrap64 (Int.tdiv (x : Int) ((Nat.gcd x g : Nat) : Int)) * (g : Int)) = ((lcmN x g : Nat) : Int) := by
  have h1 : x / Nat.gcd x g ≤ x := Nat.div_le_self x _
  have h2 := lcmN_le x g hg2
  have h0 : (0 : Int) ≤ ((x / Nat.gcd x g : Nat) : Int) := Int.natCast_nonneg _
  rw [← Int.ofNat_tdiv, wrap64_id (x := ((x / Nat.gcd x g : Nat) : Int)) (by omega) (by omega)]
  have h3 : ((x / Nat.gcd x g : Nat) : Int) * (g : Int) = ((lcmN x g : Nat) : Int) := by unfold lcmN; rw [Int.natCast_mul]
  rw [h3, wrap64_id (by omega) (by omega)]
/-- the least common multiple of x and all -/
def mulF : List Int → Nat → Nat
  | [], x => x
  | g :: r, x => mulF r (lcmN x g.toNat)
theorem mulF_ok : ∀ (l : List Int) (x : Nat), (∀ g ∈ l, 1 ≤ g ∧ g ≤ 40) → 1 ≤ x → 1 ≤ mulF l x ∧ mulF l x ≤ 40 ^ l.length * x := by
  intro l
  induction l with
  | nil => intro x _ hx; simp [mulF, hx]
  | cons g r ih =>
    intro x h hx
    have hg := h g List.mem_cons_self
    have h1 := lcmN_pos x g.toNat hx (by omega)
    have h2 := lcmN_le x g.toNat (by omega)
    have h3 := ih (lcmN x g.toNat) (fun y hy => h y (List.mem_cons_of_mem _ hy)) h1
    simp only [mulF]
    refine ⟨h3.1, Nat.le_trans h3.2 ?_⟩
    calc 40 ^ r.length * lcmN x g.toNat ≤ 40 ^ r.length * (40 * x) := Nat.mul_le_mul_left _ h2
      _ = 40 ^ (g :: r).length * x := by rw [List.length_cons, Nat.pow_succ, Nat.mul_assoc]
theorem pow40 (n : Nat) (h : n ≤ 8) : 40 ^ n ≤ 6553600000000 := by
  calc 40 ^ n ≤ 40 ^ 8 := Nat.pow_le_pow_right (by omega) h
    _ = 6553600000000 := by decide
/-- s and all of x by each -/
def densF : List Int → Int → Int → Int
  | [], _, s => s
  | g :: r, x, s => densF r x (wrap64 (s + wrap64 (Int.tdiv x g)))
theorem mulF_range (l : List Int) (hl : l.length ≤ 8) (hg : ∀ g ∈ l, 1 ≤ g ∧ g ≤ 40) : 1 ≤ mulF l 1 ∧ mulF l 1 ≤ 6553600000000 := by
  have h := mulF_ok l 1 hg (by omega)
  rw [Nat.mul_one] at h
  exact ⟨h.1, Nat.le_trans h.2 (pow40 _ hl)⟩
end Go.Proofs.Ytnmcglnkifkpnaa.X
