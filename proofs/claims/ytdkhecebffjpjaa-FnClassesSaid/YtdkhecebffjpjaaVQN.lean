import Derived.Test.YtdkhecebffjpjaaVQK
import Derived.Test.YtdkhecebffjpjaaY8
import Derived.Test.YtdkhecebffjpjaaY11
import Derived.Test.YtdkhecebffjpjaaY12
import Derived.Test.YtdkhecebffjpjaaY13
namespace Go.Proofs.Ytdkhecebffjpjaa.X
set_option linter.unusedVariables false
set_option linter.unusedSimpArgs false
open Go.RowKit Go.Proofs.YtdkhecebffjpjaaW.PrintWords Go.Proofs.YtdkhecebffjpjaaW.PrintLast
def lcmN (x g : Nat) : Nat := x / Nat.gcd x g * g
theorem lcmN_pos (x g : Nat) (hx : 1 ≤ x) (hg : 1 ≤ g) : 1 ≤ lcmN x g := by
 unfold lcmN
 have h0 : 0 < Nat.gcd x g := Nat.gcd_pos_of_pos_right x (by omega)
 have h1 : 0 < x / Nat.gcd x g := Nat.div_pos (Nat.gcd_le_left g (by omega)) h0
 exact Nat.mul_pos h1 hg
theorem lcmN_le (x g : Nat) (hg : g ≤ 40) : lcmN x g ≤ 40 * x := by
 unfold lcmN
 have h1 : x / Nat.gcd x g ≤ x := Nat.div_le_self x _
 calc x / Nat.gcd x g * g ≤ x * g := Nat.mul_le_mul_right g h1
  _ ≤ x * 40 := Nat.mul_le_mul_left x hg
  _ = 40 * x := Nat.mul_comm _ _
theorem lcm_int (x g : Nat) (hx : x ≤ 40000000000000) (hg : 1 ≤ g) (hg2 : g ≤ 40) : wrap64 (wrap64 (Int.tdiv (x : Int) ((Nat.gcd x g : Nat) : Int)) * (g : Int)) = ((lcmN x g : Nat) : Int) := by
 have h1 : x / Nat.gcd x g ≤ x := Nat.div_le_self x _
 have h2 := lcmN_le x g hg2
 have h0 : (0 : Int) ≤ ((x / Nat.gcd x g : Nat) : Int) := Int.natCast_nonneg _
 rw [← Int.ofNat_tdiv, wrap64_id (x := ((x / Nat.gcd x g : Nat) : Int)) (by omega) (by omega)]
 have h3 : ((x / Nat.gcd x g : Nat) : Int) * (g : Int) = ((lcmN x g : Nat) : Int) := by unfold lcmN; rw [Int.natCast_mul]
 rw [h3, wrap64_id (by omega) (by omega)]
theorem specLcm_eq (x g : Nat) (hx : x ≤ 40000000000000) (hg : 1 ≤ g) (hg2 : g ≤ 40) (k : Nat) (hk : 9223372036854775808 < k) : spec_l01Lcm.f k (x : Int) (g : Int) = some ((lcmN x g : Nat) : Int) := by
 unfold spec_l01Lcm.f
 have h0 : 0 < Nat.gcd x g := Nat.gcd_pos_of_pos_right x (by omega)
 rw [specGcd_eq _ _ (by omega) k hk, Option.bind_some, gI_nat _ _ (by omega), if_neg (by omega), lcm_int x g hx hg hg2]
def mulF : List Int → Nat → Nat
 | [], x => x
 | g :: r, x => mulF r (lcmN x g.toNat)
theorem mulF_ok : ∀ (l : List Int) (x : Nat), (∀ g ∈ l, 1 ≤ g ∧ g ≤ 40) → 1 ≤ x → 1 ≤ mulF l x ∧ mulF l x ≤ 40 ^ l.length * x := by
 intro l
 induction l with
 | nil => intro x _ hx; simp [mulF, hx]
 | cons g r ih =>
  intro x h hx
  have hg := h g List.mem_cons_self
  have h1 := lcmN_pos x g.toNat hx (by omega)
  have h2 := lcmN_le x g.toNat (by omega)
  have h3 := ih (lcmN x g.toNat) (fun y hy => h y (List.mem_cons_of_mem _ hy)) h1
  simp only [mulF]
  refine ⟨h3.1, Nat.le_trans h3.2 ?_⟩
  calc 40 ^ r.length * lcmN x g.toNat ≤ 40 ^ r.length * (40 * x) := Nat.mul_le_mul_left _ h2
   _ = 40 ^ (g :: r).length * x := by rw [List.length_cons, Nat.pow_succ, Nat.mul_assoc]
theorem pow40 (n : Nat) (h : n ≤ 8) : 40 ^ n ≤ 6553600000000 := by
 calc 40 ^ n ≤ 40 ^ 8 := Nat.pow_le_pow_right (by omega) h
  _ = 6553600000000 := by decide
theorem implMul_l0 (l : List Int) (hl : l.length ≤ 8) (hg : ∀ g ∈ l, 1 ≤ g ∧ g ≤ 40) : ∀ (d i k : Nat) (x : Nat), i + d = l.length → 9223372036860000000 < k + 10 + i → 1 ≤ x → 40 ^ d * x ≤ 6553600000000 → impl_Tasks_multiple.l0 k (x : Int) l (l.length : Int) (i : Int) = some ((mulF (l.drop i) x : Nat) : Int) := by
 intro d
 induction d with
 | zero =>
  intro i k x hi hk h1 h2
  obtain ⟨k, rfl⟩ : ∃ m, k = m + 1 := ⟨k - 1, by omega⟩
  simp only [impl_Tasks_multiple.l0]
  rw [if_neg (by omega), List.drop_of_length_le (by omega)]
  rfl
 | succ d ih =>
  intro i k x hi hk h1 h2
  obtain ⟨k, rfl⟩ : ∃ m, k = m + 1 := ⟨k - 1, by omega⟩
  have hgi := hg _ (rd_in l i (by omega))
  have hx : x ≤ 6553600000000 := Nat.le_trans (Nat.le_mul_of_pos_left x (Nat.pow_pos (by omega))) h2
  simp only [impl_Tasks_multiple.l0]
  rw [if_pos (by omega), if_pos (by omega), if_pos (by omega), wrap_succ (n := l.length) (by omega) (by omega), drop_rd l i (by omega)]
  generalize rd l (i : Int) = y at hgi
  obtain ⟨n, rfl⟩ : ∃ n : Nat, y = (n : Int) := ⟨y.toNat, by omega⟩
  have hle := lcmN_le x n (by omega)
  have h0 : 0 < Nat.gcd x n := Nat.gcd_pos_of_pos_left n (by omega)
  have h3 : 40 ^ d * lcmN x n ≤ 6553600000000 := by
   refine Nat.le_trans (Nat.mul_le_mul_left _ hle) ?_
   rw [← Nat.mul_assoc, ← Nat.pow_succ]
   exact h2
  rw [implGcd_eq _ _ (by omega) k (by omega), Option.bind_some, gI_nat _ _ (by omega), if_neg (by omega), lcm_int x n (by omega) (by omega) (by omega), ih (i + 1) k _ (by omega) (by omega) (lcmN_pos x n h1 (by omega)) h3]
  simp only [mulF, Int.toNat_natCast]
theorem multiple_eq (l : List Int) (hl : l.length ≤ 8) (hg : ∀ g ∈ l, 1 ≤ g ∧ g ≤ 40) (k : Nat) (hk : 9223372036860000000 < k) : impl_Tasks_multiple.f k l = some ((mulF l 1 : Nat) : Int) := by
 unfold impl_Tasks_multiple.f
 have := implMul_l0 l hl hg l.length 0 k 1 (by omega) (by omega) (by omega) (by rw [Nat.mul_one]; exact pow40 _ hl)
 simp only [Int.natCast_zero, List.drop_zero, Int.natCast_one] at this
 exact this
def densF : List Int → Int → Int → Int
 | [], _, s => s
 | g :: r, x, s => densF r x (wrap64 (s + wrap64 (Int.tdiv x g)))
theorem specDens_l1 (l : List Int) (hl : l.length ≤ 8) (hg : ∀ g ∈ l, 1 ≤ g ∧ g ≤ 40) (x : Int) (hx : x.natAbs ≤ 9223372036854775808) (hx0 : x ≠ 0) : ∀ (d i k : Nat) (s : Int), i + d = l.length → 9223372036854775809 + d < k → spec_l01Density.l1 k x s (i : Int) l = some (wrap64 (Int.tdiv (densF (l.drop i) x s) (gI (densF (l.drop i) x s) x)), wrap64 (Int.tdiv x (gI (densF (l.drop i) x s) x))) := by
 intro d
 induction d with
 | zero =>
  intro i k s hi hk
  obtain ⟨k, rfl⟩ : ∃ m, k = m + 1 := ⟨k - 1, by omega⟩
  have h0 := gI_ne s x hx hx0
  simp only [spec_l01Density.l1]
  rw [if_neg (by omega), List.drop_of_length_le (by omega), spec_l01Lowest.f, specGcd_eq _ _ hx k (by omega), Option.bind_some]
  simp only [densF]
  rw [if_neg h0, Option.bind_some]
 | succ d ih =>
  intro i k s hi hk
  obtain ⟨k, rfl⟩ : ∃ m, k = m + 1 := ⟨k - 1, by omega⟩
  have hgi := hg _ (rd_in l i (by omega))
  simp only [spec_l01Density.l1]
  rw [if_pos (by omega), if_pos (by omega), if_neg (by omega), wrap_succ (n := l.length) (by omega) (by omega), ih (i + 1) k _ (by omega) (by omega), drop_rd l i (by omega)]
  simp only [densF]
theorem implDens_l0 (l : List Int) (hl : l.length ≤ 8) (hg : ∀ g ∈ l, 1 ≤ g ∧ g ≤ 40) (x : Int) (hx : x.natAbs ≤ 9223372036854775808) (hx0 : x ≠ 0) : ∀ (d i k : Nat) (s : Int), i + d = l.length → 9223372036854775809 + d < k → impl_Tasks_density.l0 k x s l (l.length : Int) (i : Int) = some (wrap64 (Int.tdiv (densF (l.drop i) x s) (gI (densF (l.drop i) x s) x)), wrap64 (Int.tdiv x (gI (densF (l.drop i) x s) x))) := by
 intro d
 induction d with
 | zero =>
  intro i k s hi hk
  obtain ⟨k, rfl⟩ : ∃ m, k = m + 1 := ⟨k - 1, by omega⟩
  have h0 := gI_ne s x hx hx0
  simp only [impl_Tasks_density.l0]
  rw [if_neg (by omega), List.drop_of_length_le (by omega), implGcd_eq _ _ hx k (by omega), Option.bind_some]
  simp only [densF]
  rw [if_neg h0]
 | succ d ih =>
  intro i k s hi hk
  obtain ⟨k, rfl⟩ : ∃ m, k = m + 1 := ⟨k - 1, by omega⟩
  have hgi := hg _ (rd_in l i (by omega))
  simp only [impl_Tasks_density.l0]
  rw [if_pos (by omega), if_pos (by omega), if_pos (by omega), if_neg (by omega), wrap_succ (n := l.length) (by omega) (by omega), ih (i + 1) k _ (by omega) (by omega), drop_rd l i (by omega)]
  simp only [densF]
theorem specDens_l0 (l : List Int) (hl : l.length ≤ 8) (hg : ∀ g ∈ l, 1 ≤ g ∧ g ≤ 40) : ∀ (d i k : Nat) (s : Int) (x : Nat), i + d = l.length → 9223372036860000000 < k + 10 + i → 1 ≤ x → 40 ^ d * x ≤ 6553600000000 → ∃ k', 9223372036854775900 < k' ∧ spec_l01Density.l0 k (x : Int) s (i : Int) l = spec_l01Density.l1 k' ((mulF (l.drop i) x : Nat) : Int) s 0 l := by
 intro d
 induction d with
 | zero =>
  intro i k s x hi hk h1 h2
  obtain ⟨k, rfl⟩ : ∃ m, k = m + 1 := ⟨k - 1, by omega⟩
  refine ⟨k, by omega, ?_⟩
  simp only [spec_l01Density.l0]
  rw [if_neg (by omega), List.drop_of_length_le (by omega)]
  rfl
 | succ d ih =>
  intro i k s x hi hk h1 h2
  obtain ⟨k, rfl⟩ : ∃ m, k = m + 1 := ⟨k - 1, by omega⟩
  have hgi := hg _ (rd_in l i (by omega))
  have hx : x ≤ 6553600000000 := Nat.le_trans (Nat.le_mul_of_pos_left x (Nat.pow_pos (by omega))) h2
  simp only [spec_l01Density.l0]
  rw [if_pos (by omega), if_pos (by omega), wrap_succ (n := l.length) (by omega) (by omega), drop_rd l i (by omega)]
  generalize rd l (i : Int) = y at hgi
  obtain ⟨n, rfl⟩ : ∃ n : Nat, y = (n : Int) := ⟨y.toNat, by omega⟩
  have hle := lcmN_le x n (by omega)
  have h3 : 40 ^ d * lcmN x n ≤ 6553600000000 := by
   refine Nat.le_trans (Nat.mul_le_mul_left _ hle) ?_
   rw [← Nat.mul_assoc, ← Nat.pow_succ]
   exact h2
  obtain ⟨k', h4, h5⟩ := ih (i + 1) k s (lcmN x n) (by omega) (by omega) (lcmN_pos x n h1 (by omega)) h3
  refine ⟨k', h4, ?_⟩
  rw [specLcm_eq x n (by omega) (by omega) (by omega) k (by omega), Option.bind_some, h5]
  simp only [mulF, Int.toNat_natCast]
theorem mulF_range (l : List Int) (hl : l.length ≤ 8) (hg : ∀ g ∈ l, 1 ≤ g ∧ g ≤ 40) : 1 ≤ mulF l 1 ∧ mulF l 1 ≤ 6553600000000 := by
 have h := mulF_ok l 1 hg (by omega)
 rw [Nat.mul_one] at h
 exact ⟨h.1, Nat.le_trans h.2 (pow40 _ hl)⟩
theorem specDensity_eq (l : List Int) (hl : l.length ≤ 8) (hg : ∀ g ∈ l, 1 ≤ g ∧ g ≤ 40) (k : Nat) (hk : 9223372036860000000 < k) : spec_l01Density.f k l = some (wrap64 (Int.tdiv (densF l (mulF l 1 : Nat) 0) (gI (densF l (mulF l 1 : Nat) 0) (mulF l 1 : Nat))), wrap64 (Int.tdiv (mulF l 1 : Nat) (gI (densF l (mulF l 1 : Nat) 0) (mulF l 1 : Nat)))) := by
 unfold spec_l01Density.f
 have hm := mulF_range l hl hg
 obtain ⟨k', h1, h2⟩ := specDens_l0 l hl hg l.length 0 k 0 1 (by omega) (by omega) (by omega) (by rw [Nat.mul_one]; exact pow40 _ hl)
 have h3 := specDens_l1 l hl hg (mulF l 1 : Nat) (by omega) (by omega) l.length 0 k' 0 (by omega) (by omega)
 simp only [Int.natCast_zero, List.drop_zero, Int.natCast_one] at h2 h3
 rw [h2, h3]
theorem implDensity_eq (l : List Int) (hl : l.length ≤ 8) (hg : ∀ g ∈ l, 1 ≤ g ∧ g ≤ 40) (k : Nat) (hk : 9223372036860000000 < k) : impl_Tasks_density.f k l = some (wrap64 (Int.tdiv (densF l (mulF l 1 : Nat) 0) (gI (densF l (mulF l 1 : Nat) 0) (mulF l 1 : Nat))), wrap64 (Int.tdiv (mulF l 1 : Nat) (gI (densF l (mulF l 1 : Nat) 0) (mulF l 1 : Nat)))) := by
 unfold impl_Tasks_density.f
 have hm := mulF_range l hl hg
 have h3 := implDens_l0 l hl hg (mulF l 1 : Nat) (by omega) (by omega) l.length 0 k 0 (by omega) (by omega)
 simp only [Int.natCast_zero, List.drop_zero] at h3
 rw [multiple_eq l hl hg k hk, Option.bind_some, h3]
end Go.Proofs.Ytdkhecebffjpjaa.X
