import Derived.Test.YtdkhecebffjpjaaVQZe
import Derived.Test.YtdkhecebffjpjaaVQN
import Derived.Test.YtdkhecebffjpjaaVQK
import Derived.Test.YtdkhecebffjpjaaY0
import Derived.Test.YtdkhecebffjpjaaY10
import Derived.Test.YtdkhecebffjpjaaY11
import Derived.Test.YtdkhecebffjpjaaY14
namespace Go.Proofs.Ytdkhecebffjpjaa.X
set_option linter.unusedVariables false
set_option linter.unusedSimpArgs false
open Go.RowKit Go.Proofs.YtdkhecebffjpjaaW.PrintWords Go.Proofs.YtdkhecebffjpjaaW.PrintLast
def meetD (a b c d : Int) : Bool := Int.tmod (wrap64 (a - c)) ((Nat.gcd b.toNat d.toNat : Nat) : Int) == 0
theorem specMeetD_eq (a b c d : Int) (hb : 1 ≤ b ∧ b ≤ 40) (hd : 1 ≤ d ∧ d ≤ 40) (k : Nat) (hk : 100 < k) : spec_l05Meet.f k a b c d = some (meetD a b c d) := by
 obtain ⟨b, rfl⟩ : ∃ m : Nat, b = (m : Int) := ⟨b.toNat, by omega⟩
 obtain ⟨d, rfl⟩ : ∃ m : Nat, d = (m : Int) := ⟨d.toNat, by omega⟩
 have h0 : 0 < Nat.gcd b d := Nat.gcd_pos_of_pos_left d (by omega)
 unfold spec_l05Meet.f spec_l01Gcd.f meetD
 rw [specGcd_l0 40 k _ _ (by omega) (by omega), gF_nat 40 b d (by omega), Option.bind_some, if_neg (by omega), Int.toNat_natCast, Int.toNat_natCast]
theorem meetD_eq (a c : Int) (b d : Nat) (ha : a.natAbs ≤ 1000000) (hc : c.natAbs ≤ 1000000) (h : ¬ ((Nat.gcd b d : Nat) : Int) ∣ (a - c)) : meetD a b c d = false := by
 unfold meetD
 rw [wrap64_id (by omega) (by omega), Int.toNat_natCast, Int.toNat_natCast, beq_eq_false_iff_ne]
 exact fun e => h (Int.dvd_of_tmod_eq_zero e)
def apartBD (a b : Int) (l : List S40) : Bool := l.all fun d => !(meetD a b d.f0 d.f1)
def apartD (l : List S40) : Nat → Nat → Bool
 | 0, _ => true
 | d + 1, i => apartBD (rd_T40 l (i : Int)).f0 (rd_T40 l (i : Int)).f1 (l.take i) && apartD l d (i + 1)
theorem specApartD_l1 (l : List S40) (hl : l.length ≤ 8) (hg : ∀ x ∈ l, 1 ≤ x.f1 ∧ x.f1 ≤ 40) (i : Nat) (hi : i < l.length) : ∀ (d j k : Nat), j + d = i → 200 + d < k →
  spec_l05Apart.l1 k l (i : Int) (j : Int) = if (((l.take i).drop j).all fun x => !(meetD (rd_T40 l (i : Int)).f0 (rd_T40 l (i : Int)).f1 x.f0 x.f1)) = true then spec_l05Apart.l0 (k - 1 - d) l (wrap64 ((i : Int) + 1)) else some false := by
 intro d
 induction d with
 | zero =>
  intro j k hj hk
  obtain ⟨k, rfl⟩ : ∃ m, k = m + 1 := ⟨k - 1, by omega⟩
  simp only [spec_l05Apart.l1]
  rw [if_neg (by omega), List.drop_of_length_le (by rw [List.length_take]; omega)]
  rfl
 | succ d ih =>
  intro j k hj hk
  obtain ⟨k, rfl⟩ : ∃ m, k = m + 1 := ⟨k - 1, by omega⟩
  have hx := hg _ (rdC_in l j (by omega))
  simp only [spec_l05Apart.l1]
  rw [if_pos (by omega), if_pos (by omega), if_pos (by omega), if_pos (by omega), if_pos (by omega), specMeetD_eq _ _ _ _ (hg _ (rdC_in l i (by omega))) hx k (by omega), Option.bind_some, wrap_succ (i := j) (n := l.length) (by omega) (by omega), ih (j + 1) k (by omega) (by omega), dropC_rd (l.take i) j (by rw [List.length_take]; omega), List.all_cons, rdC_take l i j (by omega) hi, show k + 1 - 1 - (d + 1) = k - 1 - d by omega]
  cases meetD (rd_T40 l (i : Int)).f0 (rd_T40 l (i : Int)).f1 (rd_T40 l (j : Int)).f0 (rd_T40 l (j : Int)).f1 <;> simp
theorem specApartD_l0 (l : List S40) (hl : l.length ≤ 8) (hg : ∀ x ∈ l, 1 ≤ x.f1 ∧ x.f1 ≤ 40) : ∀ (d i k : Nat), i + d = l.length → 300 + 20 * d < k → spec_l05Apart.l0 k l (i : Int) = some (apartD l d i) := by
 intro d
 induction d with
 | zero =>
  intro i k hi hk
  obtain ⟨k, rfl⟩ : ∃ m, k = m + 1 := ⟨k - 1, by omega⟩
  simp only [spec_l05Apart.l0]
  rw [if_neg (by omega)]
  rfl
 | succ d ih =>
  intro i k hi hk
  obtain ⟨k, rfl⟩ : ∃ m, k = m + 1 := ⟨k - 1, by omega⟩
  have e := specApartD_l1 l hl hg i (by omega) i 0 k (by omega) (by omega)
  simp only [Int.natCast_zero, List.drop_zero] at e
  simp only [spec_l05Apart.l0, apartD]
  rw [if_pos (by omega), e]
  unfold apartBD
  by_cases h : ((l.take i).all fun x => !(meetD (rd_T40 l (i : Int)).f0 (rd_T40 l (i : Int)).f1 x.f0 x.f1)) = true
  ·rw [if_pos h, wrap_succ (n := l.length) (by omega) (by omega), ih (i + 1) _ (by omega) (by omega), h, Bool.true_and]
  ·rw [if_neg h]
   simp only [Bool.not_eq_true] at h
   rw [h, Bool.false_and]
theorem specApartD_eq (l : List S40) (hl : l.length ≤ 8) (hg : ∀ x ∈ l, 1 ≤ x.f1 ∧ x.f1 ≤ 40) (k : Nat) (hk : 1000 < k) : spec_l05Apart.f k l = some (apartD l l.length 0) := by
 unfold spec_l05Apart.f
 have := specApartD_l0 l hl hg l.length 0 k (by omega) (by omega)
 simpa using this
def densD (l : List S40) : Int × Int := (wrap64 (Int.tdiv (densF (gapsL l) (mulF (gapsL l) 1 : Nat) 0) (gI (densF (gapsL l) (mulF (gapsL l) 1 : Nat) 0) (mulF (gapsL l) 1 : Nat))), wrap64 (Int.tdiv (mulF (gapsL l) 1 : Nat) (gI (densF (gapsL l) (mulF (gapsL l) 1 : Nat) 0) (mulF (gapsL l) 1 : Nat))))
def exactD (l : List S40) : Bool := apartD l l.length 0 && ((densD l).1 == (densD l).2)
theorem specExactD_l0 (l : List S40) (hl : l.length ≤ 8) (hg : ∀ x ∈ l, 1 ≤ x.f1 ∧ x.f1 ≤ 40) : ∀ (d i k : Nat) (o : List Int), i + d = l.length → 9223372036860000100 + d < k → o = gapsL (l.take i) → spec_l05Exact.l0 k l (i : Int) o = some (exactD l) := by
 intro d
 induction d with
 | zero =>
  intro i k o hi hk ho
  obtain ⟨k, rfl⟩ : ∃ m, k = m + 1 := ⟨k - 1, by omega⟩
  rw [List.take_of_length_le (by omega)] at ho
  subst ho
  simp only [spec_l05Exact.l0]
  unfold exactD densD
  rw [if_neg (by omega), specDensity_eq (gapsL l) (by rw [gapsL_length]; exact hl) (gapsL_mem hg) k (by omega), Option.bind_some, specApartD_eq l hl hg k (by omega), Option.bind_some]
  generalize wrap64 (Int.tdiv (densF (gapsL l) (mulF (gapsL l) 1 : Nat) 0) (gI (densF (gapsL l) (mulF (gapsL l) 1 : Nat) 0) (mulF (gapsL l) 1 : Nat))) = a
  generalize wrap64 (Int.tdiv (mulF (gapsL l) 1 : Nat) (gI (densF (gapsL l) (mulF (gapsL l) 1 : Nat) 0) (mulF (gapsL l) 1 : Nat))) = b
  by_cases h : a = b
  ·rw [if_pos h, h]
   simp
  ·rw [if_neg h]
   simp [h]
 | succ d ih =>
  intro i k o hi hk ho
  obtain ⟨k, rfl⟩ : ∃ m, k = m + 1 := ⟨k - 1, by omega⟩
  have hol : o.length = i := by rw [ho, gapsL_length, List.length_take]; omega
  simp only [spec_l05Exact.l0]
  rw [if_pos (by omega), if_pos (by omega), if_pos (by omega), wrap_succ (n := l.length) (by omega) (by omega), ih (i + 1) k _ (by omega) (by omega) ?_]
  rw [ho, takeC_rd l i (by omega)]
  simp [gapsL]
theorem specExactD_eq (l : List S40) (hl : l.length ≤ 8) (hg : ∀ x ∈ l, 1 ≤ x.f1 ∧ x.f1 ≤ 40) (k : Nat) (hk : 9223372036860001000 < k) : spec_l05Exact.f k l = some (exactD l) := by
 unfold spec_l05Exact.f
 have := specExactD_l0 l hl hg l.length 0 k [] (by omega) (by omega) (by simp [gapsL])
 simpa using this
end Go.Proofs.Ytdkhecebffjpjaa.X
