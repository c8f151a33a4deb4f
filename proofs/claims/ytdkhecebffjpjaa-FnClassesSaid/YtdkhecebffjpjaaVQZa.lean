import Derived.Test.YtdkhecebffjpjaaVQZ
import Derived.Test.YtdkhecebffjpjaaY0
import Derived.Test.YtdkhecebffjpjaaY8
import Derived.Test.YtdkhecebffjpjaaY9
import Derived.Test.YtdkhecebffjpjaaY10
import Derived.Test.YtdkhecebffjpjaaY11
namespace Go.Proofs.Ytdkhecebffjpjaa.X
set_option linter.unusedVariables false
set_option linter.unusedSimpArgs false
open Go.RowKit Go.Proofs.YtdkhecebffjpjaaW.PrintWords Go.Proofs.YtdkhecebffjpjaaW.PrintLast
theorem gapsIn_of {l : List S40} (h : ∀ x ∈ l, 1 ≤ x.f1 ∧ x.f1 ≤ 40) : gapsIn l = true := by
 unfold gapsIn
 rw [List.all_eq_true]
 intro x hx
 have := h x hx
 simp [this]
theorem specMeet_eq (a b c d : Int) (hd : 1 ≤ d ∧ d ≤ 40) (k : Nat) (hk : 100 < k) : spec_l05Meet.f k a b c d = some (meetB a b c d) := by
 have e : spec_l05Meet.f k a b c d = impl_Class_meets.f k a b c d := by
  unfold spec_l05Meet.f impl_Class_meets.f spec_l01Gcd.f impl_divisor.f
  rw [implGcd_l0]
 rw [e]
 exact at_rounds (g := fun k => impl_Class_meets.f k a b c d) (fun k => impl_Class_meets.mono a b c d k) (k := 100) (by omega) (meet_some a b c d hd)
def apartAll (l : List S40) : Nat → Nat → Bool
 | 0, _ => true
 | d + 1, i => apartB (rd_T40 l (i : Int)).f0 (rd_T40 l (i : Int)).f1 (l.take i) && apartAll l d (i + 1)
theorem rdC_take (l : List S40) (i j : Nat) (hj : j < i) (hi : i < l.length) : rd_T40 (l.take i) (j : Int) = rd_T40 l (j : Int) := by
 rw [rdC_get _ j (by rw [List.length_take]; omega), rdC_get l j (by omega), List.getElem_take]
theorem specApart_l1 (l : List S40) (hl : l.length ≤ 8) (hg : ∀ x ∈ l, 1 ≤ x.f1 ∧ x.f1 ≤ 40) (i : Nat) (hi : i < l.length) : ∀ (d j k : Nat), j + d = i → 200 + d < k →
  spec_l05Apart.l1 k l (i : Int) (j : Int) = if (((l.take i).drop j).all fun x => !(meetB (rd_T40 l (i : Int)).f0 (rd_T40 l (i : Int)).f1 x.f0 x.f1)) = true then spec_l05Apart.l0 (k - 1 - d) l (wrap64 ((i : Int) + 1)) else some false := by
 intro d
 induction d with
 | zero =>
  intro j k hj hk
  obtain ⟨k, rfl⟩ : ∃ m, k = m + 1 := ⟨k - 1, by omega⟩
  simp only [spec_l05Apart.l1]
  rw [if_neg (by omega), List.drop_of_length_le (by rw [List.length_take]; omega)]
  rfl
 | succ d ih =>
  intro j k hj hk
  obtain ⟨k, rfl⟩ : ∃ m, k = m + 1 := ⟨k - 1, by omega⟩
  have hx := hg _ (rdC_in l j (by omega))
  simp only [spec_l05Apart.l1]
  rw [if_pos (by omega), if_pos (by omega), if_pos (by omega), if_pos (by omega), if_pos (by omega), specMeet_eq _ _ _ _ hx k (by omega), Option.bind_some, wrap_succ (i := j) (n := l.length) (by omega) (by omega), ih (j + 1) k (by omega) (by omega), dropC_rd (l.take i) j (by rw [List.length_take]; omega), List.all_cons, rdC_take l i j (by omega) hi, show k + 1 - 1 - (d + 1) = k - 1 - d by omega]
  cases meetB (rd_T40 l (i : Int)).f0 (rd_T40 l (i : Int)).f1 (rd_T40 l (j : Int)).f0 (rd_T40 l (j : Int)).f1 <;> simp
theorem specApart_l0 (l : List S40) (hl : l.length ≤ 8) (hg : ∀ x ∈ l, 1 ≤ x.f1 ∧ x.f1 ≤ 40) : ∀ (d i k : Nat), i + d = l.length → 300 + 20 * d < k → spec_l05Apart.l0 k l (i : Int) = some (apartAll l d i) := by
 intro d
 induction d with
 | zero =>
  intro i k hi hk
  obtain ⟨k, rfl⟩ : ∃ m, k = m + 1 := ⟨k - 1, by omega⟩
  simp only [spec_l05Apart.l0]
  rw [if_neg (by omega)]
  rfl
 | succ d ih =>
  intro i k hi hk
  obtain ⟨k, rfl⟩ : ∃ m, k = m + 1 := ⟨k - 1, by omega⟩
  have e := specApart_l1 l hl hg i (by omega) i 0 k (by omega) (by omega)
  simp only [Int.natCast_zero, List.drop_zero] at e
  simp only [spec_l05Apart.l0, apartAll]
  rw [if_pos (by omega), e]
  unfold apartB
  by_cases h : ((l.take i).all fun x => !(meetB (rd_T40 l (i : Int)).f0 (rd_T40 l (i : Int)).f1 x.f0 x.f1)) = true
  ·rw [if_pos h, wrap_succ (n := l.length) (by omega) (by omega), ih (i + 1) _ (by omega) (by omega), h, Bool.true_and]
  ·rw [if_neg h]
   simp only [Bool.not_eq_true] at h
   rw [h, Bool.false_and]
theorem specApart_eq (l : List S40) (hl : l.length ≤ 8) (hg : ∀ x ∈ l, 1 ≤ x.f1 ∧ x.f1 ≤ 40) (k : Nat) (hk : 1000 < k) : spec_l05Apart.f k l = some (apartAll l l.length 0) := by
 unfold spec_l05Apart.f
 have := specApart_l0 l hl hg l.length 0 k (by omega) (by omega)
 simpa using this
theorem implApart_l0 (l : List S40) (hl : l.length ≤ 8) (hg : ∀ x ∈ l, 1 ≤ x.f1 ∧ x.f1 ≤ 40) : ∀ (d i k : Nat), i + d = l.length → d < k → impl_areApart.l0 k l l (l.length : Int) (i : Int) = some (apartAll l d i) := by
 intro d
 induction d with
 | zero =>
  intro i k hi hk
  obtain ⟨k, rfl⟩ : ∃ m, k = m + 1 := ⟨k - 1, by omega⟩
  simp only [impl_areApart.l0]
  rw [if_neg (by omega)]
  rfl
 | succ d ih =>
  intro i k hi hk
  obtain ⟨k, rfl⟩ : ∃ m, k = m + 1 := ⟨k - 1, by omega⟩
  simp only [impl_areApart.l0, apartAll]
  rw [if_pos (by omega), if_pos (by omega), if_pos (by omega), if_pos (by omega), toNat_nat, impl_Class_isApart.f, if_pos (gapsIn_of fun x hx => hg x (List.mem_of_mem_take hx)), Option.bind_some, wrap_succ (n := l.length) (by omega) (by omega), ih (i + 1) k (by omega) (by omega)]
  cases apartB (rd_T40 l (i : Int)).f0 (rd_T40 l (i : Int)).f1 (l.take i) <;> simp
theorem implApart_eq (l : List S40) (hl : l.length ≤ 8) (hg : ∀ x ∈ l, 1 ≤ x.f1 ∧ x.f1 ≤ 40) (k : Nat) (hk : 1000 < k) : impl_areApart.f k l = some (apartAll l l.length 0) := by
 unfold impl_areApart.f
 have := implApart_l0 l hl hg l.length 0 k (by omega) (by omega)
 simpa using this
end Go.Proofs.Ytdkhecebffjpjaa.X
