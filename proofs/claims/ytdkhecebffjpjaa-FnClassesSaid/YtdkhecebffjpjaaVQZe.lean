import Derived.Test.YtdkhecebffjpjaaVQZa
import Derived.Test.YtdkhecebffjpjaaVQN
import Derived.Test.YtdkhecebffjpjaaY0
import Derived.Test.YtdkhecebffjpjaaY8
import Derived.Test.YtdkhecebffjpjaaY13
import Derived.Test.YtdkhecebffjpjaaY14
namespace Go.Proofs.Ytdkhecebffjpjaa.X
set_option linter.unusedVariables false
set_option linter.unusedSimpArgs false
open Go.RowKit Go.Proofs.YtdkhecebffjpjaaW.PrintWords Go.Proofs.YtdkhecebffjpjaaW.PrintLast
def gapsL (l : List S40) : List Int := l.map fun x => x.f1
theorem gapsL_length (l : List S40) : (gapsL l).length = l.length := by simp [gapsL]
theorem gapsL_mem {l : List S40} (hg : ∀ x ∈ l, 1 ≤ x.f1 ∧ x.f1 ≤ 40) : ∀ g ∈ gapsL l, 1 ≤ g ∧ g ≤ 40 := by
 intro g h
 obtain ⟨x, hx, rfl⟩ := List.mem_map.1 h
 exact hg x hx
theorem gapsOf_l0 (l : List S40) (hl : l.length ≤ 8) : ∀ (d i k : Nat) (o : List Int), i + d = l.length → d < k → o.length = i → impl_gapsOf.l0 k l (l.length : Int) (i : Int) o = some (o ++ gapsL (l.drop i)) := by
 intro d
 induction d with
 | zero =>
  intro i k o hi hk ho
  obtain ⟨k, rfl⟩ : ∃ m, k = m + 1 := ⟨k - 1, by omega⟩
  simp only [impl_gapsOf.l0]
  rw [if_neg (by omega), List.drop_of_length_le (by omega)]
  simp [gapsL]
 | succ d ih =>
  intro i k o hi hk ho
  obtain ⟨k, rfl⟩ : ∃ m, k = m + 1 := ⟨k - 1, by omega⟩
  simp only [impl_gapsOf.l0]
  rw [if_pos (by omega), if_pos (by omega), if_pos (by omega), if_pos (by omega), wrap_succ (n := l.length) (by omega) (by omega), ih (i + 1) k _ (by omega) (by omega) (by rw [List.length_append, List.length_singleton]; omega), dropC_rd l i (by omega), List.append_assoc]
  rfl
theorem gapsOf_eq (l : List S40) (hl : l.length ≤ 8) (k : Nat) (hk : 10 < k) : impl_gapsOf.f k l = some (gapsL l) := by
 unfold impl_gapsOf.f
 have := gapsOf_l0 l hl l.length 0 k [] (by omega) (by omega) rfl
 simpa using this
def densP (l : List S40) : Int × Int := (wrap64 (Int.tdiv (densF (gapsL l) (mulF (gapsL l) 1 : Nat) 0) (gI (densF (gapsL l) (mulF (gapsL l) 1 : Nat) 0) (mulF (gapsL l) 1 : Nat))), wrap64 (Int.tdiv (mulF (gapsL l) 1 : Nat) (gI (densF (gapsL l) (mulF (gapsL l) 1 : Nat) 0) (mulF (gapsL l) 1 : Nat))))
def exactB (l : List S40) : Bool := apartAll l l.length 0 && ((densP l).1 == (densP l).2)
theorem implExact_eq (l : List S40) (hl : l.length ≤ 8) (hg : ∀ x ∈ l, 1 ≤ x.f1 ∧ x.f1 ≤ 40) (k : Nat) (hk : 9223372036860000000 < k) : impl_areExact.f k l = some (exactB l) := by
 unfold impl_areExact.f exactB densP
 rw [gapsOf_eq l hl k (by omega), Option.bind_some, implDensity_eq (gapsL l) (by rw [gapsL_length]; exact hl) (gapsL_mem hg) k hk, Option.bind_some, implApart_eq l hl hg k (by omega), Option.bind_some]
 cases apartAll l l.length 0 <;> simp
theorem specExact_l0 (l : List S40) (hl : l.length ≤ 8) (hg : ∀ x ∈ l, 1 ≤ x.f1 ∧ x.f1 ≤ 40) : ∀ (d i k : Nat) (o : List Int), i + d = l.length → 9223372036860000100 + d < k → o = gapsL (l.take i) → spec_l05Exact.l0 k l (i : Int) o = some (exactB l) := by
 intro d
 induction d with
 | zero =>
  intro i k o hi hk ho
  obtain ⟨k, rfl⟩ : ∃ m, k = m + 1 := ⟨k - 1, by omega⟩
  rw [List.take_of_length_le (by omega)] at ho
  subst ho
  simp only [spec_l05Exact.l0]
  unfold exactB densP
  rw [if_neg (by omega), specDensity_eq (gapsL l) (by rw [gapsL_length]; exact hl) (gapsL_mem hg) k (by omega), Option.bind_some, specApart_eq l hl hg k (by omega), Option.bind_some]
  generalize wrap64 (Int.tdiv (densF (gapsL l) (mulF (gapsL l) 1 : Nat) 0) (gI (densF (gapsL l) (mulF (gapsL l) 1 : Nat) 0) (mulF (gapsL l) 1 : Nat))) = a
  generalize wrap64 (Int.tdiv (mulF (gapsL l) 1 : Nat) (gI (densF (gapsL l) (mulF (gapsL l) 1 : Nat) 0) (mulF (gapsL l) 1 : Nat))) = b
  by_cases h : a = b
  ·rw [if_pos h, h]
   simp
  ·rw [if_neg h]
   simp [h]
 | succ d ih =>
  intro i k o hi hk ho
  obtain ⟨k, rfl⟩ : ∃ m, k = m + 1 := ⟨k - 1, by omega⟩
  have hol : o.length = i := by rw [ho, gapsL_length, List.length_take]; omega
  simp only [spec_l05Exact.l0]
  rw [if_pos (by omega), if_pos (by omega), if_pos (by omega), wrap_succ (n := l.length) (by omega) (by omega), ih (i + 1) k _ (by omega) (by omega) ?_]
  rw [ho, takeC_rd l i (by omega)]
  simp [gapsL]
theorem specExact_eq (l : List S40) (hl : l.length ≤ 8) (hg : ∀ x ∈ l, 1 ≤ x.f1 ∧ x.f1 ≤ 40) (k : Nat) (hk : 9223372036860001000 < k) : spec_l05Exact.f k l = some (exactB l) := by
 unfold spec_l05Exact.f
 have := specExact_l0 l hl hg l.length 0 k [] (by omega) (by omega) (by simp [gapsL])
 simpa using this
end Go.Proofs.Ytdkhecebffjpjaa.X
