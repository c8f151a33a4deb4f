import Derived.Test.YtdkhecebffjpjaaVQZt
import Derived.Test.YtdkhecebffjpjaaY0
import Derived.Test.YtdkhecebffjpjaaY4
namespace Go.Proofs.Ytdkhecebffjpjaa.X
set_option linter.unusedVariables false
set_option linter.unusedSimpArgs false
open Go.RowKit Go.Proofs.YtdkhecebffjpjaaW.PrintWords Go.Proofs.YtdkhecebffjpjaaW.PrintLast
def partsF (c : S40) (m : Int) : Nat → Nat → List S40
 | 0, _ => []
 | d + 1, n => ⟨wrap64 (c.f0 + wrap64 ((n : Int) * c.f1)), wrap64 (m * c.f1)⟩ :: partsF c m d (n + 1)
theorem partsF_length (c : S40) (m : Int) : ∀ d n, (partsF c m d n).length = d
 | 0, _ => rfl
 | d + 1, n => by rw [partsF, List.length_cons, partsF_length c m d]
def splitL (l : List S40) (i m : Nat) : List S40 := l.take i ++ (partsF (rd_T40 l (i : Int)) (m : Int) m 0 ++ l.drop (i + 1))
theorem splitL_length (l : List S40) (i m : Nat) (hi : i < l.length) : (splitL l i m).length = l.length + m - 1 := by
 unfold splitL
 rw [List.length_append, List.length_append, List.length_take, List.length_drop, partsF_length]
 omega
theorem specSplit_l0 (l : List S40) (hl : l.length ≤ 8) (i m : Nat) (hi : i < l.length) (hm : m ≤ 8) : ∀ (d n k : Nat) (o : List S40), n + d = m → d < k → o.length + d ≤ 100 → spec_l05Split.l0 k l (i : Int) (m : Int) o (n : Int) = some (o ++ (partsF (rd_T40 l (i : Int)) (m : Int) d n ++ l.drop (i + 1))) := by
 intro d
 induction d with
 | zero =>
  intro n k o hn hk ho
  obtain ⟨k, rfl⟩ : ∃ m, k = m + 1 := ⟨k - 1, by omega⟩
  simp only [spec_l05Split.l0, partsF]
  rw [if_neg (by omega), wrap_succ (n := l.length) hi (by omega), if_pos (by omega), if_pos (by omega), Option.bind_some, toNat_nat, if_pos (by rw [List.length_drop]; omega)]
  rfl
 | succ d ih =>
  intro n k o hn hk ho
  obtain ⟨k, rfl⟩ : ∃ m, k = m + 1 := ⟨k - 1, by omega⟩
  simp only [spec_l05Split.l0, partsF]
  rw [if_pos (by omega), if_pos (by omega), if_pos (by omega), if_pos (by omega), wrap_succ (i := n) (n := m) (by omega) (by omega), ih (n + 1) k _ (by omega) (by omega) (by rw [List.length_append, List.length_singleton]; omega), List.append_assoc]
  rfl
end Go.Proofs.Ytdkhecebffjpjaa.X
