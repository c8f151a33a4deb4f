/- Turns of classes, and marked classes; no condition beside those stated. -/
import Derived.Test.YtnmcglnkifkpnaaQZf
import Derived.Test.YtnmcglnkifkpnaaX0
import Derived.Test.YtnmcglnkifkpnaaX1
import Derived.Test.YtnmcglnkifkpnaaX2
namespace Go.Proofs.Ytnmcglnkifkpnaa.X
set_option linter.unusedVariables false
set_option linter.unusedSimpArgs false
open Go.RowKit Go.Proofs.YtnmcglnkifkpnaaW.PrintWords Go.Proofs.YtnmcglnkifkpnaaW.PrintLast
def marksC : Nat → Int → List S54
  | 0, _ => []
  | d + 1, c => ⟨c, c + 1⟩ :: marksC d (c + 2)
theorem marksC_length : ∀ d c, (marksC d c).length = d
  | 0, _ => rfl
  | d + 1, c => by rw [marksC, List.length_cons, marksC_length d]
theorem rd_setC (x : List S54) (i : Nat) (c : S54) (h : i < x.length) : rd_T54 (x.set i c) (i : Int) = c := by
  rw [rdC_get _ i (by rw [List.length_set]; exact h), List.getElem_set_self]
theorem markClassS_l0 : ∀ (d i k : Nat) (x : List S54) (c : Int), i + d = x.length → d < k → x.length ≤ 1048576 → 0 ≤ c → c + 2 * (d : Int) ≤ 4611686018427387904 → laws_markClassS.l0 k x c (i : Int) = some (c + ((2 * d : Nat) : Int), x.take i ++ marksC d c) := by
  intro d
  induction d with
  | zero =>
    intro i k x c hi hk hm h0 h1
    obtain ⟨k, rfl⟩ : ∃ m, k = m + 1 := ⟨k - 1, by omega⟩
    simp only [laws_markClassS.l0]
    rw [if_neg (by omega), List.take_of_length_le (by omega)]
    simp [marksC]
  | succ d ih =>
    intro i k x c hi hk hm h0 h1
    obtain ⟨k, rfl⟩ : ∃ m, k = m + 1 := ⟨k - 1, by omega⟩
    simp only [laws_markClassS.l0]
    rw [if_pos (by omega), if_pos (by omega), Option.bind_some, wrap_succ (n := x.length) (by omega) (by omega), toNat_nat, wrap64_id (x := c + 1) (by omega) (by omega), wrap64_id (x := c + 1 + 1) (by omega) (by omega), rd_setC x i _ (by omega), List.set_set]
    rw [ih (i + 1) k (x.set i ⟨c, c + 1⟩) (c + 1 + 1) (by rw [List.length_set]; omega) (by omega) (by rw [List.length_set]; omega) (by omega) (by omega), setC_take x i _ (by omega), List.append_assoc, show c + 1 + 1 = c + 2 by omega]
    simp only [marksC, List.singleton_append, Option.some.injEq, Prod.mk.injEq, and_true]
    omega
theorem markClassS_eq (x : List S54) (hm : x.length ≤ 1048576) (k : Nat) (hk : x.length < k) : laws_markClassS.f k x 1 = some (1 + ((2 * x.length : Nat) : Int), marksC x.length 1) := by
  unfold laws_markClassS.f
  have := markClassS_l0 x.length 0 k x 1 (by omega) hk hm (by omega) (by omega)
  simpa using this
theorem rd_marksC : ∀ (n i : Nat) (c : Int), i < n → rd_T54 (marksC n c) (i : Int) = ⟨c + 2 * (i : Int), c + 2 * (i : Int) + 1⟩
  | 0, i, c, h => absurd h (Nat.not_lt_zero _)
  | n + 1, 0, c, _ => by simp [marksC, rd_T54]
  | n + 1, i + 1, c, h => by
    have ih := rd_marksC n i (c + 2) (by omega)
    rw [rdC_get _ _ (by rw [marksC_length]; omega)] at ih ⊢
    simp only [marksC, List.getElem_cons_succ]
    rw [ih]
    congr 1 <;> omega
theorem heldClassS_l0 (n : Nat) (hn : n ≤ 1048576) : ∀ (d i k : Nat), i + d = n → d < k → laws_heldClassS.l0 k (marksC n 1) (1 + 2 * (i : Int)) (i : Int) = some (1 + ((2 * n : Nat) : Int)) := by
  intro d
  induction d with
  | zero =>
    intro i k hi hk
    obtain ⟨k, rfl⟩ : ∃ m, k = m + 1 := ⟨k - 1, by omega⟩
    simp only [laws_heldClassS.l0]
    rw [marksC_length, if_neg (by omega)]
    congr 1
    omega
  | succ d ih =>
    intro i k hi hk
    obtain ⟨k, rfl⟩ : ∃ m, k = m + 1 := ⟨k - 1, by omega⟩
    have e := ih (i + 1) k (by omega) (by omega)
    simp only [laws_heldClassS.l0]
    rw [marksC_length, if_pos (by omega), if_pos (by omega), rd_marksC n i 1 (by omega)]
    simp only
    rw [if_pos trivial, wrap64_id (x := 1 + 2 * (i : Int) + 1) (by omega) (by omega), if_pos rfl, wrap_succ (n := n) (by omega) (by omega), wrap64_id (by omega) (by omega), show 1 + 2 * (i : Int) + 1 + 1 = 1 + 2 * ((i + 1 : Nat) : Int) by omega, e]
theorem heldClassS_eq (n : Nat) (hn : n ≤ 1048576) (k : Nat) (hk : n < k) : laws_heldClassS.f k (marksC n 1) 1 = some (1 + ((2 * n : Nat) : Int)) := by
  unfold laws_heldClassS.f
  have := heldClassS_l0 n hn n 0 k (by omega) hk
  simpa using this
end Go.Proofs.Ytnmcglnkifkpnaa.X
