/- What the texts of turns are, in the program and in its reference; no condition beside those stated. -/
import Derived.Test.YtndbfmbejopkkaaQB
import Derived.Test.YtndbfmbejopkkaaX17
import Derived.Test.YtndbfmbejopkkaaX26
namespace Go.Proofs.Ytndbfmbejopkkaa.X
set_option linter.unusedVariables false
set_option linter.unusedSimpArgs false
open Go.RowKit Go.Proofs.YtndbfmbejopkkaaW.PrintWords Go.Proofs.YtndbfmbejopkkaaW.PrintLast

theorem snoc_map (l : List Int) (f : Int → Int) (acc : List Int) (i : Nat) (h : i < l.length) : acc ++ [f (rd l (i : Int))] ++ (l.drop (i + 1)).map f = acc ++ (l.drop i).map f := by
  rw [drop_rd l i h, List.map_cons, List.append_assoc]
  rfl
def encS (x : Int) : Int := if x < 0 then 46 else (wrap64 (97 + x)) % 256
def encI (x : Int) : Int := if x = -1 then 46 else (wrap64 (97 + x)) % 256
theorem l01Text_l0 (l : List Int) (hm : l.length ≤ 1048576) : ∀ (d i k : Nat) (acc : List Int), i + d = l.length → d < k → acc.length = i → spec_l01Text.l0 k l acc (i : Int) = some (strOfNums (acc ++ (l.drop i).map encS)) := by
  intro d
  induction d with
  | zero =>
    intro i k acc hi hk ha
    obtain ⟨k, rfl⟩ : ∃ m, k = m + 1 := ⟨k - 1, by omega⟩
    simp only [spec_l01Text.l0]
    rw [if_neg (by omega), List.drop_of_length_le (by omega)]
    simp
  | succ d ih =>
    intro i k acc hi hk ha
    obtain ⟨k, rfl⟩ : ∃ m, k = m + 1 := ⟨k - 1, by omega⟩
    simp only [spec_l01Text.l0]
    rw [if_pos (by omega), if_pos (by omega), wrap_succ (n := l.length) (by omega) (by omega), ← snoc_map l encS acc i (by omega)]
    by_cases h : rd l (i : Int) < 0
    · rw [if_pos h, if_pos (by omega), ih (i + 1) k _ (by omega) (by omega) (by simp [ha])]
      simp only [encS, if_pos h]
    · rw [if_neg h, if_pos (by omega), ih (i + 1) k _ (by omega) (by omega) (by simp [ha])]
      simp only [encS, if_neg h]
theorem l01Text_eq (l : List Int) (hm : l.length ≤ 1048576) (k : Nat) (hk : l.length < k) : spec_l01Text.f k l = some (strOfNums (l.map encS)) := by
  unfold spec_l01Text.f
  have := l01Text_l0 l hm l.length 0 k [] (by omega) hk rfl
  simpa using this
theorem turnsText_l0 (l : List Int) (hm : l.length ≤ 1048576) : ∀ (d i k : Nat) (acc : List Int), i + d = l.length → d < k → acc.length = i → impl_turnsText.l0 k acc l (l.length : Int) (i : Int) = some (strOfNums (acc ++ (l.drop i).map encI)) := by
  intro d
  induction d with
  | zero =>
    intro i k acc hi hk ha
    obtain ⟨k, rfl⟩ : ∃ m, k = m + 1 := ⟨k - 1, by omega⟩
    simp only [impl_turnsText.l0]
    rw [if_neg (by omega), List.drop_of_length_le (by omega)]
    simp
  | succ d ih =>
    intro i k acc hi hk ha
    obtain ⟨k, rfl⟩ : ∃ m, k = m + 1 := ⟨k - 1, by omega⟩
    simp only [impl_turnsText.l0]
    rw [if_pos (by omega), if_pos (by omega), if_pos (by omega), wrap_succ (n := l.length) (by omega) (by omega), ← snoc_map l encI acc i (by omega)]
    by_cases h : rd l (i : Int) = -1
    · rw [if_pos h, if_pos (by omega), ih (i + 1) k _ (by omega) (by omega) (by simp [ha])]
      simp only [encI, if_pos h]
    · rw [if_neg h, if_pos (by omega), ih (i + 1) k _ (by omega) (by omega) (by simp [ha])]
      simp only [encI, if_neg h]
theorem turnsText_eq (l : List Int) (hm : l.length ≤ 1048576) (k : Nat) (hk : l.length < k) : impl_turnsText.f k l = some (strOfNums (l.map encI)) := by
  unfold impl_turnsText.f
  have := turnsText_l0 l hm l.length 0 k [] (by omega) hk rfl
  simpa using this
theorem map_enc (l : List Int) (h : ∀ x ∈ l, -1 ≤ x) : l.map encI = l.map encS := by
  refine List.map_congr_left fun x hx => ?_
  have := h x hx
  unfold encI encS
  by_cases e : x = -1
  · rw [if_pos e, if_pos (by omega)]
  · rw [if_neg e, if_neg (by omega)]
end Go.Proofs.Ytndbfmbejopkkaa.X
