/- For every list of rates and every list of heights: the program's CutByHeight answers as the reference's does and leaves its arguments as they were. -/
import Derived.Test.YtfephoddgifapaaQL
import Derived.Test.YtfephoddgifapaaQJ
import Derived.Test.YtfephoddgifapaaX3
import Derived.Test.YtfephoddgifapaaX7
import Derived.Test.YtfephoddgifapaaX8
import Derived.Test.YtfephoddgifapaaX9
import Derived.Test.YtfephoddgifapaaX10
import Derived.Test.YtfephoddgifapaaX11
import Derived.Test.YtfephoddgifapaaX12
namespace Go.Proofs.Ytfephoddgifapaa.Pure
set_option linter.unusedVariables false
set_option linter.unusedSimpArgs false
open Go.RowKit Go.Proofs.Ytfephoddgifapaa.X Go.Proofs.YtfephoddgifapaaW.PrintWords Go.Proofs.YtfephoddgifapaaW.PrintLast
theorem specHt_l0 (l : List Int) (hl : l.length ≤ 1048576) : ∀ (d i k : Nat), i + d = l.length → d < k → spec_l06Heights.l0 k l (i : Int) = some (if ((l.drop i).all fun n => withinB n 0 100000) = true then 0 else 2) := by
  intro d
  induction d with
  | zero =>
    intro i k hi hk
    obtain ⟨k, rfl⟩ : ∃ m, k = m + 1 := ⟨k - 1, by omega⟩
    simp only [spec_l06Heights.l0]
    rw [if_neg (by omega), List.drop_of_length_le (by omega)]
    simp
  | succ d ih =>
    intro i k hi hk
    obtain ⟨k, rfl⟩ : ∃ m, k = m + 1 := ⟨k - 1, by omega⟩
    simp only [spec_l06Heights.l0]
    rw [if_pos (by omega), if_pos (by omega), l01In_f, Option.bind_some, wrap_succ (n := l.length) (by omega) (by omega), drop_rd l i (by omega), List.all_cons]
    by_cases h : withinB (rd l (i : Int)) 0 100000 = true
    · rw [if_pos h, h, Bool.true_and, ih (i + 1) k (by omega) (by omega)]
    · rw [if_neg h, show withinB (rd l (i : Int)) 0 100000 = false from Bool.eq_false_iff.mpr h, Bool.false_and, if_neg (by simp)]
theorem specHt_eq (g l : List Int) (hg : g.length ≤ 1048576) (hl : l.length ≤ 1048576) (k : Nat) (hk : 3000000 < k) : spec_l06Heights.f k g l = some (if isGardenB g = true then (if areHeightsB g l = true then 0 else 2) else 1) := by
  unfold spec_l06Heights.f areHeightsB
  rw [l06Is_eq g (by omega) k (by omega), Option.bind_some]
  by_cases h : isGardenB g = true
  · rw [if_pos h, if_pos h]
    by_cases h2 : l.length = g.length
    · have := specHt_l0 l hl l.length 0 k (by omega) (by omega)
      simp only [Int.natCast_zero, List.drop_zero] at this
      rw [if_pos (by omega), decide_eq_true h2, Bool.true_and, this]
    · rw [if_neg (by omega), decide_eq_false h2, Bool.false_and, if_neg (by simp)]
  · rw [if_neg h, if_neg h]
theorem gardenCode_f (g : List Int) (b : Bool) : impl_gardenCode.f g b = some (if isGardenB g = true then (if b = true then 0 else 2) else 1) := by
  unfold impl_gardenCode.f
  rw [impl_IsGarden.f, Option.bind_some]
  by_cases h : isGardenB g = true
  · rw [if_pos h, if_pos h]
    cases b <;> rfl
  · rw [if_neg h, if_neg h]
theorem isGarden_len {l : List Int} (h : isGardenB l = true) : 1 ≤ l.length ∧ l.length ≤ 8 := by
  unfold isGardenB at h
  rw [Bool.and_eq_true] at h
  have := h.1
  unfold withinB at this
  simp only [Bool.and_eq_true, decide_eq_true_eq] at this
  omega
theorem heights_len {g l : List Int} (h : areHeightsB g l = true) : l.length = g.length := by
  unfold areHeightsB at h
  rw [Bool.and_eq_true] at h
  exact of_decide_eq_true h.1

def highF (l : List Int) : Nat → Nat → Nat → Nat
  | 0, _, b => b
  | d + 1, i, b => highF l d (i + 1) (if rd l (i : Int) > rd l (b : Int) then i else b)
theorem high_l0 (l : List Int) (hl : l.length ≤ 8) : ∀ (d i k b : Nat), i + d = l.length → d < k → b < i → spec_l06Highest.l0 k l (b : Int) (i : Int) = some ((highF l d i b : Nat) : Int) := by
  intro d
  induction d with
  | zero =>
    intro i k b hi hk hb
    obtain ⟨k, rfl⟩ : ∃ m, k = m + 1 := ⟨k - 1, by omega⟩
    simp only [spec_l06Highest.l0, highF]
    rw [if_neg (by omega)]
  | succ d ih =>
    intro i k b hi hk hb
    obtain ⟨k, rfl⟩ : ∃ m, k = m + 1 := ⟨k - 1, by omega⟩
    simp only [spec_l06Highest.l0, highF]
    rw [if_pos (by omega), if_pos (by omega), if_pos (by omega), if_pos (by omega), wrap_succ (n := l.length) (by omega) (by omega)]
    by_cases h : rd l (i : Int) > rd l (b : Int)
    · rw [if_pos h, if_pos h, ih (i + 1) k i (by omega) (by omega) (by omega)]
    · rw [if_neg h, if_neg h, ih (i + 1) k b (by omega) (by omega) (by omega)]
theorem highF_ok (l : List Int) : ∀ (d i b : Nat), i + d = l.length → b < i → (∀ j : Nat, j < i → rd l (j : Int) ≤ rd l (b : Int)) → (∀ j : Nat, j < b → rd l (j : Int) < rd l (b : Int)) →
    highF l d i b < l.length ∧ (∀ j : Nat, j < l.length → rd l (j : Int) ≤ rd l ((highF l d i b : Nat) : Int)) ∧ (∀ j : Nat, j < highF l d i b → rd l (j : Int) < rd l ((highF l d i b : Nat) : Int)) := by
  intro d
  induction d with
  | zero =>
    intro i b hi hb h1 h2
    simp only [highF]
    exact ⟨by omega, fun j hj => h1 j (by omega), h2⟩
  | succ d ih =>
    intro i b hi hb h1 h2
    simp only [highF]
    by_cases h : rd l (i : Int) > rd l (b : Int)
    · rw [if_pos h]
      refine ih (i + 1) i (by omega) (by omega) (fun j hj => ?_) (fun j hj => ?_)
      · by_cases e : j = i
        · rw [e]
          exact Int.le_refl _
        · have := h1 j (by omega)
          omega
      · have := h1 j (by omega)
        omega
    · rw [if_neg h]
      refine ih (i + 1) b (by omega) (by omega) (fun j hj => ?_) h2
      by_cases e : j = i
      · rw [e]
        omega
      · exact h1 j (by omega)
theorem max_l0 (l : List Int) (hl : l.length ≤ 8) : ∀ (d i k : Nat) (m : Int), i + d = l.length → d < k → slices_Max_int64_int64.l0 k l m (i : Int) = some (maxL (l.drop i) m) := by
  intro d
  induction d with
  | zero =>
    intro i k m hi hk
    obtain ⟨k, rfl⟩ : ∃ m, k = m + 1 := ⟨k - 1, by omega⟩
    simp only [slices_Max_int64_int64.l0]
    rw [if_neg (by omega), List.drop_of_length_le (by omega)]
    rfl
  | succ d ih =>
    intro i k m hi hk
    obtain ⟨k, rfl⟩ : ∃ m, k = m + 1 := ⟨k - 1, by omega⟩
    simp only [slices_Max_int64_int64.l0]
    rw [if_pos (by omega), if_pos (by omega), wrap_succ (n := l.length) (by omega) (by omega), ih (i + 1) k _ (by omega) (by omega), drop_rd l i (by omega)]
    rfl
theorem index_l0 (l : List Int) (r : Nat) (hl : l.length ≤ 8) (hr : r < l.length) (h : ∀ j : Nat, j < r → rd l (j : Int) < rd l (r : Int)) : ∀ (d i k : Nat), i + d = r → d + 1 < k → slices_Index_int64_int64.l0 k l (rd l (r : Int)) (l.length : Int) (i : Int) = some (r : Int) := by
  intro d
  induction d with
  | zero =>
    intro i k hi hk
    obtain ⟨k, rfl⟩ : ∃ m, k = m + 1 := ⟨k - 1, by omega⟩
    have e : i = r := by omega
    subst e
    simp only [slices_Index_int64_int64.l0]
    rw [if_pos (by omega), if_pos (by omega), if_pos (by omega), if_pos True.intro]
  | succ d ih =>
    intro i k hi hk
    obtain ⟨k, rfl⟩ : ∃ m, k = m + 1 := ⟨k - 1, by omega⟩
    have := h i (by omega)
    simp only [slices_Index_int64_int64.l0]
    rw [if_pos (by omega), if_pos (by omega), if_pos (by omega), if_neg (by omega), wrap_succ (n := l.length) (by omega) (by omega), ih (i + 1) k (by omega) (by omega)]
theorem mem_rd (l : List Int) (x : Int) (h : x ∈ l) : ∃ j : Nat, j < l.length ∧ x = rd l (j : Int) := by
  obtain ⟨j, hj, rfl⟩ := List.getElem_of_mem h
  refine ⟨j, hj, ?_⟩
  unfold rd
  rw [Int.toNat_natCast, List.getD_eq_getElem?_getD, List.getElem?_eq_getElem hj]
  rfl
theorem byHeight_eq (l : List Int) (h1 : 1 ≤ l.length) (hl : l.length ≤ 8) (k : Nat) (hk : 100 < k) : impl_byHeight.f k l = some ((highF l (l.length - 1) 1 0 : Nat) : Int) := by
  obtain ⟨a, b, c⟩ := highF_ok l (l.length - 1) 1 0 (by omega) (by omega) (fun j hj => by rw [show j = 0 by omega]; exact Int.le_refl _) (fun j hj => by omega)
  generalize highF l (l.length - 1) 1 0 = r at a b c
  have hm := max_l0 l hl (l.length - 1) 1 k (rd l 0) (by omega) (by omega)
  simp only [Int.natCast_one] at hm
  have e : maxL (l.drop 1) (rd l 0) = rd l (r : Int) := by
    apply Int.le_antisymm
    · rcases maxL_in (l.drop 1) (rd l 0) with e | e
      · rw [e]
        exact b 0 (by omega)
      · obtain ⟨j, hj, ej⟩ := mem_rd l _ (List.mem_of_mem_drop e)
        rw [ej]
        exact b j hj
    · by_cases e : r = 0
      · rw [e]
        exact maxL_ge (l.drop 1) (rd l 0)
      · refine maxL_mem (l.drop 1) (rd l 0) _ ?_
        obtain ⟨q, rfl⟩ : ∃ q, r = q + 1 := ⟨r - 1, by omega⟩
        have := rd_in (l.drop 1) q (by rw [List.length_drop]; omega)
        have e2 : rd (l.drop 1) (q : Int) = rd l ((q + 1 : Nat) : Int) := by
          unfold rd
          rw [Int.toNat_natCast, Int.toNat_natCast, List.getD_eq_getElem?_getD, List.getD_eq_getElem?_getD, List.getElem?_drop, Nat.add_comm]
        rw [e2] at this
        exact this
  have hi := index_l0 l r hl a c r 0 k (by omega) (by omega)
  simp only [Int.natCast_zero] at hi
  unfold impl_byHeight.f slices_Max_int64_int64.f slices_Index_int64_int64.f
  rw [if_neg (by omega), if_pos (by omega), hm, Option.bind_some, e, hi, Option.bind_some]
theorem FnExactCutByHeight : laws_FnExactCutByHeight.Pure := by
  intro g l hmg hwg hml hyl hwl
  refine ⟨4000010, ?_⟩
  unfold laws_FnExactCutByHeight.f laws_szGarden.f
  by_cases hll : l.length ≤ 1048576
  · rw [if_neg (by omega)]
    have hmg := maxLen_le hmg
    by_cases hlg : g.length ≤ 1048576
    · rw [szI_ok g hlg, Option.bind_some, if_neg (by omega), Option.bind_some, if_neg (by omega)]
      have hS : ∀ k, 3000000 < k → spec_CutByHeight.f k g l = some (if isGardenB g = true then (if areHeightsB g l = true then (((highF l (l.length - 1) 1 0 : Nat) : Int), (0 : Int)) else (0, 2)) else (0, 1)) := by
        intro k hk
        unfold spec_CutByHeight.f
        rw [specHt_eq g l hlg hll k hk, Option.bind_some]
        by_cases h : isGardenB g = true
        · rw [if_pos h, if_pos h]
          by_cases h2 : areHeightsB g l = true
          · have hl2 := heights_len h2
            have hl3 := isGarden_len h
            have := high_l0 l (by omega) (l.length - 1) 1 k 0 (by omega) (by omega) (by omega)
            simp only [Int.natCast_one, Int.natCast_zero] at this
            rw [if_pos h2, if_pos h2, if_pos rfl, spec_l06Highest.f, this, Option.bind_some]
          · rw [if_neg h2, if_neg h2, if_neg (by omega)]
        · rw [if_neg h, if_neg h, if_neg (by omega)]
      have hI : ∀ k, 3000000 < k → impl_CutByHeight.f k g l = some (if isGardenB g = true then (if areHeightsB g l = true then (((highF l (l.length - 1) 1 0 : Nat) : Int), (0 : Int)) else (0, 2)) else (0, 1)) := by
        intro k hk
        unfold impl_CutByHeight.f
        rw [impl_Garden_areHeights.f, Option.bind_some, gardenCode_f, Option.bind_some]
        by_cases h : isGardenB g = true
        · rw [if_pos h, if_pos h]
          by_cases h2 : areHeightsB g l = true
          · have hl2 := heights_len h2
            have hl3 := isGarden_len h
            rw [if_pos h2, if_pos h2, if_pos rfl, byHeight_eq l (by omega) (by omega) k (by omega), Option.bind_some]
          · rw [if_neg h2, if_neg h2, if_neg (by omega)]
        · rw [if_neg h, if_neg h, if_neg (by omega)]
      generalize (if isGardenB g = true then (if areHeightsB g l = true then (((highF l (l.length - 1) 1 0 : Nat) : Int), (0 : Int)) else (0, 2)) else (0, 1)) = r at hS hI
      obtain ⟨r0, r1⟩ := r
      simp (disch := omega) only [toInt64S_eq, Option.bind_some, hS, hI, if_true, bne_self_eq_false, eqInt64S_self, Bool.false_eq_true, if_false, laws_toGarden.f, laws_eqGarden.f]
      simp only [laws_FnExactCutByHeight.j0]
      simp (disch := omega) only [toInt64S_eq, Option.bind_some, hS, hI, if_true, bne_self_eq_false, eqInt64S_self, Bool.false_eq_true, if_false, laws_toGarden.f, laws_eqGarden.f]
    · rw [szI_big g hmg hlg, Option.bind_some, if_pos (by omega), Option.bind_some, if_pos (by omega)]
  · rw [if_pos (by omega)]
end Go.Proofs.Ytfephoddgifapaa.Pure
