/- For every list of rates, every list of heights and every number: the program's GrowDays answers as the reference's does, leaves its arguments as they were, and shares no memory. -/
import Derived.Test.YtfephoddgifapaaQL
import Derived.Test.YtfephoddgifapaaQJ
import Derived.Test.YtfephoddgifapaaX3
import Derived.Test.YtfephoddgifapaaX7
import Derived.Test.YtfephoddgifapaaX8
import Derived.Test.YtfephoddgifapaaX9
import Derived.Test.YtfephoddgifapaaX20
import Derived.Test.YtfephoddgifapaaX21
import Derived.Test.YtfephoddgifapaaX22
import Derived.Test.YtfephoddgifapaaX23
import Derived.Test.YtfephoddgifapaaX24
import Derived.Test.YtfephoddgifapaaX25
namespace Go.Proofs.Ytfephoddgifapaa.Pure
set_option linter.unusedVariables false
set_option linter.unusedSimpArgs false
open Go.RowKit Go.Proofs.Ytfephoddgifapaa.X Go.Proofs.YtfephoddgifapaaW.PrintWords Go.Proofs.YtfephoddgifapaaW.PrintLast
theorem specHt_l0 (l : List Int) (hl : l.length ≤ 1048576) : ∀ (d i k : Nat), i + d = l.length → d < k → spec_l06Heights.l0 k l (i : Int) = some (if ((l.drop i).all fun n => withinB n 0 100000) = true then 0 else 2) := by
  intro d
  induction d with
  | zero =>
    intro i k hi hk
    obtain ⟨k, rfl⟩ : ∃ m, k = m + 1 := ⟨k - 1, by omega⟩
    simp only [spec_l06Heights.l0]
    rw [if_neg (by omega), List.drop_of_length_le (by omega)]
    simp
  | succ d ih =>
    intro i k hi hk
    obtain ⟨k, rfl⟩ : ∃ m, k = m + 1 := ⟨k - 1, by omega⟩
    simp only [spec_l06Heights.l0]
    rw [if_pos (by omega), if_pos (by omega), l01In_f, Option.bind_some, wrap_succ (n := l.length) (by omega) (by omega), drop_rd l i (by omega), List.all_cons]
    by_cases h : withinB (rd l (i : Int)) 0 100000 = true
    · rw [if_pos h, h, Bool.true_and, ih (i + 1) k (by omega) (by omega)]
    · rw [if_neg h, show withinB (rd l (i : Int)) 0 100000 = false from Bool.eq_false_iff.mpr h, Bool.false_and, if_neg (by simp)]
theorem specHt_eq (g l : List Int) (hg : g.length ≤ 1048576) (hl : l.length ≤ 1048576) (k : Nat) (hk : 3000000 < k) : spec_l06Heights.f k g l = some (if isGardenB g = true then (if areHeightsB g l = true then 0 else 2) else 1) := by
  unfold spec_l06Heights.f areHeightsB
  rw [l06Is_eq g (by omega) k (by omega), Option.bind_some]
  by_cases h : isGardenB g = true
  · rw [if_pos h, if_pos h]
    by_cases h2 : l.length = g.length
    · have := specHt_l0 l hl l.length 0 k (by omega) (by omega)
      simp only [Int.natCast_zero, List.drop_zero] at this
      rw [if_pos (by omega), decide_eq_true h2, Bool.true_and, this]
    · rw [if_neg (by omega), decide_eq_false h2, Bool.false_and, if_neg (by simp)]
  · rw [if_neg h, if_neg h]
theorem gardenCode_f (g : List Int) (b : Bool) : impl_gardenCode.f g b = some (if isGardenB g = true then (if b = true then 0 else 2) else 1) := by
  unfold impl_gardenCode.f
  rw [impl_IsGarden.f, Option.bind_some]
  by_cases h : isGardenB g = true
  · rw [if_pos h, if_pos h]
    cases b <;> rfl
  · rw [if_neg h, if_neg h]
theorem isGarden_len {l : List Int} (h : isGardenB l = true) : 1 ≤ l.length ∧ l.length ≤ 8 := by
  unfold isGardenB at h
  rw [Bool.and_eq_true] at h
  have := h.1
  unfold withinB at this
  simp only [Bool.and_eq_true, decide_eq_true_eq] at this
  omega
theorem heights_len {g l : List Int} (h : areHeightsB g l = true) : l.length = g.length := by
  unfold areHeightsB at h
  rw [Bool.and_eq_true] at h
  exact of_decide_eq_true h.1

def growF (g : List Int) (n : Int) : Nat → Nat → List Int → List Int
  | 0, _, o => o
  | d + 1, i, o => growF g n d (i + 1) (o.set i (wrap64 (rd o (i : Int) + wrap64 (rd g (i : Int) * n))))
theorem growF_length (g : List Int) (n : Int) : ∀ (d i : Nat) (o : List Int), (growF g n d i o).length = o.length := by
  intro d
  induction d with
  | zero => intro i o; rfl
  | succ d ih =>
    intro i o
    simp only [growF]
    rw [ih, List.length_set]
theorem implGrow_l0 (g : List Int) (n : Int) (hg : g.length ≤ 8) : ∀ (d i k : Nat) (o : List Int), i + d = g.length → d < k → o.length = g.length → impl_Garden_grown.l0 k n o g (g.length : Int) (i : Int) = some (growF g n d i o) := by
  intro d
  induction d with
  | zero =>
    intro i k o hi hk ho
    obtain ⟨k, rfl⟩ : ∃ m, k = m + 1 := ⟨k - 1, by omega⟩
    simp only [impl_Garden_grown.l0]
    rw [if_neg (by omega)]
    rfl
  | succ d ih =>
    intro i k o hi hk ho
    obtain ⟨k, rfl⟩ : ∃ m, k = m + 1 := ⟨k - 1, by omega⟩
    simp only [impl_Garden_grown.l0, growF]
    rw [if_pos (by omega), if_pos (by omega), if_pos (by omega), if_pos (by omega), wrap_succ (n := g.length) (by omega) (by omega), toNat_nat, ih (i + 1) k _ (by omega) (by omega) (by rw [List.length_set]; exact ho)]
theorem set_drop (o l : List Int) (i : Nat) (v : Int) (ho : o.length = i) (hi : i < l.length) : (o ++ l.drop i).set i v = (o ++ [v]) ++ l.drop (i + 1) := by
  rw [drop_rd l i hi, List.set_append_right _ _ (by omega), show i - o.length = 0 by omega, List.set_cons_zero, List.append_assoc]
  rfl
theorem rd_drop (o l : List Int) (i : Nat) (ho : o.length = i) : rd (o ++ l.drop i) (i : Int) = rd l (i : Int) := by
  unfold rd
  rw [Int.toNat_natCast, List.getD_eq_getElem?_getD, List.getD_eq_getElem?_getD, List.getElem?_append_right (by omega), List.getElem?_drop, show i + (i - o.length) = i by omega]
theorem specGrow_l0 (g l : List Int) (n : Int) (hg : g.length ≤ 8) (hl : l.length = g.length) : ∀ (d i k : Nat) (o : List Int), i + d = g.length → d < k → o.length = i → spec_l06Grow.l0 k l n o (i : Int) g = some (growF g n d i (o ++ l.drop i)) := by
  intro d
  induction d with
  | zero =>
    intro i k o hi hk ho
    obtain ⟨k, rfl⟩ : ∃ m, k = m + 1 := ⟨k - 1, by omega⟩
    simp only [spec_l06Grow.l0]
    rw [if_neg (by omega), List.drop_of_length_le (by omega), List.append_nil]
    rfl
  | succ d ih =>
    intro i k o hi hk ho
    obtain ⟨k, rfl⟩ : ∃ m, k = m + 1 := ⟨k - 1, by omega⟩
    simp only [spec_l06Grow.l0, growF]
    rw [if_pos (by omega), if_pos (by omega), if_pos (by omega), if_pos (by omega), wrap_succ (n := g.length) (by omega) (by omega), ih (i + 1) k _ (by omega) (by omega) (by simp [ho]), set_drop o l i _ ho (by omega), rd_drop o l i ho, Int.mul_comm n]
theorem specGrow_eq (g l : List Int) (n : Int) (hg : g.length ≤ 8) (hl : l.length = g.length) (k : Nat) (hk : 100 < k) : spec_l06Grow.f k g l n = some (growF g n g.length 0 l) := by
  unfold spec_l06Grow.f
  have := specGrow_l0 g l n hg hl g.length 0 k [] (by omega) (by omega) rfl
  simp only [Int.natCast_zero, List.drop_zero, List.nil_append] at this
  exact this
theorem FnExactGrowDays : laws_FnExactGrowDays.Pure := by
  intro g l n hmg hwg hml hyl hwl hwn
  refine ⟨4000010, ?_⟩
  unfold laws_FnExactGrowDays.f laws_szGarden.f
  by_cases hll : l.length ≤ 1048576
  · rw [if_neg (by omega)]
    have hmg := maxLen_le hmg
    by_cases hlg : g.length ≤ 1048576
    · rw [szI_ok g hlg, Option.bind_some, if_neg (by omega), Option.bind_some, if_neg (by omega)]
      have hS : ∀ k, 3000000 < k → spec_GrowDays.f k g l n = some (if isGardenB g = true then (if (areHeightsB g l && withinB n 0 200) = true then (growF g n g.length 0 l, (0 : Int)) else ([], 2)) else ([], 1)) := by
        intro k hk
        unfold spec_GrowDays.f
        rw [specHt_eq g l hlg hll k hk, Option.bind_some]
        obtain ⟨k, rfl⟩ : ∃ m, k = m + 1 := ⟨k - 1, by omega⟩
        simp only [spec_GrowDays.j0]
        by_cases h : isGardenB g = true
        · rw [if_pos h, if_pos h]
          by_cases h2 : areHeightsB g l = true
          · rw [if_pos h2, if_pos rfl, l01In_f, Option.bind_some, h2, Bool.true_and]
            by_cases h3 : withinB n 0 200 = true
            · rw [h3, if_neg (by simp), if_pos rfl, specGrow_eq g l n (isGarden_len h).2 (heights_len h2) k (by omega), Option.bind_some, if_pos rfl]
            · rw [show withinB n 0 200 = false from Bool.eq_false_iff.mpr h3, if_pos (by rfl), if_neg (by omega), if_neg (by simp)]
          · rw [if_neg h2, if_neg (by omega), if_neg (by simp), if_neg (by omega), show areHeightsB g l = false from Bool.eq_false_iff.mpr h2, Bool.false_and, if_neg (by simp)]
        · rw [if_neg h, if_neg h, if_neg (by omega), if_neg (by simp), if_neg (by omega)]
      have hI : ∀ k, 3000000 < k → impl_GrowDays.f k g l n = some (if isGardenB g = true then (if (areHeightsB g l && withinB n 0 200) = true then (growF g n g.length 0 l, (0 : Int)) else ([], 2)) else ([], 1)) := by
        intro k hk
        unfold impl_GrowDays.f
        rw [impl_Garden_areHeights.f, Option.bind_some]
        by_cases h2 : areHeightsB g l = true
        · rw [if_pos h2, impl_isDays.f, within_f, Option.bind_some, Option.bind_some, gardenCode_f, Option.bind_some, h2, Bool.true_and]
          by_cases h : isGardenB g = true
          · rw [if_pos h, if_pos h]
            by_cases h3 : withinB n 0 200 = true
            · have hl2 := heights_len h2
              have := implGrow_l0 g n (isGarden_len h).2 g.length 0 k l (by omega) (by omega) hl2
              simp only [Int.natCast_zero] at this
              rw [if_pos h3, if_pos h3, if_pos rfl, impl_Garden_grown.f, slices_Clone_int64_int64.f, if_pos (by omega), Option.bind_some, this, Option.bind_some]
            · rw [if_neg h3, if_neg h3, if_neg (by omega)]
          · rw [if_neg h, if_neg h, if_neg (by omega)]
        · rw [if_neg h2, gardenCode_f, Option.bind_some, show areHeightsB g l = false from Bool.eq_false_iff.mpr h2, Bool.false_and]
          by_cases h : isGardenB g = true
          · rw [if_pos h, if_pos h]
            simp
          · rw [if_neg h, if_neg h]
            simp
      have hr : (if isGardenB g = true then (if (areHeightsB g l && withinB n 0 200) = true then (growF g n g.length 0 l, (0 : Int)) else ([], 2)) else ([], 1)).1.length ≤ 1048576 := by
        split
        · split
          · show (growF g n g.length 0 l).length ≤ 1048576
            rw [growF_length]
            exact hll
          · simp
        · simp
      generalize (if isGardenB g = true then (if (areHeightsB g l && withinB n 0 200) = true then (growF g n g.length 0 l, (0 : Int)) else ([], 2)) else ([], 1)) = r at hS hI hr
      obtain ⟨r0, r1⟩ := r
      simp only at hr
      simp (disch := omega) only [toInt64S_eq, Option.bind_some, hS, hI, if_true, bne_self_eq_false, eqInt64S_self, Bool.false_eq_true, if_false, markInt64S_eq, heldInt64S_eq, not_neg, laws_toGarden.f, laws_eqGarden.f, laws_markGarden.f]
      simp only [laws_FnExactGrowDays.j0]
      simp (disch := omega) only [toInt64S_eq, Option.bind_some, hS, hI, if_true, bne_self_eq_false, eqInt64S_self, Bool.false_eq_true, if_false, markInt64S_eq, heldInt64S_eq, not_neg, laws_toGarden.f, laws_eqGarden.f, laws_markGarden.f]
      simp only [laws_FnExactGrowDays.j1]
      simp (disch := omega) only [toInt64S_eq, Option.bind_some, hS, hI, if_true, bne_self_eq_false, eqInt64S_self, Bool.false_eq_true, if_false, markInt64S_eq, heldInt64S_eq, not_neg, laws_toGarden.f, laws_eqGarden.f, laws_markGarden.f]
      simp only [laws_FnExactGrowDays.j2]
      simp (disch := omega) only [toInt64S_eq, Option.bind_some, hS, hI, if_true, bne_self_eq_false, eqInt64S_self, Bool.false_eq_true, if_false, markInt64S_eq, heldInt64S_eq, not_neg, laws_toGarden.f, laws_eqGarden.f, laws_markGarden.f]
    · rw [szI_big g hmg hlg, Option.bind_some, if_pos (by omega), Option.bind_some, if_pos (by omega)]
  · rw [if_pos (by omega)]
end Go.Proofs.Ytfephoddgifapaa.Pure
