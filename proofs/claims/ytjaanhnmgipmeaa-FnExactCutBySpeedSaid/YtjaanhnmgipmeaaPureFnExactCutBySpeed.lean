/- For every list of rates, every list of heights and every number: the program's CutBySpeed answers as the reference's does and leaves its arguments as they were. -/
import Derived.Test.YtjaanhnmgipmeaaQL
import Derived.Test.YtjaanhnmgipmeaaQJ
import Derived.Test.YtjaanhnmgipmeaaX3
import Derived.Test.YtjaanhnmgipmeaaX5
import Derived.Test.YtjaanhnmgipmeaaX6
import Derived.Test.YtjaanhnmgipmeaaX7
import Derived.Test.YtjaanhnmgipmeaaX8
import Derived.Test.YtjaanhnmgipmeaaX9
import Derived.Test.YtjaanhnmgipmeaaX10
import Derived.Test.YtjaanhnmgipmeaaX11
namespace Go.Proofs.Ytjaanhnmgipmeaa.Pure
set_option linter.unusedVariables false
set_option linter.unusedSimpArgs false
open Go.RowKit Go.Proofs.Ytjaanhnmgipmeaa.X Go.Proofs.YtjaanhnmgipmeaaW.PrintWords Go.Proofs.YtjaanhnmgipmeaaW.PrintLast
theorem specHt_l0 (l : List Int) (hl : l.length ≤ 1048576) : ∀ (d i k : Nat), i + d = l.length → d < k → spec_l06Heights.l0 k l (i : Int) = some (if ((l.drop i).all fun n => withinB n 0 100000) = true then 0 else 2) := by
  intro d
  induction d with
  | zero =>
    intro i k hi hk
    obtain ⟨k, rfl⟩ : ∃ m, k = m + 1 := ⟨k - 1, by omega⟩
    simp only [spec_l06Heights.l0]
    rw [if_neg (by omega), List.drop_of_length_le (by omega)]
    simp
  | succ d ih =>
    intro i k hi hk
    obtain ⟨k, rfl⟩ : ∃ m, k = m + 1 := ⟨k - 1, by omega⟩
    simp only [spec_l06Heights.l0]
    rw [if_pos (by omega), if_pos (by omega), l01In_f, Option.bind_some, wrap_succ (n := l.length) (by omega) (by omega), drop_rd l i (by omega), List.all_cons]
    by_cases h : withinB (rd l (i : Int)) 0 100000 = true
    · rw [if_pos h, h, Bool.true_and, ih (i + 1) k (by omega) (by omega)]
    · rw [if_neg h, show withinB (rd l (i : Int)) 0 100000 = false from Bool.eq_false_iff.mpr h, Bool.false_and, if_neg (by simp)]
theorem specHt_eq (g l : List Int) (hg : g.length ≤ 1048576) (hl : l.length ≤ 1048576) (k : Nat) (hk : 3000000 < k) : spec_l06Heights.f k g l = some (if isGardenB g = true then (if areHeightsB g l = true then 0 else 2) else 1) := by
  unfold spec_l06Heights.f areHeightsB
  rw [l06Is_eq g (by omega) k (by omega), Option.bind_some]
  by_cases h : isGardenB g = true
  · rw [if_pos h, if_pos h]
    by_cases h2 : l.length = g.length
    · have := specHt_l0 l hl l.length 0 k (by omega) (by omega)
      simp only [Int.natCast_zero, List.drop_zero] at this
      rw [if_pos (by omega), decide_eq_true h2, Bool.true_and, this]
    · rw [if_neg (by omega), decide_eq_false h2, Bool.false_and, if_neg (by simp)]
  · rw [if_neg h, if_neg h]
theorem gardenCode_f (g : List Int) (b : Bool) : impl_gardenCode.f g b = some (if isGardenB g = true then (if b = true then 0 else 2) else 1) := by
  unfold impl_gardenCode.f
  rw [impl_IsGarden.f, Option.bind_some]
  by_cases h : isGardenB g = true
  · rw [if_pos h, if_pos h]
    cases b <;> rfl
  · rw [if_neg h, if_neg h]
theorem isGarden_len {l : List Int} (h : isGardenB l = true) : 1 ≤ l.length ∧ l.length ≤ 8 := by
  unfold isGardenB at h
  rw [Bool.and_eq_true] at h
  have := h.1
  unfold withinB at this
  simp only [Bool.and_eq_true, decide_eq_true_eq] at this
  omega
theorem heights_len {g l : List Int} (h : areHeightsB g l = true) : l.length = g.length := by
  unfold areHeightsB at h
  rw [Bool.and_eq_true] at h
  exact of_decide_eq_true h.1

theorem fast_l0 (g l : List Int) (x : Int) (hl : l.length ≤ 8) (he : l.length = g.length) : ∀ (d i k : Nat) (b : Int), i + d = l.length → d < k → (b = -1 ∨ 0 ≤ b ∧ b < (g.length : Int)) → spec_l06Fastest.l0 k l x b (i : Int) g = some (fastB g l x d i b) := by
  intro d
  induction d with
  | zero =>
    intro i k b hi hk hb
    obtain ⟨k, rfl⟩ : ∃ m, k = m + 1 := ⟨k - 1, by omega⟩
    simp only [spec_l06Fastest.l0]
    rw [if_neg (by omega)]
    rfl
  | succ d ih =>
    intro i k b hi hk hb
    obtain ⟨k, rfl⟩ : ∃ m, k = m + 1 := ⟨k - 1, by omega⟩
    have e : fastB g l x (d + 1) i b = fastB g l x d (i + 1) (if x ≤ rd l (i : Int) ∧ (b = -1 ∨ rd g b < rd g (i : Int)) then (i : Int) else b) := rfl
    simp only [spec_l06Fastest.l0]
    rw [if_pos (by omega), if_pos (by omega), wrap_succ (n := l.length) (by omega) (by omega), e]
    by_cases h1 : rd l (i : Int) ≥ x
    · rw [if_pos h1]
      by_cases h2 : b < 0
      · rw [if_pos h2, if_pos ⟨h1, .inl (by omega)⟩, ih (i + 1) k _ (by omega) (by omega) (.inr (by omega))]
      · rw [if_neg h2, if_pos (by omega), if_pos (by omega), if_pos (by omega)]
        by_cases h3 : rd g (i : Int) > rd g b
        · rw [if_pos h3, if_pos ⟨h1, .inr h3⟩, ih (i + 1) k _ (by omega) (by omega) (.inr (by omega))]
        · rw [if_neg h3, if_neg (fun z => z.2.elim (by omega) h3), ih (i + 1) k _ (by omega) (by omega) hb]
    · rw [if_neg h1, if_neg (fun z => h1 z.1), ih (i + 1) k _ (by omega) (by omega) hb]
theorem fast_eq (g l : List Int) (x : Int) (hl : l.length ≤ 8) (he : l.length = g.length) (k : Nat) (hk : 100 < k) : spec_l06Fastest.f k g l x = some (fastB g l x l.length 0 (-1)) := by
  unfold spec_l06Fastest.f
  have := fast_l0 g l x hl he l.length 0 k (-1) (by omega) (by omega) (.inl rfl)
  simp only [Int.natCast_zero] at this
  exact this
theorem FnExactCutBySpeed : laws_FnExactCutBySpeed.Pure := by
  intro g l x hmg hwg hml hyl hwl hwx
  refine ⟨4000010, ?_⟩
  unfold laws_FnExactCutBySpeed.f laws_szGarden.f
  by_cases hll : l.length ≤ 1048576
  · rw [if_neg (by omega)]
    have hmg := maxLen_le hmg
    by_cases hlg : g.length ≤ 1048576
    · rw [szI_ok g hlg, Option.bind_some, if_neg (by omega), Option.bind_some, if_neg (by omega)]
      have hS : ∀ k, 3000000 < k → spec_CutBySpeed.f k g l x = some (if isGardenB g = true then (if areHeightsB g l = true then (if withinB x 1 1000 = true then (fastB g l x l.length 0 (-1), (0 : Int)) else (0, 2)) else (0, 2)) else (0, 1)) := by
        intro k hk
        unfold spec_CutBySpeed.f
        obtain ⟨k, rfl⟩ : ∃ m, k = m + 1 := ⟨k - 1, by omega⟩
        rw [specHt_eq g l hlg hll _ (by omega), Option.bind_some]
        simp only [spec_CutBySpeed.j0]
        by_cases h : isGardenB g = true
        · rw [if_pos h, if_pos h]
          by_cases h2 : areHeightsB g l = true
          · have hl2 := heights_len h2
            have hl3 := isGarden_len h
            rw [if_pos h2, if_pos h2, if_pos rfl, l01In_f, Option.bind_some]
            by_cases h4 : withinB x 1 1000 = true
            · rw [if_pos h4, h4, if_neg (by simp), if_pos rfl, fast_eq g l x (by omega) hl2 k (by omega), Option.bind_some]
            · rw [if_neg h4]
              simp only [Bool.not_eq_true] at h4
              rw [h4, if_pos (by simp), if_neg (by omega)]
          · rw [if_neg h2, if_neg h2, if_neg (by omega), if_neg (by simp), if_neg (by omega)]
        · rw [if_neg h, if_neg h, if_neg (by omega), if_neg (by simp), if_neg (by omega)]
      have hI : impl_CutBySpeed.f g l x = some (if isGardenB g = true then (if areHeightsB g l = true then (if withinB x 1 1000 = true then (fastB g l x l.length 0 (-1), (0 : Int)) else (0, 2)) else (0, 2)) else (0, 1)) := by
        unfold impl_CutBySpeed.f
        rw [impl_Garden_areHeights.f, Option.bind_some]
        by_cases h2 : areHeightsB g l = true
        · have hl2 := heights_len h2
          rw [if_pos h2, impl_isTower.f, within_f, Option.bind_some, Option.bind_some, gardenCode_f, Option.bind_some]
          by_cases h : isGardenB g = true
          · have hl3 := isGarden_len h
            rw [if_pos h, if_pos h, if_pos h2]
            by_cases h4 : withinB x 1 1000 = true
            · rw [if_pos h4, if_pos h4, if_pos rfl, impl_Garden_bySpeed_1.f, if_pos ⟨hl2, by omega⟩, Option.bind_some]
            · rw [if_neg h4, if_neg h4, if_neg (by omega)]
          · rw [if_neg h, if_neg h, if_neg (by omega)]
        · rw [if_neg h2, gardenCode_f, Option.bind_some]
          by_cases h : isGardenB g = true
          · rw [if_pos h, if_pos h, if_neg h2]
            simp
          · rw [if_neg h, if_neg h, if_neg (by omega)]
      generalize (if isGardenB g = true then (if areHeightsB g l = true then (if withinB x 1 1000 = true then (fastB g l x l.length 0 (-1), (0 : Int)) else (0, 2)) else (0, 2)) else (0, 1)) = r at hS hI
      obtain ⟨r0, r1⟩ := r
      simp (disch := omega) only [toInt64S_eq, Option.bind_some, hS, hI, if_true, bne_self_eq_false, eqInt64S_self, Bool.false_eq_true, if_false, laws_toGarden.f, laws_eqGarden.f]
      simp only [laws_FnExactCutBySpeed.j0]
      simp (disch := omega) only [toInt64S_eq, Option.bind_some, hS, hI, if_true, bne_self_eq_false, eqInt64S_self, Bool.false_eq_true, if_false, laws_toGarden.f, laws_eqGarden.f]
    · rw [szI_big g hmg hlg, Option.bind_some, if_pos (by omega), Option.bind_some, if_pos (by omega)]
  · rw [if_pos (by omega)]
end Go.Proofs.Ytjaanhnmgipmeaa.Pure
