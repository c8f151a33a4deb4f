/- For every list of rates and every list of turns: the program's TowerOf answers as the reference's does, and leaves its arguments as they were. -/
import Derived.Test.YtcjcocffhljggaaQG
import Derived.Test.YtcjcocffhljggaaQJ
import Derived.Test.YtcjcocffhljggaaX4
import Derived.Test.YtcjcocffhljggaaX38
import Derived.Test.YtcjcocffhljggaaX39
import Derived.Test.YtcjcocffhljggaaX40
namespace Go.Proofs.Ytcjcocffhljggaa.Pure
set_option linter.unusedVariables false
set_option linter.unusedSimpArgs false
open Go.RowKit Go.Proofs.Ytcjcocffhljggaa.X Go.Proofs.YtcjcocffhljggaaW.PrintWords Go.Proofs.YtcjcocffhljggaaW.PrintLast
def gcodeB (g l : List Int) : Int := if isGardenB g = true then (if areTurnsB l (g.length : Int) = true then 0 else 2) else 1
def towerL (l g : List Int) : Nat → Nat → Int → Int × Int
  | 0, _, a => (a, 0)
  | d + 1, i, a => if maxL (waitsL l (i : Int)) 0 = 0 then (0, 4) else towerL l g d (i + 1) (mx a (wrap64 (maxL (waitsL l (i : Int)) 0 * rd g (i : Int))))
theorem specT_l0 (l g : List Int) (hl : l.length ≤ 1048576) (hg : g.length ≤ 1048576) : ∀ (d i k : Nat) (a : Int), i + d = g.length → d + l.length + 1 < k → spec_TowerOf.l0 k l a (i : Int) g = some (towerL l g d i a) := by
  intro d
  induction d with
  | zero =>
    intro i k a hi hk
    obtain ⟨k, rfl⟩ : ∃ m, k = m + 1 := ⟨k - 1, by omega⟩
    simp only [spec_TowerOf.l0, towerL]
    rw [if_neg (by omega)]
  | succ d ih =>
    intro i k a hi hk
    obtain ⟨k, rfl⟩ : ∃ m, k = m + 1 := ⟨k - 1, by omega⟩
    simp only [spec_TowerOf.l0, towerL]
    rw [if_pos (by omega), l01Greatest_eq l _ hl k (by omega), Option.bind_some, wrap_succ (n := g.length) (by omega) (by omega)]
    by_cases h : maxL (waitsL l (i : Int)) 0 = 0
    · rw [if_pos h, if_pos h]
    · rw [if_neg h, if_neg h, if_pos (by omega), ih (i + 1) k _ (by omega) (by omega)]
theorem implT_l0 (l g : List Int) (hl : l.length ≤ 1048576) (hg : g.length ≤ 1048576) : ∀ (d i k : Nat) (a : Int), i + d = g.length → d + 2 * l.length + 2 < k → impl_TowerOf.l0 k l a g (g.length : Int) (i : Int) = some (towerL l g d i a) := by
  intro d
  induction d with
  | zero =>
    intro i k a hi hk
    obtain ⟨k, rfl⟩ : ∃ m, k = m + 1 := ⟨k - 1, by omega⟩
    simp only [impl_TowerOf.l0, towerL]
    rw [if_neg (by omega)]
  | succ d ih =>
    intro i k a hi hk
    obtain ⟨k, rfl⟩ : ∃ m, k = m + 1 := ⟨k - 1, by omega⟩
    have hw := waitsL_length l (i : Int)
    simp only [impl_TowerOf.l0, towerL]
    rw [if_pos (by omega), if_pos (by omega), if_pos (by omega), waits_eq l _ hl k (by omega), Option.bind_some, wrap_succ (n := g.length) (by omega) (by omega)]
    rcases waits_pos l (i : Int) with ⟨h1, h2⟩ | ⟨h1, h2⟩
    · rw [if_pos h2, h1, if_pos (by simp)]
    · have : (waitsL l (i : Int)).length ≠ 0 := fun e => h1 (List.eq_nil_of_length_eq_zero e)
      rw [if_neg (by omega), if_neg (by omega), greatest_eq _ (by omega) k (by omega), Option.bind_some, ih (i + 1) k _ (by omega) (by omega), Int.mul_comm]
theorem isGarden_len {l : List Int} (h : isGardenB l = true) : 1 ≤ l.length ∧ l.length ≤ 8 := by
  unfold isGardenB at h
  rw [Bool.and_eq_true] at h
  have := h.1
  unfold withinB at this
  simp only [Bool.and_eq_true, decide_eq_true_eq] at this
  omega
theorem gcode_zero {g l : List Int} (h : gcodeB g l = 0) : isGardenB g = true ∧ areTurnsB l (g.length : Int) = true := by
  unfold gcodeB at h
  by_cases h1 : isGardenB g = true
  · rw [if_pos h1] at h
    by_cases h2 : areTurnsB l (g.length : Int) = true
    · exact ⟨h1, h2⟩
    · rw [if_neg h2] at h
      omega
  · rw [if_neg h1] at h
    omega
theorem FnExactTowerOf : laws_FnExactTowerOf.Pure := by
  intro g l hmg hwg hml hyl hwl
  refine ⟨4000010, ?_⟩
  unfold laws_FnExactTowerOf.f laws_szGarden.f
  by_cases hll : l.length ≤ 1048576
  · rw [if_neg (by omega)]
    have hmg := maxLen_le hmg
    by_cases hlg : g.length ≤ 1048576
    · rw [szI_ok g hlg, Option.bind_some, if_neg (by omega), Option.bind_some, if_neg (by omega)]
      have hS : ∀ k, 3000000 < k → spec_TowerOf.f k g l = some (if gcodeB g l = 0 then towerL l g g.length 0 0 else (0, gcodeB g l)) := by
        intro k hk
        unfold spec_TowerOf.f spec_l06Turns.f
        rw [l06Is_eq g (by omega) k (by omega), Option.bind_some]
        by_cases h1 : isGardenB g = true
        · rw [if_pos h1, l01Turns_eq l _ (by omega) k (by omega), Option.bind_some]
          by_cases h2 : areTurnsB l (g.length : Int) = true
          · have e : gcodeB g l = 0 := by unfold gcodeB; rw [if_pos h1, if_pos h2]
            have h3 := isGarden_len h1
            have := specT_l0 l g hll hlg g.length 0 k 0 (by omega) (by omega)
            simp only [Int.natCast_zero] at this
            rw [if_pos h2, Option.bind_some, if_pos rfl, this, if_pos e]
          · have e : gcodeB g l = 2 := by unfold gcodeB; rw [if_pos h1, if_neg h2]
            rw [if_neg h2, Option.bind_some, if_neg (by omega), e, if_neg (by omega)]
        · have e : gcodeB g l = 1 := by unfold gcodeB; rw [if_neg h1]
          rw [if_neg h1, Option.bind_some, if_neg (by omega), e, if_neg (by omega)]
      have hI : ∀ k, 3000000 < k → impl_TowerOf.f k g l = some (if gcodeB g l = 0 then towerL l g g.length 0 0 else (0, gcodeB g l)) := by
        intro k hk
        unfold impl_TowerOf.f impl_gardenCode.f
        rw [impl_Garden_many.f, impl_length_int64.f, Option.bind_some, Option.bind_some, impl_areTurns.f, Option.bind_some, impl_IsGarden.f, Option.bind_some]
        by_cases h1 : isGardenB g = true
        · rw [if_pos h1]
          by_cases h2 : areTurnsB l (g.length : Int) = true
          · have e : gcodeB g l = 0 := by unfold gcodeB; rw [if_pos h1, if_pos h2]
            have h3 := isGarden_len h1
            have h4 := areTurns_len h2
            have := implT_l0 l g hll hlg g.length 0 k 0 (by omega) (by omega)
            simp only [Int.natCast_zero] at this
            rw [if_pos h2, Option.bind_some, if_pos rfl, this, if_pos e]
          · have e : gcodeB g l = 2 := by unfold gcodeB; rw [if_pos h1, if_neg h2]
            rw [if_neg h2, Option.bind_some, if_neg (by omega), e, if_neg (by omega)]
        · have e : gcodeB g l = 1 := by unfold gcodeB; rw [if_neg h1]
          rw [if_neg h1, Option.bind_some, if_neg (by omega), e, if_neg (by omega)]
      generalize (if gcodeB g l = 0 then towerL l g g.length 0 0 else (0, gcodeB g l)) = r at hS hI
      obtain ⟨r0, r1⟩ := r
      simp (disch := omega) only [toInt64S_eq, Option.bind_some, hS, hI, if_true, bne_self_eq_false, eqInt64S_self, Bool.false_eq_true, if_false, laws_toGarden.f, laws_eqGarden.f]
      simp only [laws_FnExactTowerOf.j0]
      simp (disch := omega) only [toInt64S_eq, Option.bind_some, hS, hI, if_true, bne_self_eq_false, eqInt64S_self, Bool.false_eq_true, if_false, laws_toGarden.f, laws_eqGarden.f]
    · rw [szI_big g hmg hlg, Option.bind_some, if_pos (by omega), Option.bind_some, if_pos (by omega)]
  · rw [if_pos (by omega)]
end Go.Proofs.Ytcjcocffhljggaa.Pure
