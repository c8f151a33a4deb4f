/- For every list of rates, every list of turns and every number: the program's HeightsBehind answers as the reference's does, leaves its arguments as they were, and shares no memory. -/
import Derived.Test.YtjaanhnmgipmeaaQL
import Derived.Test.YtjaanhnmgipmeaaQJ
import Derived.Test.YtjaanhnmgipmeaaX1
import Derived.Test.YtjaanhnmgipmeaaX2
import Derived.Test.YtjaanhnmgipmeaaX3
import Derived.Test.YtjaanhnmgipmeaaX4
import Derived.Test.YtjaanhnmgipmeaaX5
import Derived.Test.YtjaanhnmgipmeaaX6
import Derived.Test.YtjaanhnmgipmeaaX7
import Derived.Test.YtjaanhnmgipmeaaX8
namespace Go.Proofs.Ytjaanhnmgipmeaa.Pure
set_option linter.unusedVariables false
set_option linter.unusedSimpArgs false
open Go.RowKit Go.Proofs.Ytjaanhnmgipmeaa.X Go.Proofs.YtjaanhnmgipmeaaW.PrintWords Go.Proofs.YtjaanhnmgipmeaaW.PrintLast
theorem gardenCode_f (g : List Int) (b : Bool) : impl_gardenCode.f g b = some (if isGardenB g = true then (if b = true then 0 else 2) else 1) := by
  unfold impl_gardenCode.f
  rw [impl_IsGarden.f, Option.bind_some]
  by_cases h : isGardenB g = true
  · rw [if_pos h, if_pos h]
    cases b <;> rfl
  · rw [if_neg h, if_neg h]
theorem isGarden_len {l : List Int} (h : isGardenB l = true) : 1 ≤ l.length ∧ l.length ≤ 8 := by
  unfold isGardenB at h
  rw [Bool.and_eq_true] at h
  have := h.1
  unfold withinB at this
  simp only [Bool.and_eq_true, decide_eq_true_eq] at this
  omega
def growF (g : List Int) (n : Int) : Nat → Nat → List Int → List Int
  | 0, _, o => o
  | d + 1, i, o => growF g n d (i + 1) (o.set i (wrap64 (rd o (i : Int) + wrap64 (rd g (i : Int) * n))))
theorem growF_length (g : List Int) (n : Int) : ∀ (d i : Nat) (o : List Int), (growF g n d i o).length = o.length := by
  intro d
  induction d with
  | zero => intro i o; rfl
  | succ d ih =>
    intro i o
    simp only [growF]
    rw [ih, List.length_set]
theorem implGrow_l0 (g : List Int) (n : Int) (hg : g.length ≤ 8) : ∀ (d i k : Nat) (o : List Int), i + d = g.length → d < k → o.length = g.length → impl_Garden_grown.l0 k n o g (g.length : Int) (i : Int) = some (growF g n d i o) := by
  intro d
  induction d with
  | zero =>
    intro i k o hi hk ho
    obtain ⟨k, rfl⟩ : ∃ m, k = m + 1 := ⟨k - 1, by omega⟩
    simp only [impl_Garden_grown.l0]
    rw [if_neg (by omega)]
    rfl
  | succ d ih =>
    intro i k o hi hk ho
    obtain ⟨k, rfl⟩ : ∃ m, k = m + 1 := ⟨k - 1, by omega⟩
    simp only [impl_Garden_grown.l0, growF]
    rw [if_pos (by omega), if_pos (by omega), if_pos (by omega), if_pos (by omega), wrap_succ (n := g.length) (by omega) (by omega), toNat_nat, ih (i + 1) k _ (by omega) (by omega) (by rw [List.length_set]; exact ho)]
theorem set_drop (o l : List Int) (i : Nat) (v : Int) (ho : o.length = i) (hi : i < l.length) : (o ++ l.drop i).set i v = (o ++ [v]) ++ l.drop (i + 1) := by
  rw [drop_rd l i hi, List.set_append_right _ _ (by omega), show i - o.length = 0 by omega, List.set_cons_zero, List.append_assoc]
  rfl
theorem rd_drop (o l : List Int) (i : Nat) (ho : o.length = i) : rd (o ++ l.drop i) (i : Int) = rd l (i : Int) := by
  unfold rd
  rw [Int.toNat_natCast, List.getD_eq_getElem?_getD, List.getD_eq_getElem?_getD, List.getElem?_append_right (by omega), List.getElem?_drop, show i + (i - o.length) = i by omega]
theorem specGrow_l0 (g l : List Int) (n : Int) (hg : g.length ≤ 8) (hl : l.length = g.length) : ∀ (d i k : Nat) (o : List Int), i + d = g.length → d < k → o.length = i → spec_l06Grow.l0 k l n o (i : Int) g = some (growF g n d i (o ++ l.drop i)) := by
  intro d
  induction d with
  | zero =>
    intro i k o hi hk ho
    obtain ⟨k, rfl⟩ : ∃ m, k = m + 1 := ⟨k - 1, by omega⟩
    simp only [spec_l06Grow.l0]
    rw [if_neg (by omega), List.drop_of_length_le (by omega), List.append_nil]
    rfl
  | succ d ih =>
    intro i k o hi hk ho
    obtain ⟨k, rfl⟩ : ∃ m, k = m + 1 := ⟨k - 1, by omega⟩
    simp only [spec_l06Grow.l0, growF]
    rw [if_pos (by omega), if_pos (by omega), if_pos (by omega), if_pos (by omega), wrap_succ (n := g.length) (by omega) (by omega), ih (i + 1) k _ (by omega) (by omega) (by simp [ho]), set_drop o l i _ ho (by omega), rd_drop o l i ho, Int.mul_comm n]
theorem specGrow_eq (g l : List Int) (n : Int) (hg : g.length ≤ 8) (hl : l.length = g.length) (k : Nat) (hk : 100 < k) : spec_l06Grow.f k g l n = some (growF g n g.length 0 l) := by
  unfold spec_l06Grow.f
  have := specGrow_l0 g l n hg hl g.length 0 k [] (by omega) (by omega) rfl
  simp only [Int.natCast_zero, List.drop_zero, List.nil_append] at this
  exact this

theorem implGrow_eq (g h : List Int) (h8 : g.length ≤ 8) (hl : h.length = g.length) (k : Nat) (hk : 100 < k) : impl_Garden_grown.f k g h 1 = some (growF g 1 g.length 0 h) := by
  have := implGrow_l0 g 1 h8 g.length 0 k h (by omega) (by omega) hl
  simp only [Int.natCast_zero] at this
  rw [impl_Garden_grown.f, slices_Clone_int64_int64.f, if_pos (by omega), Option.bind_some, this]

def cutD (l : List Int) (i : Nat) : Int := rd l ((i % l.length : Nat) : Int)
def stepB (w : List Int) (c : Int) : List Int := if 0 ≤ c then w.set c.toNat 0 else w
def behF (g l : List Int) : Nat → Nat → List Int → List Int
  | 0, _, h => h
  | d + 1, i, h => behF g l d (i + 1) (stepB (growF g 1 g.length 0 h) (cutD l i))
theorem stepB_length (w : List Int) (c : Int) : (stepB w c).length = w.length := by
  unfold stepB
  split
  · rw [List.length_set]
  · rfl
theorem behF_length (g l : List Int) : ∀ (d i : Nat) (h : List Int), h.length = g.length → (behF g l d i h).length = g.length
  | 0, _, h, e => e
  | d + 1, i, h, e => by
    rw [behF]
    exact behF_length g l d (i + 1) _ (by rw [stepB_length, growF_length, e])
theorem tm_nat (i n : Nat) : Int.tmod (i : Int) (n : Int) = ((i % n : Nat) : Int) := rfl
theorem cutD_ok (g l : List Int) (i : Nat) (h1 : 1 ≤ g.length) (h8 : g.length ≤ 8) (ht : areTurnsB l (g.length : Int) = true) : -1 ≤ cutD l i ∧ cutD l i < (g.length : Int) := by
  have hl := areTurns_len ht
  unfold areTurnsB at ht
  rw [Bool.and_eq_true, List.all_eq_true] at ht
  have := ht.2 _ (rd_in l (i % l.length) (Nat.mod_lt _ (by omega)))
  unfold withinB at this
  rw [wrap64_id (x := (g.length : Int) - 1) (by omega) (by omega)] at this
  simp only [Bool.and_eq_true, decide_eq_true_eq] at this
  unfold cutD
  omega
theorem specBe (g l : List Int) (h1 : 1 ≤ g.length) (h8 : g.length ≤ 8) (ht : areTurnsB l (g.length : Int) = true) (n : Nat) (hn : n ≤ 200) : ∀ (d i k : Nat) (h : List Int), i + d = n → 200 + d < k → h.length = g.length → spec_HeightsBehind.l0 k l (n : Int) h (i : Int) g = some (behF g l d i h, 0) := by
  intro d
  induction d with
  | zero =>
    intro i k h hi hk hl
    obtain ⟨k, rfl⟩ : ∃ m, k = m + 1 := ⟨k - 1, by omega⟩
    simp only [spec_HeightsBehind.l0, behF]
    rw [if_neg (by omega)]
  | succ d ih =>
    intro i k h hi hk hl
    obtain ⟨k, rfl⟩ : ∃ m, k = m + 1 := ⟨k - 1, by omega⟩
    have hw : (growF g 1 g.length 0 h).length = g.length := by rw [growF_length, hl]
    have hll := areTurns_len ht
    obtain ⟨ha, hb⟩ := cutD_ok g l i h1 h8 ht
    have hm := Nat.mod_lt i (show l.length > 0 by omega)
    simp only [spec_HeightsBehind.l0, behF]
    rw [if_pos (by omega), specGrow_eq g h 1 h8 hl k (by omega), Option.bind_some]
    generalize growF g 1 g.length 0 h = w at hw
    rw [tm_nat, if_neg (by omega), if_pos (by omega), if_pos (by omega), show rd l ((i % l.length : Nat) : Int) = cutD l i from rfl, wrap_succ (n := n) (by omega) (by omega)]
    have hs := stepB_length w (cutD l i)
    by_cases hc : 0 ≤ cutD l i
    · rw [if_pos hc, if_pos hc, if_pos (by omega), show w.set (cutD l i).toNat 0 = stepB w (cutD l i) from (if_pos hc).symm, ih (i + 1) k _ (by omega) (by omega) (by rw [hs, hw])]
    · rw [if_neg hc, show stepB w (cutD l i) = w from if_neg hc, ih (i + 1) k _ (by omega) (by omega) hw]
theorem day_eq (g h : List Int) (c : Int) (h1 : -1 ≤ c) (h2 : c < (g.length : Int)) (h8 : g.length ≤ 8) (hl : h.length = g.length) (k : Nat) (hk : 100 < k) (w : List Int) (hW : growF g 1 g.length 0 h = w) : impl_Garden_day.f k g h c = some (stepB w c, w, c) := by
  have hw : w.length = g.length := by rw [← hW, growF_length, hl]
  rw [impl_Garden_day.f, implGrow_eq g h h8 hl k hk, Option.bind_some, hW, slices_Clone_int64_int64.f, if_pos (by omega), Option.bind_some, show gosem_cut.f c = some c from rfl, Option.bind_some]
  by_cases e : c = -1
  · rw [if_pos e, show stepB w c = w from if_neg (by omega)]
  · rw [if_neg e, if_pos (by omega), if_pos (by omega), show stepB w c = w.set c.toNat 0 from if_pos (by omega)]
theorem hb1_f (l : List Int) (i : Nat) (h : 1 ≤ l.length) : impl_HeightsBehind_1.f l (i : Int) = some (cutD l i) := by
  unfold impl_HeightsBehind_1.f
  rw [if_pos ⟨by omega, by omega⟩]
  rfl
theorem implBe (g l : List Int) (h1 : 1 ≤ g.length) (h8 : g.length ≤ 8) (ht : areTurnsB l (g.length : Int) = true) (n : Nat) (hn : n ≤ 200) : ∀ (d i k : Nat) (h : List Int), i + d = n → 200 + d < k → h.length = g.length → impl_HeightsBehind.l0 k l h (n : Int) (i : Int) g = some (behF g l d i h, 0) := by
  intro d
  induction d with
  | zero =>
    intro i k h hi hk hl
    obtain ⟨k, rfl⟩ : ∃ m, k = m + 1 := ⟨k - 1, by omega⟩
    simp only [impl_HeightsBehind.l0, behF]
    rw [if_neg (by omega)]
  | succ d ih =>
    intro i k h hi hk hl
    obtain ⟨k, rfl⟩ : ∃ m, k = m + 1 := ⟨k - 1, by omega⟩
    have hll := areTurns_len ht
    obtain ⟨ha, hb⟩ := cutD_ok g l i h1 h8 ht
    simp only [impl_HeightsBehind.l0, behF]
    rw [if_pos (by omega), hb1_f l i hll.1, Option.bind_some, day_eq g h _ ha hb h8 hl k (by omega) _ rfl, Option.bind_some, wrap_succ (n := n) (by omega) (by omega)]
    exact ih (i + 1) k _ (by omega) (by omega) (by rw [stepB_length, growF_length, hl])
theorem FnExactHeightsBehind : laws_FnExactHeightsBehind.Pure := by
  intro g l n hmg hwg hml hyl hwl hwn
  refine ⟨4000010, ?_⟩
  unfold laws_FnExactHeightsBehind.f laws_szGarden.f
  by_cases hll : l.length ≤ 1048576
  · rw [if_neg (by omega)]
    have hmg := maxLen_le hmg
    by_cases hlg : g.length ≤ 1048576
    · rw [szI_ok g hlg, Option.bind_some, if_neg (by omega), Option.bind_some, if_neg (by omega)]
      have hS : ∀ k, 3000000 < k → spec_HeightsBehind.f k g l n = some (if isGardenB g = true then (if areTurnsB l (g.length : Int) = true then (if withinB n 0 200 = true then (behF g l n.toNat 0 (List.replicate g.length 0), (0 : Int)) else ([], 2)) else ([], 2)) else ([], 1)) := by
        intro k hk
        obtain ⟨k, rfl⟩ : ∃ m, k = m + 2 := ⟨k - 2, by omega⟩
        unfold spec_HeightsBehind.f spec_l06Turns.f
        rw [l06Is_eq g (by omega) _ (by omega), Option.bind_some]
        by_cases h1 : isGardenB g = true
        · have hl := isGarden_len h1
          rw [if_pos h1, if_pos h1, l01Turns_eq l _ (by omega) _ (by omega), Option.bind_some]
          by_cases h2 : areTurnsB l (g.length : Int) = true
          · rw [if_pos h2, if_pos h2, Option.bind_some, if_pos rfl, l01In_f, Option.bind_some]
            by_cases h3 : withinB n 0 200 = true
            · have hm := h3
              unfold withinB at hm
              simp only [Bool.and_eq_true, decide_eq_true_eq] at hm
              obtain ⟨b, rfl⟩ : ∃ b : Nat, n = (b : Int) := ⟨n.toNat, by omega⟩
              have e := specBe g l hl.1 hl.2 h2 b (by omega) b 0 k (List.replicate g.length 0) (by omega) (by omega) (by rw [List.length_replicate])
              simp only [Int.natCast_zero] at e
              simp only [spec_HeightsBehind.j0, spec_HeightsBehind.j1]
              rw [if_pos h3, h3, if_neg (by simp), if_pos trivial, if_pos (by omega), if_pos (by omega), toNat_nat, toNat_nat, e]
            · rw [if_neg h3]
              simp only [Bool.not_eq_true] at h3
              simp only [spec_HeightsBehind.j0, spec_HeightsBehind.j1]
              rw [h3, if_pos (by simp), if_neg (by omega)]
          · rw [if_neg h2, if_neg h2, Option.bind_some, if_neg (by omega)]
            simp only [spec_HeightsBehind.j0, spec_HeightsBehind.j1]
            rw [if_neg (by simp), if_neg (by omega)]
        · rw [if_neg h1, if_neg h1, Option.bind_some, if_neg (by omega)]
          simp only [spec_HeightsBehind.j0, spec_HeightsBehind.j1]
          rw [if_neg (by simp), if_neg (by omega)]
      have hI : ∀ k, 3000000 < k → impl_HeightsBehind.f k g l n = some (if isGardenB g = true then (if areTurnsB l (g.length : Int) = true then (if withinB n 0 200 = true then (behF g l n.toNat 0 (List.replicate g.length 0), (0 : Int)) else ([], 2)) else ([], 2)) else ([], 1)) := by
        intro k hk
        obtain ⟨k, rfl⟩ : ∃ m, k = m + 2 := ⟨k - 2, by omega⟩
        unfold impl_HeightsBehind.f
        rw [impl_Garden_many.f, impl_length_int64.f, Option.bind_some, Option.bind_some, impl_areTurns.f, Option.bind_some]
        by_cases h2 : areTurnsB l (g.length : Int) = true
        · rw [if_pos h2, impl_isDays.f, within_f, Option.bind_some, Option.bind_some, gardenCode_f, Option.bind_some]
          by_cases h1 : isGardenB g = true
          · have hl := isGarden_len h1
            rw [if_pos h1, if_pos h1, if_pos h2]
            by_cases h3 : withinB n 0 200 = true
            · have hm := h3
              unfold withinB at hm
              simp only [Bool.and_eq_true, decide_eq_true_eq] at hm
              obtain ⟨b, rfl⟩ : ∃ b : Nat, n = (b : Int) := ⟨n.toNat, by omega⟩
              have e := implBe g l hl.1 hl.2 h2 b (by omega) b 0 (k + 1) (List.replicate g.length 0) (by omega) (by omega) (by rw [List.length_replicate])
              simp only [Int.natCast_zero] at e
              rw [if_pos h3, if_pos h3]
              simp only [impl_HeightsBehind.j0]
              rw [if_pos trivial, impl_Garden_many.f, impl_length_int64.f, Option.bind_some, Option.bind_some, if_pos (by omega), if_pos (by omega), toNat_nat, toNat_nat, e]
            · rw [if_neg h3, if_neg h3]
              simp only [impl_HeightsBehind.j0]
              rw [if_neg (by omega)]
          · rw [if_neg h1, if_neg h1]
            simp only [impl_HeightsBehind.j0]
            rw [if_neg (by omega)]
        · rw [if_neg h2, gardenCode_f, Option.bind_some, if_neg Bool.false_ne_true, if_neg h2]
          by_cases h1 : isGardenB g = true
          · rw [if_pos h1, if_pos h1]
            simp only [impl_HeightsBehind.j0]
            rw [if_neg (by omega)]
          · rw [if_neg h1, if_neg h1]
            simp only [impl_HeightsBehind.j0]
            rw [if_neg (by omega)]
      have hr : (if isGardenB g = true then (if areTurnsB l (g.length : Int) = true then (if withinB n 0 200 = true then (behF g l n.toNat 0 (List.replicate g.length 0), (0 : Int)) else ([], 2)) else ([], 2)) else ([], 1)).1.length ≤ 1048576 := by
        split
        · split
          · split
            · show (behF g l n.toNat 0 (List.replicate g.length 0)).length ≤ 1048576
              rw [behF_length _ _ _ _ _ (by rw [List.length_replicate])]
              exact hlg
            · simp
          · simp
        · simp
      generalize (if isGardenB g = true then (if areTurnsB l (g.length : Int) = true then (if withinB n 0 200 = true then (behF g l n.toNat 0 (List.replicate g.length 0), (0 : Int)) else ([], 2)) else ([], 2)) else ([], 1)) = r at hS hI hr
      obtain ⟨r0, r1⟩ := r
      simp only at hr
      simp (disch := omega) only [toInt64S_eq, Option.bind_some, hS, hI, if_true, bne_self_eq_false, eqInt64S_self, Bool.false_eq_true, if_false, markInt64S_eq, heldInt64S_eq, not_neg, laws_toGarden.f, laws_eqGarden.f, laws_markGarden.f]
      simp only [laws_FnExactHeightsBehind.j0]
      simp (disch := omega) only [toInt64S_eq, Option.bind_some, hS, hI, if_true, bne_self_eq_false, eqInt64S_self, Bool.false_eq_true, if_false, markInt64S_eq, heldInt64S_eq, not_neg, laws_toGarden.f, laws_eqGarden.f, laws_markGarden.f]
      simp only [laws_FnExactHeightsBehind.j1]
      simp (disch := omega) only [toInt64S_eq, Option.bind_some, hS, hI, if_true, bne_self_eq_false, eqInt64S_self, Bool.false_eq_true, if_false, markInt64S_eq, heldInt64S_eq, not_neg, laws_toGarden.f, laws_eqGarden.f, laws_markGarden.f]
      simp only [laws_FnExactHeightsBehind.j2]
      simp (disch := omega) only [toInt64S_eq, Option.bind_some, hS, hI, if_true, bne_self_eq_false, eqInt64S_self, Bool.false_eq_true, if_false, markInt64S_eq, heldInt64S_eq, not_neg, laws_toGarden.f, laws_eqGarden.f, laws_markGarden.f]
    · rw [szI_big g hmg hlg, Option.bind_some, if_pos (by omega), Option.bind_some, if_pos (by omega)]
  · rw [if_pos (by omega)]
end Go.Proofs.Ytjaanhnmgipmeaa.Pure
