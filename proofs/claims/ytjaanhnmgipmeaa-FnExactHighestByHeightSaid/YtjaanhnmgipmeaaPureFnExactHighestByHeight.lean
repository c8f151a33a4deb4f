/- For every list of rates and every number: the program's HighestByHeight answers as the reference's does and leaves its argument as it was. -/
import Derived.Test.YtjaanhnmgipmeaaQL
import Derived.Test.YtjaanhnmgipmeaaQJ
import Derived.Test.YtjaanhnmgipmeaaQE
import Derived.Test.YtjaanhnmgipmeaaX1
import Derived.Test.YtjaanhnmgipmeaaX2
import Derived.Test.YtjaanhnmgipmeaaX3
import Derived.Test.YtjaanhnmgipmeaaX4
import Derived.Test.YtjaanhnmgipmeaaX5
import Derived.Test.YtjaanhnmgipmeaaX6
namespace Go.Proofs.Ytjaanhnmgipmeaa.Pure
set_option linter.unusedVariables false
set_option linter.unusedSimpArgs false
open Go.RowKit Go.Proofs.Ytjaanhnmgipmeaa.X Go.Proofs.YtjaanhnmgipmeaaW.PrintWords Go.Proofs.YtjaanhnmgipmeaaW.PrintLast
theorem gardenCode_f (g : List Int) (b : Bool) : impl_gardenCode.f g b = some (if isGardenB g = true then (if b = true then 0 else 2) else 1) := by
  unfold impl_gardenCode.f
  rw [impl_IsGarden.f, Option.bind_some]
  by_cases h : isGardenB g = true
  · rw [if_pos h, if_pos h]
    cases b <;> rfl
  · rw [if_neg h, if_neg h]
theorem isGarden_len {l : List Int} (h : isGardenB l = true) : 1 ≤ l.length ∧ l.length ≤ 8 := by
  unfold isGardenB at h
  rw [Bool.and_eq_true] at h
  have := h.1
  unfold withinB at this
  simp only [Bool.and_eq_true, decide_eq_true_eq] at this
  omega
def growF (g : List Int) (n : Int) : Nat → Nat → List Int → List Int
  | 0, _, o => o
  | d + 1, i, o => growF g n d (i + 1) (o.set i (wrap64 (rd o (i : Int) + wrap64 (rd g (i : Int) * n))))
theorem growF_length (g : List Int) (n : Int) : ∀ (d i : Nat) (o : List Int), (growF g n d i o).length = o.length := by
  intro d
  induction d with
  | zero => intro i o; rfl
  | succ d ih =>
    intro i o
    simp only [growF]
    rw [ih, List.length_set]
theorem implGrow_l0 (g : List Int) (n : Int) (hg : g.length ≤ 8) : ∀ (d i k : Nat) (o : List Int), i + d = g.length → d < k → o.length = g.length → impl_Garden_grown.l0 k n o g (g.length : Int) (i : Int) = some (growF g n d i o) := by
  intro d
  induction d with
  | zero =>
    intro i k o hi hk ho
    obtain ⟨k, rfl⟩ : ∃ m, k = m + 1 := ⟨k - 1, by omega⟩
    simp only [impl_Garden_grown.l0]
    rw [if_neg (by omega)]
    rfl
  | succ d ih =>
    intro i k o hi hk ho
    obtain ⟨k, rfl⟩ : ∃ m, k = m + 1 := ⟨k - 1, by omega⟩
    simp only [impl_Garden_grown.l0, growF]
    rw [if_pos (by omega), if_pos (by omega), if_pos (by omega), if_pos (by omega), wrap_succ (n := g.length) (by omega) (by omega), toNat_nat, ih (i + 1) k _ (by omega) (by omega) (by rw [List.length_set]; exact ho)]
theorem set_drop (o l : List Int) (i : Nat) (v : Int) (ho : o.length = i) (hi : i < l.length) : (o ++ l.drop i).set i v = (o ++ [v]) ++ l.drop (i + 1) := by
  rw [drop_rd l i hi, List.set_append_right _ _ (by omega), show i - o.length = 0 by omega, List.set_cons_zero, List.append_assoc]
  rfl
theorem rd_drop (o l : List Int) (i : Nat) (ho : o.length = i) : rd (o ++ l.drop i) (i : Int) = rd l (i : Int) := by
  unfold rd
  rw [Int.toNat_natCast, List.getD_eq_getElem?_getD, List.getD_eq_getElem?_getD, List.getElem?_append_right (by omega), List.getElem?_drop, show i + (i - o.length) = i by omega]
theorem specGrow_l0 (g l : List Int) (n : Int) (hg : g.length ≤ 8) (hl : l.length = g.length) : ∀ (d i k : Nat) (o : List Int), i + d = g.length → d < k → o.length = i → spec_l06Grow.l0 k l n o (i : Int) g = some (growF g n d i (o ++ l.drop i)) := by
  intro d
  induction d with
  | zero =>
    intro i k o hi hk ho
    obtain ⟨k, rfl⟩ : ∃ m, k = m + 1 := ⟨k - 1, by omega⟩
    simp only [spec_l06Grow.l0]
    rw [if_neg (by omega), List.drop_of_length_le (by omega), List.append_nil]
    rfl
  | succ d ih =>
    intro i k o hi hk ho
    obtain ⟨k, rfl⟩ : ∃ m, k = m + 1 := ⟨k - 1, by omega⟩
    simp only [spec_l06Grow.l0, growF]
    rw [if_pos (by omega), if_pos (by omega), if_pos (by omega), if_pos (by omega), wrap_succ (n := g.length) (by omega) (by omega), ih (i + 1) k _ (by omega) (by omega) (by simp [ho]), set_drop o l i _ ho (by omega), rd_drop o l i ho, Int.mul_comm n]
theorem specGrow_eq (g l : List Int) (n : Int) (hg : g.length ≤ 8) (hl : l.length = g.length) (k : Nat) (hk : 100 < k) : spec_l06Grow.f k g l n = some (growF g n g.length 0 l) := by
  unfold spec_l06Grow.f
  have := specGrow_l0 g l n hg hl g.length 0 k [] (by omega) (by omega) rfl
  simp only [Int.natCast_zero, List.drop_zero, List.nil_append] at this
  exact this
def highF (l : List Int) : Nat → Nat → Nat → Nat
  | 0, _, b => b
  | d + 1, i, b => highF l d (i + 1) (if rd l (i : Int) > rd l (b : Int) then i else b)
theorem high_l0 (l : List Int) (hl : l.length ≤ 8) : ∀ (d i k b : Nat), i + d = l.length → d < k → b < i → spec_l06Highest.l0 k l (b : Int) (i : Int) = some ((highF l d i b : Nat) : Int) := by
  intro d
  induction d with
  | zero =>
    intro i k b hi hk hb
    obtain ⟨k, rfl⟩ : ∃ m, k = m + 1 := ⟨k - 1, by omega⟩
    simp only [spec_l06Highest.l0, highF]
    rw [if_neg (by omega)]
  | succ d ih =>
    intro i k b hi hk hb
    obtain ⟨k, rfl⟩ : ∃ m, k = m + 1 := ⟨k - 1, by omega⟩
    simp only [spec_l06Highest.l0, highF]
    rw [if_pos (by omega), if_pos (by omega), if_pos (by omega), if_pos (by omega), wrap_succ (n := l.length) (by omega) (by omega)]
    by_cases h : rd l (i : Int) > rd l (b : Int)
    · rw [if_pos h, if_pos h, ih (i + 1) k i (by omega) (by omega) (by omega)]
    · rw [if_neg h, if_neg h, ih (i + 1) k b (by omega) (by omega) (by omega)]
theorem highF_ok (l : List Int) : ∀ (d i b : Nat), i + d = l.length → b < i → (∀ j : Nat, j < i → rd l (j : Int) ≤ rd l (b : Int)) → (∀ j : Nat, j < b → rd l (j : Int) < rd l (b : Int)) →
    highF l d i b < l.length ∧ (∀ j : Nat, j < l.length → rd l (j : Int) ≤ rd l ((highF l d i b : Nat) : Int)) ∧ (∀ j : Nat, j < highF l d i b → rd l (j : Int) < rd l ((highF l d i b : Nat) : Int)) := by
  intro d
  induction d with
  | zero =>
    intro i b hi hb h1 h2
    simp only [highF]
    exact ⟨by omega, fun j hj => h1 j (by omega), h2⟩
  | succ d ih =>
    intro i b hi hb h1 h2
    simp only [highF]
    by_cases h : rd l (i : Int) > rd l (b : Int)
    · rw [if_pos h]
      refine ih (i + 1) i (by omega) (by omega) (fun j hj => ?_) (fun j hj => ?_)
      · by_cases e : j = i
        · rw [e]
          exact Int.le_refl _
        · have := h1 j (by omega)
          omega
      · have := h1 j (by omega)
        omega
    · rw [if_neg h]
      refine ih (i + 1) b (by omega) (by omega) (fun j hj => ?_) h2
      by_cases e : j = i
      · rw [e]
        omega
      · exact h1 j (by omega)
theorem max_l0 (l : List Int) (hl : l.length ≤ 8) : ∀ (d i k : Nat) (m : Int), i + d = l.length → d < k → slices_Max_int64_int64.l0 k l m (i : Int) = some (maxL (l.drop i) m) := by
  intro d
  induction d with
  | zero =>
    intro i k m hi hk
    obtain ⟨k, rfl⟩ : ∃ m, k = m + 1 := ⟨k - 1, by omega⟩
    simp only [slices_Max_int64_int64.l0]
    rw [if_neg (by omega), List.drop_of_length_le (by omega)]
    rfl
  | succ d ih =>
    intro i k m hi hk
    obtain ⟨k, rfl⟩ : ∃ m, k = m + 1 := ⟨k - 1, by omega⟩
    simp only [slices_Max_int64_int64.l0]
    rw [if_pos (by omega), if_pos (by omega), wrap_succ (n := l.length) (by omega) (by omega), ih (i + 1) k _ (by omega) (by omega), drop_rd l i (by omega)]
    rfl
theorem index_l0 (l : List Int) (r : Nat) (hl : l.length ≤ 8) (hr : r < l.length) (h : ∀ j : Nat, j < r → rd l (j : Int) < rd l (r : Int)) : ∀ (d i k : Nat), i + d = r → d + 1 < k → slices_Index_int64_int64.l0 k l (rd l (r : Int)) (l.length : Int) (i : Int) = some (r : Int) := by
  intro d
  induction d with
  | zero =>
    intro i k hi hk
    obtain ⟨k, rfl⟩ : ∃ m, k = m + 1 := ⟨k - 1, by omega⟩
    have e : i = r := by omega
    subst e
    simp only [slices_Index_int64_int64.l0]
    rw [if_pos (by omega), if_pos (by omega), if_pos (by omega), if_pos True.intro]
  | succ d ih =>
    intro i k hi hk
    obtain ⟨k, rfl⟩ : ∃ m, k = m + 1 := ⟨k - 1, by omega⟩
    have := h i (by omega)
    simp only [slices_Index_int64_int64.l0]
    rw [if_pos (by omega), if_pos (by omega), if_pos (by omega), if_neg (by omega), wrap_succ (n := l.length) (by omega) (by omega), ih (i + 1) k (by omega) (by omega)]
theorem mem_rd (l : List Int) (x : Int) (h : x ∈ l) : ∃ j : Nat, j < l.length ∧ x = rd l (j : Int) := by
  obtain ⟨j, hj, rfl⟩ := List.getElem_of_mem h
  refine ⟨j, hj, ?_⟩
  unfold rd
  rw [Int.toNat_natCast, List.getD_eq_getElem?_getD, List.getElem?_eq_getElem hj]
  rfl
theorem byHeight_eq (l : List Int) (h1 : 1 ≤ l.length) (hl : l.length ≤ 8) (k : Nat) (hk : 100 < k) : impl_byHeight.f k l = some ((highF l (l.length - 1) 1 0 : Nat) : Int) := by
  obtain ⟨a, b, c⟩ := highF_ok l (l.length - 1) 1 0 (by omega) (by omega) (fun j hj => by rw [show j = 0 by omega]; exact Int.le_refl _) (fun j hj => by omega)
  generalize highF l (l.length - 1) 1 0 = r at a b c
  have hm := max_l0 l hl (l.length - 1) 1 k (rd l 0) (by omega) (by omega)
  simp only [Int.natCast_one] at hm
  have e : maxL (l.drop 1) (rd l 0) = rd l (r : Int) := by
    apply Int.le_antisymm
    · rcases maxL_in (l.drop 1) (rd l 0) with e | e
      · rw [e]
        exact b 0 (by omega)
      · obtain ⟨j, hj, ej⟩ := mem_rd l _ (List.mem_of_mem_drop e)
        rw [ej]
        exact b j hj
    · by_cases e : r = 0
      · rw [e]
        exact maxL_ge (l.drop 1) (rd l 0)
      · refine maxL_mem (l.drop 1) (rd l 0) _ ?_
        obtain ⟨q, rfl⟩ : ∃ q, r = q + 1 := ⟨r - 1, by omega⟩
        have := rd_in (l.drop 1) q (by rw [List.length_drop]; omega)
        have e2 : rd (l.drop 1) (q : Int) = rd l ((q + 1 : Nat) : Int) := by
          unfold rd
          rw [Int.toNat_natCast, Int.toNat_natCast, List.getD_eq_getElem?_getD, List.getD_eq_getElem?_getD, List.getElem?_drop, Nat.add_comm]
        rw [e2] at this
        exact this
  have hi := index_l0 l r hl a c r 0 k (by omega) (by omega)
  simp only [Int.natCast_zero] at hi
  unfold impl_byHeight.f slices_Max_int64_int64.f slices_Index_int64_int64.f
  rw [if_neg (by omega), if_pos (by omega), hm, Option.bind_some, e, hi, Option.bind_some]

def cutH (w : List Int) : Nat := highF w (w.length - 1) 1 0
def hiF (g : List Int) : Nat → List Int → Int → Int
  | 0, _, o => o
  | d + 1, h, o => hiF g d ((growF g 1 g.length 0 h).set (cutH (growF g 1 g.length 0 h)) 0) (mx o (rd (growF g 1 g.length 0 h) ((cutH (growF g 1 g.length 0 h) : Nat) : Int)))
theorem cutH_ok (w : List Int) (h : 1 ≤ w.length) : cutH w < w.length ∧ ∀ j : Nat, j < w.length → rd w (j : Int) ≤ rd w ((cutH w : Nat) : Int) := by
  obtain ⟨a, b, c⟩ := highF_ok w (w.length - 1) 1 0 (by omega) (by omega) (fun j hj => by rw [show j = 0 by omega]; exact Int.le_refl _) (fun j hj => by omega)
  exact ⟨a, b⟩
theorem mx_cut (w : List Int) (o : Int) (h : 1 ≤ w.length) (ho : 0 ≤ o) : mx o (maxL w 0) = mx o (rd w ((cutH w : Nat) : Int)) := by
  obtain ⟨a, b⟩ := cutH_ok w h
  have h1 := maxL_mem w 0 _ (rd_in w (cutH w) a)
  have h2 := maxL_ge w 0
  have h3 : maxL w 0 = 0 ∨ maxL w 0 ≤ rd w ((cutH w : Nat) : Int) := by
    rcases maxL_in w 0 with e | e
    · exact .inl e
    · obtain ⟨j, hj, ej⟩ := mem_rd w _ e
      rw [ej]
      exact .inr (b j hj)
  generalize maxL w 0 = m at h1 h2 h3
  generalize rd w ((cutH w : Nat) : Int) = c at h1 h3
  unfold mx
  split <;> split <;> omega
theorem mx_nonneg (a b : Int) (h : 0 ≤ a) : 0 ≤ mx a b := by
  have := mx_ge a b
  omega
theorem specHi (g : List Int) (h1 : 1 ≤ g.length) (h8 : g.length ≤ 8) : ∀ (d k : Nat) (h : List Int) (o : Int), d ≤ 200 → 200 + d < k → h.length = g.length → spec_HighestByHeight.l0 k (d : Int) h o g = some (hiF g d h o, 0) := by
  intro d
  induction d with
  | zero =>
    intro k h o hd hk hl
    obtain ⟨k, rfl⟩ : ∃ m, k = m + 1 := ⟨k - 1, by omega⟩
    simp only [spec_HighestByHeight.l0, hiF]
    rw [if_neg (by omega)]
  | succ d ih =>
    intro k h o hd hk hl
    obtain ⟨k, rfl⟩ : ∃ m, k = m + 1 := ⟨k - 1, by omega⟩
    have hw : (growF g 1 g.length 0 h).length = g.length := by rw [growF_length, hl]
    simp only [spec_HighestByHeight.l0, hiF]
    rw [if_pos (by omega), specGrow_eq g h 1 h8 hl k (by omega), Option.bind_some]
    generalize growF g 1 g.length 0 h = w at hw
    have ha := (cutH_ok w (by omega)).1
    have e := high_l0 w (by omega) (w.length - 1) 1 k 0 (by omega) (by omega) (by omega)
    simp only [Int.natCast_one, Int.natCast_zero] at e
    rw [spec_l06Highest.f, e, Option.bind_some, show highF w (w.length - 1) 1 0 = cutH w from rfl, if_pos (by omega), if_pos (by omega), wrap64_id (x := ((d + 1 : Nat) : Int) - 1) (by omega) (by omega), show ((d + 1 : Nat) : Int) - 1 = (d : Int) by omega, toNat_nat, ih k _ _ (by omega) (by omega) (by rw [List.length_set]; exact hw)]
theorem implGrow_eq (g h : List Int) (h8 : g.length ≤ 8) (hl : h.length = g.length) (k : Nat) (hk : 100 < k) : impl_Garden_grown.f k g h 1 = some (growF g 1 g.length 0 h) := by
  have := implGrow_l0 g 1 h8 g.length 0 k h (by omega) (by omega) hl
  simp only [Int.natCast_zero] at this
  rw [impl_Garden_grown.f, slices_Clone_int64_int64.f, if_pos (by omega), Option.bind_some, this]
theorem day_eq (g h : List Int) (h1 : 1 ≤ g.length) (h8 : g.length ≤ 8) (hl : h.length = g.length) (k : Nat) (hk : 100 < k) (w : List Int) (hW : growF g 1 g.length 0 h = w) : impl_Garden_day.f k g h 0 = some (w.set (cutH w) 0, w, ((cutH w : Nat) : Int)) := by
  have hw : w.length = g.length := by rw [← hW, growF_length, hl]
  have ha := (cutH_ok w (by omega)).1
  rw [impl_Garden_day.f, implGrow_eq g h h8 hl k hk, Option.bind_some, hW, slices_Clone_int64_int64.f, if_pos (by omega), Option.bind_some, byHeight_eq w (by omega) (by omega) k hk, Option.bind_some, show highF w (w.length - 1) 1 0 = cutH w from rfl, if_neg (by omega), if_pos (by omega), if_pos (by omega), toNat_nat]
theorem implHi (g : List Int) (h1 : 1 ≤ g.length) (h8 : g.length ≤ 8) (n : Nat) (hn : n ≤ 200) : ∀ (d i k : Nat) (h : List Int) (o : Int), i + d = n → 200 + d < k → h.length = g.length → 0 ≤ o → impl_HighestByHeight.l0 k h o (n : Int) (i : Int) g = some (hiF g d h o, 0) := by
  intro d
  induction d with
  | zero =>
    intro i k h o hi hk hl ho
    obtain ⟨k, rfl⟩ : ∃ m, k = m + 1 := ⟨k - 1, by omega⟩
    simp only [impl_HighestByHeight.l0, hiF]
    rw [if_neg (by omega)]
  | succ d ih =>
    intro i k h o hi hk hl ho
    obtain ⟨k, rfl⟩ : ∃ m, k = m + 1 := ⟨k - 1, by omega⟩
    have hw : (growF g 1 g.length 0 h).length = g.length := by rw [growF_length, hl]
    simp only [impl_HighestByHeight.l0, hiF]
    rw [if_pos (by omega), day_eq g h h1 h8 hl k (by omega) _ rfl, Option.bind_some]
    generalize growF g 1 g.length 0 h = w at hw
    simp only
    rw [greatest_eq w (by omega) k (by omega), Option.bind_some, mx_cut w o (by omega) ho, wrap_succ (n := n) (by omega) (by omega), ih (i + 1) k _ _ (by omega) (by omega) (by rw [List.length_set]; exact hw) (mx_nonneg _ _ ho)]
theorem FnExactHighestByHeight : laws_FnExactHighestByHeight.Pure := by
  intro g n hmg hwg hwn
  refine ⟨4000010, ?_⟩
  unfold laws_FnExactHighestByHeight.f laws_szGarden.f
  have hmg := maxLen_le hmg
  by_cases hlg : g.length ≤ 1048576
  · rw [szI_ok g hlg, Option.bind_some, if_neg (by omega), Option.bind_some, if_neg (by omega)]
    have hS : ∀ k, 3000000 < k → spec_HighestByHeight.f k g n = some (if isGardenB g = true then (if withinB n 1 200 = true then (hiF g n.toNat (List.replicate g.length 0) 0, (0 : Int)) else (0, 2)) else (0, 1)) := by
      intro k hk
      unfold spec_HighestByHeight.f
      rw [l06Is_eq g (by omega) k (by omega), Option.bind_some]
      by_cases h : isGardenB g = true
      · have hl := isGarden_len h
        rw [if_pos h, if_pos h, l01In_f, Option.bind_some]
        by_cases h2 : withinB n 1 200 = true
        · have hm := h2
          unfold withinB at hm
          simp only [Bool.and_eq_true, decide_eq_true_eq] at hm
          obtain ⟨b, rfl⟩ : ∃ b : Nat, n = (b : Int) := ⟨n.toNat, by omega⟩
          rw [if_pos h2, if_pos h2, if_pos (by omega), if_pos (by omega), toNat_nat, toNat_nat, specHi g hl.1 hl.2 b k _ 0 (by omega) (by omega) (by rw [List.length_replicate])]
        · rw [if_neg h2, if_neg h2]
      · rw [if_neg h, if_neg h]
    have hI : ∀ k, 3000000 < k → impl_HighestByHeight.f k g n = some (if isGardenB g = true then (if withinB n 1 200 = true then (hiF g n.toNat (List.replicate g.length 0) 0, (0 : Int)) else (0, 2)) else (0, 1)) := by
      intro k hk
      unfold impl_HighestByHeight.f
      rw [within_f, Option.bind_some, gardenCode_f, Option.bind_some]
      by_cases h : isGardenB g = true
      · have hl := isGarden_len h
        rw [if_pos h, if_pos h]
        by_cases h2 : withinB n 1 200 = true
        · have hm := h2
          unfold withinB at hm
          simp only [Bool.and_eq_true, decide_eq_true_eq] at hm
          obtain ⟨b, rfl⟩ : ∃ b : Nat, n = (b : Int) := ⟨n.toNat, by omega⟩
          have e := implHi g hl.1 hl.2 b (by omega) b 0 k (List.replicate g.length 0) 0 (by omega) (by omega) (by rw [List.length_replicate]) (by omega)
          simp only [Int.natCast_zero] at e
          rw [if_pos h2, if_pos h2, if_pos rfl, impl_Garden_many.f, impl_length_int64.f, Option.bind_some, Option.bind_some, if_pos (by omega), if_pos (by omega), toNat_nat, toNat_nat, e]
        · rw [if_neg h2, if_neg h2, if_neg (by omega)]
      · rw [if_neg h, if_neg h, if_neg (by omega)]
    generalize (if isGardenB g = true then (if withinB n 1 200 = true then (hiF g n.toNat (List.replicate g.length 0) 0, (0 : Int)) else (0, 2)) else (0, 1)) = r at hS hI
    obtain ⟨r0, r1⟩ := r
    simp (disch := omega) only [toInt64S_eq, Option.bind_some, hS, hI, if_true, bne_self_eq_false, eqInt64S_self, Bool.false_eq_true, if_false, laws_toGarden.f, laws_eqGarden.f]
    simp only [laws_FnExactHighestByHeight.j0]
    simp (disch := omega) only [toInt64S_eq, Option.bind_some, hS, hI, if_true, bne_self_eq_false, eqInt64S_self, Bool.false_eq_true, if_false, laws_toGarden.f, laws_eqGarden.f]
  · rw [szI_big g hmg hlg, Option.bind_some, if_pos (by omega), Option.bind_some, if_pos (by omega)]
end Go.Proofs.Ytjaanhnmgipmeaa.Pure
