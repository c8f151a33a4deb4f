/- For every text: the program's ParseTurns answers as the reference's does and shares no memory. -/
import Derived.Test.YtndbfmbejopkkaaQC
import Derived.Test.YtndbfmbejopkkaaX16
import Derived.Test.YtndbfmbejopkkaaX17
import Derived.Test.YtndbfmbejopkkaaX18
namespace Go.Proofs.Ytndbfmbejopkkaa.Pure
set_option linter.unusedVariables false
set_option linter.unusedSimpArgs false
open Go.RowKit Go.Proofs.Ytndbfmbejopkkaa.X Go.Proofs.YtndbfmbejopkkaaW.PrintWords Go.Proofs.YtndbfmbejopkkaaW.PrintLast
def decB (b : Int) : Int := if b = 46 then -1 else b - 97
theorem bytes_range (a : ByteArray) : ∀ b ∈ bytesOf a, 0 ≤ b ∧ b ≤ 255 := by
  intro b hb
  unfold bytesOf at hb
  obtain ⟨x, -, rfl⟩ := List.mem_map.mp hb
  have := x.toNat_lt
  omega
theorem parse_step (l : List Int) (x : Int) (r : List Int) : (l ++ [decB x]) ++ r.map decB = l ++ (x :: r).map decB := by
  rw [List.append_assoc]
  rfl
theorem dec_w (b : Int) (h0 : 0 ≤ b) (h1 : b ≤ 255) : wrap64 (wrap64 b - 97) = b - 97 := by
  rw [wrap64_id (x := b) (by omega) (by omega), wrap64_id (by omega) (by omega)]
theorem specR_l0 (a : ByteArray) (hl : a.size ≤ 1048576) : ∀ (d i k : Nat) (acc : List Int), i + d = a.size → d + 1048580 < k → acc.length = i →
    spec_l01Read.l0 k a acc (i : Int) = some (if (∀ b ∈ (bytesOf a).drop i, b = 46 ∨ 97 ≤ b) then (acc ++ ((bytesOf a).drop i).map decB, areTurnsB (acc ++ ((bytesOf a).drop i).map decB) 8) else ([], false)) := by
  have hs := bytesOf_length a
  intro d
  induction d with
  | zero =>
    intro i k acc hi hk ha
    obtain ⟨k, rfl⟩ : ∃ m, k = m + 1 := ⟨k - 1, by omega⟩
    simp only [spec_l01Read.l0]
    rw [if_neg (by omega), List.drop_of_length_le (by omega), l01Turns_eq acc 8 (by omega) k (by omega), Option.bind_some, if_pos (by simp)]
    simp
  | succ d ih =>
    intro i k acc hi hk ha
    obtain ⟨k, rfl⟩ : ∃ m, k = m + 1 := ⟨k - 1, by omega⟩
    have hb := bytes_range a _ (rd_in (bytesOf a) i (by omega))
    simp only [spec_l01Read.l0]
    rw [if_pos (by omega), if_pos (by omega), ← rd_bytesOf, dec_w _ hb.1 hb.2, drop_rd (bytesOf a) i (by omega), ← parse_step, wrap_succ (n := a.size) (by omega) (by omega)]
    generalize rd (bytesOf a) (i : Int) = x at hb
    by_cases h : x = 46
    · rw [if_pos h, if_pos (by omega), show ([-1] : List Int) = [decB x] by unfold decB; rw [if_pos h], ih (i + 1) k _ (by omega) (by omega) (by simp [ha])]
      congr 1
      by_cases h2 : ∀ b ∈ (bytesOf a).drop (i + 1), b = 46 ∨ 97 ≤ b
      · rw [if_pos h2, if_pos (fun b hb => (List.mem_cons.mp hb).elim (fun e => .inl (e.trans h)) (h2 b))]
      · rw [if_neg h2, if_neg (fun z => h2 fun b hb => z b (List.mem_cons_of_mem _ hb))]
    · rw [if_neg h]
      by_cases h3 : x - 97 < 0
      · rw [if_pos h3, if_neg (fun z => by rcases z x List.mem_cons_self with e | e <;> omega)]
      · rw [if_neg h3, if_pos (by omega), show ([x - 97] : List Int) = [decB x] by unfold decB; rw [if_neg h], ih (i + 1) k _ (by omega) (by omega) (by simp [ha])]
        congr 1
        by_cases h2 : ∀ b ∈ (bytesOf a).drop (i + 1), b = 46 ∨ 97 ≤ b
        · rw [if_pos h2, if_pos (fun b hb => (List.mem_cons.mp hb).elim (fun e => .inr (by omega)) (h2 b))]
        · rw [if_neg h2, if_neg (fun z => h2 fun b hb => z b (List.mem_cons_of_mem _ hb))]
theorem implR_l0 (a : ByteArray) (hl : a.size ≤ 120) : ∀ (d i k : Nat) (acc : List Int), i + d = a.size → d < k → acc.length = i → ∃ k', k ≤ k' + d + 1 ∧
    impl_ParseTurns.l0 k a acc (a.size : Int) (i : Int) = ((impl_areTurns.f (acc ++ ((bytesOf a).drop i).map decB) 8).bind fun t309 => (if t309 = true then ((impl_turnsText.f k' (acc ++ ((bytesOf a).drop i).map decB)).bind fun t310 => (if t310.toList = a.toList then (some (acc ++ ((bytesOf a).drop i).map decB, 0)) else (some (([] : List Int), 6)))) else (some (([] : List Int), 6)))) := by
  have hs := bytesOf_length a
  intro d
  induction d with
  | zero =>
    intro i k acc hi hk ha
    obtain ⟨k, rfl⟩ : ∃ m, k = m + 1 := ⟨k - 1, by omega⟩
    refine ⟨k, by omega, ?_⟩
    simp only [impl_ParseTurns.l0]
    rw [if_neg (by omega), List.drop_of_length_le (by omega), List.map_nil, List.append_nil]
  | succ d ih =>
    intro i k acc hi hk ha
    obtain ⟨k, rfl⟩ : ∃ m, k = m + 1 := ⟨k - 1, by omega⟩
    have hb := bytes_range a _ (rd_in (bytesOf a) i (by omega))
    simp only [impl_ParseTurns.l0]
    rw [if_pos (by omega), if_pos (by omega), if_pos (by omega), ← rd_bytesOf, dec_w _ hb.1 hb.2, drop_rd (bytesOf a) i (by omega), ← parse_step, wrap_succ (n := a.size) (by omega) (by omega)]
    generalize rd (bytesOf a) (i : Int) = x at hb
    obtain ⟨k', h1, h2⟩ := ih (i + 1) k (acc ++ [decB x]) (by omega) (by omega) (by simp [ha])
    refine ⟨k', by omega, ?_⟩
    by_cases h : x = 46
    · rw [if_pos h, if_pos (by omega), show ([-1] : List Int) = [decB x] by unfold decB; rw [if_pos h], h2]
    · rw [if_neg h, if_pos (by omega), show ([x - 97] : List Int) = [decB x] by unfold decB; rw [if_neg h], h2]
theorem enc_dec (b : Int) (h0 : 0 ≤ b) (h1 : decB b ≤ 7) : (encI (decB b) = b ↔ b = 46 ∨ 97 ≤ b) ∧ 0 ≤ encI (decB b) ∧ encI (decB b) ≤ 255 ∨ decB b < -1 := by
  unfold encI decB at *
  by_cases h : b = 46
  · subst h
    simp
  · rw [if_neg h] at h1 ⊢
    by_cases h2 : b - 97 = -1
    · rw [if_pos h2]
      left
      omega
    · rw [if_neg h2, wrap64_id (by omega) (by omega)]
      by_cases h3 : b < 97
      · right; omega
      · left; omega
theorem str_eq (xs : List Int) (a : ByteArray) (h : ∀ x ∈ xs, 0 ≤ x ∧ x ≤ 255) : (strOfNums xs).toList = a.toList ↔ xs = bytesOf a := by
  rw [ByteArray.toList_eq, ByteArray.toList_eq, strOfNums_data]
  unfold bytesOf
  constructor
  · intro e
    rw [← e, List.map_map]
    conv => lhs; rw [← List.map_id xs]
    apply List.map_congr_left
    intro x hx
    have := h x hx
    simp only [id, Function.comp, UInt8.toNat_ofNat']
    omega
  · intro e
    rw [e, List.map_map]
    conv => rhs; rw [← List.map_id a.data.toList]
    apply List.map_congr_left
    intro x hx
    simp
theorem map_self_iff (f : Int → Int) : ∀ l : List Int, l.map f = l ↔ ∀ x ∈ l, f x = x
  | [] => by simp
  | x :: r => by
    rw [List.map_cons, List.cons.injEq, map_self_iff f r]
    simp
theorem FnExactParseTurns : laws_FnExactParseTurns.Pure := by
  intro a hwa
  refine ⟨4000010, ?_⟩
  unfold laws_FnExactParseTurns.f
  by_cases hla : a.size ≤ 1048576
  · rw [if_neg (by omega)]
    have hS : ∀ k, 3000000 < k → spec_ParseTurns.f k a = some (if areTurnsB ((bytesOf a).map decB) 8 = true ∧ (∀ b ∈ bytesOf a, b = 46 ∨ 97 ≤ b) then ((bytesOf a).map decB, (0 : Int)) else ([], 6)) := by
      intro k hk
      unfold spec_ParseTurns.f spec_l01Read.f
      have := specR_l0 a hla a.size 0 k [] (by omega) (by omega) rfl
      simp only [Int.natCast_zero, List.drop_zero, List.nil_append] at this
      rw [this, Option.bind_some]
      by_cases h1 : ∀ b ∈ bytesOf a, b = 46 ∨ 97 ≤ b
      · rw [if_pos h1]
        by_cases h2 : areTurnsB ((bytesOf a).map decB) 8 = true
        · rw [if_pos h2, if_pos ⟨h2, h1⟩]
        · rw [if_neg h2, if_neg (fun z => h2 z.1)]
      · rw [if_neg h1, if_neg (by simp), if_neg (fun z => h1 z.2)]
    have hI : ∀ k, 3000000 < k → impl_ParseTurns.f k a = some (if areTurnsB ((bytesOf a).map decB) 8 = true ∧ (∀ b ∈ bytesOf a, b = 46 ∨ 97 ≤ b) then ((bytesOf a).map decB, (0 : Int)) else ([], 6)) := by
      intro k hk
      unfold impl_ParseTurns.f
      have hs := bytesOf_length a
      by_cases h0 : (a.size : Int) > 120
      · rw [if_pos h0, if_neg]
        rintro ⟨h, -⟩
        have := areTurns_len h
        rw [List.length_map] at this
        omega
      · rw [if_neg h0]
        obtain ⟨k', h1, h2⟩ := implR_l0 a (by omega) a.size 0 k [] (by omega) (by omega) rfl
        simp only [Int.natCast_zero, List.drop_zero, List.nil_append] at h2
        rw [h2, impl_areTurns.f, Option.bind_some]
        by_cases h3 : areTurnsB ((bytesOf a).map decB) 8 = true
        · have hm := areTurns_mem h3
          have hd : ∀ b ∈ bytesOf a, (encI (decB b) = b ↔ b = 46 ∨ 97 ≤ b) ∧ 0 ≤ encI (decB b) ∧ encI (decB b) ≤ 255 := by
            intro b hb
            have h4 := hm (decB b) (List.mem_map_of_mem hb)
            have h5 := bytes_range a b hb
            have h6 : wrap64 (8 - 1) = 7 := wrap64_id (by omega) (by omega)
            rw [h6] at h4
            rcases enc_dec b h5.1 h4.2 with h | h
            · exact h
            · omega
          rw [if_pos h3, turnsText_eq _ (by rw [List.length_map]; omega) k' (by rw [List.length_map]; omega), Option.bind_some, List.map_map]
          have hq : (strOfNums ((bytesOf a).map (encI ∘ decB))).toList = a.toList ↔ ∀ b ∈ bytesOf a, b = 46 ∨ 97 ≤ b := by
            rw [str_eq _ _ (by intro x hx; obtain ⟨b, hb, rfl⟩ := List.mem_map.mp hx; exact (hd b hb).2), map_self_iff]
            exact ⟨fun z b hb => (hd b hb).1.mp (z b hb), fun z b hb => (hd b hb).1.mpr (z b hb)⟩
          by_cases h4 : ∀ b ∈ bytesOf a, b = 46 ∨ 97 ≤ b
          · rw [if_pos (hq.mpr h4), if_pos ⟨h3, h4⟩]
          · rw [if_neg (fun z => h4 (hq.mp z)), if_neg (fun z => h4 z.2)]
        · rw [if_neg h3, if_neg (fun z => h3 z.1)]
    have hr : (if areTurnsB ((bytesOf a).map decB) 8 = true ∧ (∀ b ∈ bytesOf a, b = 46 ∨ 97 ≤ b) then ((bytesOf a).map decB, (0 : Int)) else ([], 6)).1.length ≤ 1048576 := by
      split
      · rename_i h
        have := areTurns_len h.1
        show ((bytesOf a).map decB).length ≤ 1048576
        omega
      · simp
    generalize (if areTurnsB ((bytesOf a).map decB) 8 = true ∧ (∀ b ∈ bytesOf a, b = 46 ∨ 97 ≤ b) then ((bytesOf a).map decB, (0 : Int)) else ([], 6)) = r at hS hI hr
    obtain ⟨r0, r1⟩ := r
    simp only at hr
    simp (disch := omega) only [toInt64S_eq, Option.bind_some, hS, hI, if_true, bne_self_eq_false, eqInt64S_self, Bool.false_eq_true, if_false, markInt64S_eq, heldInt64S_eq, not_neg]
    simp only [laws_FnExactParseTurns.j0]
    simp (disch := omega) only [toInt64S_eq, Option.bind_some, hS, hI, if_true, bne_self_eq_false, eqInt64S_self, Bool.false_eq_true, if_false, markInt64S_eq, heldInt64S_eq, not_neg]
    simp only [laws_FnExactParseTurns.j1]
    simp (disch := omega) only [toInt64S_eq, Option.bind_some, hS, hI, if_true, bne_self_eq_false, eqInt64S_self, Bool.false_eq_true, if_false, markInt64S_eq, heldInt64S_eq, not_neg]
  · rw [if_pos (by omega)]
end Go.Proofs.Ytndbfmbejopkkaa.Pure
