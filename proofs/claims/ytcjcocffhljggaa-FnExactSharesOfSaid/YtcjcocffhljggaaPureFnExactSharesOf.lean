/- For every list of gaps and every list of turns: the program's SharesOf answers as the reference's does, leaves its arguments as they were, and shares no memory. -/
import Derived.Test.YtcjcocffhljggaaQV
import Derived.Test.YtcjcocffhljggaaQM
import Derived.Test.YtcjcocffhljggaaX4
import Derived.Test.YtcjcocffhljggaaX5
import Derived.Test.YtcjcocffhljggaaX6
import Derived.Test.YtcjcocffhljggaaX31
import Derived.Test.YtcjcocffhljggaaX32
namespace Go.Proofs.Ytcjcocffhljggaa.Pure
set_option linter.unusedVariables false
set_option linter.unusedSimpArgs false
open Go.RowKit Go.Proofs.Ytcjcocffhljggaa.X Go.Proofs.YtcjcocffhljggaaW.PrintWords Go.Proofs.YtcjcocffhljggaaW.PrintLast
/-- how often x stands in a list -/
def cntL (x : Int) : List Int → Int
  | [] => 0
  | y :: r => (if y = x then 1 else 0) + cntL x r
def sharesL (l : List Int) : Nat → Nat → List Int
  | 0, _ => []
  | d + 1, i => cntL (i : Int) l :: sharesL l d (i + 1)
theorem sharesL_length (l : List Int) : ∀ d i, (sharesL l d i).length = d
  | 0, _ => rfl
  | d + 1, i => by simp [sharesL, sharesL_length l d (i + 1)]
theorem cnt_le (x : Int) : ∀ l : List Int, 0 ≤ cntL x l ∧ cntL x l ≤ (l.length : Int)
  | [] => by simp [cntL]
  | y :: r => by
    have := cnt_le x r
    simp only [cntL, List.length_cons]
    split <;> omega
theorem share_l0 (l : List Int) (x : Int) (hl : l.length ≤ 1048576) : ∀ (d i k : Nat) (a : Int), i + d = l.length → d < k → 0 ≤ a → a ≤ (i : Int) → impl_share.l0 k x a l (l.length : Int) (i : Int) = some (a + cntL x (l.drop i)) := by
  intro d
  induction d with
  | zero =>
    intro i k a hi hk h0 h1
    obtain ⟨k, rfl⟩ : ∃ m, k = m + 1 := ⟨k - 1, by omega⟩
    simp only [impl_share.l0]
    rw [if_neg (by omega), List.drop_of_length_le (by omega)]
    simp [cntL]
  | succ d ih =>
    intro i k a hi hk h0 h1
    obtain ⟨k, rfl⟩ : ∃ m, k = m + 1 := ⟨k - 1, by omega⟩
    simp only [impl_share.l0]
    rw [if_pos (by omega), if_pos (by omega), if_pos (by omega), wrap_succ (n := l.length) (by omega) (by omega), drop_rd l i (by omega)]
    simp only [cntL]
    by_cases h : rd l (i : Int) = x
    · rw [if_pos h, if_pos h, wrap64_id (by omega) (by omega), ih (i + 1) k _ (by omega) (by omega) (by omega) (by omega)]
      rw [Int.add_assoc]
    · rw [if_neg h, if_neg h, ih (i + 1) k _ (by omega) (by omega) (by omega) (by omega)]
      rw [Int.zero_add]
theorem share_eq (l : List Int) (x : Int) (hl : l.length ≤ 1048576) (k : Nat) (hk : l.length < k) : impl_share.f k l x = some (cntL x l) := by
  unfold impl_share.f
  have := share_l0 l x hl l.length 0 k 0 (by omega) hk (by omega) (by omega)
  simpa using this
theorem implSh_l0 (l : List Int) (hl : l.length ≤ 1048576) (n : Nat) (hn : n ≤ 8) : ∀ (d i k : Nat) (out : List Int), i + d = n → d + l.length + 1 < k → out.length = i → impl_SharesOf.l0 k l out (n : Int) (i : Int) = some (out ++ sharesL l d i, cntL (-1) l, 0) := by
  intro d
  induction d with
  | zero =>
    intro i k out hi hk ho
    obtain ⟨k, rfl⟩ : ∃ m, k = m + 1 := ⟨k - 1, by omega⟩
    simp only [impl_SharesOf.l0, sharesL]
    rw [if_neg (by omega), share_eq l _ hl k (by omega), Option.bind_some]
    simp
  | succ d ih =>
    intro i k out hi hk ho
    obtain ⟨k, rfl⟩ : ∃ m, k = m + 1 := ⟨k - 1, by omega⟩
    simp only [impl_SharesOf.l0, sharesL]
    rw [if_pos (by omega), share_eq l _ hl k (by omega), Option.bind_some, if_pos (by omega), wrap_succ (n := n) (by omega) (by omega), ih (i + 1) k _ (by omega) (by omega) (by simp [ho]), List.append_assoc]
    rfl
theorem rd_set (x : List Int) (i p : Nat) (c : Int) (hi : i < x.length) (hp : p < x.length) : rd (x.set i c) (p : Int) = if p = i then c else rd x (p : Int) := by
  rw [rd_get _ p (by rw [List.length_set]; exact hp), rd_get x p hp, List.getElem_set]
  by_cases h : p = i
  · rw [if_pos h, if_pos h.symm]
  · rw [if_neg h, if_neg (fun e => h e.symm)]
theorem rd_shares (l : List Int) : ∀ (d i p : Nat), p < d → rd (sharesL l d i) (p : Int) = cntL ((i + p : Nat) : Int) l
  | 0, _, p, h => by omega
  | d + 1, i, 0, h => by simp [sharesL, rd]
  | d + 1, i, p + 1, h => by
    have := rd_shares l d (i + 1) p (by omega)
    rw [show i + 1 + p = i + (p + 1) by omega] at this
    rw [← this]
    unfold rd
    rw [Int.toNat_natCast, Int.toNat_natCast]
    simp [sharesL]
theorem ext_rd (x y : List Int) (hl : x.length = y.length) (h : ∀ p : Nat, p < x.length → rd x (p : Int) = rd y (p : Int)) : x = y := by
  refine List.ext_getElem hl fun p h1 h2 => ?_
  have := h p h1
  rw [rd_get x p h1, rd_get y p h2] at this
  exact this
theorem specSh_l0 (l : List Int) (hl : l.length ≤ 1048576) (n : Nat) (hn : n ≤ 8) (hr : ∀ x ∈ l, -1 ≤ x ∧ x < (n : Int)) : ∀ (d i k : Nat) (c : List Int) (a : Int), i + d = l.length → d < k → c.length = n → 0 ≤ a → a ≤ (i : Int) → (∀ p : Nat, p < n → 0 ≤ rd c (p : Int) ∧ rd c (p : Int) ≤ (i : Int)) →
    (∀ p : Nat, p < n → rd c (p : Int) + cntL (p : Int) (l.drop i) = cntL (p : Int) l) → a + cntL (-1) (l.drop i) = cntL (-1) l → spec_SharesOf.l0 k l c a (i : Int) = some (sharesL l n 0, cntL (-1) l, 0) := by
  intro d
  induction d with
  | zero =>
    intro i k c a hi hk hc h0 h1 hb hp ha
    obtain ⟨k, rfl⟩ : ∃ m, k = m + 1 := ⟨k - 1, by omega⟩
    simp only [spec_SharesOf.l0]
    rw [List.drop_of_length_le (by omega)] at hp ha
    rw [if_neg (by omega)]
    have e : c = sharesL l n 0 := by
      refine ext_rd _ _ (by rw [hc, sharesL_length]) fun p hp' => ?_
      have := hp p (by omega)
      rw [rd_shares l n 0 p (by omega), Nat.zero_add, ← this]
      simp [cntL]
    rw [e, ← ha]
    simp [cntL]
  | succ d ih =>
    intro i k c a hi hk hc h0 h1 hb hp ha
    obtain ⟨k, rfl⟩ : ∃ m, k = m + 1 := ⟨k - 1, by omega⟩
    have hx := hr _ (rd_in l i (by omega))
    rw [drop_rd l i (by omega)] at hp ha
    simp only [cntL] at hp ha
    simp only [spec_SharesOf.l0]
    rw [if_pos (by omega), if_pos (by omega), wrap_succ (n := l.length) (by omega) (by omega)]
    by_cases h : rd l (i : Int) < 0
    · rw [if_pos h, wrap64_id (by omega) (by omega)]
      rw [if_pos (by omega)] at ha
      refine ih (i + 1) k c (a + 1) (by omega) (by omega) hc (by omega) (by omega) (fun p h2 => by have := hb p h2; omega) (fun p h2 => ?_) (by omega)
      have := hp p h2
      rw [if_neg (by omega)] at this
      omega
    · obtain ⟨q, hq⟩ : ∃ q : Nat, rd l (i : Int) = (q : Int) := ⟨(rd l (i : Int)).toNat, by omega⟩
      have hqn : q < n := by omega
      have hbq := hb q hqn
      rw [if_neg h, if_pos (by omega), if_pos (by omega), hq, toNat_nat, wrap64_id (by omega) (by omega)]
      rw [if_neg (by omega)] at ha
      refine ih (i + 1) k _ a (by omega) (by omega) (by rw [List.length_set]; exact hc) h0 (by omega) (fun p h2 => ?_) (fun p h2 => ?_) (by omega)
      · have := hb p h2
        rw [rd_set c q p _ (by omega) (by omega)]
        split <;> omega
      · have := hp p h2
        rw [rd_set c q p _ (by omega) (by omega)]
        by_cases e : p = q
        · rw [if_pos e]
          rw [if_pos (by omega)] at this
          rw [← e]
          omega
        · rw [if_neg e]
          rw [if_neg (by omega)] at this
          omega
theorem FnExactSharesOf : laws_FnExactSharesOf.Pure := by
  intro t l hmt hwt hml hyl hwl
  refine ⟨4000010, ?_⟩
  unfold laws_FnExactSharesOf.f
  by_cases hll : l.length ≤ 1048576
  · rw [if_neg (by omega)]
    by_cases hlt : t.length ≤ 1048576
    · rw [szTasks_ok t hlt, Option.bind_some, if_neg (by omega)]
      have hS : ∀ k, 3000000 < k → spec_SharesOf.f k t l = some (if codeB t l = 0 then (sharesL l t.length 0, cntL (-1) l, (0 : Int)) else ([], 0, codeB t l)) := by
        intro k hk
        unfold spec_SharesOf.f
        rw [l01Code_eq t l hlt hll k (by omega), Option.bind_some]
        by_cases h : codeB t l = 0
        · have hz := code_zero h
          have h1 := isTasks_len hz.1
          have := specSh_l0 l hll t.length (by omega) (turns_range hz.1 hz.2) l.length 0 k (List.replicate t.length 0) 0 (by omega) (by omega) (by simp) (by omega) (by omega) (fun p hp => by rw [rd_get _ p (by simpa using hp)]; simp) (fun p hp => by rw [rd_get _ p (by simpa using hp)]; simp) (by simp)
          simp only [Int.natCast_zero] at this
          rw [if_pos h, if_pos h, spec_l01K.f, Option.bind_some, if_pos (by omega), toNat_nat, if_pos (by omega), this]
        · rw [if_neg h, if_neg h]
      have hI : ∀ k, 3000000 < k → impl_SharesOf.f k t l = some (if codeB t l = 0 then (sharesL l t.length 0, cntL (-1) l, (0 : Int)) else ([], 0, codeB t l)) := by
        intro k hk
        unfold impl_SharesOf.f
        rw [turnsCode_f, Option.bind_some]
        by_cases h : codeB t l = 0
        · have hz := code_zero h
          have h1 := isTasks_len hz.1
          have := implSh_l0 l hll t.length (by omega) t.length 0 k [] (by omega) (by omega) rfl
          simp only [Int.natCast_zero, List.nil_append] at this
          rw [if_pos h, if_pos h, impl_Tasks_many.f, impl_length_int64.f, Option.bind_some, Option.bind_some, this]
        · rw [if_neg h, if_neg h]
      have hr : (if codeB t l = 0 then (sharesL l t.length 0, cntL (-1) l, (0 : Int)) else ([], 0, codeB t l)).1.length ≤ 1048576 := by
        split
        · rename_i h
          have h1 := isTasks_len (code_zero h).1
          rw [show (sharesL l t.length 0, cntL (-1) l, (0 : Int)).1 = sharesL l t.length 0 from rfl, sharesL_length]
          omega
        · simp
      generalize (if codeB t l = 0 then (sharesL l t.length 0, cntL (-1) l, (0 : Int)) else ([], 0, codeB t l)) = r at hS hI hr
      obtain ⟨r0, r1, r2⟩ := r
      simp only at hr
      simp (disch := omega) only [toInt64S_eq, Option.bind_some, hS, hI, if_true, bne_self_eq_false, eqInt64S_self, Bool.false_eq_true, if_false, markInt64S_eq, heldInt64S_eq, not_neg, toTasks_eq, eqTasks_self, markTasks_eq]
      simp only [laws_FnExactSharesOf.j0]
      simp (disch := omega) only [toInt64S_eq, Option.bind_some, hS, hI, if_true, bne_self_eq_false, eqInt64S_self, Bool.false_eq_true, if_false, markInt64S_eq, heldInt64S_eq, not_neg, toTasks_eq, eqTasks_self, markTasks_eq]
      simp only [laws_FnExactSharesOf.j1]
      simp (disch := omega) only [toInt64S_eq, Option.bind_some, hS, hI, if_true, bne_self_eq_false, eqInt64S_self, Bool.false_eq_true, if_false, markInt64S_eq, heldInt64S_eq, not_neg, toTasks_eq, eqTasks_self, markTasks_eq]
      simp only [laws_FnExactSharesOf.j2]
      simp (disch := omega) only [toInt64S_eq, Option.bind_some, hS, hI, if_true, bne_self_eq_false, eqInt64S_self, Bool.false_eq_true, if_false, markInt64S_eq, heldInt64S_eq, not_neg, toTasks_eq, eqTasks_self, markTasks_eq]
    · rw [szTasks_big t (maxLen_le hmt) hlt, Option.bind_some, if_pos (by omega)]
  · rw [if_pos (by omega)]
end Go.Proofs.Ytcjcocffhljggaa.Pure
