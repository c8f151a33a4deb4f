/- For every list of gaps and every list of turns: the program's FillIdle answers as the reference's does, leaves its arguments as they were, and shares no memory. -/
import Derived.Test.YtcjcocffhljggaaQV
import Derived.Test.YtcjcocffhljggaaQSs
import Derived.Test.YtcjcocffhljggaaQM
import Derived.Test.YtcjcocffhljggaaX4
import Derived.Test.YtcjcocffhljggaaX5
import Derived.Test.YtcjcocffhljggaaX7
import Derived.Test.YtcjcocffhljggaaX12
import Derived.Test.YtcjcocffhljggaaX13
import Derived.Test.YtcjcocffhljggaaX14
namespace Go.Proofs.Ytcjcocffhljggaa.Pure
set_option linter.unusedVariables false
set_option linter.unusedSimpArgs false
open Go.RowKit Go.Proofs.Ytcjcocffhljggaa.X Go.Proofs.YtcjcocffhljggaaW.PrintWords Go.Proofs.YtcjcocffhljggaaW.PrintLast
def tI (o : List Int) (n m : Nat) : Int := Int.tmod (wrap64 (wrap64 ((n : Int) - (m : Int)) + (o.length : Int))) (o.length : Int)
theorem tI_range (o : List Int) (n m : Nat) (ho : o.length ≤ 120) (hn : n < o.length) (hm : m ≤ o.length) : 0 ≤ tI o n m ∧ tI o n m < (o.length : Int) := by
  unfold tI
  rw [wrap64_id (x := (n : Int) - (m : Int)) (by omega) (by omega), wrap64_id (by omega) (by omega), Int.tmod_eq_emod_of_nonneg (by omega)]
  exact ⟨Int.emod_nonneg _ (by omega), Int.emod_lt_of_pos _ (by omega)⟩
/-- how many slots back of slot n the turn i is: from m on, d of them -/
def agoR (o : List Int) (n : Nat) (i : Int) : Nat → Nat → Nat
  | 0, m => m
  | d + 1, m => if rd o (tI o n m) = i then m else agoR o n i d (m + 1)
def agoN (o : List Int) (n : Nat) (i : Int) : Nat := agoR o n i o.length 1
theorem agoR_ge (o : List Int) (n : Nat) (i : Int) : ∀ (d m : Nat), m ≤ agoR o n i d m ∧ agoR o n i d m ≤ m + d := by
  intro d
  induction d with
  | zero => intro m; simp only [agoR]; omega
  | succ d ih =>
    intro m
    have := ih (m + 1)
    simp only [agoR]
    split <;> omega
theorem ago_l0 (o : List Int) (ho : o.length ≤ 120) (n : Nat) (hn : n < o.length) (i : Int) : ∀ (d m k : Nat), m + d = o.length + 1 → 1 ≤ m → d < k → impl_ago.l0 k o (n : Int) i (o.length : Int) (m : Int) = some ((agoR o n i d m : Nat) : Int) := by
  intro d
  induction d with
  | zero =>
    intro m k hm h1 hk
    obtain ⟨k, rfl⟩ : ∃ m, k = m + 1 := ⟨k - 1, by omega⟩
    simp only [impl_ago.l0, agoR]
    rw [if_neg (by omega), wrap64_id (by omega) (by omega)]
    congr 1
    omega
  | succ d ih =>
    intro m k hm h1 hk
    obtain ⟨k, rfl⟩ : ∃ m, k = m + 1 := ⟨k - 1, by omega⟩
    have hr := tI_range o n m ho hn (by omega)
    simp only [impl_ago.l0, agoR]
    rw [show Int.tmod (wrap64 (wrap64 ((n : Int) - (m : Int)) + (o.length : Int))) (o.length : Int) = tI o n m from rfl]
    rw [if_pos (by omega), if_neg (by omega), if_pos hr.1, if_pos hr.2]
    by_cases h : rd o (tI o n m) = i
    · rw [if_pos h, if_pos h]
    · rw [if_neg h, if_neg h, wrap_succ (n := 200) (by omega) (by omega), ih (m + 1) k (by omega) (by omega) (by omega)]
theorem ago_eq (o : List Int) (ho : o.length ≤ 120) (n : Nat) (hn : n < o.length) (i : Int) (k : Nat) (hk : 200 < k) : impl_ago.f k o (n : Int) i = some ((agoN o n i : Nat) : Int) := by
  unfold impl_ago.f
  have := ago_l0 o ho n hn i o.length 1 k (by omega) (by omega) (by omega)
  simp only [Int.natCast_one] at this
  rw [impl_length_int64.f, Option.bind_some, this]
  rfl
theorem specF_l2 (t o : List Int) (ho : o.length ≤ 120) (n : Nat) (hn : n < o.length) (b a i : Int) : ∀ (d m k : Nat), m + d = o.length + 1 → 1 ≤ m → d < k → ∃ k', k ≤ k' + d + 1 ∧
    spec_FillIdle.l2 k o (n : Int) b a i (m : Int) t = if ((agoR o n i d m : Nat) : Int) > a then spec_FillIdle.l1 k' o (n : Int) i ((agoR o n i d m : Nat) : Int) (wrap64 (i + 1)) t else spec_FillIdle.l1 k' o (n : Int) b a (wrap64 (i + 1)) t := by
  intro d
  induction d with
  | zero =>
    intro m k hm h1 hk
    obtain ⟨k, rfl⟩ : ∃ m, k = m + 1 := ⟨k - 1, by omega⟩
    refine ⟨k, by omega, ?_⟩
    simp only [spec_FillIdle.l2]
    rw [if_neg (by omega)]
    rfl
  | succ d ih =>
    intro m k hm h1 hk
    obtain ⟨k, rfl⟩ : ∃ m, k = m + 1 := ⟨k - 1, by omega⟩
    have hr := tI_range o n m ho hn (by omega)
    simp only [spec_FillIdle.l2]
    rw [show Int.tmod (wrap64 (wrap64 ((n : Int) - (m : Int)) + (o.length : Int))) (o.length : Int) = tI o n m from rfl]
    rw [if_pos (by omega), if_neg (by omega), if_pos hr.1, if_pos hr.2]
    by_cases h : rd o (tI o n m) = i
    · refine ⟨k, by omega, ?_⟩
      have e0 : agoR o n i (d + 1) m = m := by simp only [agoR]; rw [if_pos h]
      rw [if_pos h, e0]
    · obtain ⟨k', h2, h3⟩ := ih (m + 1) k (by omega) (by omega) (by omega)
      refine ⟨k', by omega, ?_⟩
      have e0 : agoR o n i (d + 1) m = agoR o n i d (m + 1) := by simp only [agoR]; rw [if_neg h]
      rw [if_neg h, e0, wrap_succ (n := 200) (by omega) (by omega), h3]
/-- the task whose last turn is longest ago, b the best so far -/
def bestF (o : List Int) (n : Nat) : Nat → Nat → Nat → Nat
  | 0, _, b => b
  | d + 1, i, b => bestF o n d (i + 1) (if ((agoN o n (i : Int) : Nat) : Int) > ((agoN o n (b : Int) : Nat) : Int) then i else b)
theorem bestF_lt (o : List Int) (n c : Nat) : ∀ (d i b : Nat), i + d ≤ c → b < c → bestF o n d i b < c := by
  intro d
  induction d with
  | zero => intro i b _ hb; exact hb
  | succ d ih =>
    intro i b hi hb
    simp only [bestF]
    apply ih _ _ (by omega)
    split <;> omega
theorem specF_l1 (t o : List Int) (ht : t.length ≤ 8) (ho : o.length ≤ 120) (n : Nat) (hn : n < o.length) : ∀ (d i k b : Nat), i + d = t.length → 200 * d + 1 < k → ∃ k', k ≤ k' + 200 * d + 1 ∧
    spec_FillIdle.l1 k o (n : Int) (b : Int) ((agoN o n (b : Int) : Nat) : Int) (i : Int) t = spec_FillIdle.l0 k' (o.set n ((bestF o n d i b : Nat) : Int)) (wrap64 ((n : Int) + 1)) t := by
  intro d
  induction d with
  | zero =>
    intro i k b hi hk
    obtain ⟨k, rfl⟩ : ∃ m, k = m + 1 := ⟨k - 1, by omega⟩
    refine ⟨k, by omega, ?_⟩
    simp only [spec_FillIdle.l1, bestF]
    rw [spec_l01K.f, Option.bind_some, if_neg (by omega), if_pos (by omega), if_pos (by omega), toNat_nat]
  | succ d ih =>
    intro i k b hi hk
    obtain ⟨k, rfl⟩ : ∃ m, k = m + 1 := ⟨k - 1, by omega⟩
    obtain ⟨k1, h1, h2⟩ := specF_l2 t o ho n hn (b : Int) ((agoN o n (b : Int) : Nat) : Int) (i : Int) o.length 1 k (by omega) (by omega) (by omega)
    simp only [Int.natCast_one] at h2
    rw [show agoR o n (i : Int) o.length 1 = agoN o n (i : Int) from rfl] at h2
    simp only [spec_FillIdle.l1, bestF]
    rw [spec_l01K.f, Option.bind_some, if_pos (by omega), h2, wrap_succ (n := 200) (by omega) (by omega)]
    by_cases h : ((agoN o n (i : Int) : Nat) : Int) > ((agoN o n (b : Int) : Nat) : Int)
    · obtain ⟨k', h3, h4⟩ := ih (i + 1) k1 i (by omega) (by omega)
      exact ⟨k', by omega, by rw [if_pos h, if_pos h, h4]⟩
    · obtain ⟨k', h3, h4⟩ := ih (i + 1) k1 b (by omega) (by omega)
      exact ⟨k', by omega, by rw [if_neg h, if_neg h, h4]⟩
theorem implF_l1 (t o : List Int) (ht : t.length ≤ 8) (ho : o.length ≤ 120) (n : Nat) (hn : n < o.length) (x21 x22 : Int) : ∀ (d i k b : Nat), i + d = t.length → 300 + d < k → ∃ k', k ≤ k' + d + 1 ∧
    impl_FillIdle.l1 k o (n : Int) (b : Int) x21 x22 (t.length : Int) (i : Int) t = impl_FillIdle.l0 k' (o.set n ((bestF o n d i b : Nat) : Int)) x21 (wrap64 (x22 + 1)) t := by
  intro d
  induction d with
  | zero =>
    intro i k b hi hk
    obtain ⟨k, rfl⟩ : ∃ m, k = m + 1 := ⟨k - 1, by omega⟩
    refine ⟨k, by omega, ?_⟩
    simp only [impl_FillIdle.l1, bestF]
    rw [if_neg (by omega), if_pos (by omega), if_pos (by omega), toNat_nat]
  | succ d ih =>
    intro i k b hi hk
    obtain ⟨k, rfl⟩ : ∃ m, k = m + 1 := ⟨k - 1, by omega⟩
    simp only [impl_FillIdle.l1, bestF]
    rw [if_pos (by omega), ago_eq o ho n hn _ k (by omega), Option.bind_some, ago_eq o ho n hn _ k (by omega), Option.bind_some, wrap_succ (n := 200) (by omega) (by omega)]
    by_cases h : ((agoN o n (i : Int) : Nat) : Int) > ((agoN o n (b : Int) : Nat) : Int)
    · obtain ⟨k', h3, h4⟩ := ih (i + 1) k i (by omega) (by omega)
      exact ⟨k', by omega, by rw [if_pos h, if_pos h, h4]⟩
    · obtain ⟨k', h3, h4⟩ := ih (i + 1) k b (by omega) (by omega)
      exact ⟨k', by omega, by rw [if_neg h, if_neg h, h4]⟩
def fillF (c : Nat) : Nat → Nat → List Int → List Int
  | 0, _, o => o
  | d + 1, n, o => fillF c d (n + 1) (if rd o (n : Int) = -1 then o.set n ((bestF o n c 0 0 : Nat) : Int) else o)
theorem fillF_length (c : Nat) : ∀ (d n : Nat) (o : List Int), (fillF c d n o).length = o.length := by
  intro d
  induction d with
  | zero => intro n o; rfl
  | succ d ih =>
    intro n o
    simp only [fillF]
    rw [ih]
    split
    · rw [List.length_set]
    · rfl
theorem best0 (o : List Int) (n c : Nat) (hc : 1 ≤ c) : bestF o n c 0 0 = bestF o n (c - 1) 1 0 := by
  obtain ⟨m, rfl⟩ : ∃ m, c = m + 1 := ⟨c - 1, by omega⟩
  rw [show m + 1 - 1 = m by omega]
  simp only [bestF]
  rw [if_neg (by omega)]
theorem set_mem (o : List Int) (n : Nat) (v : Int) (h : ∀ x ∈ o, -1 ≤ x) (hv : -1 ≤ v) : ∀ x ∈ o.set n v, -1 ≤ x := by
  intro x hx
  rcases List.mem_or_eq_of_mem_set hx with h1 | h1
  · exact h x h1
  · omega
theorem specF_l0 (t : List Int) (ht : 1 ≤ t.length ∧ t.length ≤ 8) : ∀ (d n k : Nat) (o : List Int), n + d = o.length → o.length ≤ 120 → 2000 * d + 1 < k → (∀ x ∈ o, -1 ≤ x) → spec_FillIdle.l0 k o (n : Int) t = some (fillF t.length d n o, 0) := by
  intro d
  induction d with
  | zero =>
    intro n k o hn ho hk hx
    obtain ⟨k, rfl⟩ : ∃ m, k = m + 1 := ⟨k - 1, by omega⟩
    simp only [spec_FillIdle.l0, fillF]
    rw [if_neg (by omega)]
  | succ d ih =>
    intro n k o hn ho hk hx
    obtain ⟨k, rfl⟩ : ∃ m, k = m + 1 := ⟨k - 1, by omega⟩
    have hxn := hx _ (rd_in o n (by omega))
    simp only [spec_FillIdle.l0, fillF]
    rw [if_pos (by omega), if_pos (by omega)]
    by_cases h : rd o (n : Int) = -1
    · obtain ⟨k, rfl⟩ : ∃ m, k = m + 1 := ⟨k - 1, by omega⟩
      obtain ⟨k1, h1, h2⟩ := specF_l2 t o ho n (by omega) 0 (-1) 0 o.length 1 k (by omega) (by omega) (by omega)
      simp only [Int.natCast_one] at h2
      have hg := agoR_ge o n 0 o.length 1
      obtain ⟨k2, h3, h4⟩ := specF_l1 t o ht.2 ho n (by omega) (t.length - 1) 1 k1 0 (by omega) (by omega)
      simp only [Int.natCast_one, Int.natCast_zero] at h4
      rw [if_neg (by omega), if_pos h]
      simp only [spec_FillIdle.l1]
      rw [spec_l01K.f, Option.bind_some, if_pos (by omega), h2, if_pos (by omega), show wrap64 (0 + 1) = 1 from wrap64_id (by omega) (by omega), show agoR o n 0 o.length 1 = agoN o n 0 from rfl, h4, wrap_succ (n := 200) (by omega) (by omega), ← best0 o n t.length ht.1]
      exact ih (n + 1) k2 _ (by rw [List.length_set]; omega) (by rw [List.length_set]; omega) (by omega) (set_mem o n _ hx (by omega))
    · rw [if_pos (by omega), if_neg h, wrap_succ (n := 200) (by omega) (by omega)]
      exact ih (n + 1) k o (by omega) (by omega) (by omega) hx
theorem implF_l0 (t : List Int) (ht : 1 ≤ t.length ∧ t.length ≤ 8) (c : Nat) : ∀ (d n k : Nat) (o : List Int), n + d = o.length → o.length = c → c ≤ 120 → 2000 * d + 1 < k → (∀ x ∈ o, -1 ≤ x) → impl_FillIdle.l0 k o (c : Int) (n : Int) t = some (fillF t.length d n o, 0) := by
  intro d
  induction d with
  | zero =>
    intro n k o hn hc ho hk hx
    obtain ⟨k, rfl⟩ : ∃ m, k = m + 1 := ⟨k - 1, by omega⟩
    simp only [impl_FillIdle.l0, fillF]
    rw [if_neg (by omega)]
  | succ d ih =>
    intro n k o hn hc ho hk hx
    obtain ⟨k, rfl⟩ : ∃ m, k = m + 1 := ⟨k - 1, by omega⟩
    have hxn := hx _ (rd_in o n (by omega))
    simp only [impl_FillIdle.l0, fillF]
    rw [if_pos (by omega), if_pos (by omega), if_pos (by omega)]
    by_cases h : rd o (n : Int) = -1
    · obtain ⟨k2, h3, h4⟩ := implF_l1 t o ht.2 (by omega) n (by omega) (c : Int) (n : Int) t.length 0 k 0 (by omega) (by omega)
      simp only [Int.natCast_zero] at h4
      rw [if_pos h, if_pos h, impl_Tasks_many.f, impl_length_int64.f, Option.bind_some, Option.bind_some, h4, wrap_succ (n := 200) (by omega) (by omega)]
      exact ih (n + 1) k2 _ (by rw [List.length_set]; omega) (by rw [List.length_set]; omega) ho (by omega) (set_mem o n _ hx (by omega))
    · rw [if_neg h, if_neg h, wrap_succ (n := 200) (by omega) (by omega)]
      exact ih (n + 1) k o (by omega) hc ho (by omega) hx
theorem FnExactFillIdle : laws_FnExactFillIdle.Pure := by
  intro t l hmt hwt hml hyl hwl
  refine ⟨4000010, ?_⟩
  unfold laws_FnExactFillIdle.f
  by_cases hll : l.length ≤ 1048576
  · rw [if_neg (by omega)]
    by_cases hlt : t.length ≤ 1048576
    · rw [szTasks_ok t hlt, Option.bind_some, if_neg (by omega)]
      have hS : ∀ k, 3000000 < k → spec_FillIdle.f k t l = some (if codeB t l = 0 then (fillF t.length l.length 0 l, (0 : Int)) else ([], codeB t l)) := by
        intro k hk
        unfold spec_FillIdle.f
        rw [l01Code_eq t l hlt hll k (by omega), Option.bind_some]
        by_cases h : codeB t l = 0
        · obtain ⟨h1, h2⟩ := code_zero h
          have h3 := isTasks_len h1
          have h4 := areTurns_len h2
          have := specF_l0 t h3 l.length 0 k l (by omega) (by omega) (by omega) (fun x hx => (turns_range h1 h2 x hx).1)
          simp only [Int.natCast_zero] at this
          rw [if_pos h, if_pos h, l01Own_eq l (by omega), Option.bind_some, this]
        · rw [if_neg h, if_neg h]
      have hI : ∀ k, 3000000 < k → impl_FillIdle.f k t l = some (if codeB t l = 0 then (fillF t.length l.length 0 l, (0 : Int)) else ([], codeB t l)) := by
        intro k hk
        unfold impl_FillIdle.f
        rw [turnsCode_f, Option.bind_some]
        by_cases h : codeB t l = 0
        · obtain ⟨h1, h2⟩ := code_zero h
          have h3 := isTasks_len h1
          have h4 := areTurns_len h2
          have := implF_l0 t h3 l.length l.length 0 k l (by omega) rfl (by omega) (by omega) (fun x hx => (turns_range h1 h2 x hx).1)
          simp only [Int.natCast_zero] at this
          rw [if_pos h, if_pos h, slices_Clone_int64_int64.f, if_pos (by omega), Option.bind_some, this]
        · rw [if_neg h, if_neg h]
      have hr : (if codeB t l = 0 then (fillF t.length l.length 0 l, (0 : Int)) else ([], codeB t l)).1.length ≤ 1048576 := by
        split
        · show (fillF t.length l.length 0 l).length ≤ 1048576
          rw [fillF_length]
          exact hll
        · simp
      generalize (if codeB t l = 0 then (fillF t.length l.length 0 l, (0 : Int)) else ([], codeB t l)) = r at hS hI hr
      obtain ⟨r0, r1⟩ := r
      simp only at hr
      simp (disch := omega) only [toInt64S_eq, Option.bind_some, hS, hI, if_true, bne_self_eq_false, eqInt64S_self, Bool.false_eq_true, if_false, markInt64S_eq, heldInt64S_eq, not_neg, toTasks_eq, eqTasks_self, markTasks_eq]
      simp only [laws_FnExactFillIdle.j0]
      simp (disch := omega) only [toInt64S_eq, Option.bind_some, hS, hI, if_true, bne_self_eq_false, eqInt64S_self, Bool.false_eq_true, if_false, markInt64S_eq, heldInt64S_eq, not_neg, toTasks_eq, eqTasks_self, markTasks_eq]
      simp only [laws_FnExactFillIdle.j1]
      simp (disch := omega) only [toInt64S_eq, Option.bind_some, hS, hI, if_true, bne_self_eq_false, eqInt64S_self, Bool.false_eq_true, if_false, markInt64S_eq, heldInt64S_eq, not_neg, toTasks_eq, eqTasks_self, markTasks_eq]
      simp only [laws_FnExactFillIdle.j2]
      simp (disch := omega) only [toInt64S_eq, Option.bind_some, hS, hI, if_true, bne_self_eq_false, eqInt64S_self, Bool.false_eq_true, if_false, markInt64S_eq, heldInt64S_eq, not_neg, toTasks_eq, eqTasks_self, markTasks_eq]
    · rw [szTasks_big t (maxLen_le hmt) hlt, Option.bind_some, if_pos (by omega)]
  · rw [if_pos (by omega)]
end Go.Proofs.Ytcjcocffhljggaa.Pure
