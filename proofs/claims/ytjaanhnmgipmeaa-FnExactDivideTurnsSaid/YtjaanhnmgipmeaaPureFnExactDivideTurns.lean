/- For every list of whole numbers and every two numbers: the program's DivideTurns answers as the reference's does, leaves its argument as it was, and shares no memory. -/
import Derived.Test.YtjaanhnmgipmeaaQK
import Derived.Test.YtjaanhnmgipmeaaQX
import Derived.Test.YtjaanhnmgipmeaaX2
import Derived.Test.YtjaanhnmgipmeaaX3
import Derived.Test.YtjaanhnmgipmeaaX8
import Derived.Test.YtjaanhnmgipmeaaX9
import Derived.Test.YtjaanhnmgipmeaaX10
import Derived.Test.YtjaanhnmgipmeaaX11
namespace Go.Proofs.Ytjaanhnmgipmeaa.Pure
set_option linter.unusedVariables false
set_option linter.unusedSimpArgs false
open Go.RowKit Go.Proofs.Ytjaanhnmgipmeaa.X Go.Proofs.YtjaanhnmgipmeaaW.PrintWords Go.Proofs.YtjaanhnmgipmeaaW.PrintLast
/-- how often x is met -/
def cntL (x : Int) : List Int → Nat
  | [] => 0
  | y :: r => (if y = x then 1 else 0) + cntL x r
theorem cntL_le (x : Int) : ∀ l : List Int, cntL x l ≤ l.length
  | [] => Nat.le_refl _
  | y :: r => by
    have := cntL_le x r
    rw [cntL, List.length_cons]
    split <;> omega
theorem cntL_mem (x : Int) : ∀ l : List Int, cntL x l ≠ 0 → x ∈ l
  | [], h => absurd rfl h
  | y :: r, h => by
    by_cases e : y = x
    · rw [e]
      exact List.mem_cons_self
    · rw [cntL, if_neg e, Nat.zero_add] at h
      exact List.mem_cons_of_mem _ (cntL_mem x r h)
/-- the turns of i divided: the list, and the number that comes next -/
def divF (i m most : Int) : Int → List Int → List Int × Int
  | nx, [] => ([], nx)
  | nx, x :: r => if x = i then ((if nx > 0 then wrap64 (most + nx) else x) :: (divF i m most (Int.tmod (wrap64 (nx + 1)) m) r).1, (divF i m most (Int.tmod (wrap64 (nx + 1)) m) r).2) else (x :: (divF i m most nx r).1, (divF i m most nx r).2)
theorem divF_length (i m most : Int) : ∀ (l : List Int) (nx : Int), (divF i m most nx l).1.length = l.length
  | [], _ => rfl
  | x :: r, nx => by
    rw [divF]
    split
    · rw [List.length_cons, List.length_cons, divF_length i m most r]
    · rw [List.length_cons, List.length_cons, divF_length i m most r]
theorem divF_append (i m most : Int) : ∀ (a b : List Int) (nx : Int), divF i m most nx (a ++ b) = ((divF i m most nx a).1 ++ (divF i m most (divF i m most nx a).2 b).1, (divF i m most (divF i m most nx a).2 b).2)
  | [], _, _ => rfl
  | x :: r, b, nx => by
    rw [List.cons_append, divF, divF]
    split
    · rw [divF_append i m most r b]
      rfl
    · rw [divF_append i m most r b]
      rfl
theorem repL_succ (l : List Int) (d : Nat) : repL l (d + 1) = l ++ repL l d := by
  unfold repL
  rw [List.replicate_succ, List.flatten_cons]
theorem specDiv_l2 (l : List Int) (i m most t : Int) (hl : l.length ≤ 120) (hm : m ≠ 0) : ∀ (d j k : Nat) (out : List Int) (nx : Int), j + d = l.length → d < k → out.length + d ≤ 1000000 →
    spec_DivideTurns.l2 k l i m most t out nx (j : Int) = spec_DivideTurns.l1 (k - 1 - d) l i m most (wrap64 (t - 1)) (out ++ (divF i m most nx (l.drop j)).1) (divF i m most nx (l.drop j)).2 := by
  intro d
  induction d with
  | zero =>
    intro j k out nx hj hk ho
    obtain ⟨k, rfl⟩ : ∃ m, k = m + 1 := ⟨k - 1, by omega⟩
    simp only [spec_DivideTurns.l2]
    rw [if_neg (by omega), List.drop_of_length_le (by omega)]
    simp only [divF, List.append_nil]
    rfl
  | succ d ih =>
    intro j k out nx hj hk ho
    obtain ⟨k, rfl⟩ : ∃ m, k = m + 1 := ⟨k - 1, by omega⟩
    simp only [spec_DivideTurns.l2]
    rw [if_pos (by omega), if_pos (by omega), drop_rd l j (by omega), wrap_succ (i := j) (n := l.length) (by omega) (by omega), show k + 1 - 1 - (d + 1) = k - 1 - d by omega]
    by_cases e : rd l (j : Int) = i
    · rw [if_pos e]
      by_cases h : nx > 0
      · rw [if_pos h, if_neg hm, if_pos (by omega), ih (j + 1) k _ _ (by omega) (by omega) (by rw [List.length_append, List.length_singleton]; omega)]
        simp only [divF]
        rw [if_pos e, if_pos h, List.append_assoc]
        rfl
      · rw [if_neg h, if_neg hm, if_pos (by omega), ih (j + 1) k _ _ (by omega) (by omega) (by rw [List.length_append, List.length_singleton]; omega)]
        simp only [divF]
        rw [if_pos e, if_neg h, List.append_assoc]
        rfl
    · rw [if_neg e, if_pos (by omega), ih (j + 1) k _ _ (by omega) (by omega) (by rw [List.length_append, List.length_singleton]; omega)]
      simp only [divF]
      rw [if_neg e, List.append_assoc]
      rfl
theorem specDiv_l1 (l : List Int) (i m most : Int) (hl : l.length ≤ 120) (hm : m ≠ 0) : ∀ (t k : Nat) (out : List Int) (nx : Int), t ≤ 8 → t * 200 < k → out.length + t * 120 ≤ 1000 →
    spec_DivideTurns.l1 k l i m most (t : Int) out nx = some (out ++ (divF i m most nx (repL l t)).1, 0) := by
  intro t
  induction t with
  | zero =>
    intro k out nx h1 hk ho
    obtain ⟨k, rfl⟩ : ∃ m, k = m + 1 := ⟨k - 1, by omega⟩
    simp only [spec_DivideTurns.l1]
    rw [if_neg (by omega)]
    simp [repL, divF]
  | succ t ih =>
    intro k out nx h1 hk ho
    obtain ⟨k, rfl⟩ : ∃ m, k = m + 1 := ⟨k - 1, by omega⟩
    have e := specDiv_l2 l i m most ((t + 1 : Nat) : Int) hl hm l.length 0 k out nx (by omega) (by omega) (by omega)
    simp only [Int.natCast_zero, List.drop_zero] at e
    have hd := divF_length i m most l nx
    simp only [spec_DivideTurns.l1]
    rw [if_pos (by omega), e, wrap64_id (by omega) (by omega), show ((t + 1 : Nat) : Int) - 1 = (t : Int) by omega, ih _ _ _ (by omega) (by omega) (by rw [List.length_append]; omega), repL_succ, divF_append, List.append_assoc]
theorem implDiv_l0 (i m most : Int) (hm : m ≠ 0) : ∀ (d j k : Nat) (x : List Int) (nx : Int), j + d = x.length → d < k → x.length ≤ 1000000 →
    impl_DivideTurns.l0 k i m most x nx (x.length : Int) (j : Int) = some (x.take j ++ (divF i m most nx (x.drop j)).1, 0) := by
  intro d
  induction d with
  | zero =>
    intro j k x nx hj hk ho
    obtain ⟨k, rfl⟩ : ∃ m, k = m + 1 := ⟨k - 1, by omega⟩
    simp only [impl_DivideTurns.l0]
    rw [if_neg (by omega), List.drop_of_length_le (by omega), List.take_of_length_le (by omega)]
    simp [divF]
  | succ d ih =>
    intro j k x nx hj hk ho
    obtain ⟨k, rfl⟩ : ∃ m, k = m + 1 := ⟨k - 1, by omega⟩
    simp only [impl_DivideTurns.l0]
    rw [if_pos (by omega), if_pos (by omega), if_pos (by omega), drop_rd x j (by omega), wrap_succ (n := x.length) (by omega) (by omega), toNat_nat]
    by_cases e : rd x (j : Int) = i
    · rw [if_pos e]
      by_cases h : nx > 0
      · have := ih (j + 1) k (x.set j (wrap64 (most + nx))) (Int.tmod (wrap64 (nx + 1)) m) (by rw [List.length_set]; omega) (by omega) (by rw [List.length_set]; omega)
        rw [List.length_set] at this
        rw [if_pos h, if_neg hm, this, set_take x j _ (by omega), set_drop, List.append_assoc]
        simp only [divF]
        rw [if_pos e, if_pos h]
        rfl
      · rw [if_neg h, if_neg hm, ih (j + 1) k x _ (by omega) (by omega) (by omega), take_rd x j (by omega), List.append_assoc]
        simp only [divF]
        rw [if_pos e, if_neg h]
        rfl
    · rw [if_neg e, ih (j + 1) k x _ (by omega) (by omega) (by omega), take_rd x j (by omega), List.append_assoc]
      simp only [divF]
      rw [if_neg e]
      rfl
theorem share_l0 (x : Int) (l : List Int) (hl : l.length ≤ 1048576) : ∀ (d j k : Nat) (c : Nat), j + d = l.length → d < k → c ≤ j → impl_share.l0 k x (c : Int) l (l.length : Int) (j : Int) = some (((c + cntL x (l.drop j) : Nat)) : Int) := by
  intro d
  induction d with
  | zero =>
    intro j k c hj hk hc
    obtain ⟨k, rfl⟩ : ∃ m, k = m + 1 := ⟨k - 1, by omega⟩
    simp only [impl_share.l0]
    rw [if_neg (by omega), List.drop_of_length_le (by omega)]
    rfl
  | succ d ih =>
    intro j k c hj hk hc
    obtain ⟨k, rfl⟩ : ∃ m, k = m + 1 := ⟨k - 1, by omega⟩
    simp only [impl_share.l0]
    rw [if_pos (by omega), if_pos (by omega), if_pos (by omega), drop_rd l j (by omega), wrap_succ (i := j) (n := l.length) (by omega) (by omega)]
    by_cases e : rd l (j : Int) = x
    · rw [if_pos e, wrap_succ (i := c) (n := l.length) (by omega) (by omega), ih (j + 1) k (c + 1) (by omega) (by omega) (by omega), cntL, if_pos e, Nat.add_assoc]
    · rw [if_neg e, ih (j + 1) k c (by omega) (by omega) (by omega), cntL, if_neg e, Nat.zero_add]
theorem share_eq (x : Int) (l : List Int) (hl : l.length ≤ 1048576) (k : Nat) (hk : l.length < k) : impl_share.f k l x = some ((cntL x l : Nat) : Int) := by
  unfold impl_share.f
  have := share_l0 x l hl l.length 0 k 0 (by omega) hk (by omega)
  simp only [Int.natCast_zero, List.drop_zero, Nat.zero_add] at this
  exact this
theorem maxL_mem (l : List Int) : ∀ (a b : Int), a ∈ l → b ≤ a → (∀ x ∈ l, b ≤ x) → maxL l a = maxL l b := by
  have key : ∀ (l : List Int) (a b : Int), b ≤ a → (a ≤ b ∨ a ∈ l) → maxL l a = maxL l b := by
    intro l
    induction l with
    | nil =>
      intro a b h1 h2
      rcases h2 with h2 | h2
      · rw [show a = b by omega]
      · cases h2
    | cons y r ih =>
      intro a b h1 h2
      show maxL r (mx a y) = maxL r (mx b y)
      have e1 := mx_ge a y
      have e2 := mx_ge b y
      have e3 := mx_or a y
      have e4 := mx_or b y
      refine ih _ _ (by omega) ?_
      rcases h2 with h2 | h2
      · left; omega
      · rcases List.mem_cons.1 h2 with h3 | h3
        · left; omega
        · rcases e3 with e3 | e3
          · right; rw [e3]; exact h3
          · left; omega
  intro a b h1 h2 _
  exact key l a b h2 (.inr h1)
def divR (l : List Int) (i m : Int) : List Int × Int :=
  if areTurnsB l 8 = true then (if withinB i 0 7 = true then (if withinB m 2 8 = true then
    (if cntL i l = 0 then ([], 4) else if wrap64 (wrap64 (maxL l i + m) - 1) ≥ 8 then ([], 3) else if wrap64 (wrap64 (Int.tdiv m (gI (cntL i l : Nat) m)) * (l.length : Int)) > 120 then ([], 3) else
      ((divF i m (maxL l i) 0 (repL l (wrap64 (Int.tdiv m (gI (cntL i l : Nat) m))).toNat)).1, 0)) else ([], 2)) else ([], 2)) else ([], 2)
theorem div_times (c : Nat) (m : Int) (hc : c ≠ 0) (hm : 2 ≤ m ∧ m ≤ 8) : gI (c : Nat) m ≠ 0 ∧ ∃ t : Nat, 1 ≤ t ∧ t ≤ 8 ∧ wrap64 (Int.tdiv m (gI (c : Nat) m)) = (t : Int) := by
  obtain ⟨n, rfl⟩ : ∃ n : Nat, m = (n : Int) := ⟨m.toNat, by omega⟩
  have hg := gI_nat c n (by omega)
  have hp : 0 < Nat.gcd c n := Nat.gcd_pos_of_pos_right c (by omega)
  refine ⟨by rw [hg]; omega, n / Nat.gcd c n, ?_, ?_, ?_⟩
  · exact Nat.div_pos (Nat.gcd_le_right c (by omega)) hp
  · have := Nat.div_le_self n (Nat.gcd c n)
    omega
  · have := Nat.div_le_self n (Nat.gcd c n)
    rw [hg, ← Int.ofNat_tdiv]
    generalize n / Nat.gcd c n = q at this
    rw [wrap64_id (by omega) (by omega)]
theorem specDiv_l0 (l : List Int) (i m : Int) (hl : l.length ≤ 120) (hm : 2 ≤ m ∧ m ≤ 8) : ∀ (d j k : Nat) (c : Nat) (b : Int), j + d = l.length → 9223372036855000000 + d < k → c ≤ j → c + cntL i (l.drop j) = cntL i l → maxL (l.drop j) b = maxL l i →
    spec_DivideTurns.l0 k l i m (c : Int) b (j : Int) = some (if cntL i l = 0 then ([], 4) else if wrap64 (wrap64 (maxL l i + m) - 1) ≥ 8 then ([], 3) else if wrap64 (wrap64 (Int.tdiv m (gI (cntL i l : Nat) m)) * (l.length : Int)) > 120 then ([], 3) else
      ((divF i m (maxL l i) 0 (repL l (wrap64 (Int.tdiv m (gI (cntL i l : Nat) m))).toNat)).1, 0)) := by
  intro d
  induction d with
  | zero =>
    intro j k c b hj hk hc h1 h2
    obtain ⟨k, rfl⟩ : ∃ m, k = m + 1 := ⟨k - 1, by omega⟩
    rw [List.drop_of_length_le (by omega)] at h1 h2
    have e1 : c = cntL i l := h1
    have e2 : b = maxL l i := h2
    subst e1 e2
    simp only [spec_DivideTurns.l0]
    rw [if_neg (by omega)]
    by_cases h0 : cntL i l = 0
    · rw [if_pos (by omega), if_pos h0]
    · obtain ⟨hg, t, ht1, ht2, ht⟩ := div_times (cntL i l) m h0 hm
      rw [if_neg (by omega), if_neg h0, specGcd_eq _ _ (by omega) k (by omega), Option.bind_some, if_neg hg, ht, toNat_nat]
      obtain ⟨k, rfl⟩ : ∃ m, k = m + 1 := ⟨k - 1, by omega⟩
      by_cases h3 : wrap64 (wrap64 (maxL l i + m) - 1) ≥ 8
      · rw [if_pos h3, if_pos h3]
        simp only [spec_DivideTurns.j2]
        rw [if_pos trivial]
      · rw [if_neg h3, if_neg h3]
        simp only [spec_DivideTurns.j2]
        by_cases h4 : wrap64 ((t : Int) * (l.length : Int)) > 120
        · rw [if_pos h4, if_pos (decide_eq_true h4)]
        · rw [if_neg h4, if_neg (by rw [decide_eq_false h4]; exact Bool.false_ne_true), specDiv_l1 l i m _ hl (by omega) t k [] 0 ht2 (by omega) (by simp; omega)]
          rfl
  | succ d ih =>
    intro j k c b hj hk hc h1 h2
    obtain ⟨k, rfl⟩ : ∃ m, k = m + 1 := ⟨k - 1, by omega⟩
    rw [drop_rd l j (by omega)] at h1 h2
    have h2' : maxL (l.drop (j + 1)) (mx b (rd l (j : Int))) = maxL l i := h2
    simp only [spec_DivideTurns.l0]
    rw [if_pos (by omega), if_pos (by omega), wrap_succ (i := j) (n := l.length) (by omega) (by omega)]
    by_cases e : rd l (j : Int) = i
    · rw [cntL, if_pos e] at h1
      rw [if_pos e, wrap_succ (i := c) (n := l.length) (by omega) (by omega), ih (j + 1) k (c + 1) _ (by omega) (by omega) (by omega) (by omega) h2']
    · rw [cntL, if_neg e] at h1
      rw [if_neg e, ih (j + 1) k c _ (by omega) (by omega) (by omega) (by omega) h2']
theorem FnExactDivideTurns : laws_FnExactDivideTurns.Pure := by
  intro l i m hml hyl hwl hwi hwm
  refine ⟨9223372036870000000, ?_⟩
  unfold laws_FnExactDivideTurns.f
  by_cases hll : l.length ≤ 1048576
  · rw [if_neg (by omega)]
    have hS : ∀ k, 9223372036860000000 < k → spec_DivideTurns.f k l i m = some (divR l i m) := by
      intro k hk
      unfold spec_DivideTurns.f divR
      obtain ⟨k, rfl⟩ : ∃ m, k = m + 1 := ⟨k - 1, by omega⟩
      rw [l01Turns_eq l 8 (by omega) _ (by omega), Option.bind_some]
      by_cases h1 : areTurnsB l 8 = true
      · have h3 := areTurns_len h1
        rw [if_pos h1, if_pos h1, l01In_f, Option.bind_some]
        by_cases h2 : withinB i 0 7 = true
        · rw [if_pos h2, if_pos h2, l01In_f, Option.bind_some]
          simp only [spec_DivideTurns.j0]
          by_cases h4 : withinB m 2 8 = true
          · have hx := h4
            unfold withinB at hx
            simp only [Bool.and_eq_true, decide_eq_true_eq] at hx
            have e := specDiv_l0 l i m h3.2 hx l.length 0 k 0 i (by omega) (by omega) (by omega) (by simp) (by simp)
            simp only [Int.natCast_zero] at e
            rw [if_pos h4, h4, if_neg (by simp), e]
          · rw [if_neg h4]
            simp only [Bool.not_eq_true] at h4
            rw [h4, if_pos (by simp)]
        · rw [if_neg h2, if_neg h2]
          simp only [spec_DivideTurns.j0]
          rw [if_pos trivial]
      · rw [if_neg h1, if_neg h1]
        simp only [spec_DivideTurns.j0]
        rw [if_pos trivial]
    have hI : ∀ k, 9223372036860000000 < k → impl_DivideTurns.f k l i m = some (divR l i m) := by
      intro k hk
      unfold impl_DivideTurns.f divR
      obtain ⟨k, rfl⟩ : ∃ m, k = m + 1 := ⟨k - 1, by omega⟩
      rw [impl_areTurns.f, Option.bind_some]
      by_cases h1 : areTurnsB l 8 = true
      · have h3 := areTurns_len h1
        have hmem := areTurns_mem h1
        rw [if_pos h1, if_pos h1, within_f, Option.bind_some]
        by_cases h2 : withinB i 0 7 = true
        · rw [if_pos h2, if_pos h2, within_f, Option.bind_some]
          simp only [impl_DivideTurns.j0]
          by_cases h4 : withinB m 2 8 = true
          · have hx := h4
            unfold withinB at hx h2
            simp only [Bool.and_eq_true, decide_eq_true_eq] at hx h2
            rw [if_pos h4, h4, if_neg (by simp), share_eq i l hll k (by omega), Option.bind_some, maxS_eq l hll (by omega) (-1) (fun x hx => (hmem x hx).1) k (by omega), Option.bind_some]
            by_cases h0 : cntL i l = 0
            · rw [if_pos (by omega), if_pos h0]
            · have hmx : maxL l (-1) = maxL l i := (maxL_mem l i (-1) (cntL_mem i l h0) (by omega) (fun x hx => (hmem x hx).1)).symm
              obtain ⟨hg, t, ht1, ht2, ht⟩ := div_times (cntL i l) m h0 hx
              rw [if_neg (by omega), if_neg h0, implGcd_eq _ _ (by omega) k (by omega), Option.bind_some, if_neg hg, hmx, ht, toNat_nat]
              obtain ⟨k, rfl⟩ : ∃ m, k = m + 1 := ⟨k - 1, by omega⟩
              by_cases h5 : wrap64 (wrap64 (maxL l i + m) - 1) ≥ 8
              · rw [if_pos h5, if_pos h5]
                simp only [impl_DivideTurns.j1]
                rw [if_pos trivial]
              · rw [if_neg h5, if_neg h5, impl_length_int64.f, Option.bind_some]
                simp only [impl_DivideTurns.j1]
                by_cases h6 : wrap64 ((t : Int) * (l.length : Int)) > 120
                · rw [if_pos h6, if_pos (decide_eq_true h6)]
                · have hq := Nat.mul_le_mul h3.2 ht2
                  have e := implDiv_l0 i m (maxL l i) (by omega) (repL l t).length 0 k (repL l t) 0 (by omega) (by rw [repL_length]; omega) (by rw [repL_length]; omega)
                  simp only [Int.natCast_zero, List.take_zero, List.drop_zero, List.nil_append] at e
                  rw [if_neg h6, if_neg (by rw [decide_eq_false h6]; exact Bool.false_ne_true), slices_Repeat_int64_int64.f, if_pos ⟨by omega, by omega, by omega, by rw [toNat_nat]; omega⟩, Option.bind_some, toNat_nat, e]
          · rw [if_neg h4]
            simp only [Bool.not_eq_true] at h4
            rw [h4, if_pos (by simp)]
        · rw [if_neg h2, if_neg h2]
          simp only [impl_DivideTurns.j0]
          rw [if_pos trivial]
      · rw [if_neg h1, if_neg h1]
        simp only [impl_DivideTurns.j0]
        rw [if_pos trivial]
    have hr : (divR l i m).1.length ≤ 1048576 := by
      unfold divR
      split
      · rename_i h1
        split
        · split
          · rename_i h4
            split
            · simp
            · rename_i h0
              split
              · simp
              · split
                · simp
                · have h3 := areTurns_len h1
                  unfold withinB at h4
                  simp only [Bool.and_eq_true, decide_eq_true_eq] at h4
                  obtain ⟨hg, t, ht1, ht2, ht⟩ := div_times (cntL i l) m h0 h4
                  have hq := Nat.mul_le_mul h3.2 ht2
                  rw [ht, toNat_nat, divF_length, repL_length]
                  omega
          · simp
        · simp
      · simp
    generalize (divR l i m) = r at hS hI hr
    obtain ⟨r0, r1⟩ := r
    simp only at hr
    simp (disch := omega) only [toInt64S_eq, Option.bind_some, hS, hI, if_true, bne_self_eq_false, eqInt64S_self, Bool.false_eq_true, if_false, markInt64S_eq, heldInt64S_eq, not_neg]
    simp only [laws_FnExactDivideTurns.j0]
    simp (disch := omega) only [toInt64S_eq, Option.bind_some, hS, hI, if_true, bne_self_eq_false, eqInt64S_self, Bool.false_eq_true, if_false, markInt64S_eq, heldInt64S_eq, not_neg]
    simp only [laws_FnExactDivideTurns.j1]
    simp (disch := omega) only [toInt64S_eq, Option.bind_some, hS, hI, if_true, bne_self_eq_false, eqInt64S_self, Bool.false_eq_true, if_false, markInt64S_eq, heldInt64S_eq, not_neg]
    simp only [laws_FnExactDivideTurns.j2]
    simp (disch := omega) only [toInt64S_eq, Option.bind_some, hS, hI, if_true, bne_self_eq_false, eqInt64S_self, Bool.false_eq_true, if_false, markInt64S_eq, heldInt64S_eq, not_neg]
  · rw [if_pos (by omega)]
end Go.Proofs.Ytjaanhnmgipmeaa.Pure
