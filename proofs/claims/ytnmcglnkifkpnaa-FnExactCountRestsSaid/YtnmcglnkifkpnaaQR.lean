/- How many rests there are: both sides count the same tree; no condition beside those stated. -/
import Derived.Test.YtnmcglnkifkpnaaQZa
import Derived.Test.YtnmcglnkifkpnaaQK
import Derived.Test.YtnmcglnkifkpnaaQD
import Derived.Test.YtnmcglnkifkpnaaX0
import Derived.Test.YtnmcglnkifkpnaaX2
import Derived.Test.YtnmcglnkifkpnaaX3
import Derived.Test.YtnmcglnkifkpnaaX4
import Derived.Test.YtnmcglnkifkpnaaX5
namespace Go.Proofs.Ytnmcglnkifkpnaa.X
set_option linter.unusedVariables false
set_option linter.unusedSimpArgs false
open Go.RowKit Go.Proofs.YtnmcglnkifkpnaaW.PrintWords Go.Proofs.YtnmcglnkifkpnaaW.PrintLast
theorem meetB_eq (a c : Int) (b d : Nat) (hb : 1 ≤ b ∧ b ≤ 40) (hd : 1 ≤ d ∧ d ≤ 40) (ha : a.natAbs ≤ 1000000) (hc : c.natAbs ≤ 1000000) : meetB a b c d = decide (((Nat.gcd b d : Nat) : Int) ∣ (a - c)) := by
  have h0 : 0 < Nat.gcd b d := Nat.gcd_pos_of_pos_left d (by omega)
  unfold meetB impl_Class_meets.f impl_divisor.f
  rw [implGcd_l0, specGcd_l0 40 100 _ _ (by omega) (by omega), gF_nat 40 b d (by omega), Option.bind_some, if_neg (by omega), Option.getD_some, wrap64_id (by omega) (by omega)]
  by_cases h : ((Nat.gcd b d : Nat) : Int) ∣ (a - c)
  · rw [Int.tmod_eq_zero_of_dvd h, decide_eq_true h]
    rfl
  · rw [decide_eq_false h, beq_eq_false_iff_ne]
    exact fun e => h (Int.dvd_of_tmod_eq_zero e)
theorem meetB_symm (a b c d : Int) (hb : 1 ≤ b ∧ b ≤ 40) (hd : 1 ≤ d ∧ d ≤ 40) (ha : a.natAbs ≤ 1000000) (hc : c.natAbs ≤ 1000000) : meetB a b c d = meetB c d a b := by
  obtain ⟨b, rfl⟩ : ∃ m : Nat, b = (m : Int) := ⟨b.toNat, by omega⟩
  obtain ⟨d, rfl⟩ : ∃ m : Nat, d = (m : Int) := ⟨d.toNat, by omega⟩
  rw [meetB_eq a c b d (by omega) (by omega) ha hc, meetB_eq c a d b (by omega) (by omega) hc ha, Nat.gcd_comm d b]
  have : ((Nat.gcd b d : Nat) : Int) ∣ (a - c) ↔ ((Nat.gcd b d : Nat) : Int) ∣ (c - a) := by
    rw [← Int.dvd_neg, show -(a - c) = c - a by omega]
  by_cases h : ((Nat.gcd b d : Nat) : Int) ∣ (a - c)
  · rw [decide_eq_true h, decide_eq_true (this.1 h)]
  · rw [decide_eq_false h, decide_eq_false (fun q => h (this.2 q))]
def okC (l : List S54) : Prop := ∀ x ∈ l, (1 ≤ x.f1 ∧ x.f1 ≤ 40) ∧ 0 ≤ x.f0 ∧ x.f0 ≤ 40
theorem okC_snoc {l : List S54} (h : okC l) (r g : Int) (hr : 0 ≤ r ∧ r ≤ 40) (hg : 1 ≤ g ∧ g ≤ 40) : okC (l ++ [⟨r, g⟩]) := by
  intro x hx
  rw [List.mem_append, List.mem_singleton] at hx
  rcases hx with hx | rfl
  · exact h x hx
  · exact ⟨hg, hr⟩
def cntL (F : List S54 → Int) (g : Int) (l : List S54) : Nat → Nat → Int
  | 0, _ => 0
  | d + 1, r => (if apartB (r : Int) g l = true then F (l ++ [⟨(r : Int), g⟩]) else 0) + cntL F g l d (r + 1)
def cntF : List Int → List S54 → Int
  | [], _ => 1
  | g :: gs, l => cntL (cntF gs) g l g.toNat 0
theorem wrap_wrap (a b : Int) : wrap64 (wrap64 a + wrap64 b) = wrap64 (a + b) := by unfold wrap64; omega
theorem wrap_wrap1 (a b : Int) : wrap64 (wrap64 a + b) = wrap64 (a + b) := by unfold wrap64; omega
theorem okC_gaps {l : List S54} (h : okC l) : ∀ x ∈ l, 1 ≤ x.f1 ∧ x.f1 ≤ 40 := fun x hx => (h x hx).1
theorem implRests_l0 (gs : List Int) (l : List S54) (hl : l.length ≤ 8) (ho : okC l) (g : Int) (hg : 1 ≤ g ∧ g ≤ 40) (F : List S54 → Int) (K : Nat)
    (hF : ∀ (r : Int) (y : Int) (k : Nat), 0 ≤ r → r ≤ 40 → K < k → impl_Tasks_rests.f k gs (l ++ [⟨r, g⟩]) (wrap64 y) = some (wrap64 (y + F (l ++ [⟨r, g⟩])))) :
    ∀ (d r k : Nat) (y : Int), (r : Int) + d = g → K + d < k → impl_Tasks_rests.l0 k l (wrap64 y) g g (r : Int) gs = some (wrap64 (y + cntL F g l d r)) := by
  intro d
  induction d with
  | zero =>
    intro r k y hr hk
    obtain ⟨k, rfl⟩ : ∃ m, k = m + 1 := ⟨k - 1, by omega⟩
    simp only [impl_Tasks_rests.l0, cntL]
    rw [if_neg (by omega), Int.add_zero]
  | succ d ih =>
    intro r k y hr hk
    obtain ⟨k, rfl⟩ : ∃ m, k = m + 1 := ⟨k - 1, by omega⟩
    simp only [impl_Tasks_rests.l0, cntL]
    rw [if_pos (by omega), impl_Class_isApart.f, if_pos (gapsIn_of (okC_gaps ho)), Option.bind_some]
    by_cases h : apartB (r : Int) g l = true
    · rw [if_pos h, if_pos h, show impl_Class_98.f l = some l by (unfold impl_Class_98.f; simp; omega), Option.bind_some, Option.bind_some, if_pos (by simp; omega), hF (r : Int) y k (by omega) (by omega) (by omega), Option.bind_some, wrap_succ (i := r) (n := 40) (by omega) (by omega), ih (r + 1) k _ (by omega) (by omega), Int.add_assoc]
    · rw [if_neg h, if_neg h, wrap_succ (i := r) (n := 40) (by omega) (by omega), ih (r + 1) k _ (by omega) (by omega), Int.zero_add]
theorem implRests_f (gs : List Int) (hgs : gs.length ≤ 8) (hm : ∀ x ∈ gs, 1 ≤ x ∧ x ≤ 40) : ∀ (n : Nat) (l : List S54) (k : Nat) (y : Int), l.length + n = gs.length → okC l → 100 * n < k →
    impl_Tasks_rests.f k gs l (wrap64 y) = some (wrap64 (y + cntF (gs.drop l.length) l)) := by
  intro n
  induction n with
  | zero =>
    intro l k y hn ho hk
    obtain ⟨k, rfl⟩ : ∃ m, k = m + 1 := ⟨k - 1, by omega⟩
    simp only [impl_Tasks_rests.f]
    rw [if_pos (by omega), List.drop_of_length_le (by omega), wrap_wrap1]
    rfl
  | succ n ih =>
    intro l k y hn ho hk
    obtain ⟨k, rfl⟩ : ∃ m, k = m + 1 := ⟨k - 1, by omega⟩
    have hg := hm _ (rd_in gs l.length (by omega))
    simp only [impl_Tasks_rests.f]
    rw [if_neg (by omega), if_pos (by omega), if_pos (by omega), drop_rd gs l.length (by omega)]
    simp only [cntF]
    have := implRests_l0 gs l (by omega) ho (rd gs (l.length : Int)) hg (cntF (gs.drop (l.length + 1))) (100 * n) (fun r y k h1 h2 h3 => by
      have e := ih (l ++ [⟨r, rd gs (l.length : Int)⟩]) k y (by simp; omega) (okC_snoc ho r _ ⟨h1, h2⟩ hg) h3
      rw [List.length_append, List.length_singleton] at e
      exact e) (rd gs (l.length : Int)).toNat 0 k y (by omega) (by omega)
    exact this
theorem specNum_l1 (gs : List Int) (l : List S54) (hl : l.length ≤ 8) (ho : okC l) (g : Int) (hg : 1 ≤ g ∧ g ≤ 40) (r : Nat) (hr : (r : Int) ≤ 40) (y : Int) (R : Int) (K : Nat) (hK : 100 ≤ K)
    (hT : apartB (r : Int) g l = true → ∀ k, K < k → ((spec_l05Number.f k gs (l ++ [⟨(r : Int), g⟩])).bind fun t => spec_l05Number.l0 k l g (wrap64 (y + t)) (wrap64 ((r : Int) + 1)) gs) = some R)
    (hF : ¬ apartB (r : Int) g l = true → ∀ k, K < k → spec_l05Number.l0 k l g y (wrap64 ((r : Int) + 1)) gs = some R) :
    ∀ (d j k : Nat), j + d = l.length → K + d + 1 < k → ((l.take j).all fun x => !(meetB (r : Int) g x.f0 x.f1)) = true → spec_l05Number.l1 k l g y (r : Int) true (j : Int) gs = some R := by
  intro d
  induction d with
  | zero =>
    intro j k hj hk ha
    obtain ⟨k, rfl⟩ : ∃ m, k = m + 1 := ⟨k - 1, by omega⟩
    rw [List.take_of_length_le (by omega)] at ha
    simp only [spec_l05Number.l1]
    rw [if_neg (by omega), if_pos trivial, Option.bind_some, if_pos (by simp; omega), Option.bind_some, Option.bind_some, if_pos (by simp; omega), List.nil_append]
    exact hT ha k (by omega)
  | succ d ih =>
    intro j k hj hk ha
    obtain ⟨k, rfl⟩ : ∃ m, k = m + 1 := ⟨k - 1, by omega⟩
    have hx := ho _ (rdC_in l j (by omega))
    simp only [spec_l05Number.l1]
    rw [if_pos (by omega), if_pos trivial, if_pos (by omega), specMeet_eq _ _ _ _ hg k (by omega), Option.bind_some, wrap_succ (i := j) (n := l.length) (by omega) (by omega), meetB_symm _ _ _ _ hx.1 hg (by omega) (by omega)]
    by_cases h : meetB (r : Int) g (rd_T54 l (j : Int)).f0 (rd_T54 l (j : Int)).f1 = true
    · have hn : ¬ apartB (r : Int) g l = true := by
        unfold apartB
        rw [List.all_eq_true]
        intro q
        have := q _ (rdC_in l j (by omega))
        rw [h] at this
        exact absurd this (by decide)
      rw [h]
      obtain ⟨k, rfl⟩ : ∃ m, k = m + 1 := ⟨k - 1, by omega⟩
      simp only [spec_l05Number.l1, Bool.not_true]
      by_cases hq : ((j + 1 : Nat) : Int) < (l.length : Int)
      · rw [if_pos hq, if_neg (by decide)]
        exact hF hn k (by omega)
      · rw [if_neg hq, if_neg (by decide)]
        exact hF hn k (by omega)
    · simp only [Bool.not_eq_true] at h
      rw [h]
      refine ih (j + 1) k (by omega) (by omega) ?_
      rw [takeC_rd l j (by omega), List.all_append, ha]
      simp [h]
theorem specNum_l0 (gs : List Int) (l : List S54) (hl : l.length ≤ 8) (ho : okC l) (g : Int) (hg : 1 ≤ g ∧ g ≤ 40) (F : List S54 → Int) (K : Nat) (hK : 100 ≤ K)
    (hF : ∀ (r : Int) (k : Nat), 0 ≤ r → r ≤ 40 → K < k → spec_l05Number.f k gs (l ++ [⟨r, g⟩]) = some (wrap64 (F (l ++ [⟨r, g⟩])))) :
    ∀ (d r k : Nat) (y : Int), (r : Int) + d = g → K + 12 * d < k → spec_l05Number.l0 k l g (wrap64 y) (r : Int) gs = some (wrap64 (y + cntL F g l d r)) := by
  intro d
  induction d with
  | zero =>
    intro r k y hr hk
    obtain ⟨k, rfl⟩ : ∃ m, k = m + 1 := ⟨k - 1, by omega⟩
    simp only [spec_l05Number.l0, cntL]
    rw [if_neg (by omega), Int.add_zero]
  | succ d ih =>
    intro r k y hr hk
    obtain ⟨k, rfl⟩ : ∃ m, k = m + 1 := ⟨k - 1, by omega⟩
    simp only [spec_l05Number.l0, cntL]
    rw [if_pos (by omega)]
    refine specNum_l1 gs l hl ho g hg r (by omega) (wrap64 y) _ (K + 12 * d) (by omega) (fun h q hq => ?_) (fun h q hq => ?_) l.length 0 k (by omega) (by omega) rfl
    · rw [hF (r : Int) q (by omega) (by omega) (by omega), Option.bind_some, if_pos h, wrap_wrap, wrap_succ (i := r) (n := 40) (by omega) (by omega), ih (r + 1) q _ (by omega) (by omega), Int.add_assoc]
    · rw [if_neg h, wrap_succ (i := r) (n := 40) (by omega) (by omega), ih (r + 1) q _ (by omega) (by omega), Int.zero_add]
theorem specNum_f (gs : List Int) (hgs : gs.length ≤ 8) (hm : ∀ x ∈ gs, 1 ≤ x ∧ x ≤ 40) : ∀ (n : Nat) (l : List S54) (k : Nat), l.length + n = gs.length → okC l → 100 + 600 * n < k →
    spec_l05Number.f k gs l = some (wrap64 (cntF (gs.drop l.length) l)) := by
  intro n
  induction n with
  | zero =>
    intro l k hn ho hk
    obtain ⟨k, rfl⟩ : ∃ m, k = m + 1 := ⟨k - 1, by omega⟩
    simp only [spec_l05Number.f]
    rw [if_pos (by omega), List.drop_of_length_le (by omega)]
    simp only [cntF]
    rw [wrap64_id (by omega) (by omega)]
  | succ n ih =>
    intro l k hn ho hk
    obtain ⟨k, rfl⟩ : ∃ m, k = m + 1 := ⟨k - 1, by omega⟩
    have hg := hm _ (rd_in gs l.length (by omega))
    simp only [spec_l05Number.f]
    rw [if_neg (by omega), if_pos (by omega), if_pos (by omega), drop_rd gs l.length (by omega)]
    simp only [cntF]
    have := specNum_l0 gs l (by omega) ho (rd gs (l.length : Int)) hg (cntF (gs.drop (l.length + 1))) (100 + 600 * n) (by omega) (fun r k h1 h2 h3 => by
      have e := ih (l ++ [⟨r, rd gs (l.length : Int)⟩]) k (by simp; omega) (okC_snoc ho r _ ⟨h1, h2⟩ hg) h3
      rw [List.length_append, List.length_singleton] at e
      exact e) (rd gs (l.length : Int)).toNat 0 k 0 (by omega) (by omega)
    rw [Int.zero_add, show wrap64 0 = 0 from wrap64_id (by omega) (by omega)] at this
    exact this
theorem specRests_l0 (l : List Int) (hl : l.length ≤ 8) (hm : ∀ x ∈ l, 1 ≤ x ∧ x ≤ 40) : ∀ (d i k : Nat) (a : Int), i + d = l.length → 6000 + d < k → spec_CountRests.l0 k a (i : Int) l = some (if prodW (l.drop i) a > 20000 then (0, 3) else (wrap64 (cntF l []), 0)) := by
  intro d
  induction d with
  | zero =>
    intro i k a hi hk
    obtain ⟨k, rfl⟩ : ∃ m, k = m + 1 := ⟨k - 1, by omega⟩
    simp only [spec_CountRests.l0]
    rw [if_neg (by omega), List.drop_of_length_le (by omega)]
    have e := specNum_f l hl hm l.length [] k (by simp) (fun x hx => by simp at hx) (by omega)
    rw [List.length_nil, List.drop_zero] at e
    rw [e, Option.bind_some]
    show (if a > 20000 then _ else _) = some (if a > 20000 then _ else _)
    by_cases h : a > 20000
    · rw [if_pos h, if_pos h]
    · rw [if_neg h, if_neg h]
  | succ d ih =>
    intro i k a hi hk
    obtain ⟨k, rfl⟩ : ∃ m, k = m + 1 := ⟨k - 1, by omega⟩
    simp only [spec_CountRests.l0]
    rw [if_pos (by omega), if_pos (by omega), wrap_succ (n := l.length) (by omega) (by omega), ih (i + 1) k _ (by omega) (by omega), drop_rd l i (by omega)]
    rfl
end Go.Proofs.Ytnmcglnkifkpnaa.X
