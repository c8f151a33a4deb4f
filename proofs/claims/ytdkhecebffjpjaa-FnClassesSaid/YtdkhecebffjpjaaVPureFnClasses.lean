import Derived.Test.YtdkhecebffjpjaaVQF2
import Derived.Test.YtdkhecebffjpjaaVQF4
import Derived.Test.YtdkhecebffjpjaaY0
import Derived.Test.YtdkhecebffjpjaaY2
import Derived.Test.YtdkhecebffjpjaaY8
import Derived.Test.YtdkhecebffjpjaaY17
import Derived.Test.YtdkhecebffjpjaaY19
import Derived.Test.YtdkhecebffjpjaaY22
import Derived.Test.YtdkhecebffjpjaaY25
/- FnClasses: classes that are apart have turns with equal waits, classes come back from their turns, and exact classes cover. For every code. -/
namespace Go.Proofs.Ytdkhecebffjpjaa.Pure
set_option linter.unusedVariables false
set_option linter.unusedSimpArgs false
open Go.RowKit Go.Proofs.Ytdkhecebffjpjaa.X Go.Proofs.YtdkhecebffjpjaaW.PrintWords Go.Proofs.YtdkhecebffjpjaaW.PrintLast
theorem like_l0 (l : List Int) (hm : l.length ≤ 1048576) : ∀ (d i k : Nat), i + d = l.length → d < k → laws_likeInts.l0 k l l (i : Int) = some true := by
 intro d
 induction d with
 | zero =>
  intro i k hi hk
  obtain ⟨k, rfl⟩ : ∃ m, k = m + 1 := ⟨k - 1, by omega⟩
  simp only [laws_likeInts.l0]
  rw [if_neg (by omega)]
 | succ d ih =>
  intro i k hi hk
  obtain ⟨k, rfl⟩ : ∃ m, k = m + 1 := ⟨k - 1, by omega⟩
  simp only [laws_likeInts.l0]
  rw [if_pos (by omega), if_pos (by omega), if_pos (by omega), if_pos trivial, wrap_succ (n := l.length) (by omega) (by omega)]
  exact ih (i + 1) k (by omega) (by omega)
theorem like_self (l : List Int) (hm : l.length ≤ 1048576) (k : Nat) (hk : 2000000 < k) : laws_likeInts.f k l l = some true := by
 unfold laws_likeInts.f
 rw [if_pos rfl]
 exact like_l0 l hm l.length 0 k (by omega) (by omega)
theorem five_l0 (l : List S40) (hm : l.length ≤ 1048576) : ∀ (d i k : Nat), i + d = l.length → d < k → laws_classes5.l0 k l l (i : Int) = some true := by
 intro d
 induction d with
 | zero =>
  intro i k hi hk
  obtain ⟨k, rfl⟩ : ∃ m, k = m + 1 := ⟨k - 1, by omega⟩
  simp only [laws_classes5.l0]
  rw [if_neg (by omega)]
 | succ d ih =>
  intro i k hi hk
  obtain ⟨k, rfl⟩ : ∃ m, k = m + 1 := ⟨k - 1, by omega⟩
  simp only [laws_classes5.l0]
  rw [if_pos (by omega), if_pos (by omega), if_pos (by omega), if_neg (by simp), wrap_succ (n := l.length) (by omega) (by omega)]
  exact ih (i + 1) k (by omega) (by omega)
theorem five_self (l : List S40) (hm : l.length ≤ 1048576) (k : Nat) (hk : 2000000 < k) : laws_classes5.f k l l = some true := by
 unfold laws_classes5.f
 rw [if_pos rfl]
 exact five_l0 l hm l.length 0 k (by omega) (by omega)
theorem cotR_len (x : List Int) (m : Int) : (cotR x m).1.length ≤ 8 := by
 unfold cotR
 split
 ·rename_i h1
  unfold withinB at h1
  simp only [Bool.and_eq_true, decide_eq_true_eq] at h1
  split
  ·cases hc : cotL x m.toNat 0 with
   | none => simp [endC]
   | some C =>
    have := cotL_length x _ _ _ hc
    simp only [endC, List.nil_append]
    split
    ·simp only
     omega
    ·simp
  ·simp
 ·simp
/-- the last part: classes of drawn turns -/
theorem tail_ok (c : List Int) (hc : c.length ≤ 4096) (hb : ∀ x ∈ c, 0 ≤ x ∧ x ≤ 255) (k : Nat) (hk : 9223372036866000000 < k) : laws_FnClasses.j5 k c = some true := by
 obtain ⟨k, rfl⟩ : ∃ m, k = m + 1 := ⟨k - 1, by omega⟩
 obtain ⟨X, K, e, hX⟩ := drawT_ok c hc hb k (by omega)
 simp only [laws_FnClasses.j5]
 rw [e, Option.bind_some]
 simp only
 rw [impl_ClassesOfTurns_eq X K (by omega) k (by omega), Option.bind_some, spec_ClassesOfTurns_eq X K (by omega) k (by omega), Option.bind_some]
 have hl := cotR_len X K
 have ha := cot_apart X K
 generalize cotR X K = r at hl ha
 obtain ⟨C, q⟩ := r
 simp only at hl
 simp only
 rw [if_pos trivial, five_self C (by omega) k (by omega), Option.bind_some]
 obtain ⟨k, rfl⟩ : ∃ m, k = m + 1 := ⟨k - 1, by omega⟩
 simp only [laws_FnClasses.j6]
 rw [if_neg (by simp)]
 by_cases hq : q = 0
 ·subst hq
  obtain ⟨h1, h2⟩ := ha C rfl
  rw [if_pos rfl, impl_AreApart_eq C (by omega) k (by omega), Option.bind_some, if_pos h1]
  simp only
  rw [if_pos trivial, h2]
 ·rw [if_neg hq]
theorem back_l1 (c : List Int) (l : List S40) (t : List Int) (i : Nat) (hi : i < l.length) (W : List Int) (hW : W.length ≤ 1048576) (hw : ∀ x ∈ W, x = (rd_T40 l (i : Int)).f1) : ∀ (d j k : Nat), j + d = W.length → d < k → ∃ k', k ≤ k' + d + 1 ∧ laws_FnClasses.l1 k c l t (i : Int) W (l.length : Int) (i : Int) (W.length : Int) (j : Int) = laws_FnClasses.l0 k' c l t (l.length : Int) (wrap64 ((i : Int) + 1)) := by
 intro d
 induction d with
 | zero =>
  intro j k hj hk
  obtain ⟨k, rfl⟩ : ∃ m, k = m + 1 := ⟨k - 1, by omega⟩
  refine ⟨k, by omega, ?_⟩
  simp only [laws_FnClasses.l1]
  rw [if_neg (by omega)]
 | succ d ih =>
  intro j k hj hk
  obtain ⟨k, rfl⟩ : ∃ m, k = m + 1 := ⟨k - 1, by omega⟩
  obtain ⟨k', h1, h2⟩ := ih (j + 1) k (by omega) (by omega)
  refine ⟨k', by omega, ?_⟩
  simp only [laws_FnClasses.l1]
  rw [if_pos (by omega), if_pos (by omega), if_pos (by omega), if_pos (by omega), if_pos (by omega), if_pos (hw _ (rd_in W j (by omega))), wrap_succ (n := W.length) (by omega) (by omega), h2]
theorem back_l0 (c : List Int) (hc : c.length ≤ 4096) (hb : ∀ x ∈ c, 0 ≤ x ∧ x ≤ 255) (l : List S40) (hl : l.length ≤ 9) (t : List Int) (ht : t.length ≤ 120) (h : ∀ i : Nat, i < l.length → ∃ m, waitsR t (i : Int) = (List.replicate m (rd_T40 l (i : Int)).f1, 0)) : ∀ (d i k : Nat), i + d = l.length → 9223372036866001000 + 200 * d < k → laws_FnClasses.l0 k c l t (l.length : Int) (i : Int) = some true := by
 intro d
 induction d with
 | zero =>
  intro i k hi hk
  obtain ⟨k, rfl⟩ : ∃ m, k = m + 1 := ⟨k - 1, by omega⟩
  simp only [laws_FnClasses.l0]
  rw [if_neg (by omega)]
  exact tail_ok c hc hb k (by omega)
 | succ d ih =>
  intro i k hi hk
  obtain ⟨k, rfl⟩ : ∃ m, k = m + 1 := ⟨k - 1, by omega⟩
  obtain ⟨m, hm⟩ := h i (by omega)
  have hml : m ≤ 120 := by
   have hz := congrArg (fun z : List Int × Int => z.1.length) hm
   simp only [List.length_replicate] at hz
   have hwl := waitsL_length t (i : Int)
   unfold waitsR at hz
   split at hz
   ·split at hz
    ·simp only at hz
     omega
    ·simp at hz
     omega
   ·simp at hz
    omega
  simp only [laws_FnClasses.l0]
  rw [if_pos (by omega), impl_WaitsOf_eq t (i : Int) (by omega) k (by omega), Option.bind_some, hm]
  simp only
  rw [if_pos trivial]
  obtain ⟨k', h1, h2⟩ := back_l1 c l t i (by omega) (List.replicate m (rd_T40 l (i : Int)).f1) (by rw [List.length_replicate]; omega) (fun x hx => List.eq_of_mem_replicate hx) m 0 k (by rw [List.length_replicate]; omega) (by omega)
  rw [Int.natCast_zero] at h2
  rw [h2, wrap_succ (n := l.length) (by omega) (by omega)]
  exact ih (i + 1) k' (by omega) (by omega)
/-- from the turns on -/
theorem back_ok (c : List Int) (hc : c.length ≤ 4096) (hb : ∀ x ∈ c, 0 ≤ x ∧ x ≤ 255) (l : List S40) (hl : l.length ≤ 9) (t : List Int) (ht : t.length ≤ 120) (q : Int) (h : q = 0 → cotR t (l.length : Int) = (l, 0) ∧ ∀ i : Nat, i < l.length → ∃ m, waitsR t (i : Int) = (List.replicate m (rd_T40 l (i : Int)).f1, 0)) (k : Nat) (hk : 9223372036867000000 < k) : laws_FnClasses.j1 k c l t q false = some true := by
 obtain ⟨k, rfl⟩ : ∃ m, k = m + 1 := ⟨k - 1, by omega⟩
 simp only [laws_FnClasses.j1]
 rw [if_neg (by simp)]
 by_cases hq : q = 0
 ·obtain ⟨h1, h2⟩ := h hq
  rw [if_pos hq, impl_ClassesOfTurns_eq t _ (by omega) k (by omega), Option.bind_some, h1]
  simp only
  rw [if_pos trivial, five_self l (by omega) k (by omega), Option.bind_some]
  obtain ⟨k, rfl⟩ : ∃ m, k = m + 1 := ⟨k - 1, by omega⟩
  simp only [laws_FnClasses.j2]
  rw [if_neg (by simp)]
  have := back_l0 c hc hb l hl t ht h2 l.length 0 k (by omega) (by omega)
  rw [Int.natCast_zero] at this
  exact this
 ·rw [if_neg hq]
  exact tail_ok c hc hb k (by omega)
theorem mid_ok (c : List Int) (hc : c.length ≤ 4096) (hb : ∀ x ∈ c, 0 ≤ x ∧ x ≤ 255) (l : List S40) (hl : l.length ≤ 9) (t : List Int) (ht : t.length ≤ 120) (q : Int) (h : q = 0 → cotR t (l.length : Int) = (l, 0) ∧ ∀ i : Nat, i < l.length → ∃ m, waitsR t (i : Int) = (List.replicate m (rd_T40 l (i : Int)).f1, 0)) (ap ex cv nt : Bool) (cc fc : Int) (h2 : cc = 0 → ex = (ap && cv) ∧ cv = (fc == 4) ∧ (nt = true → ex = true)) (k : Nat) (hk : 9223372036868000000 < k) : laws_FnClasses.j0 k c l t q ap ex cv cc fc nt false = some true := by
 obtain ⟨k, rfl⟩ : ∃ m, k = m + 1 := ⟨k - 1, by omega⟩
 have e := back_ok c hc hb l hl t ht q h k (by omega)
 simp only [laws_FnClasses.j0]
 rw [if_neg (by simp)]
 by_cases h0 : cc = 0
 ·obtain ⟨e1, e2, e3⟩ := h2 h0
  rw [if_pos h0]
  subst e1
  rw [← e2]
  clear e2 h2 h0
  cases ap <;> cases cv <;> cases nt <;> simp_all
 ·rw [if_neg h0, e]
theorem FnClasses : laws_FnClasses.Pure := by
 intro c hml hyl hw
 refine ⟨9223372036870000000, ?_⟩
 unfold laws_FnClasses.f
 rw [laws_big.f, Option.bind_some]
 by_cases hbig : (c.length : Int) > 4096
 ·rw [if_pos (decide_eq_true hbig)]
 rw [if_neg (by simpa using hbig)]
 have hc : c.length ≤ 4096 := by omega
 have hb : ∀ x ∈ c, 0 ≤ x ∧ x ≤ 255 := by
  intro x hx
  have h2 : (decide ((0 : Int) ≤ x) && decide (x ≤ 255)) = true := hw x hx
  simpa using h2
 obtain ⟨l, e, hl⟩ := spoil_ok c hc hb 9223372036870000000 (by omega)
 rw [e, Option.bind_some]
 -- what natural classes are
 obtain ⟨b, hb1, hb2, hb3⟩ : ∃ b : Bool, (∀ k, 9223372036865000000 < k → impl_AreNatural.f k l = some (if areClassesB l = true then (b, (0 : Int)) else (false, 1))) ∧ (∀ k, 9223372036865000000 < k → spec_AreNatural.f k l = some (if areClassesB l = true then (b, (0 : Int)) else (false, 1))) ∧ (areClassesB l = true → b = true → exactB l = true) := by
  by_cases h : areClassesB l = true
  ·obtain ⟨b, a, h1, h2, h3⟩ := natural_both l h
   refine ⟨b, fun k hk => ?_, fun k hk => ?_, fun _ hbt => ?_⟩
   ·unfold impl_AreNatural.f
    rw [impl_AreClasses.f, Option.bind_some, if_pos h, if_pos h, h1 k (by omega), Option.bind_some]
   ·unfold spec_AreNatural.f
    rw [l05Are_eq l (by omega) k (by omega), Option.bind_some, if_pos h, if_pos h, specExactD_eq _ (classes_len h).2 (fun x hx => by have := classes_mem h x hx; omega) k (by omega), Option.bind_some, h2 k (by omega)]
    subst h3
    cases exactD l <;> rfl
   ·rw [exact_same l (classes_len h).2 (fun x hx => by have := classes_mem h x hx; omega)]
    rw [hbt] at h3
    exact (Bool.and_eq_true _ _ ▸ h3.symm).1
  ·refine ⟨false, fun k hk => ?_, fun k hk => ?_, fun h2 => absurd h2 h⟩
   ·unfold impl_AreNatural.f
    rw [impl_AreClasses.f, Option.bind_some, if_neg h, if_neg h]
   ·unfold spec_AreNatural.f
    rw [l05Are_eq l (by omega) k (by omega), Option.bind_some, if_neg h, if_neg h]
 have hA : spec_AreClasses.f 9223372036870000000 l = some (areClassesB l) := by
  unfold spec_AreClasses.f
  rw [l05Are_eq l (by omega) _ (by omega), Option.bind_some]
 rw [impl_TurnsOfClasses_eq l (by omega) _ (by omega), Option.bind_some, spec_TurnsOfClasses_eq l (by omega) _ (by omega), Option.bind_some, impl_AreApart_eq l (by omega) _ (by omega), Option.bind_some, spec_AreApart_eq l (by omega) _ (by omega), Option.bind_some, impl_AreExact_eq l (by omega) _ (by omega), Option.bind_some, spec_AreExact_eq l (by omega) _ (by omega), Option.bind_some, impl_DoCover_eq l (by omega) _ (by omega), Option.bind_some, spec_DoCover_eq l (by omega) _ (by omega), Option.bind_some, impl_FirstUncovered_eq l (by omega) _ (by omega), Option.bind_some, spec_FirstUncovered_eq l (by omega) _ (by omega), Option.bind_some, hb1 _ (by omega), Option.bind_some, hb2 _ (by omega), Option.bind_some, impl_AreClasses.f, Option.bind_some, hA, Option.bind_some, bne_self_eq_false]
 have hT : (if areClassesB l = true then (if apartAll l l.length 0 = true then (if spanN l > 120 then ([], 3) else (turnsF l (spanN l) 0, (0 : Int))) else ([], 5)) else ([], 1)).1.length ≤ 120 ∧ ((if areClassesB l = true then (if apartAll l l.length 0 = true then (if spanN l > 120 then ([], 3) else (turnsF l (spanN l) 0, (0 : Int))) else ([], 5)) else ([], 1)).2 = 0 → cotR (if areClassesB l = true then (if apartAll l l.length 0 = true then (if spanN l > 120 then ([], 3) else (turnsF l (spanN l) 0, (0 : Int))) else ([], 5)) else ([], 1)).1 (l.length : Int) = (l, 0) ∧ ∀ i : Nat, i < l.length → ∃ m, waitsR (if areClassesB l = true then (if apartAll l l.length 0 = true then (if spanN l > 120 then ([], 3) else (turnsF l (spanN l) 0, (0 : Int))) else ([], 5)) else ([], 1)).1 (i : Int) = (List.replicate m (rd_T40 l (i : Int)).f1, 0)) := by
  by_cases h : areClassesB l = true
  ·rw [if_pos h]
   by_cases h2 : apartAll l l.length 0 = true
   ·rw [if_pos h2]
    by_cases h3 : spanN l > 120
    ·rw [if_pos h3]
     exact ⟨by simp, fun z => by simp at z⟩
    ·rw [if_neg h3]
     refine ⟨by simp only; rw [turnsF_length]; omega, fun _ => turns_back l h h2 h3⟩
   ·rw [if_neg h2]
    exact ⟨by simp, fun z => by simp at z⟩
  ·rw [if_neg h]
   exact ⟨by simp, fun z => by simp at z⟩
 have hE : (if areClassesB l = true then (if spanN l > 100000 then (false, (3 : Int)) else (decide ((openR l).2 = 4), 0)) else (false, 1)).2 = 0 → (if areClassesB l = true then (exactB l, (0 : Int)) else (false, 1)).1 = ((if areClassesB l = true then (apartAll l l.length 0, (0 : Int)) else (false, 1)).1 && (if areClassesB l = true then (if spanN l > 100000 then (false, (3 : Int)) else (decide ((openR l).2 = 4), 0)) else (false, 1)).1) ∧ (if areClassesB l = true then (if spanN l > 100000 then (false, (3 : Int)) else (decide ((openR l).2 = 4), 0)) else (false, 1)).1 = ((if areClassesB l = true then (if spanN l > 100000 then ((0 : Int), (3 : Int)) else openR l) else (0, 1)).2 == 4) ∧ ((if areClassesB l = true then (b, (0 : Int)) else (false, 1)).1 = true → (if areClassesB l = true then (exactB l, (0 : Int)) else (false, 1)).1 = true) := by
  by_cases h : areClassesB l = true
  ·simp only [if_pos h]
   by_cases h3 : spanN l > 100000
   ·simp only [if_pos h3]
    intro z
    simp at z
   ·simp only [if_neg h3]
    intro _
    refine ⟨exact_law l h, ?_, hb3 h⟩
    rw [Bool.eq_iff_iff, decide_eq_true_iff, beq_iff_eq]
  ·simp only [if_neg h]
   intro z
   simp at z
 generalize (if areClassesB l = true then (if apartAll l l.length 0 = true then (if spanN l > 120 then ([], 3) else (turnsF l (spanN l) 0, (0 : Int))) else ([], 5)) else ([], 1)) = rT at hT ⊢
 generalize (if areClassesB l = true then (if spanN l > 100000 then (false, (3 : Int)) else (decide ((openR l).2 = 4), 0)) else (false, 1)) = rC at hE ⊢
 generalize (if areClassesB l = true then (apartAll l l.length 0, (0 : Int)) else (false, 1)) = rA at hE ⊢
 generalize (if areClassesB l = true then (exactB l, (0 : Int)) else (false, 1)) = rE at hE ⊢
 generalize (if areClassesB l = true then (if spanN l > 100000 then ((0 : Int), (3 : Int)) else openR l) else (0, 1)) = rF at hE ⊢
 generalize (if areClassesB l = true then (b, (0 : Int)) else (false, 1)) = rN at hE ⊢
 obtain ⟨tw, tc⟩ := rT
 obtain ⟨cv, cc⟩ := rC
 obtain ⟨ap, ac⟩ := rA
 obtain ⟨ex, ec⟩ := rE
 obtain ⟨fs, fc⟩ := rF
 obtain ⟨nt, nc⟩ := rN
 simp only at hT hE
 simp only [if_true, bne_self_eq_false, Bool.false_eq_true, if_false]
 rw [like_self tw (by omega) _ (by omega), Option.bind_some, if_pos rfl]
 exact mid_ok c hc hb l hl tw hT.1 tc hT.2 ap ex cv nt cc fc hE _ (by omega)
end Go.Proofs.Ytdkhecebffjpjaa.Pure
