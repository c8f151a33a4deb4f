import Derived.Test.YtdkhecebffjpjaaU
import Derived.Test.YtdkhecebffjpjaaY0
import Derived.Test.YtdkhecebffjpjaaY10
import Derived.Test.YtdkhecebffjpjaaY23
namespace Go.Proofs.Ytdkhecebffjpjaa.X
open Go.RowKit Go.Proofs.YtdkhecebffjpjaaW.PrintWords Go.Proofs.YtdkhecebffjpjaaW.PrintLast Go.Proofs.YtdkhecebffjpjaaW.PrintMore
attribute [local go_sem] max2_int min2_int max_two min_two max_three min_three max_four min_four
set_option linter.unusedVariables false
set_option linter.unusedSimpArgs false
/-! ### spec_ClassesOfTurns: function 25 -/
mutual
def spec_ClassesOfTurns.j0 : Nat → List Int → Int → Bool → Option ((List (S40)) × Int)
 | 0, _, _, _ => none
 | k + 1, x0, x1, x20 => if x20 = true then (some (([] : List (S40)), 2)) else (spec_ClassesOfTurns.l0 k x0 x1 (([] : List (S40))) false 0)
def spec_ClassesOfTurns.l0 : Nat → List Int → Int → List (S40) → Bool → Int → Option ((List (S40)) × Int)
 | 0, _, _, _, _, _ => none
 | k + 1, x0, x1, x6, x7, x8 => if x8 < x1 then ((spec_l01Waits.f k x0 x8).bind fun t564 => (if (t564.length : Int) = 0 then (some (([] : List (S40)), 4)) else (spec_ClassesOfTurns.l1 k x0 x1 x6 x7 x8 t564 1))) else (if x7 = true then (some (([] : List (S40)), 3)) else (some (x6, 0)))
def spec_ClassesOfTurns.l1 : Nat → List Int → Int → List (S40) → Bool → Int → List Int → Int → Option ((List (S40)) × Int)
 | 0, _, _, _, _, _, _, _ => none
 | k + 1, x0, x1, x6, x7, x8, x9, x10 => if x10 < (x9.length : Int) then (if 0 ≤ x10 then (if 0 < (x9.length : Int) then (if (rd x9 x10) = (rd x9 0) then (spec_ClassesOfTurns.l1 k x0 x1 x6 x7 x8 x9 (wrap64 (x10 + 1))) else (some (([] : List (S40)), 4))) else (none)) else (none)) else (spec_ClassesOfTurns.l2 k x0 x1 x6 x7 x8 x9 0)
def spec_ClassesOfTurns.l2 : Nat → List Int → Int → List (S40) → Bool → Int → List Int → Int → Option ((List (S40)) × Int)
 | 0, _, _, _, _, _, _, _ => none
 | k + 1, x0, x1, x6, x7, x8, x9, x11 => if 0 ≤ x11 then (if x11 < (x0.length : Int) then (if (rd x0 x11) = x8 then (if x7 = true then (if 0 < (x9.length : Int) then (if x6.length < 8796093022208 then (spec_ClassesOfTurns.l0 k x0 x1 (x6 ++ [(⟨x11, rd x9 0⟩ : S40)]) true (wrap64 (x8 + 1))) else (none)) else (none)) else (if 0 < (x9.length : Int) then (if x6.length < 8796093022208 then (spec_ClassesOfTurns.l0 k x0 x1 (x6 ++ [(⟨x11, rd x9 0⟩ : S40)]) (decide ((rd x9 0) > 40)) (wrap64 (x8 + 1))) else (none)) else (none))) else (spec_ClassesOfTurns.l2 k x0 x1 x6 x7 x8 x9 (wrap64 (x11 + 1)))) else (none)) else (none)
end
def spec_ClassesOfTurns.f (k : Nat) (l0 : List Int) (a1 : Int) : Option ((List (S40)) × Int) := (spec_l01In.f a1 1 8).bind fun t559 => (if t559 = true then ((spec_l01Turns.f k l0 a1).bind fun t560 => (spec_ClassesOfTurns.j0 k l0 a1 (!t560))) else (spec_ClassesOfTurns.j0 k l0 a1 true))
theorem spec_ClassesOfTurns.mono_l : ∀ k, (∀ y0 y1 y2, LeO (spec_ClassesOfTurns.j0 k y0 y1 y2) (spec_ClassesOfTurns.j0 (k + 1) y0 y1 y2)) ∧ (∀ y0 y1 y2 y3 y4, LeO (spec_ClassesOfTurns.l0 k y0 y1 y2 y3 y4) (spec_ClassesOfTurns.l0 (k + 1) y0 y1 y2 y3 y4)) ∧ (∀ y0 y1 y2 y3 y4 y5 y6, LeO (spec_ClassesOfTurns.l1 k y0 y1 y2 y3 y4 y5 y6) (spec_ClassesOfTurns.l1 (k + 1) y0 y1 y2 y3 y4 y5 y6)) ∧ (∀ y0 y1 y2 y3 y4 y5 y6, LeO (spec_ClassesOfTurns.l2 k y0 y1 y2 y3 y4 y5 y6) (spec_ClassesOfTurns.l2 (k + 1) y0 y1 y2 y3 y4 y5 y6))
 | 0 => ⟨fun _ _ _ r h => by simp [spec_ClassesOfTurns.j0] at h, fun _ _ _ _ _ r h => by simp [spec_ClassesOfTurns.l0] at h, fun _ _ _ _ _ _ _ r h => by simp [spec_ClassesOfTurns.l1] at h, fun _ _ _ _ _ _ _ r h => by simp [spec_ClassesOfTurns.l2] at h⟩
 | k + 1 => by
  obtain ⟨ih0, ih1, ih2, ih3⟩ := spec_ClassesOfTurns.mono_l k
  refine ⟨?_, ?_, ?_, ?_⟩
  ·intro y0 y1 y2
   unfold spec_ClassesOfTurns.j0
   repeat' first
   | with_reducible first | exact ih0 _ _ _ | exact ih1 _ _ _ _ _ | exact ih2 _ _ _ _ _ _ _ | exact ih3 _ _ _ _ _ _ _ | exact spec_l01Turns.mono _ _ _ | exact spec_l01Waits.mono _ _ _ | exact LeO.refl _ | exact LeO.none _ | refine LeO.ite ?_ ?_ | refine LeO.bind ?_ (fun _ => ?_)
   | exact ih0 _ _ _
   | exact ih1 _ _ _ _ _
   | exact ih2 _ _ _ _ _ _ _
   | exact ih3 _ _ _ _ _ _ _
   | exact spec_l01Turns.mono _ _ _
   | exact spec_l01Waits.mono _ _ _
   | exact LeO.none _
   | refine LeO.ite ?_ ?_
   | refine LeO.bind ?_ (fun _ => ?_)
  ·intro y0 y1 y2 y3 y4
   unfold spec_ClassesOfTurns.l0
   repeat' first
   | with_reducible first | exact ih0 _ _ _ | exact ih1 _ _ _ _ _ | exact ih2 _ _ _ _ _ _ _ | exact ih3 _ _ _ _ _ _ _ | exact spec_l01Turns.mono _ _ _ | exact spec_l01Waits.mono _ _ _ | exact LeO.refl _ | exact LeO.none _ | refine LeO.ite ?_ ?_ | refine LeO.bind ?_ (fun _ => ?_)
   | exact ih0 _ _ _
   | exact ih1 _ _ _ _ _
   | exact ih2 _ _ _ _ _ _ _
   | exact ih3 _ _ _ _ _ _ _
   | exact spec_l01Turns.mono _ _ _
   | exact spec_l01Waits.mono _ _ _
   | exact LeO.none _
   | refine LeO.ite ?_ ?_
   | refine LeO.bind ?_ (fun _ => ?_)
  ·intro y0 y1 y2 y3 y4 y5 y6
   unfold spec_ClassesOfTurns.l1
   repeat' first
   | with_reducible first | exact ih0 _ _ _ | exact ih1 _ _ _ _ _ | exact ih2 _ _ _ _ _ _ _ | exact ih3 _ _ _ _ _ _ _ | exact spec_l01Turns.mono _ _ _ | exact spec_l01Waits.mono _ _ _ | exact LeO.refl _ | exact LeO.none _ | refine LeO.ite ?_ ?_ | refine LeO.bind ?_ (fun _ => ?_)
   | exact ih0 _ _ _
   | exact ih1 _ _ _ _ _
   | exact ih2 _ _ _ _ _ _ _
   | exact ih3 _ _ _ _ _ _ _
   | exact spec_l01Turns.mono _ _ _
   | exact spec_l01Waits.mono _ _ _
   | exact LeO.none _
   | refine LeO.ite ?_ ?_
   | refine LeO.bind ?_ (fun _ => ?_)
  ·intro y0 y1 y2 y3 y4 y5 y6
   unfold spec_ClassesOfTurns.l2
   repeat' first
   | with_reducible first | exact ih0 _ _ _ | exact ih1 _ _ _ _ _ | exact ih2 _ _ _ _ _ _ _ | exact ih3 _ _ _ _ _ _ _ | exact spec_l01Turns.mono _ _ _ | exact spec_l01Waits.mono _ _ _ | exact LeO.refl _ | exact LeO.none _ | refine LeO.ite ?_ ?_ | refine LeO.bind ?_ (fun _ => ?_)
   | exact ih0 _ _ _
   | exact ih1 _ _ _ _ _
   | exact ih2 _ _ _ _ _ _ _
   | exact ih3 _ _ _ _ _ _ _
   | exact spec_l01Turns.mono _ _ _
   | exact spec_l01Waits.mono _ _ _
   | exact LeO.none _
   | refine LeO.ite ?_ ?_
   | refine LeO.bind ?_ (fun _ => ?_)
theorem spec_ClassesOfTurns.mono : ∀ a0 a1 k, LeO (spec_ClassesOfTurns.f k a0 a1) (spec_ClassesOfTurns.f (k + 1) a0 a1) := by
 intro a0 a1 k
 obtain ⟨ih0, ih1, ih2, ih3⟩ := spec_ClassesOfTurns.mono_l k
 unfold spec_ClassesOfTurns.f
 repeat' first
   | with_reducible first | exact ih0 _ _ _ | exact ih1 _ _ _ _ _ | exact ih2 _ _ _ _ _ _ _ | exact ih3 _ _ _ _ _ _ _ | exact spec_l01Turns.mono _ _ _ | exact spec_l01Waits.mono _ _ _ | exact LeO.refl _ | exact LeO.none _ | refine LeO.ite ?_ ?_ | refine LeO.bind ?_ (fun _ => ?_)
   | exact ih0 _ _ _
   | exact ih1 _ _ _ _ _
   | exact ih2 _ _ _ _ _ _ _
   | exact ih3 _ _ _ _ _ _ _
   | exact spec_l01Turns.mono _ _ _
   | exact spec_l01Waits.mono _ _ _
   | exact LeO.none _
   | refine LeO.ite ?_ ?_
   | refine LeO.bind ?_ (fun _ => ?_)
set_option maxHeartbeats 8000000 in
set_option maxRecDepth 100000 in
theorem spec_ClassesOfTurns.calls (k : Nat) (A0 : Option Addr) (c0 : Nat) (l0 : List Int) (a1 : Int) (r1 : List (S40)) (r2 : Int) (w : World) (hr0 : Kd.C (Kd.int .i64) w A0 l0.length l0) (hc0 : l0.length ≤ c0) (h : spec_ClassesOfTurns.f k l0 a1 = some (r1, r2)) :
  Calls Try.prog 25 #[.slice A0 l0.length c0, .int .i64 a1] w fun e w' => ∃ v0_ : Value, e = .returned (.tuple #[v0_, .int .i64 r2]) ∧ Kd.R k40 40 w' w.heap.size (fun _ => True) v0_ r1 ∧ Below w.heap.size w w' := by
 have hu40 := Try.underlying40
 have HR0 := am hr0
 have HC0 := am hc0
 clear hr0 hc0
 have HB := am (Below.refl w.heap.size w)
 have H : ((spec_l01In.f a1 1 8).bind fun t559 => (if t559 = true then ((spec_l01Turns.f k l0 a1).bind fun t560 => (spec_ClassesOfTurns.j0 k l0 a1 (!t560))) else (spec_ClassesOfTurns.j0 k l0 a1 true))) = some (r1, r2) := h
 clear h
 have HC3 := am H
 clear H
 go_enter Try.func25, Try.ntmps25
 go_upto_region 1 with (fail)
 repeat (go_quiet (fail); go_upto_region 1 with (fail))
 go_cut [20] (fun v20 wc => ∃ (kq : Nat) (x20_2 : Bool), v20 = .bool x20_2 ∧ Aside0 (spec_ClassesOfTurns.j0 kq l0 a1 x20_2 = some (r1, r2)) ∧ Aside0 (kq ≤ k) ∧ Aside0 (Below w.heap.size w wc))
 case first =>
  have H := HC3.out
  clear HC3
  replace H := Option.bind_eq_some_iff.mp H
  obtain ⟨t559, A40, H⟩ := H
  try dsimp only at H
  have A4 := am A40
  clear A40
  by_cases c5 : t559 = true
  ·subst c5
   rw [if_pos rfl] at H
   replace H := Option.bind_eq_some_iff.mp H
   obtain ⟨t560, A60, H⟩ := H
   try dsimp only at H
   have A6 := am A60
   clear A60
   have H' := am H
   clear H
   go_wp2_with (first | (go_at_call 59; (with_reducible refine (spec_l01In.calls a1 1 8 true _ A4.out).mono ?_); rintro e w' ⟨rfl, ⟨nd, rfl⟩⟩; (try first | exact ⟨rfl, _, World.drewN_drewN _ _ _⟩ | exact ⟨rfl, _, Eq.trans (World.drewN_drewN _ _ _) (congrArg (World.drewN _) (Nat.add_assoc _ _ _))⟩)) | (go_at_call 60; (with_reducible refine (spec_l01Turns.calls k _ _ l0 a1 t560 _ ?side1 ?side2 A6.out).mono ?_); (case side1 => exact kC (Kd.C_below HR0.out (kB HB))); (case side2 => exact HC0.out); rintro e w' ⟨rfl, ⟨nd, rfl⟩⟩; (try first | exact ⟨rfl, _, World.drewN_drewN _ _ _⟩ | exact ⟨rfl, _, Eq.trans (World.drewN_drewN _ _ _) (congrArg (World.drewN _) (Nat.add_assoc _ _ _))⟩)))
   repeat (go_quiet (first | (go_at_call 59; (try simp only [i64_w]); (with_reducible refine (spec_l01In.calls a1 1 8 true _ A4.out).mono ?_); rintro e w' ⟨rfl, ⟨nd, rfl⟩⟩; (try first | exact ⟨rfl, _, World.drewN_drewN _ _ _⟩ | exact ⟨rfl, _, Eq.trans (World.drewN_drewN _ _ _) (congrArg (World.drewN _) (Nat.add_assoc _ _ _))⟩)) | (go_at_call 60; (try simp only [i64_w]); (with_reducible refine (spec_l01Turns.calls k _ _ l0 a1 t560 _ ?side1 ?side2 A6.out).mono ?_); (case side1 => exact kC (Kd.C_below HR0.out (kB HB))); (case side2 => exact HC0.out); rintro e w' ⟨rfl, ⟨nd, rfl⟩⟩; (try first | exact ⟨rfl, _, World.drewN_drewN _ _ _⟩ | exact ⟨rfl, _, Eq.trans (World.drewN_drewN _ _ _) (congrArg (World.drewN _) (Nat.add_assoc _ _ _))⟩))); try go_wp2_with (first | (go_at_call 59; (try simp only [i64_w]); (with_reducible refine (spec_l01In.calls a1 1 8 true _ A4.out).mono ?_); rintro e w' ⟨rfl, ⟨nd, rfl⟩⟩; (try first | exact ⟨rfl, _, World.drewN_drewN _ _ _⟩ | exact ⟨rfl, _, Eq.trans (World.drewN_drewN _ _ _) (congrArg (World.drewN _) (Nat.add_assoc _ _ _))⟩)) | (go_at_call 60; (try simp only [i64_w]); (with_reducible refine (spec_l01Turns.calls k _ _ l0 a1 t560 _ ?side1 ?side2 A6.out).mono ?_); (case side1 => exact kC (Kd.C_below HR0.out (kB HB))); (case side2 => exact HC0.out); rintro e w' ⟨rfl, ⟨nd, rfl⟩⟩; (try first | exact ⟨rfl, _, World.drewN_drewN _ _ _⟩ | exact ⟨rfl, _, Eq.trans (World.drewN_drewN _ _ _) (congrArg (World.drewN _) (Nat.add_assoc _ _ _))⟩))))
   go_meet
   case rel => exact ⟨_, (!t560), (by first | rfl | (simp; done) | (simp [*]; done)), H', ⟨by first | omega | exact Nat.le_refl _⟩, ⟨kB HB⟩⟩
  ·replace c5 := Bool.eq_false_iff.mpr c5
   subst c5
   rw [if_neg (show ¬ (false = true) by decide)] at H
   have H' := am H
   clear H
   go_wp2_with (first | (go_at_call 59; (with_reducible refine (spec_l01In.calls a1 1 8 false _ A4.out).mono ?_); rintro e w' ⟨rfl, ⟨nd, rfl⟩⟩; (try first | exact ⟨rfl, _, World.drewN_drewN _ _ _⟩ | exact ⟨rfl, _, Eq.trans (World.drewN_drewN _ _ _) (congrArg (World.drewN _) (Nat.add_assoc _ _ _))⟩)))
   repeat (go_quiet (first | (go_at_call 59; (try simp only [i64_w]); (with_reducible refine (spec_l01In.calls a1 1 8 false _ A4.out).mono ?_); rintro e w' ⟨rfl, ⟨nd, rfl⟩⟩; (try first | exact ⟨rfl, _, World.drewN_drewN _ _ _⟩ | exact ⟨rfl, _, Eq.trans (World.drewN_drewN _ _ _) (congrArg (World.drewN _) (Nat.add_assoc _ _ _))⟩))); try go_wp2_with (first | (go_at_call 59; (try simp only [i64_w]); (with_reducible refine (spec_l01In.calls a1 1 8 false _ A4.out).mono ?_); rintro e w' ⟨rfl, ⟨nd, rfl⟩⟩; (try first | exact ⟨rfl, _, World.drewN_drewN _ _ _⟩ | exact ⟨rfl, _, Eq.trans (World.drewN_drewN _ _ _) (congrArg (World.drewN _) (Nat.add_assoc _ _ _))⟩))))
   go_meet
   case rel => exact ⟨_, (true), (by first | rfl | (simp; done) | (simp [*]; done)), H', ⟨by first | omega | exact Nat.le_refl _⟩, ⟨kB HB⟩⟩
 case rest =>
  clear HC3
  obtain ⟨kq, x20_2, rfl, HA, HJ2, HB⟩ := hcut
  cases kq with
  | zero => exact absurd HA.out (by simp [spec_ClassesOfTurns.j0])
  | succ kj2 =>
   have H := HA.out
   clear HA
   simp only [spec_ClassesOfTurns.j0] at H
   by_cases c7 : x20_2 = true
   ·subst c7
    rw [if_pos rfl] at H
    simp only [Option.some.injEq, Prod.mk.injEq] at H
    obtain ⟨rfl, rfl⟩ := H
    go_wp2
    repeat (go_quiet (fail); try go_wp2)
    go_ret2
    exact ⟨_, by first | rfl | (simp [errW_none, errW_some] <;> rfl) | (simp [*, errW_none, errW_some] <;> rfl), by first | exact Kd.R_nil _ _ _ _ _ | exact Kd.N_nil _ _ _ _ _ | exact Kd.V_nil _ _ _ _ _ | exact Kd.Q_nil _ _ _ _ _ | exact Kd.S_nil _ _ _ _ _, kB HB⟩
   ·replace c7 := Bool.eq_false_iff.mpr c7
    subst c7
    rw [if_neg (show ¬ (false = true) by decide)] at H
    obtain ⟨y561, hy561⟩ : ∃ y_ : List (S40), y_ = (([] : List (S40))) := ⟨_, rfl⟩
    replace H : (spec_ClassesOfTurns.l0 kj2 l0 a1 y561 false 0) = some (r1, r2) := by first | (rw [hy561]; with_reducible exact H) | (have H2_ := (Option.bind_some _ _).symm.trans H; rw [hy561]; with_reducible exact H2_) | (have H2_ := (Option.bind_some _ _).symm.trans H; with_reducible exact H2_) | with_reducible exact H | (rw [hy561]; exact H) | exact H
    have Ny561 := am hy561
    clear hy561
    have H' := am H
    clear H
    go_wp2_with (first | ((with_reducible refine gate_dst (N := 21) rfl ?_); refine Kd.R_lit k40 _ 40 ?hg (N := 21) ?hd (xs := ([] : List (S40))) (inner := []) (ok := fun _ => True) (okp := fun _ => True) ?hr ?hp (fun _ hk => hk) trivial (Below.refl _ _) (Nat.le_refl _) (by simp) ?_; (case hd => rfl); (case hg => rfl); (case hr => first | (go_simp; done) | (go_simp; rfl)); (case hp => exact (Reps.none _ _)); intro v562 w8 ho9 hb hg_ hnew_; clear hg_ hnew_; (first | rw [← Ny561.out] at ho9 | (simp only [Int.reduceToNat] at ho9; rw [← Ny561.out] at ho9)); have n0_ := am (Kd.R_lower ho9 (below_size (kB HB))); have n1_ := am (below_step (kB HB) hb); clear HB; have HO563 := n0_; have HB := n1_; clear n0_ n1_; clear hb ho9))
    repeat (go_quiet (first | ((with_reducible refine gate_dst (N := 21) rfl ?_); refine Kd.R_lit k40 _ 40 ?hg (N := 21) ?hd (xs := ([] : List (S40))) (inner := []) (ok := fun _ => True) (okp := fun _ => True) ?hr ?hp (fun _ hk => hk) trivial (Below.refl _ _) (Nat.le_refl _) (by simp) ?_; (case hd => rfl); (case hg => rfl); (case hr => first | (go_simp; done) | (go_simp; rfl)); (case hp => exact (Reps.none _ _)); intro v562 w8 ho9 hb hg_ hnew_; clear hg_ hnew_; (first | rw [← Ny561.out] at ho9 | (simp only [Int.reduceToNat] at ho9; rw [← Ny561.out] at ho9)); have n0_ := am (Kd.R_lower ho9 (below_size (kB HB))); have n1_ := am (below_step (kB HB) hb); clear HB; have HO563 := n0_; have HB := n1_; clear n0_ n1_; clear hb ho9)); try go_wp2_with (first | ((with_reducible refine gate_dst (N := 21) rfl ?_); refine Kd.R_lit k40 _ 40 ?hg (N := 21) ?hd (xs := ([] : List (S40))) (inner := []) (ok := fun _ => True) (okp := fun _ => True) ?hr ?hp (fun _ hk => hk) trivial (Below.refl _ _) (Nat.le_refl _) (by simp) ?_; (case hd => rfl); (case hg => rfl); (case hr => first | (go_simp; done) | (go_simp; rfl)); (case hp => exact (Reps.none _ _)); intro v562 w8 ho9 hb hg_ hnew_; clear hg_ hnew_; (first | rw [← Ny561.out] at ho9 | (simp only [Int.reduceToNat] at ho9; rw [← Ny561.out] at ho9)); have n0_ := am (Kd.R_lower ho9 (below_size (kB HB))); have n1_ := am (below_step (kB HB) hb); clear HB; have HO563 := n0_; have HB := n1_; clear n0_ n1_; clear hb ho9)))
    go_loopg [6, 7, 8] kj2 (fun kq v6 v7 v8 w' => ∃ (x6_2 : List (S40)) (x7_2 : Bool) (x8_2 : Int), v7 = .bool x7_2 ∧ v8 = .int .i64 x8_2 ∧ Aside0 (spec_ClassesOfTurns.l0 kq l0 a1 x6_2 x7_2 x8_2 = some (r1, r2)) ∧ Aside0 (kq ≤ kj2) ∧ Aside0 (Kd.R k40 40 w' w.heap.size (fun _ => True) v6 x6_2) ∧ Aside0 (Below w.heap.size w w'))
    case atStart => exact ⟨(y561), (false), (0), (by first | rfl | (simp; done) | (simp [*]; done)), (by first | rfl | (simp; done) | (simp [*]; done)), H', ⟨Nat.le_refl _⟩, ⟨kR HO563⟩, ⟨kB HB⟩⟩
    case round =>
     clear H'
     try clear c7
     obtain ⟨x6_2, x7_2, x8_2, rfl, rfl, HA, HK2, HO_6, HB⟩ := hrel
     cases gk with
     | zero => exact absurd HA.out (by simp [spec_ClassesOfTurns.l0])
     | succ k2 =>
      have H := HA.out
      clear HA
      simp only [spec_ClassesOfTurns.l0] at H
      by_cases c10 : x8_2 < a1
      ·rw [if_pos c10] at H
       have c10b0 : decide (x8_2 < a1) = true := decide_eq_true c10
       clear c10
       replace H := Option.bind_eq_some_iff.mp H
       obtain ⟨t564, A110, H⟩ := H
       try dsimp only at H
       have A11 := am A110
       clear A110
       by_cases c12 : (t564.length : Int) = 0
       ·rw [if_pos c12] at H
        have c12b0 : ((t564.length : Int) == 0) = true := beq_iff_eq.mpr c12
        have c12b1 : ((t564.length : Int) != 0) = false := bne_eq_false_iff_eq.mpr c12
        clear c12
        simp only [Option.some.injEq, Prod.mk.injEq] at H
        obtain ⟨rfl, rfl⟩ := H
        go_wp2_with (first | (go_at_call 61; (with_reducible refine (spec_l01Waits.calls k2 _ _ l0 x8_2 t564 _ ?side1 ?side2 A11.out).mono ?_); (case side1 => exact kC (Kd.C_below HR0.out HB.out)); (case side2 => exact HC0.out); rintro e w13 ⟨v565, rfl, ho0, hb⟩; have n0_ := am (Kd.R_below (kR HO_6) hb); have n1_ := am (Kd.R_lower ho0 (below_size (kB HB))); have n2_ := am (below_step (kB HB) hb); clear HO_6 HB; have HO_6 := n0_; have HO566 := n1_; have HB := n2_; clear n0_ n1_ n2_; (try clear hb); (try clear hb2); (try clear hk); (try clear hi); (try clear ho0); obtain ⟨Ao14, co14, eo14⟩ := Kd.R_slice HO566.out; subst eo14))
        repeat (go_quiet (first | (go_at_call 61; (try simp only [i64_w]); (with_reducible refine (spec_l01Waits.calls k2 _ _ l0 x8_2 t564 _ ?side1 ?side2 A11.out).mono ?_); (case side1 => exact kC (Kd.C_below HR0.out HB.out)); (case side2 => exact HC0.out); rintro e w13 ⟨v565, rfl, ho0, hb⟩; have n0_ := am (Kd.R_below (kR HO_6) hb); have n1_ := am (Kd.R_lower ho0 (below_size (kB HB))); have n2_ := am (below_step (kB HB) hb); clear HO_6 HB; have HO_6 := n0_; have HO566 := n1_; have HB := n2_; clear n0_ n1_ n2_; (try clear hb); (try clear hb2); (try clear hk); (try clear hi); (try clear ho0); obtain ⟨Ao14, co14, eo14⟩ := Kd.R_slice HO566.out; subst eo14)); try go_wp2_with (first | (go_at_call 61; (try simp only [i64_w]); (with_reducible refine (spec_l01Waits.calls k2 _ _ l0 x8_2 t564 _ ?side1 ?side2 A11.out).mono ?_); (case side1 => exact kC (Kd.C_below HR0.out HB.out)); (case side2 => exact HC0.out); rintro e w13 ⟨v565, rfl, ho0, hb⟩; have n0_ := am (Kd.R_below (kR HO_6) hb); have n1_ := am (Kd.R_lower ho0 (below_size (kB HB))); have n2_ := am (below_step (kB HB) hb); clear HO_6 HB; have HO_6 := n0_; have HO566 := n1_; have HB := n2_; clear n0_ n1_ n2_; (try clear hb); (try clear hb2); (try clear hk); (try clear hi); (try clear ho0); obtain ⟨Ao14, co14, eo14⟩ := Kd.R_slice HO566.out; subst eo14)))
        go_ret2
        exact ⟨_, by first | rfl | (simp [errW_none, errW_some] <;> rfl) | (simp [*, errW_none, errW_some] <;> rfl), by first | exact Kd.R_nil _ _ _ _ _ | exact Kd.N_nil _ _ _ _ _ | exact Kd.V_nil _ _ _ _ _ | exact Kd.Q_nil _ _ _ _ _ | exact Kd.S_nil _ _ _ _ _, kB HB⟩
       ·rw [if_neg c12] at H
        have c12b0 : ((t564.length : Int) == 0) = false := beq_eq_false_iff_ne.mpr c12
        have c12b1 : ((t564.length : Int) != 0) = true := bne_iff_ne.mpr c12
        have c12b2 : ¬ (t564 = []) := fun h_ => c12 (by rw [h_]; rfl)
        have H' := am H
        clear H
        go_wp2_with (first | (go_at_call 61; (with_reducible refine (spec_l01Waits.calls k2 _ _ l0 x8_2 t564 _ ?side1 ?side2 A11.out).mono ?_); (case side1 => exact kC (Kd.C_below HR0.out HB.out)); (case side2 => exact HC0.out); rintro e w15 ⟨v565, rfl, ho0, hb⟩; have n0_ := am (Kd.R_below (kR HO_6) hb); have n1_ := am (Kd.R_lower ho0 (below_size (kB HB))); have n2_ := am (below_step (kB HB) hb); clear HO_6 HB; have HO_6 := n0_; have HO566 := n1_; have HB := n2_; clear n0_ n1_ n2_; (try clear hb); (try clear hb2); (try clear hk); (try clear hi); (try clear ho0); obtain ⟨Ao16, co16, eo16⟩ := Kd.R_slice HO566.out; subst eo16))
        repeat (go_quiet (first | (go_at_call 61; (try simp only [i64_w]); (with_reducible refine (spec_l01Waits.calls k2 _ _ l0 x8_2 t564 _ ?side1 ?side2 A11.out).mono ?_); (case side1 => exact kC (Kd.C_below HR0.out HB.out)); (case side2 => exact HC0.out); rintro e w15 ⟨v565, rfl, ho0, hb⟩; have n0_ := am (Kd.R_below (kR HO_6) hb); have n1_ := am (Kd.R_lower ho0 (below_size (kB HB))); have n2_ := am (below_step (kB HB) hb); clear HO_6 HB; have HO_6 := n0_; have HO566 := n1_; have HB := n2_; clear n0_ n1_ n2_; (try clear hb); (try clear hb2); (try clear hk); (try clear hi); (try clear ho0); obtain ⟨Ao16, co16, eo16⟩ := Kd.R_slice HO566.out; subst eo16)); try go_wp2_with (first | (go_at_call 61; (try simp only [i64_w]); (with_reducible refine (spec_l01Waits.calls k2 _ _ l0 x8_2 t564 _ ?side1 ?side2 A11.out).mono ?_); (case side1 => exact kC (Kd.C_below HR0.out HB.out)); (case side2 => exact HC0.out); rintro e w15 ⟨v565, rfl, ho0, hb⟩; have n0_ := am (Kd.R_below (kR HO_6) hb); have n1_ := am (Kd.R_lower ho0 (below_size (kB HB))); have n2_ := am (below_step (kB HB) hb); clear HO_6 HB; have HO_6 := n0_; have HO566 := n1_; have HB := n2_; clear n0_ n1_ n2_; (try clear hb); (try clear hb2); (try clear hk); (try clear hi); (try clear ho0); obtain ⟨Ao16, co16, eo16⟩ := Kd.R_slice HO566.out; subst eo16)))
        go_loopg [10] k2 (fun kq v10 w' => ∃ (x10_3 : Int), v10 = .int .i64 x10_3 ∧ Aside0 (spec_ClassesOfTurns.l1 kq l0 a1 x6_2 x7_2 x8_2 t564 x10_3 = some (r1, r2)) ∧ Aside0 (kq ≤ k2) ∧ Aside0 (Kd.R k40 40 w' w.heap.size (fun _ => True) u6 x6_2) ∧ Aside0 (Kd.R (Kd.int .i64) 2 w' w.heap.size (fun _ => True) (.slice Ao16 t564.length co16) t564) ∧ Aside0 (Below w.heap.size w w'))
        case atStart => exact ⟨(1), (by first | rfl | (simp; done) | (simp [*]; done)), H', ⟨Nat.le_refl _⟩, ⟨kR HO_6⟩, ⟨kR HO566⟩, ⟨kB HB⟩⟩
        case round =>
         clear H'
         try clear c7
         try clear c10
         try clear c10b0
         try clear c12
         try clear c12b0
         try clear c12b1
         try clear c12b2
         obtain ⟨x10_3, rfl, HA, HK3, HO_6, HO_9, HB⟩ := hrel
         cases gk with
         | zero => exact absurd HA.out (by simp [spec_ClassesOfTurns.l1])
         | succ k3 =>
          have H := HA.out
          clear HA
          simp only [spec_ClassesOfTurns.l1] at H
          by_cases c17 : x10_3 < (t564.length : Int)
          ·rw [if_pos c17] at H
           have c17b0 : decide (x10_3 < (t564.length : Int)) = true := decide_eq_true c17
           clear c17
           by_cases c18 : 0 ≤ x10_3
           ·rw [if_pos c18] at H
            have c18b0 : decide (0 ≤ x10_3) = true := decide_eq_true c18
            clear c18
            by_cases c19 : 0 < (t564.length : Int)
            ·rw [if_pos c19] at H
             have c19b0 : decide (0 < (t564.length : Int)) = true := decide_eq_true c19
             have c19b1 : decide (0 < t564.length) = true := decide_eq_true (by omega)
             clear c19
             by_cases c20 : (rd t564 x10_3) = (rd t564 0)
             ·rw [if_pos c20] at H
              have c20b0 : ((rd t564 x10_3) == (rd t564 0)) = true := beq_iff_eq.mpr c20
              have c20b1 : ((rd t564 x10_3) != (rd t564 0)) = false := bne_eq_false_iff_eq.mpr c20
              clear c20
              have H' := am H
              clear H
              have p567 : 0 ≤ (x10_3 : Int) := of_decide_eq_true kM
              have q567 : x10_3 < (t564.length : Int) := of_decide_eq_true kM
              obtain ⟨ad567, e567, hx567_0⟩ := Kd.at_int (Kd.R_reads' HO_9.out).2.2 x10_3 p567 q567
              cases e567
              replace p567 := eq_true p567
              replace q567 := eq_true q567
              have p568 : 0 ≤ (0 : Int) := (by omega)
              have q568 : 0 < (t564.length : Int) := of_decide_eq_true kM
              obtain ⟨ad568, e568, hx568_0⟩ := Kd.at_int (Kd.R_reads' HO_9.out).2.2 0 p568 q568
              obtain rfl : ad567 = ad568 := (by injection e568)
              have qi568 : (0 < t564.length) = True := eq_true (by omega)
              (try rw [show ((0 : Int)).toNat = 0 from rfl] at hx568_0)
              (try rw [Addr.add_zero'] at hx568_0)
              replace p568 := eq_true p568
              replace q568 := eq_true q568
              go_wp2
              repeat (go_quiet (fail); try go_wp2)
              go_roundg k3
              case measure => have := HJ2.out; have := HK2.out; have := HK3.out; omega
              case rel => exact ⟨(wrap64 (x10_3 + 1)), (by first | rfl | (simp; done) | (simp [*]; done)), H', ⟨by have := HJ2.out; have := HK2.out; have := HK3.out; omega⟩, ⟨kR HO_6⟩, ⟨kR HO_9⟩, ⟨kB HB⟩⟩
             ·rw [if_neg c20] at H
              have c20b0 : ((rd t564 x10_3) == (rd t564 0)) = false := beq_eq_false_iff_ne.mpr c20
              have c20b1 : ((rd t564 x10_3) != (rd t564 0)) = true := bne_iff_ne.mpr c20
              simp only [Option.some.injEq, Prod.mk.injEq] at H
              obtain ⟨rfl, rfl⟩ := H
              have p567 : 0 ≤ (x10_3 : Int) := of_decide_eq_true kM
              have q567 : x10_3 < (t564.length : Int) := of_decide_eq_true kM
              obtain ⟨ad567, e567, hx567_0⟩ := Kd.at_int (Kd.R_reads' HO_9.out).2.2 x10_3 p567 q567
              cases e567
              replace p567 := eq_true p567
              replace q567 := eq_true q567
              have p568 : 0 ≤ (0 : Int) := (by omega)
              have q568 : 0 < (t564.length : Int) := of_decide_eq_true kM
              obtain ⟨ad568, e568, hx568_0⟩ := Kd.at_int (Kd.R_reads' HO_9.out).2.2 0 p568 q568
              obtain rfl : ad567 = ad568 := (by injection e568)
              have qi568 : (0 < t564.length) = True := eq_true (by omega)
              (try rw [show ((0 : Int)).toNat = 0 from rfl] at hx568_0)
              (try rw [Addr.add_zero'] at hx568_0)
              replace p568 := eq_true p568
              replace q568 := eq_true q568
              go_wp2
              repeat (go_quiet (fail); try go_wp2)
              go_ret2
              exact ⟨_, by first | rfl | (simp [errW_none, errW_some] <;> rfl) | (simp [*, errW_none, errW_some] <;> rfl), by first | exact Kd.R_nil _ _ _ _ _ | exact Kd.N_nil _ _ _ _ _ | exact Kd.V_nil _ _ _ _ _ | exact Kd.Q_nil _ _ _ _ _ | exact Kd.S_nil _ _ _ _ _, kB HB⟩
            ·rw [if_neg c19] at H
             exact absurd H (by simp)
           ·rw [if_neg c18] at H
            exact absurd H (by simp)
          ·rw [if_neg c17] at H
           have c17b0 : decide (x10_3 < (t564.length : Int)) = false := decide_eq_false c17
           clear c17
           have H' := am H
           clear H
           go_wp2
           repeat (go_quiet (fail); try go_wp2)
           go_loopg [11] k3 (fun kq v11 w' => ∃ (x11_4 : Int), v11 = .int .i64 x11_4 ∧ Aside0 (spec_ClassesOfTurns.l2 kq l0 a1 x6_2 x7_2 x8_2 t564 x11_4 = some (r1, r2)) ∧ Aside0 (kq ≤ k3) ∧ Aside0 (Kd.R k40 40 w' w.heap.size (fun _ => True) u6 x6_2) ∧ Aside0 (Kd.R (Kd.int .i64) 2 w' w.heap.size (fun _ => True) (.slice Ao16 t564.length co16) t564) ∧ Aside0 (Below w.heap.size w w'))
           case atStart => exact ⟨(0), (by first | rfl | (simp; done) | (simp [*]; done)), H', ⟨Nat.le_refl _⟩, ⟨kR HO_6⟩, ⟨kR HO_9⟩, ⟨kB HB⟩⟩
           case round =>
            clear H'
            try clear c7
            try clear c10
            try clear c10b0
            try clear c12
            try clear c12b0
            try clear c12b1
            try clear c12b2
            try clear c17
            try clear c17b0
            obtain ⟨x11_4, rfl, HA, HK4, HO_6, HO_9, HB⟩ := hrel
            cases gk with
            | zero => exact absurd HA.out (by simp [spec_ClassesOfTurns.l2])
            | succ k4 =>
             have H := HA.out
             clear HA
             simp only [spec_ClassesOfTurns.l2] at H
             by_cases c21 : 0 ≤ x11_4
             ·rw [if_pos c21] at H
              have c21b0 : decide (0 ≤ x11_4) = true := decide_eq_true c21
              clear c21
              by_cases c22 : x11_4 < (l0.length : Int)
              ·rw [if_pos c22] at H
               have c22b0 : decide (x11_4 < (l0.length : Int)) = true := decide_eq_true c22
               clear c22
               by_cases c23 : (rd l0 x11_4) = x8_2
               ·rw [if_pos c23] at H
                have c23b0 : ((rd l0 x11_4) == x8_2) = true := beq_iff_eq.mpr c23
                have c23b1 : ((rd l0 x11_4) != x8_2) = false := bne_eq_false_iff_eq.mpr c23
                clear c23
                by_cases c24 : x7_2 = true
                ·subst c24
                 rw [if_pos rfl] at H
                 by_cases c25 : 0 < (t564.length : Int)
                 ·rw [if_pos c25] at H
                  have c25b0 : decide (0 < (t564.length : Int)) = true := decide_eq_true c25
                  have c25b1 : decide (0 < t564.length) = true := decide_eq_true (by omega)
                  clear c25
                  by_cases c26 : x6_2.length < 8796093022208
                  ·rw [if_pos c26] at H
                   have LMc26 := am c26
                   clear c26
                   obtain ⟨y571, hy571⟩ : ∃ y_ : List (S40), y_ = (x6_2 ++ [(⟨x11_4, rd t564 0⟩ : S40)]) := ⟨_, rfl⟩
                   replace H : (spec_ClassesOfTurns.l0 k4 l0 a1 y571 true (wrap64 (x8_2 + 1))) = some (r1, r2) := by first | (rw [hy571]; with_reducible exact H) | (have H2_ := (Option.bind_some _ _).symm.trans H; rw [hy571]; with_reducible exact H2_) | (have H2_ := (Option.bind_some _ _).symm.trans H; with_reducible exact H2_) | with_reducible exact H | (rw [hy571]; exact H) | exact H
                   have Ny571 := am hy571
                   clear hy571
                   have H' := am H
                   clear H
                   have p569 : 0 ≤ (x11_4 : Int) := of_decide_eq_true kM
                   have q569 : x11_4 < (l0.length : Int) := of_decide_eq_true kM
                   obtain ⟨ad569, e569, hx569_0⟩ := Kd.at_int HR0.out x11_4 p569 q569
                   cases e569
                   replace hx569_0 := (HB.out.cell (World.block_lt_of_cell? w _ hx569_0)).trans hx569_0
                   replace p569 := eq_true p569
                   replace q569 := eq_true q569
                   have p570 : 0 ≤ (0 : Int) := (by omega)
                   have q570 : 0 < (t564.length : Int) := of_decide_eq_true kM
                   obtain ⟨ad570, e570, hx570_0⟩ := Kd.at_int (Kd.R_reads' HO_9.out).2.2 0 p570 q570
                   cases e570
                   have qi570 : (0 < t564.length) = True := eq_true (by omega)
                   (try rw [show ((0 : Int)).toNat = 0 from rfl] at hx570_0)
                   (try rw [Addr.add_zero'] at hx570_0)
                   replace p570 := eq_true p570
                   replace q570 := eq_true q570
                   go_wp2_with (first | ((with_reducible refine gate_builtin (b := .append) (xs := #[.tmp 62, .tmp 68]) rfl ?_); at_builtin; refine Kd.R_append k40 (w0 := w) w.heap.size rfl (.tmp 62) (.tmp 68) 24 40 (.agg #[(.int .i64 0), (.int .i64 0)]) 16 rfl Try.underlying24 info40 rfl (by decide) (by omega) u6 x6_2 (⟨x11_4, rd t564 0⟩ : S40) [.int .i64 x11_4, .int .i64 (rd t564 0)] (fun _ => True) (fun _ => False) rfl rfl ?aP (fun _ hk => hk.elim) ?aF ?aO ?aB ?aS ?aL ?_; (case aP => exact k40_mkM _ _ _ (⟨x11_4, rd t564 0⟩ : S40)); (case aB => exact (kB HB)); (case aF => exact (fun _ _ => trivial)); (case aO => exact (kR HO_6)); (case aS => exact (below_size (kB HB))); (case aL => have := LMc26.out; omega); intro v572 w27 ho hb hg hat; rw [← Ny571.out] at ho; have n0_ := am (Kd.R_over' (kR HO_9) (Kd.R_typed (kR HO_6)) (by decide) hg); have n1_ := am (hb); have n2_ := am (ho); clear HO_9 HB HO_6; have HO_9 := n0_; have HB := n1_; have HO573 := n2_; clear n0_ n1_ n2_; clear ho hb hg hat))
                   repeat (go_quiet (first | ((with_reducible refine gate_builtin (b := .append) (xs := #[.tmp 62, .tmp 68]) rfl ?_); at_builtin; refine Kd.R_append k40 (w0 := w) w.heap.size rfl (.tmp 62) (.tmp 68) 24 40 (.agg #[(.int .i64 0), (.int .i64 0)]) 16 rfl Try.underlying24 info40 rfl (by decide) (by omega) u6 x6_2 (⟨x11_4, rd t564 0⟩ : S40) [.int .i64 x11_4, .int .i64 (rd t564 0)] (fun _ => True) (fun _ => False) rfl rfl ?aP (fun _ hk => hk.elim) ?aF ?aO ?aB ?aS ?aL ?_; (case aP => exact k40_mkM _ _ _ (⟨x11_4, rd t564 0⟩ : S40)); (case aB => exact (kB HB)); (case aF => exact (fun _ _ => trivial)); (case aO => exact (kR HO_6)); (case aS => exact (below_size (kB HB))); (case aL => have := LMc26.out; omega); intro v572 w27 ho hb hg hat; rw [← Ny571.out] at ho; have n0_ := am (Kd.R_over' (kR HO_9) (Kd.R_typed (kR HO_6)) (by decide) hg); have n1_ := am (hb); have n2_ := am (ho); clear HO_9 HB HO_6; have HO_9 := n0_; have HB := n1_; have HO573 := n2_; clear n0_ n1_ n2_; clear ho hb hg hat)); try go_wp2_with (first | ((with_reducible refine gate_builtin (b := .append) (xs := #[.tmp 62, .tmp 68]) rfl ?_); at_builtin; refine Kd.R_append k40 (w0 := w) w.heap.size rfl (.tmp 62) (.tmp 68) 24 40 (.agg #[(.int .i64 0), (.int .i64 0)]) 16 rfl Try.underlying24 info40 rfl (by decide) (by omega) u6 x6_2 (⟨x11_4, rd t564 0⟩ : S40) [.int .i64 x11_4, .int .i64 (rd t564 0)] (fun _ => True) (fun _ => False) rfl rfl ?aP (fun _ hk => hk.elim) ?aF ?aO ?aB ?aS ?aL ?_; (case aP => exact k40_mkM _ _ _ (⟨x11_4, rd t564 0⟩ : S40)); (case aB => exact (kB HB)); (case aF => exact (fun _ _ => trivial)); (case aO => exact (kR HO_6)); (case aS => exact (below_size (kB HB))); (case aL => have := LMc26.out; omega); intro v572 w27 ho hb hg hat; rw [← Ny571.out] at ho; have n0_ := am (Kd.R_over' (kR HO_9) (Kd.R_typed (kR HO_6)) (by decide) hg); have n1_ := am (hb); have n2_ := am (ho); clear HO_9 HB HO_6; have HO_9 := n0_; have HB := n1_; have HO573 := n2_; clear n0_ n1_ n2_; clear ho hb hg hat)))
                   go_roundg k4
                   case measure => have := HJ2.out; have := HK2.out; have := HK3.out; have := HK4.out; omega
                   case rel => exact ⟨(y571), (true), (wrap64 (x8_2 + 1)), (by first | rfl | (simp; done) | (simp [*]; done)), (by first | rfl | (simp; done) | (simp [*]; done)), H', ⟨by have := HJ2.out; have := HK2.out; have := HK3.out; have := HK4.out; omega⟩, ⟨kR HO573⟩, ⟨kB HB⟩⟩
                  ·rw [if_neg c26] at H
                   exact absurd H (by simp)
                 ·rw [if_neg c25] at H
                  exact absurd H (by simp)
                ·replace c24 := Bool.eq_false_iff.mpr c24
                 subst c24
                 rw [if_neg (show ¬ (false = true) by decide)] at H
                 by_cases c28 : 0 < (t564.length : Int)
                 ·rw [if_pos c28] at H
                  have c28b0 : decide (0 < (t564.length : Int)) = true := decide_eq_true c28
                  have c28b1 : decide (0 < t564.length) = true := decide_eq_true (by omega)
                  clear c28
                  by_cases c29 : x6_2.length < 8796093022208
                  ·rw [if_pos c29] at H
                   have LMc29 := am c29
                   clear c29
                   obtain ⟨y576, hy576⟩ : ∃ y_ : List (S40), y_ = (x6_2 ++ [(⟨x11_4, rd t564 0⟩ : S40)]) := ⟨_, rfl⟩
                   replace H : (spec_ClassesOfTurns.l0 k4 l0 a1 y576 (decide ((rd t564 0) > 40)) (wrap64 (x8_2 + 1))) = some (r1, r2) := by first | (rw [hy576]; with_reducible exact H) | (have H2_ := (Option.bind_some _ _).symm.trans H; rw [hy576]; with_reducible exact H2_) | (have H2_ := (Option.bind_some _ _).symm.trans H; with_reducible exact H2_) | with_reducible exact H | (rw [hy576]; exact H) | exact H
                   have Ny576 := am hy576
                   clear hy576
                   have H' := am H
                   clear H
                   have p569 : 0 ≤ (x11_4 : Int) := of_decide_eq_true kM
                   have q569 : x11_4 < (l0.length : Int) := of_decide_eq_true kM
                   obtain ⟨ad569, e569, hx569_0⟩ := Kd.at_int HR0.out x11_4 p569 q569
                   cases e569
                   replace hx569_0 := (HB.out.cell (World.block_lt_of_cell? w _ hx569_0)).trans hx569_0
                   replace p569 := eq_true p569
                   replace q569 := eq_true q569
                   have p574 : 0 ≤ (0 : Int) := (by omega)
                   have q574 : 0 < (t564.length : Int) := of_decide_eq_true kM
                   obtain ⟨ad574, e574, hx574_0⟩ := Kd.at_int (Kd.R_reads' HO_9.out).2.2 0 p574 q574
                   cases e574
                   have qi574 : (0 < t564.length) = True := eq_true (by omega)
                   (try rw [show ((0 : Int)).toNat = 0 from rfl] at hx574_0)
                   (try rw [Addr.add_zero'] at hx574_0)
                   replace p574 := eq_true p574
                   replace q574 := eq_true q574
                   have p575 : 0 ≤ (0 : Int) := (by omega)
                   have q575 : 0 < (t564.length : Int) := of_decide_eq_true kM
                   obtain ⟨ad575, e575, hx575_0⟩ := Kd.at_int (Kd.R_reads' HO_9.out).2.2 0 p575 q575
                   obtain rfl : ad574 = ad575 := (by injection e575)
                   have qi575 : (0 < t564.length) = True := eq_true (by omega)
                   (try rw [show ((0 : Int)).toNat = 0 from rfl] at hx575_0)
                   (try rw [Addr.add_zero'] at hx575_0)
                   replace p575 := eq_true p575
                   replace q575 := eq_true q575
                   go_wp2_with (first | ((with_reducible refine gate_builtin (b := .append) (xs := #[.tmp 62, .tmp 68]) rfl ?_); at_builtin; refine Kd.R_append k40 (w0 := w) w.heap.size rfl (.tmp 62) (.tmp 68) 24 40 (.agg #[(.int .i64 0), (.int .i64 0)]) 16 rfl Try.underlying24 info40 rfl (by decide) (by omega) u6 x6_2 (⟨x11_4, rd t564 0⟩ : S40) [.int .i64 x11_4, .int .i64 (rd t564 0)] (fun _ => True) (fun _ => False) rfl rfl ?aP (fun _ hk => hk.elim) ?aF ?aO ?aB ?aS ?aL ?_; (case aP => exact k40_mkM _ _ _ (⟨x11_4, rd t564 0⟩ : S40)); (case aB => exact (kB HB)); (case aF => exact (fun _ _ => trivial)); (case aO => exact (kR HO_6)); (case aS => exact (below_size (kB HB))); (case aL => have := LMc29.out; omega); intro v577 w30 ho hb hg hat; rw [← Ny576.out] at ho; have n0_ := am (Kd.R_over' (kR HO_9) (Kd.R_typed (kR HO_6)) (by decide) hg); have n1_ := am (hb); have n2_ := am (ho); clear HO_9 HB HO_6; have HO_9 := n0_; have HB := n1_; have HO578 := n2_; clear n0_ n1_ n2_; clear ho hb hg hat))
                   repeat (go_quiet (first | ((with_reducible refine gate_builtin (b := .append) (xs := #[.tmp 62, .tmp 68]) rfl ?_); at_builtin; refine Kd.R_append k40 (w0 := w) w.heap.size rfl (.tmp 62) (.tmp 68) 24 40 (.agg #[(.int .i64 0), (.int .i64 0)]) 16 rfl Try.underlying24 info40 rfl (by decide) (by omega) u6 x6_2 (⟨x11_4, rd t564 0⟩ : S40) [.int .i64 x11_4, .int .i64 (rd t564 0)] (fun _ => True) (fun _ => False) rfl rfl ?aP (fun _ hk => hk.elim) ?aF ?aO ?aB ?aS ?aL ?_; (case aP => exact k40_mkM _ _ _ (⟨x11_4, rd t564 0⟩ : S40)); (case aB => exact (kB HB)); (case aF => exact (fun _ _ => trivial)); (case aO => exact (kR HO_6)); (case aS => exact (below_size (kB HB))); (case aL => have := LMc29.out; omega); intro v577 w30 ho hb hg hat; rw [← Ny576.out] at ho; have n0_ := am (Kd.R_over' (kR HO_9) (Kd.R_typed (kR HO_6)) (by decide) hg); have n1_ := am (hb); have n2_ := am (ho); clear HO_9 HB HO_6; have HO_9 := n0_; have HB := n1_; have HO578 := n2_; clear n0_ n1_ n2_; clear ho hb hg hat)); try go_wp2_with (first | ((with_reducible refine gate_builtin (b := .append) (xs := #[.tmp 62, .tmp 68]) rfl ?_); at_builtin; refine Kd.R_append k40 (w0 := w) w.heap.size rfl (.tmp 62) (.tmp 68) 24 40 (.agg #[(.int .i64 0), (.int .i64 0)]) 16 rfl Try.underlying24 info40 rfl (by decide) (by omega) u6 x6_2 (⟨x11_4, rd t564 0⟩ : S40) [.int .i64 x11_4, .int .i64 (rd t564 0)] (fun _ => True) (fun _ => False) rfl rfl ?aP (fun _ hk => hk.elim) ?aF ?aO ?aB ?aS ?aL ?_; (case aP => exact k40_mkM _ _ _ (⟨x11_4, rd t564 0⟩ : S40)); (case aB => exact (kB HB)); (case aF => exact (fun _ _ => trivial)); (case aO => exact (kR HO_6)); (case aS => exact (below_size (kB HB))); (case aL => have := LMc29.out; omega); intro v577 w30 ho hb hg hat; rw [← Ny576.out] at ho; have n0_ := am (Kd.R_over' (kR HO_9) (Kd.R_typed (kR HO_6)) (by decide) hg); have n1_ := am (hb); have n2_ := am (ho); clear HO_9 HB HO_6; have HO_9 := n0_; have HB := n1_; have HO578 := n2_; clear n0_ n1_ n2_; clear ho hb hg hat)))
                   go_roundg k4
                   case measure => have := HJ2.out; have := HK2.out; have := HK3.out; have := HK4.out; omega
                   case rel => exact ⟨(y576), (decide ((rd t564 0) > 40)), (wrap64 (x8_2 + 1)), (by first | rfl | (simp; done) | (simp [*]; done)), (by first | rfl | (simp; done) | (simp [*]; done)), H', ⟨by have := HJ2.out; have := HK2.out; have := HK3.out; have := HK4.out; omega⟩, ⟨kR HO578⟩, ⟨kB HB⟩⟩
                  ·rw [if_neg c29] at H
                   exact absurd H (by simp)
                 ·rw [if_neg c28] at H
                  exact absurd H (by simp)
               ·rw [if_neg c23] at H
                have c23b0 : ((rd l0 x11_4) == x8_2) = false := beq_eq_false_iff_ne.mpr c23
                have c23b1 : ((rd l0 x11_4) != x8_2) = true := bne_iff_ne.mpr c23
                have H' := am H
                clear H
                have p569 : 0 ≤ (x11_4 : Int) := of_decide_eq_true kM
                have q569 : x11_4 < (l0.length : Int) := of_decide_eq_true kM
                obtain ⟨ad569, e569, hx569_0⟩ := Kd.at_int HR0.out x11_4 p569 q569
                cases e569
                replace hx569_0 := (HB.out.cell (World.block_lt_of_cell? w _ hx569_0)).trans hx569_0
                replace p569 := eq_true p569
                replace q569 := eq_true q569
                go_wp2
                repeat (go_quiet (fail); try go_wp2)
                go_roundg k4
                case measure => have := HJ2.out; have := HK2.out; have := HK3.out; have := HK4.out; omega
                case rel => exact ⟨(wrap64 (x11_4 + 1)), (by first | rfl | (simp; done) | (simp [*]; done)), H', ⟨by have := HJ2.out; have := HK2.out; have := HK3.out; have := HK4.out; omega⟩, ⟨kR HO_6⟩, ⟨kR HO_9⟩, ⟨kB HB⟩⟩
              ·rw [if_neg c22] at H
               exact absurd H (by simp)
             ·rw [if_neg c21] at H
              exact absurd H (by simp)
      ·rw [if_neg c10] at H
       have c10b0 : decide (x8_2 < a1) = false := decide_eq_false c10
       clear c10
       by_cases c31 : x7_2 = true
       ·subst c31
        rw [if_pos rfl] at H
        simp only [Option.some.injEq, Prod.mk.injEq] at H
        obtain ⟨rfl, rfl⟩ := H
        go_wp2
        repeat (go_quiet (fail); try go_wp2)
        go_ret2
        exact ⟨_, by first | rfl | (simp [errW_none, errW_some] <;> rfl) | (simp [*, errW_none, errW_some] <;> rfl), by first | exact Kd.R_nil _ _ _ _ _ | exact Kd.N_nil _ _ _ _ _ | exact Kd.V_nil _ _ _ _ _ | exact Kd.Q_nil _ _ _ _ _ | exact Kd.S_nil _ _ _ _ _, kB HB⟩
       ·replace c31 := Bool.eq_false_iff.mpr c31
        subst c31
        rw [if_neg (show ¬ (false = true) by decide)] at H
        simp only [Option.some.injEq, Prod.mk.injEq] at H
        obtain ⟨rfl, rfl⟩ := H
        go_wp2
        repeat (go_quiet (fail); try go_wp2)
        go_ret2
        exact ⟨_, by first | rfl | (simp [errW_none, errW_some] <;> rfl) | (simp [*, errW_none, errW_some] <;> rfl), kR HO_6, kB HB⟩
end Go.Proofs.Ytdkhecebffjpjaa.X
