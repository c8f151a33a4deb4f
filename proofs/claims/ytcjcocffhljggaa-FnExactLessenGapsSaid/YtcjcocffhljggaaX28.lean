/- Written by wip/tool/xprint.py for this claim: functions as plain Lean functions, each with a proof that the Go code comes to its answers; no condition beside those stated. -/
import Derived.Test.YtcjcocffhljggaaX0
import Derived.Test.YtcjcocffhljggaaX5
import Derived.Test.YtcjcocffhljggaaX11
import Derived.Test.YtcjcocffhljggaaX15
import Derived.Test.YtcjcocffhljggaaX26
import Derived.Test.YtcjcocffhljggaaX27
namespace Go.Proofs.Ytcjcocffhljggaa.X
open Go.RowKit Go.Proofs.YtcjcocffhljggaaW.PrintWords Go.Proofs.YtcjcocffhljggaaW.PrintLast Go.Proofs.YtcjcocffhljggaaW.PrintMore
attribute [local go_sem] max2_int min2_int max_two min_two max_three min_three max_four min_four   -- for this text's walks alone
set_option linter.unusedVariables false
set_option linter.unusedSimpArgs false

/-! ### laws_FnExactLessenGaps: function 16 -/
mutual
def laws_FnExactLessenGaps.j0 : Nat → Int → Int → Int → Bool → List Int → List Int → List Int → List Int → Option (Bool)
  | 0, _, _, _, _, _, _, _, _ => none
  | k + 1, x1, x7, x10, x44, x665000, x674000, x678000, x683000 => if x44 = true then (some false) else ((laws_toTasks.f k x665000).bind fun t684 => ((laws_eqTasks.f k x678000 t684).bind fun t687 => (if t687 = true then ((laws_markTasks.f k x678000 1).bind fun bt688 => (if bt688.1 < 0 then (laws_FnExactLessenGaps.j1 k x1 x7 true x665000 x674000 x683000) else ((laws_eqTasks.f k x683000 x674000).bind fun t690 => (if t690 = true then (laws_FnExactLessenGaps.j1 k x1 x7 (x10 != x7) x665000 x674000 x683000) else (laws_FnExactLessenGaps.j1 k x1 x7 true x665000 x674000 x683000))))) else (some false))))
def laws_FnExactLessenGaps.j1 : Nat → Int → Int → Bool → List Int → List Int → List Int → Option (Bool)
  | 0, _, _, _, _, _, _ => none
  | k + 1, x1, x7, x65, x665000, x674000, x683000 => if x65 = true then (some false) else ((laws_markTasks.f k x683000 1).bind fun bt691 => ((laws_heldTasks.f k bt691.2 1).bind fun t693 => (if t693 < 0 then (some false) else (if t693 = bt691.1 then ((laws_toTasks.f k x665000).bind fun t694 => ((impl_LessenGaps.f k t694 x1).bind fun bt697 => ((laws_eqTasks.f k bt697.1 x674000).bind fun t702 => (if t702 = true then (laws_FnExactLessenGaps.j2 k bt691.1 (bt697.2 != x7) bt691.2) else (laws_FnExactLessenGaps.j2 k bt691.1 true bt691.2))))) else (some false)))))
def laws_FnExactLessenGaps.j2 : Nat → Int → Bool → List Int → Option (Bool)
  | 0, _, _, _ => none
  | k + 1, x12, x92, x683000 => if x92 = true then (some false) else ((laws_heldTasks.f k x683000 1).bind fun t703 => (if t703 < 0 then (some false) else (if t703 = x12 then (some true) else (some false))))
end
def laws_FnExactLessenGaps.f (k : Nat) (l0_0 : List Int) (a1 : Int) : Option (Bool) := (laws_szTasks.f l0_0 1048576).bind fun t665 => (if t665 < 0 then (some true) else ((laws_toTasks.f k l0_0).bind fun t666 => ((spec_LessenGaps.f k t666 a1).bind fun bt669 => ((laws_toTasks.f k l0_0).bind fun t674 => ((impl_LessenGaps.f k t674 a1).bind fun bt678 => ((laws_eqTasks.f k bt678.1 bt669.1).bind fun t683 => (if t683 = true then (laws_FnExactLessenGaps.j0 k a1 bt669.2 bt678.2 (bt678.2 != bt669.2) l0_0 bt669.1 t674 bt678.1) else (laws_FnExactLessenGaps.j0 k a1 bt669.2 bt678.2 true l0_0 bt669.1 t674 bt678.1))))))))
theorem laws_FnExactLessenGaps.mono_l : ∀ k, (∀ y0 y1 y2 y3 y4 y5 y6 y7, LeO (laws_FnExactLessenGaps.j0 k y0 y1 y2 y3 y4 y5 y6 y7) (laws_FnExactLessenGaps.j0 (k + 1) y0 y1 y2 y3 y4 y5 y6 y7)) ∧ (∀ y0 y1 y2 y3 y4 y5, LeO (laws_FnExactLessenGaps.j1 k y0 y1 y2 y3 y4 y5) (laws_FnExactLessenGaps.j1 (k + 1) y0 y1 y2 y3 y4 y5)) ∧ (∀ y0 y1 y2, LeO (laws_FnExactLessenGaps.j2 k y0 y1 y2) (laws_FnExactLessenGaps.j2 (k + 1) y0 y1 y2))
  | 0 => ⟨fun _ _ _ _ _ _ _ _ r h => by simp [laws_FnExactLessenGaps.j0] at h, fun _ _ _ _ _ _ r h => by simp [laws_FnExactLessenGaps.j1] at h, fun _ _ _ r h => by simp [laws_FnExactLessenGaps.j2] at h⟩
  | k + 1 => by
    obtain ⟨ih0, ih1, ih2⟩ := laws_FnExactLessenGaps.mono_l k
    refine ⟨?_, ?_, ?_⟩
    · intro y0 y1 y2 y3 y4 y5 y6 y7
      unfold laws_FnExactLessenGaps.j0
      repeat' first
      | (with_reducible exact ih0 _ _ _ _ _ _ _ _)
      | (with_reducible exact ih1 _ _ _ _ _ _)
      | (with_reducible exact ih2 _ _ _)
      | (with_reducible exact impl_LessenGaps.mono _ _ _)
      | (with_reducible exact laws_eqTasks.mono _ _ _)
      | (with_reducible exact laws_heldTasks.mono _ _ _)
      | (with_reducible exact laws_markTasks.mono _ _ _)
      | (with_reducible exact laws_toTasks.mono _ _)
      | (with_reducible exact spec_LessenGaps.mono _ _ _)
      | (with_reducible exact LeO.refl _)
      | (with_reducible exact LeO.none _)
      | (with_reducible refine LeO.ite ?_ ?_)
      | (with_reducible refine LeO.bind ?_ (fun _ => ?_))
      | exact ih0 _ _ _ _ _ _ _ _
      | exact ih1 _ _ _ _ _ _
      | exact ih2 _ _ _
      | exact impl_LessenGaps.mono _ _ _
      | exact laws_eqTasks.mono _ _ _
      | exact laws_heldTasks.mono _ _ _
      | exact laws_markTasks.mono _ _ _
      | exact laws_toTasks.mono _ _
      | exact spec_LessenGaps.mono _ _ _
      | exact LeO.none _
      | refine LeO.ite ?_ ?_
      | refine LeO.bind ?_ (fun _ => ?_)
    · intro y0 y1 y2 y3 y4 y5
      unfold laws_FnExactLessenGaps.j1
      repeat' first
      | (with_reducible exact ih0 _ _ _ _ _ _ _ _)
      | (with_reducible exact ih1 _ _ _ _ _ _)
      | (with_reducible exact ih2 _ _ _)
      | (with_reducible exact impl_LessenGaps.mono _ _ _)
      | (with_reducible exact laws_eqTasks.mono _ _ _)
      | (with_reducible exact laws_heldTasks.mono _ _ _)
      | (with_reducible exact laws_markTasks.mono _ _ _)
      | (with_reducible exact laws_toTasks.mono _ _)
      | (with_reducible exact spec_LessenGaps.mono _ _ _)
      | (with_reducible exact LeO.refl _)
      | (with_reducible exact LeO.none _)
      | (with_reducible refine LeO.ite ?_ ?_)
      | (with_reducible refine LeO.bind ?_ (fun _ => ?_))
      | exact ih0 _ _ _ _ _ _ _ _
      | exact ih1 _ _ _ _ _ _
      | exact ih2 _ _ _
      | exact impl_LessenGaps.mono _ _ _
      | exact laws_eqTasks.mono _ _ _
      | exact laws_heldTasks.mono _ _ _
      | exact laws_markTasks.mono _ _ _
      | exact laws_toTasks.mono _ _
      | exact spec_LessenGaps.mono _ _ _
      | exact LeO.none _
      | refine LeO.ite ?_ ?_
      | refine LeO.bind ?_ (fun _ => ?_)
    · intro y0 y1 y2
      unfold laws_FnExactLessenGaps.j2
      repeat' first
      | (with_reducible exact ih0 _ _ _ _ _ _ _ _)
      | (with_reducible exact ih1 _ _ _ _ _ _)
      | (with_reducible exact ih2 _ _ _)
      | (with_reducible exact impl_LessenGaps.mono _ _ _)
      | (with_reducible exact laws_eqTasks.mono _ _ _)
      | (with_reducible exact laws_heldTasks.mono _ _ _)
      | (with_reducible exact laws_markTasks.mono _ _ _)
      | (with_reducible exact laws_toTasks.mono _ _)
      | (with_reducible exact spec_LessenGaps.mono _ _ _)
      | (with_reducible exact LeO.refl _)
      | (with_reducible exact LeO.none _)
      | (with_reducible refine LeO.ite ?_ ?_)
      | (with_reducible refine LeO.bind ?_ (fun _ => ?_))
      | exact ih0 _ _ _ _ _ _ _ _
      | exact ih1 _ _ _ _ _ _
      | exact ih2 _ _ _
      | exact impl_LessenGaps.mono _ _ _
      | exact laws_eqTasks.mono _ _ _
      | exact laws_heldTasks.mono _ _ _
      | exact laws_markTasks.mono _ _ _
      | exact laws_toTasks.mono _ _
      | exact spec_LessenGaps.mono _ _ _
      | exact LeO.none _
      | refine LeO.ite ?_ ?_
      | refine LeO.bind ?_ (fun _ => ?_)
theorem laws_FnExactLessenGaps.mono : ∀ a0 a1 k, LeO (laws_FnExactLessenGaps.f k a0 a1) (laws_FnExactLessenGaps.f (k + 1) a0 a1) := by
  intro a0 a1 k
  obtain ⟨ih0, ih1, ih2⟩ := laws_FnExactLessenGaps.mono_l k
  unfold laws_FnExactLessenGaps.f
  repeat' first
      | (with_reducible exact ih0 _ _ _ _ _ _ _ _)
      | (with_reducible exact ih1 _ _ _ _ _ _)
      | (with_reducible exact ih2 _ _ _)
      | (with_reducible exact impl_LessenGaps.mono _ _ _)
      | (with_reducible exact laws_eqTasks.mono _ _ _)
      | (with_reducible exact laws_heldTasks.mono _ _ _)
      | (with_reducible exact laws_markTasks.mono _ _ _)
      | (with_reducible exact laws_toTasks.mono _ _)
      | (with_reducible exact spec_LessenGaps.mono _ _ _)
      | (with_reducible exact LeO.refl _)
      | (with_reducible exact LeO.none _)
      | (with_reducible refine LeO.ite ?_ ?_)
      | (with_reducible refine LeO.bind ?_ (fun _ => ?_))
      | exact ih0 _ _ _ _ _ _ _ _
      | exact ih1 _ _ _ _ _ _
      | exact ih2 _ _ _
      | exact impl_LessenGaps.mono _ _ _
      | exact laws_eqTasks.mono _ _ _
      | exact laws_heldTasks.mono _ _ _
      | exact laws_markTasks.mono _ _ _
      | exact laws_toTasks.mono _ _
      | exact spec_LessenGaps.mono _ _ _
      | exact LeO.none _
      | refine LeO.ite ?_ ?_
      | refine LeO.bind ?_ (fun _ => ?_)
set_option maxHeartbeats 8000000 in
set_option maxRecDepth 100000 in
theorem laws_FnExactLessenGaps.calls (k : Nat) (A0_0 : Option Addr) (c0_0 : Nat) (l0_0 : List Int) (a1 : Int) (r : Bool) (w : World) (hr0_0 : Kd.C (Kd.int .i64) w A0_0 l0_0.length l0_0) (hc0_0 : l0_0.length ≤ c0_0) (h : laws_FnExactLessenGaps.f k l0_0 a1 = some r) :
    Calls Try.prog 16 #[.agg #[.slice A0_0 l0_0.length c0_0], .int .i64 a1] w fun e w' => e = .returned (.bool r) ∧ Below w.heap.size w w' := by
  have hu24 := Try.underlying24
  have hu28 := Try.underlying28
  have HR0_0 := Aside0.mk hr0_0
  have HC0_0 := Aside0.mk hc0_0
  clear hr0_0 hc0_0
  have HB := Aside0.mk (Below.refl w.heap.size w)
  have H : ((laws_szTasks.f l0_0 1048576).bind fun t665 => (if t665 < 0 then (some true) else ((laws_toTasks.f k l0_0).bind fun t666 => ((spec_LessenGaps.f k t666 a1).bind fun bt669 => ((laws_toTasks.f k l0_0).bind fun t674 => ((impl_LessenGaps.f k t674 a1).bind fun bt678 => ((laws_eqTasks.f k bt678.1 bt669.1).bind fun t683 => (if t683 = true then (laws_FnExactLessenGaps.j0 k a1 bt669.2 bt678.2 (bt678.2 != bt669.2) l0_0 bt669.1 t674 bt678.1) else (laws_FnExactLessenGaps.j0 k a1 bt669.2 bt678.2 true l0_0 bt669.1 t674 bt678.1))))))))) = some r := h
  clear h
  replace H := Option.bind_eq_some_iff.mp H
  obtain ⟨t665, A30, H⟩ := H
  replace H : (if t665 < 0 then (some true) else ((laws_toTasks.f k l0_0).bind fun t666 => ((spec_LessenGaps.f k t666 a1).bind fun bt669 => ((laws_toTasks.f k l0_0).bind fun t674 => ((impl_LessenGaps.f k t674 a1).bind fun bt678 => ((laws_eqTasks.f k bt678.1 bt669.1).bind fun t683 => (if t683 = true then (laws_FnExactLessenGaps.j0 k a1 bt669.2 bt678.2 (bt678.2 != bt669.2) l0_0 bt669.1 t674 bt678.1) else (laws_FnExactLessenGaps.j0 k a1 bt669.2 bt678.2 true l0_0 bt669.1 t674 bt678.1)))))))) = some r := H
  have A3 := Aside0.mk A30
  clear A30
  by_cases c4 : t665 < 0
  · rw [if_pos c4] at H
    have c4b0 : decide (t665 < 0) = true := decide_eq_true c4
    clear c4
    obtain rfl := Option.some.inj H
    go_enter Try.func16, Try.ntmps16
    go_wp2_with (first | ((with_reducible refine gate_dst (N := 2) rfl ?_); refine box_event ?hg (N := 2) ?hd (cs := #[.slice A0_0 l0_0.length c0_0]) (t := 24) ?hr ?_; (case hd => rfl); (case hg => rfl); (case hr => first | (go_simp; done) | (go_simp; rfl)); intro gb664 hg w5 hbox hb; have n0_ := Aside0.mk (below_step (by repeat (first | (with_reducible first | exact HB.out | apply below_alloc | apply pw_below_drewN | apply below_drew1) | exact HB.out)) hb); have n1_ := Aside0.mk (hbox); have n2_ := Aside0.mk ((by rw [hg]; exact (below_size (by repeat (first | (with_reducible first | exact HB.out | apply below_alloc | apply pw_below_drewN | apply below_drew1) | exact HB.out))) : w.heap.size ≤ gb664)); have n3_ := Aside0.mk ((by rw [hg]; exact (below_size (by repeat (first | (with_reducible first | exact HB.out | apply below_alloc | apply pw_below_drewN | apply below_drew1) | exact HB.out))) : w.heap.size ≤ gb664)); clear HB; have HB := n0_; have BK664 := n1_; have GW664 := n2_; have GE664 := n3_; clear n0_ n1_ n2_ n3_; clear hb hbox hg; have hcz6_0 : w5.cell? ⟨gb664, 0, none⟩ = some (.slice A0_0 l0_0.length c0_0) := (blk_cell BK664.out 0).trans rfl; have hfz6_0 := blk_frozen BK664.out 0) | ((with_reducible refine gate_callee (f := 17) rfl ?_); refine goesL_ (some 18) rfl rfl Try.func17 (by kernel_rfl) rfl #[.agg #[.slice A0_0 l0_0.length c0_0], .int .i64 1048576] rfl (by (try simp only [List.map_toArray, List.map_cons, List.map_nil]); first | done | rfl | (simp only [List.length_drop, List.length_take]; rfl)) ?_; (with_reducible refine (laws_szTasks.calls _ _ l0_0 1048576 t665 _ ?side1 ?side2 A3.out).mono ?_); (case side1 => repeat (first | exact (Kd.C_below HR0_0.out HB.out) | (with_reducible refine Kd.C_alloc ?_ _) | (with_reducible refine Kd.C_drewN ?_ _) | (with_reducible refine Kd.C_drew ?_))); (case side2 => exact HC0_0.out); rintro e w7 ⟨rfl, hb⟩; refine ⟨_, rfl, ?_⟩; have n0_ := Aside0.mk (blk_below (g := gb664) (o := .cells #[.slice A0_0 l0_0.length c0_0] 24 (0, 0)) (by (with_reducible repeat (first | refine blk_drewN ?_ _ | refine blk_drew ?_ | refine blk_alloc ?_ _)); exact BK664.out) hb); have n1_ := Aside0.mk (below_step (by repeat (first | (with_reducible first | exact HB.out | apply below_alloc | apply pw_below_drewN | apply below_drew1 | refine below_set ?_ GE664.out) | exact HB.out)) hb); clear BK664; clear HB; have BK664 := n0_; have HB := n1_; clear n0_ n1_; (try clear hb); (try clear hb2); (try clear hk); (try clear hi)))
    go_ret
    exact ⟨by first | rfl | (simp [errW_none, errW_some] <;> rfl) | (simp [*, errW_none, errW_some] <;> rfl), by repeat (first | (with_reducible first | exact HB.out | apply below_alloc | apply pw_below_drewN | apply below_drew1 | refine below_set ?_ GE664.out) | exact HB.out)⟩
  · rw [if_neg c4] at H
    have c4b0 : decide (t665 < 0) = false := decide_eq_false c4
    clear c4
    replace H := Option.bind_eq_some_iff.mp H
    obtain ⟨t666, A80, H⟩ := H
    replace H : ((spec_LessenGaps.f k t666 a1).bind fun bt669 => ((laws_toTasks.f k l0_0).bind fun t674 => ((impl_LessenGaps.f k t674 a1).bind fun bt678 => ((laws_eqTasks.f k bt678.1 bt669.1).bind fun t683 => (if t683 = true then (laws_FnExactLessenGaps.j0 k a1 bt669.2 bt678.2 (bt678.2 != bt669.2) l0_0 bt669.1 t674 bt678.1) else (laws_FnExactLessenGaps.j0 k a1 bt669.2 bt678.2 true l0_0 bt669.1 t674 bt678.1)))))) = some r := H
    have A8 := Aside0.mk A80
    clear A80
    replace H := Option.bind_eq_some_iff.mp H
    obtain ⟨⟨t669, t672⟩, A90, H⟩ := H
    replace H : ((laws_toTasks.f k l0_0).bind fun t674 => ((impl_LessenGaps.f k t674 a1).bind fun bt678 => ((laws_eqTasks.f k bt678.1 t669).bind fun t683 => (if t683 = true then (laws_FnExactLessenGaps.j0 k a1 t672 bt678.2 (bt678.2 != t672) l0_0 t669 t674 bt678.1) else (laws_FnExactLessenGaps.j0 k a1 t672 bt678.2 true l0_0 t669 t674 bt678.1))))) = some r := H
    have A9 := Aside0.mk A90
    clear A90
    replace H := Option.bind_eq_some_iff.mp H
    obtain ⟨t674, A100, H⟩ := H
    replace H : ((impl_LessenGaps.f k t674 a1).bind fun bt678 => ((laws_eqTasks.f k bt678.1 t669).bind fun t683 => (if t683 = true then (laws_FnExactLessenGaps.j0 k a1 t672 bt678.2 (bt678.2 != t672) l0_0 t669 t674 bt678.1) else (laws_FnExactLessenGaps.j0 k a1 t672 bt678.2 true l0_0 t669 t674 bt678.1)))) = some r := H
    have A10 := Aside0.mk A100
    clear A100
    replace H := Option.bind_eq_some_iff.mp H
    obtain ⟨⟨t678, t681⟩, A110, H⟩ := H
    replace H : ((laws_eqTasks.f k t678 t669).bind fun t683 => (if t683 = true then (laws_FnExactLessenGaps.j0 k a1 t672 t681 (t681 != t672) l0_0 t669 t674 t678) else (laws_FnExactLessenGaps.j0 k a1 t672 t681 true l0_0 t669 t674 t678))) = some r := H
    have A11 := Aside0.mk A110
    clear A110
    have HC12 := Aside0.mk H
    clear H
    go_enter Try.func16, Try.ntmps16
    go_upto_region 8 with (first | ((with_reducible refine gate_dst (N := 2) rfl ?_); refine box_event ?hg (N := 2) ?hd (cs := #[.slice A0_0 l0_0.length c0_0]) (t := 24) ?hr ?_; (case hd => rfl); (case hg => rfl); (case hr => first | (go_simp; done) | (go_simp; rfl)); intro gb664 hg w13 hbox hb; have n0_ := Aside0.mk (below_step (by repeat (first | (with_reducible first | exact HB.out | apply below_alloc | apply pw_below_drewN | apply below_drew1) | exact HB.out)) hb); have n1_ := Aside0.mk (hbox); have n2_ := Aside0.mk ((by rw [hg]; exact (below_size (by repeat (first | (with_reducible first | exact HB.out | apply below_alloc | apply pw_below_drewN | apply below_drew1) | exact HB.out))) : w.heap.size ≤ gb664)); have n3_ := Aside0.mk ((by rw [hg]; exact (below_size (by repeat (first | (with_reducible first | exact HB.out | apply below_alloc | apply pw_below_drewN | apply below_drew1) | exact HB.out))) : w.heap.size ≤ gb664)); clear HB; have HB := n0_; have BK664 := n1_; have GW664 := n2_; have GE664 := n3_; clear n0_ n1_ n2_ n3_; clear hb hbox hg; have hcz14_0 : w13.cell? ⟨gb664, 0, none⟩ = some (.slice A0_0 l0_0.length c0_0) := (blk_cell BK664.out 0).trans rfl; have hfz14_0 := blk_frozen BK664.out 0) | ((with_reducible refine gate_callee (f := 17) rfl ?_); refine goesL_ (some 18) rfl rfl Try.func17 (by kernel_rfl) rfl #[.agg #[.slice A0_0 l0_0.length c0_0], .int .i64 1048576] rfl (by (try simp only [List.map_toArray, List.map_cons, List.map_nil]); first | done | rfl | (simp only [List.length_drop, List.length_take]; rfl)) ?_; (with_reducible refine (laws_szTasks.calls _ _ l0_0 1048576 t665 _ ?side1 ?side2 A3.out).mono ?_); (case side1 => repeat (first | exact (Kd.C_below HR0_0.out HB.out) | (with_reducible refine Kd.C_alloc ?_ _) | (with_reducible refine Kd.C_drewN ?_ _) | (with_reducible refine Kd.C_drew ?_))); (case side2 => exact HC0_0.out); rintro e w15 ⟨rfl, hb⟩; refine ⟨_, rfl, ?_⟩; have n0_ := Aside0.mk (blk_below (g := gb664) (o := .cells #[.slice A0_0 l0_0.length c0_0] 24 (0, 0)) (by (with_reducible repeat (first | refine blk_drewN ?_ _ | refine blk_drew ?_ | refine blk_alloc ?_ _)); exact BK664.out) hb); have n1_ := Aside0.mk (below_step (by repeat (first | (with_reducible first | exact HB.out | apply below_alloc | apply pw_below_drewN | apply below_drew1 | refine below_set ?_ GE664.out) | exact HB.out)) hb); clear BK664; clear HB; have BK664 := n0_; have HB := n1_; clear n0_ n1_; (try clear hb); (try clear hb2); (try clear hk); (try clear hi); have hcz16_0 : w15.cell? ⟨gb664, 0, none⟩ = some (.slice A0_0 l0_0.length c0_0) := (blk_cell BK664.out 0).trans rfl; have hfz16_0 := blk_frozen BK664.out 0) | ((with_reducible refine gate_callee (f := 19) rfl ?_); refine goesL_ (some 23) rfl rfl Try.func19 (by kernel_rfl) rfl #[.agg #[.slice A0_0 l0_0.length c0_0]] rfl (by (try simp only [List.map_toArray, List.map_cons, List.map_nil]); first | done | rfl | (simp only [List.length_drop, List.length_take]; rfl)) ?_; (with_reducible refine (laws_toTasks.calls k _ _ l0_0 t666 _ ?side1 ?side2 A8.out).mono ?_); (case side1 => repeat (first | exact (Kd.C_below HR0_0.out HB.out) | (with_reducible refine Kd.C_alloc ?_ _) | (with_reducible refine Kd.C_drewN ?_ _) | (with_reducible refine Kd.C_drew ?_))); (case side2 => exact HC0_0.out); rintro e w17 ⟨v667, rfl, ho0, hb⟩; refine ⟨_, rfl, ?_⟩; have n0_ := Aside0.mk (Kd.R_lower ho0 (below_size (by repeat (first | (with_reducible first | exact HB.out | apply below_alloc | apply pw_below_drewN | apply below_drew1 | refine below_set ?_ GE664.out) | exact HB.out)))); have n1_ := Aside0.mk (blk_below (g := gb664) (o := .cells #[.slice A0_0 l0_0.length c0_0] 24 (0, 0)) (by (with_reducible repeat (first | refine blk_drewN ?_ _ | refine blk_drew ?_ | refine blk_alloc ?_ _)); exact BK664.out) hb); have n2_ := Aside0.mk (below_step (by repeat (first | (with_reducible first | exact HB.out | apply below_alloc | apply pw_below_drewN | apply below_drew1 | refine below_set ?_ GE664.out) | exact HB.out)) hb); clear BK664; clear HB; have HO668 := n0_; have BK664 := n1_; have HB := n2_; clear n0_ n1_ n2_; (try clear hb); (try clear hb2); (try clear hk); (try clear hi); (try clear ho0); obtain ⟨Ao18, co18, eo18⟩ := Kd.R_slice HO668.out; subst eo18) | ((with_reducible refine gate_callee (f := 55) rfl ?_); refine goesL_ (some 25) rfl rfl Try.func55 (by kernel_rfl) rfl #[.agg #[.slice Ao18 t666.length co18], .int .i64 a1] rfl (by (try simp only [List.map_toArray, List.map_cons, List.map_nil]); first | done | rfl | (simp only [List.length_drop, List.length_take]; rfl)) ?_; (with_reducible refine (spec_LessenGaps.calls k _ _ t666 a1 t669 t672 _ ?side1 ?side2 A9.out).mono ?_); (case side1 => repeat (first | exact (Kd.R_reads' HO668.out).2.2 | (with_reducible refine Kd.C_alloc ?_ _) | (with_reducible refine Kd.C_drewN ?_ _) | (with_reducible refine Kd.C_drew ?_))); (case side2 => exact (Kd.R_reads' HO668.out).2.1); rintro e w19 ⟨v670, rfl, ho0, hb⟩; refine ⟨_, rfl, ?_⟩; have n0_ := Aside0.mk (Kd.R_elder' (by (with_reducible repeat (first | apply Kd.R_alloc | apply Kd.R_drewN | apply Kd.R_drew)); exact HO668.out) (Kd.R_base ho0) hb); have n1_ := Aside0.mk (Kd.R_lower (Kd.R_new' ho0 (Kd.R_lt (by (with_reducible repeat (first | apply Kd.R_alloc | apply Kd.R_drewN | apply Kd.R_drew)); exact HO668.out))) (below_size (by repeat (first | (with_reducible first | exact HB.out | apply below_alloc | apply pw_below_drewN | apply below_drew1 | refine below_set ?_ GE664.out) | exact HB.out)))); have n2_ := Aside0.mk (blk_below (g := gb664) (o := .cells #[.slice A0_0 l0_0.length c0_0] 24 (0, 0)) (by (with_reducible repeat (first | refine blk_drewN ?_ _ | refine blk_drew ?_ | refine blk_alloc ?_ _)); exact BK664.out) hb); have n3_ := Aside0.mk (below_step (by repeat (first | (with_reducible first | exact HB.out | apply below_alloc | apply pw_below_drewN | apply below_drew1 | refine below_set ?_ GE664.out) | exact HB.out)) hb); clear HO668; clear BK664; clear HB; have HO668 := n0_; have HO671 := n1_; have BK664 := n2_; have HB := n3_; clear n0_ n1_ n2_ n3_; (try clear hb); (try clear hb2); (try clear hk); (try clear hi); (try clear ho0)) | ((with_reducible refine gate_dst (N := 6) rfl ?_); refine box_event ?hg (N := 6) ?hd (cs := #[.slice none 0 0]) (t := 28) ?hr ?_; (case hd => rfl); (case hg => rfl); (case hr => first | (go_simp; done) | (go_simp; rfl)); intro gb673 hg w20 hbox hb; have n0_ := Aside0.mk (Kd.R_below (by (with_reducible repeat (first | apply Kd.R_alloc | apply Kd.R_drewN | apply Kd.R_drew)); exact HO668.out) hb); have n1_ := Aside0.mk (Kd.R_below (by (with_reducible repeat (first | apply Kd.R_alloc | apply Kd.R_drewN | apply Kd.R_drew)); exact HO671.out) hb); have n2_ := Aside0.mk (blk_below (g := gb664) (o := .cells #[.slice A0_0 l0_0.length c0_0] 24 (0, 0)) (by (with_reducible repeat (first | refine blk_drewN ?_ _ | refine blk_drew ?_ | refine blk_alloc ?_ _)); exact BK664.out) hb); have n3_ := Aside0.mk (below_step (by repeat (first | (with_reducible first | exact HB.out | apply below_alloc | apply pw_below_drewN | apply below_drew1 | refine below_set ?_ GE664.out) | exact HB.out)) hb); have n4_ := Aside0.mk (hbox); have n5_ := Aside0.mk ((by rw [hg]; exact (below_size (by repeat (first | (with_reducible first | exact HB.out | apply below_alloc | apply pw_below_drewN | apply below_drew1 | refine below_set ?_ GE664.out) | exact HB.out))) : w.heap.size ≤ gb673)); have n6_ := Aside0.mk ((by rw [hg]; exact (below_size (by repeat (first | (with_reducible first | exact HB.out | apply below_alloc | apply pw_below_drewN | apply below_drew1 | refine below_set ?_ GE664.out) | exact HB.out))) : w.heap.size ≤ gb673)); have n7_ := Aside0.mk ((by rw [hg]; exact Nat.ne_of_lt (blk_lt (g := gb664) (o := .cells #[.slice A0_0 l0_0.length c0_0] 24 (0, 0)) (by (with_reducible repeat (first | refine blk_drewN ?_ _ | refine blk_drew ?_ | refine blk_alloc ?_ _)); exact BK664.out)) : gb664 ≠ gb673)); have n8_ := Aside0.mk ((by rw [hg]; exact Nat.ne_of_gt (blk_lt (g := gb664) (o := .cells #[.slice A0_0 l0_0.length c0_0] 24 (0, 0)) (by (with_reducible repeat (first | refine blk_drewN ?_ _ | refine blk_drew ?_ | refine blk_alloc ?_ _)); exact BK664.out)) : gb673 ≠ gb664)); clear HO668; clear HO671; clear BK664; clear HB; have HO668 := n0_; have HO671 := n1_; have BK664 := n2_; have HB := n3_; have BK673 := n4_; have GW673 := n5_; have GE673 := n6_; have NB664_673 := n7_; have NB673_664 := n8_; clear n0_ n1_ n2_ n3_ n4_ n5_ n6_ n7_ n8_; clear hb hbox hg; obtain ⟨Ao21, co21, eo21⟩ := Kd.R_slice HO671.out; subst eo21; have hnb22 := NB673_664.out; have hnc22 := NB664_673.out; have hcz23_0 : w20.cell? ⟨gb673, 0, none⟩ = some (.slice none 0 0) := (blk_cell BK673.out 0).trans rfl; have hfz23_0 := blk_frozen BK673.out 0; have hcz24_0 : w20.cell? ⟨gb664, 0, none⟩ = some (.slice A0_0 l0_0.length c0_0) := (blk_cell BK664.out 0).trans rfl; have hfz24_0 := blk_frozen BK664.out 0) | ((with_reducible refine gate_callee (f := 19) rfl ?_); refine goesL_ (some 29) rfl rfl Try.func19 (by kernel_rfl) rfl #[.agg #[.slice A0_0 l0_0.length c0_0]] rfl (by (try simp only [List.map_toArray, List.map_cons, List.map_nil]); first | done | rfl | (simp only [List.length_drop, List.length_take]; rfl)) ?_; (with_reducible refine (laws_toTasks.calls k _ _ l0_0 t674 _ ?side1 ?side2 A10.out).mono ?_); (case side1 => exact Kd.C_below HR0_0.out (by repeat (first | (with_reducible first | exact HB.out | apply below_alloc | apply pw_below_drewN | apply below_drew1 | refine below_set ?_ GE664.out | refine below_set ?_ GE673.out) | exact HB.out))); (case side2 => exact HC0_0.out); rintro e w25 ⟨v675, rfl, ho0, hb⟩; refine ⟨_, rfl, ?_⟩; have n0_ := Aside0.mk (Kd.R_elder' (by (with_reducible repeat (first | apply Kd.R_alloc | apply Kd.R_drewN | apply Kd.R_drew)); exact (Kd.R_mono (Kd.R_far (p := ⟨gb673, 0, none⟩) (Kd.R_types HO668.out BK673.out (by decide)) (fun _ hk => hk.2) (.slice Ao21 t669.length co21)) (fun _ h_ => h_.1))) (Kd.R_base ho0) hb); have n1_ := Aside0.mk (Kd.R_elder' (by (with_reducible repeat (first | apply Kd.R_alloc | apply Kd.R_drewN | apply Kd.R_drew)); exact (Kd.R_mono (Kd.R_far (p := ⟨gb673, 0, none⟩) (Kd.R_types HO671.out BK673.out (by decide)) (fun _ hk => hk.2) (.slice Ao21 t669.length co21)) (fun _ h_ => h_.1))) (Kd.R_base ho0) hb); have n2_ := Aside0.mk (Kd.R_lower (Kd.R_new' (Kd.R_new' ho0 (Kd.R_lt (by (with_reducible repeat (first | apply Kd.R_alloc | apply Kd.R_drewN | apply Kd.R_drew)); exact (Kd.R_mono (Kd.R_far (p := ⟨gb673, 0, none⟩) (Kd.R_types HO668.out BK673.out (by decide)) (fun _ hk => hk.2) (.slice Ao21 t669.length co21)) (fun _ h_ => h_.1))))) (Kd.R_lt (by (with_reducible repeat (first | apply Kd.R_alloc | apply Kd.R_drewN | apply Kd.R_drew)); exact (Kd.R_mono (Kd.R_far (p := ⟨gb673, 0, none⟩) (Kd.R_types HO671.out BK673.out (by decide)) (fun _ hk => hk.2) (.slice Ao21 t669.length co21)) (fun _ h_ => h_.1))))) (below_size (by repeat (first | (with_reducible first | exact HB.out | apply below_alloc | apply pw_below_drewN | apply below_drew1 | refine below_set ?_ GE664.out | refine below_set ?_ GE673.out) | exact HB.out)))); have n3_ := Aside0.mk (blk_below (g := gb664) (o := .cells #[.slice A0_0 l0_0.length c0_0] 24 (0, 0)) (by (with_reducible repeat (first | refine blk_drewN ?_ _ | refine blk_drew ?_ | refine blk_alloc ?_ _)); refine blk_far ?_ NB664_673.out _; (with_reducible repeat (first | refine blk_drewN ?_ _ | refine blk_drew ?_ | refine blk_alloc ?_ _)); exact BK664.out) hb); have n4_ := Aside0.mk (blk_below (g := gb673) (o := .cells #[.slice Ao21 t669.length co21] 28 (0, 0)) (by (with_reducible repeat (first | refine blk_drewN ?_ _ | refine blk_drew ?_ | refine blk_alloc ?_ _)); refine blk_put (cs := #[.slice none 0 0]) ?_ 0 _ rfl; (with_reducible repeat (first | refine blk_drewN ?_ _ | refine blk_drew ?_ | refine blk_alloc ?_ _)); exact BK673.out) hb); have n5_ := Aside0.mk (below_step (by repeat (first | (with_reducible first | exact HB.out | apply below_alloc | apply pw_below_drewN | apply below_drew1 | refine below_set ?_ GE664.out | refine below_set ?_ GE673.out) | exact HB.out)) hb); clear HO668; clear HO671; clear BK664; clear BK673; clear HB; have HO668 := n0_; have HO671 := n1_; have HO676 := n2_; have BK664 := n3_; have BK673 := n4_; have HB := n5_; clear n0_ n1_ n2_ n3_ n4_ n5_; (try clear hb); (try clear hb2); (try clear hk); (try clear hi); (try clear ho0)) | ((with_reducible refine gate_dst (N := 8) rfl ?_); refine box_event ?hg (N := 8) ?hd (cs := #[.slice none 0 0]) (t := 28) ?hr ?_; (case hd => rfl); (case hg => rfl); (case hr => first | (go_simp; done) | (go_simp; rfl)); intro gb677 hg w26 hbox hb; have n0_ := Aside0.mk (Kd.R_below (by (with_reducible repeat (first | apply Kd.R_alloc | apply Kd.R_drewN | apply Kd.R_drew)); exact HO668.out) hb); have n1_ := Aside0.mk (Kd.R_below (by (with_reducible repeat (first | apply Kd.R_alloc | apply Kd.R_drewN | apply Kd.R_drew)); exact HO671.out) hb); have n2_ := Aside0.mk (Kd.R_below (by (with_reducible repeat (first | apply Kd.R_alloc | apply Kd.R_drewN | apply Kd.R_drew)); exact HO676.out) hb); have n3_ := Aside0.mk (blk_below (g := gb664) (o := .cells #[.slice A0_0 l0_0.length c0_0] 24 (0, 0)) (by (with_reducible repeat (first | refine blk_drewN ?_ _ | refine blk_drew ?_ | refine blk_alloc ?_ _)); exact BK664.out) hb); have n4_ := Aside0.mk (blk_below (g := gb673) (o := .cells #[.slice Ao21 t669.length co21] 28 (0, 0)) (by (with_reducible repeat (first | refine blk_drewN ?_ _ | refine blk_drew ?_ | refine blk_alloc ?_ _)); exact BK673.out) hb); have n5_ := Aside0.mk (below_step (by repeat (first | (with_reducible first | exact HB.out | apply below_alloc | apply pw_below_drewN | apply below_drew1 | refine below_set ?_ GE664.out | refine below_set ?_ GE673.out) | exact HB.out)) hb); have n6_ := Aside0.mk (hbox); have n7_ := Aside0.mk ((by rw [hg]; exact (below_size (by repeat (first | (with_reducible first | exact HB.out | apply below_alloc | apply pw_below_drewN | apply below_drew1 | refine below_set ?_ GE664.out | refine below_set ?_ GE673.out) | exact HB.out))) : w.heap.size ≤ gb677)); have n8_ := Aside0.mk ((by rw [hg]; exact (below_size (by repeat (first | (with_reducible first | exact HB.out | apply below_alloc | apply pw_below_drewN | apply below_drew1 | refine below_set ?_ GE664.out | refine below_set ?_ GE673.out) | exact HB.out))) : w.heap.size ≤ gb677)); have n9_ := Aside0.mk ((by rw [hg]; exact Nat.ne_of_lt (blk_lt (g := gb664) (o := .cells #[.slice A0_0 l0_0.length c0_0] 24 (0, 0)) (by (with_reducible repeat (first | refine blk_drewN ?_ _ | refine blk_drew ?_ | refine blk_alloc ?_ _)); exact BK664.out)) : gb664 ≠ gb677)); have n10_ := Aside0.mk ((by rw [hg]; exact Nat.ne_of_gt (blk_lt (g := gb664) (o := .cells #[.slice A0_0 l0_0.length c0_0] 24 (0, 0)) (by (with_reducible repeat (first | refine blk_drewN ?_ _ | refine blk_drew ?_ | refine blk_alloc ?_ _)); exact BK664.out)) : gb677 ≠ gb664)); have n11_ := Aside0.mk ((by rw [hg]; exact Nat.ne_of_lt (blk_lt (g := gb673) (o := .cells #[.slice Ao21 t669.length co21] 28 (0, 0)) (by (with_reducible repeat (first | refine blk_drewN ?_ _ | refine blk_drew ?_ | refine blk_alloc ?_ _)); exact BK673.out)) : gb673 ≠ gb677)); have n12_ := Aside0.mk ((by rw [hg]; exact Nat.ne_of_gt (blk_lt (g := gb673) (o := .cells #[.slice Ao21 t669.length co21] 28 (0, 0)) (by (with_reducible repeat (first | refine blk_drewN ?_ _ | refine blk_drew ?_ | refine blk_alloc ?_ _)); exact BK673.out)) : gb677 ≠ gb673)); clear HO668; clear HO671; clear HO676; clear BK664; clear BK673; clear HB; have HO668 := n0_; have HO671 := n1_; have HO676 := n2_; have BK664 := n3_; have BK673 := n4_; have HB := n5_; have BK677 := n6_; have GW677 := n7_; have GE677 := n8_; have NB664_677 := n9_; have NB677_664 := n10_; have NB673_677 := n11_; have NB677_673 := n12_; clear n0_ n1_ n2_ n3_ n4_ n5_ n6_ n7_ n8_ n9_ n10_ n11_ n12_; clear hb hbox hg; obtain ⟨Ao27, co27, eo27⟩ := Kd.R_slice HO676.out; subst eo27; have hnb28 := NB677_664.out; have hnc28 := NB664_677.out; have hnb29 := NB677_673.out; have hnc29 := NB673_677.out; have hcz30_0 : w26.cell? ⟨gb677, 0, none⟩ = some (.slice none 0 0) := (blk_cell BK677.out 0).trans rfl; have hfz30_0 := blk_frozen BK677.out 0) | ((with_reducible refine gate_callee (f := 56) rfl ?_); refine goesL_ (some 33) rfl rfl Try.func56 (by kernel_rfl) rfl #[.agg #[.slice Ao27 t674.length co27], .int .i64 a1] rfl (by (try simp only [List.map_toArray, List.map_cons, List.map_nil]); first | done | rfl | (simp only [List.length_drop, List.length_take]; rfl)) ?_; (with_reducible refine (impl_LessenGaps.calls k _ _ t674 a1 t678 t681 _ ?side1 ?side2 A11.out).mono ?_); (case side1 => refine (Kd.R_reads' (e := 2) (base := w.heap.size) (ok := fun k_ => ((True ∧ some k_ ≠ (.slice Ao18 t666.length co18 : Value).ownBlock) ∧ some k_ ≠ (.slice Ao21 t669.length co21 : Value).ownBlock)) (n := t674.length) (c := co27) ?_).2.2; exact (by (with_reducible repeat (first | apply Kd.R_alloc | apply Kd.R_drewN | apply Kd.R_drew)); exact (Kd.R_mono (Kd.R_far (p := ⟨gb677, 0, none⟩) (Kd.R_types HO676.out BK677.out (by decide)) (fun _ hk => hk.2) (.slice Ao27 t674.length co27)) (fun _ h_ => h_.1)))); (case side2 => exact (Kd.R_reads' HO676.out).2.1); rintro e w31 ⟨v679, rfl, ho0, hb⟩; refine ⟨_, rfl, ?_⟩; have n0_ := Aside0.mk (Kd.R_elder' (by (with_reducible repeat (first | apply Kd.R_alloc | apply Kd.R_drewN | apply Kd.R_drew)); exact (Kd.R_mono (Kd.R_far (p := ⟨gb677, 0, none⟩) (Kd.R_types HO668.out BK677.out (by decide)) (fun _ hk => hk.2) (.slice Ao27 t674.length co27)) (fun _ h_ => h_.1))) (Kd.R_base ho0) hb); have n1_ := Aside0.mk (Kd.R_elder' (by (with_reducible repeat (first | apply Kd.R_alloc | apply Kd.R_drewN | apply Kd.R_drew)); exact (Kd.R_mono (Kd.R_far (p := ⟨gb677, 0, none⟩) (Kd.R_types HO671.out BK677.out (by decide)) (fun _ hk => hk.2) (.slice Ao27 t674.length co27)) (fun _ h_ => h_.1))) (Kd.R_base ho0) hb); have n2_ := Aside0.mk (Kd.R_elder' (by (with_reducible repeat (first | apply Kd.R_alloc | apply Kd.R_drewN | apply Kd.R_drew)); exact (Kd.R_mono (Kd.R_far (p := ⟨gb677, 0, none⟩) (Kd.R_types HO676.out BK677.out (by decide)) (fun _ hk => hk.2) (.slice Ao27 t674.length co27)) (fun _ h_ => h_.1))) (Kd.R_base ho0) hb); have n3_ := Aside0.mk (Kd.R_lower (Kd.R_new' (Kd.R_new' (Kd.R_new' ho0 (Kd.R_lt (by (with_reducible repeat (first | apply Kd.R_alloc | apply Kd.R_drewN | apply Kd.R_drew)); exact (Kd.R_mono (Kd.R_far (p := ⟨gb677, 0, none⟩) (Kd.R_types HO668.out BK677.out (by decide)) (fun _ hk => hk.2) (.slice Ao27 t674.length co27)) (fun _ h_ => h_.1))))) (Kd.R_lt (by (with_reducible repeat (first | apply Kd.R_alloc | apply Kd.R_drewN | apply Kd.R_drew)); exact (Kd.R_mono (Kd.R_far (p := ⟨gb677, 0, none⟩) (Kd.R_types HO671.out BK677.out (by decide)) (fun _ hk => hk.2) (.slice Ao27 t674.length co27)) (fun _ h_ => h_.1))))) (Kd.R_lt (by (with_reducible repeat (first | apply Kd.R_alloc | apply Kd.R_drewN | apply Kd.R_drew)); exact (Kd.R_mono (Kd.R_far (p := ⟨gb677, 0, none⟩) (Kd.R_types HO676.out BK677.out (by decide)) (fun _ hk => hk.2) (.slice Ao27 t674.length co27)) (fun _ h_ => h_.1))))) (below_size (by repeat (first | (with_reducible first | exact HB.out | apply below_alloc | apply pw_below_drewN | apply below_drew1 | refine below_set ?_ GE664.out | refine below_set ?_ GE673.out | refine below_set ?_ GE677.out) | exact HB.out)))); have n4_ := Aside0.mk (blk_below (g := gb664) (o := .cells #[.slice A0_0 l0_0.length c0_0] 24 (0, 0)) (by (with_reducible repeat (first | refine blk_drewN ?_ _ | refine blk_drew ?_ | refine blk_alloc ?_ _)); refine blk_far ?_ NB664_677.out _; (with_reducible repeat (first | refine blk_drewN ?_ _ | refine blk_drew ?_ | refine blk_alloc ?_ _)); exact BK664.out) hb); have n5_ := Aside0.mk (blk_below (g := gb673) (o := .cells #[.slice Ao21 t669.length co21] 28 (0, 0)) (by (with_reducible repeat (first | refine blk_drewN ?_ _ | refine blk_drew ?_ | refine blk_alloc ?_ _)); refine blk_far ?_ NB673_677.out _; (with_reducible repeat (first | refine blk_drewN ?_ _ | refine blk_drew ?_ | refine blk_alloc ?_ _)); exact BK673.out) hb); have n6_ := Aside0.mk (blk_below (g := gb677) (o := .cells #[.slice Ao27 t674.length co27] 28 (0, 0)) (by (with_reducible repeat (first | refine blk_drewN ?_ _ | refine blk_drew ?_ | refine blk_alloc ?_ _)); refine blk_put (cs := #[.slice none 0 0]) ?_ 0 _ rfl; (with_reducible repeat (first | refine blk_drewN ?_ _ | refine blk_drew ?_ | refine blk_alloc ?_ _)); exact BK677.out) hb); have n7_ := Aside0.mk (below_step (by repeat (first | (with_reducible first | exact HB.out | apply below_alloc | apply pw_below_drewN | apply below_drew1 | refine below_set ?_ GE664.out | refine below_set ?_ GE673.out | refine below_set ?_ GE677.out) | exact HB.out)) hb); clear HO668; clear HO671; clear HO676; clear BK664; clear BK673; clear BK677; clear HB; have HO668 := n0_; have HO671 := n1_; have HO676 := n2_; have HO680 := n3_; have BK664 := n4_; have BK673 := n5_; have BK677 := n6_; have HB := n7_; clear n0_ n1_ n2_ n3_ n4_ n5_ n6_ n7_; (try clear hb); (try clear hb2); (try clear hk); (try clear hi); (try clear ho0)) | ((with_reducible refine gate_dst (N := 9) rfl ?_); refine box_event ?hg (N := 9) ?hd (cs := #[.slice none 0 0]) (t := 28) ?hr ?_; (case hd => rfl); (case hg => rfl); (case hr => first | (go_simp; done) | (go_simp; rfl)); intro gb682 hg w32 hbox hb; have n0_ := Aside0.mk (Kd.R_below (by (with_reducible repeat (first | apply Kd.R_alloc | apply Kd.R_drewN | apply Kd.R_drew)); exact HO668.out) hb); have n1_ := Aside0.mk (Kd.R_below (by (with_reducible repeat (first | apply Kd.R_alloc | apply Kd.R_drewN | apply Kd.R_drew)); exact HO671.out) hb); have n2_ := Aside0.mk (Kd.R_below (by (with_reducible repeat (first | apply Kd.R_alloc | apply Kd.R_drewN | apply Kd.R_drew)); exact HO676.out) hb); have n3_ := Aside0.mk (Kd.R_below (by (with_reducible repeat (first | apply Kd.R_alloc | apply Kd.R_drewN | apply Kd.R_drew)); exact HO680.out) hb); have n4_ := Aside0.mk (blk_below (g := gb664) (o := .cells #[.slice A0_0 l0_0.length c0_0] 24 (0, 0)) (by (with_reducible repeat (first | refine blk_drewN ?_ _ | refine blk_drew ?_ | refine blk_alloc ?_ _)); exact BK664.out) hb); have n5_ := Aside0.mk (blk_below (g := gb673) (o := .cells #[.slice Ao21 t669.length co21] 28 (0, 0)) (by (with_reducible repeat (first | refine blk_drewN ?_ _ | refine blk_drew ?_ | refine blk_alloc ?_ _)); exact BK673.out) hb); have n6_ := Aside0.mk (blk_below (g := gb677) (o := .cells #[.slice Ao27 t674.length co27] 28 (0, 0)) (by (with_reducible repeat (first | refine blk_drewN ?_ _ | refine blk_drew ?_ | refine blk_alloc ?_ _)); exact BK677.out) hb); have n7_ := Aside0.mk (below_step (by repeat (first | (with_reducible first | exact HB.out | apply below_alloc | apply pw_below_drewN | apply below_drew1 | refine below_set ?_ GE664.out | refine below_set ?_ GE673.out | refine below_set ?_ GE677.out) | exact HB.out)) hb); have n8_ := Aside0.mk (hbox); have n9_ := Aside0.mk ((by rw [hg]; exact (below_size (by repeat (first | (with_reducible first | exact HB.out | apply below_alloc | apply pw_below_drewN | apply below_drew1 | refine below_set ?_ GE664.out | refine below_set ?_ GE673.out | refine below_set ?_ GE677.out) | exact HB.out))) : w.heap.size ≤ gb682)); have n10_ := Aside0.mk ((by rw [hg]; exact (below_size (by repeat (first | (with_reducible first | exact HB.out | apply below_alloc | apply pw_below_drewN | apply below_drew1 | refine below_set ?_ GE664.out | refine below_set ?_ GE673.out | refine below_set ?_ GE677.out) | exact HB.out))) : w.heap.size ≤ gb682)); have n11_ := Aside0.mk ((by rw [hg]; exact Nat.ne_of_lt (blk_lt (g := gb664) (o := .cells #[.slice A0_0 l0_0.length c0_0] 24 (0, 0)) (by (with_reducible repeat (first | refine blk_drewN ?_ _ | refine blk_drew ?_ | refine blk_alloc ?_ _)); exact BK664.out)) : gb664 ≠ gb682)); have n12_ := Aside0.mk ((by rw [hg]; exact Nat.ne_of_gt (blk_lt (g := gb664) (o := .cells #[.slice A0_0 l0_0.length c0_0] 24 (0, 0)) (by (with_reducible repeat (first | refine blk_drewN ?_ _ | refine blk_drew ?_ | refine blk_alloc ?_ _)); exact BK664.out)) : gb682 ≠ gb664)); have n13_ := Aside0.mk ((by rw [hg]; exact Nat.ne_of_lt (blk_lt (g := gb673) (o := .cells #[.slice Ao21 t669.length co21] 28 (0, 0)) (by (with_reducible repeat (first | refine blk_drewN ?_ _ | refine blk_drew ?_ | refine blk_alloc ?_ _)); exact BK673.out)) : gb673 ≠ gb682)); have n14_ := Aside0.mk ((by rw [hg]; exact Nat.ne_of_gt (blk_lt (g := gb673) (o := .cells #[.slice Ao21 t669.length co21] 28 (0, 0)) (by (with_reducible repeat (first | refine blk_drewN ?_ _ | refine blk_drew ?_ | refine blk_alloc ?_ _)); exact BK673.out)) : gb682 ≠ gb673)); have n15_ := Aside0.mk ((by rw [hg]; exact Nat.ne_of_lt (blk_lt (g := gb677) (o := .cells #[.slice Ao27 t674.length co27] 28 (0, 0)) (by (with_reducible repeat (first | refine blk_drewN ?_ _ | refine blk_drew ?_ | refine blk_alloc ?_ _)); exact BK677.out)) : gb677 ≠ gb682)); have n16_ := Aside0.mk ((by rw [hg]; exact Nat.ne_of_gt (blk_lt (g := gb677) (o := .cells #[.slice Ao27 t674.length co27] 28 (0, 0)) (by (with_reducible repeat (first | refine blk_drewN ?_ _ | refine blk_drew ?_ | refine blk_alloc ?_ _)); exact BK677.out)) : gb682 ≠ gb677)); clear HO668; clear HO671; clear HO676; clear HO680; clear BK664; clear BK673; clear BK677; clear HB; have HO668 := n0_; have HO671 := n1_; have HO676 := n2_; have HO680 := n3_; have BK664 := n4_; have BK673 := n5_; have BK677 := n6_; have HB := n7_; have BK682 := n8_; have GW682 := n9_; have GE682 := n10_; have NB664_682 := n11_; have NB682_664 := n12_; have NB673_682 := n13_; have NB682_673 := n14_; have NB677_682 := n15_; have NB682_677 := n16_; clear n0_ n1_ n2_ n3_ n4_ n5_ n6_ n7_ n8_ n9_ n10_ n11_ n12_ n13_ n14_ n15_ n16_; clear hb hbox hg; obtain ⟨Ao33, co33, eo33⟩ := Kd.R_slice HO680.out; subst eo33; have hnb34 := NB682_664.out; have hnc34 := NB664_682.out; have hnb35 := NB682_673.out; have hnc35 := NB673_682.out; have hnb36 := NB682_677.out; have hnc36 := NB677_682.out; have hcz37_0 : w32.cell? ⟨gb682, 0, none⟩ = some (.slice none 0 0) := (blk_cell BK682.out 0).trans rfl; have hfz37_0 := blk_frozen BK682.out 0))
    (try simp only [Act.put, List.setIfInBounds_toArray, List.set_cons_zero, List.set_cons_succ])
    go_cut [44] (fun v44 wc => ∃ (kq : Nat) (x44_11 : Bool), v44 = .bool x44_11 ∧ Aside0 (laws_FnExactLessenGaps.j0 kq a1 t672 t681 x44_11 l0_0 t669 t674 t678 = some r) ∧ Aside0 (kq ≤ k) ∧ Aside0 (Kd.R (Kd.int .i64) 2 wc w.heap.size (fun k_ => some k_ ≠ ((.slice Ao27 t674.length co27) : Value).ownBlock ∧ some k_ ≠ ((.slice Ao33 t678.length co33) : Value).ownBlock) (.slice Ao21 t669.length co21) t669) ∧ Aside0 (Kd.R (Kd.int .i64) 2 wc w.heap.size (fun k_ => some k_ ≠ ((.slice Ao21 t669.length co21) : Value).ownBlock ∧ some k_ ≠ ((.slice Ao33 t678.length co33) : Value).ownBlock) (.slice Ao27 t674.length co27) t674) ∧ Aside0 (Kd.R (Kd.int .i64) 2 wc w.heap.size (fun k_ => some k_ ≠ ((.slice Ao21 t669.length co21) : Value).ownBlock ∧ some k_ ≠ ((.slice Ao27 t674.length co27) : Value).ownBlock) (.slice Ao33 t678.length co33) t678) ∧ Aside0 (wc.heap[gb664]? = some (.cells #[(.slice A0_0 l0_0.length c0_0)] 24 (0, 0))) ∧ Aside0 (wc.heap[gb673]? = some (.cells #[(.slice Ao21 t669.length co21)] 28 (0, 0))) ∧ Aside0 (wc.heap[gb677]? = some (.cells #[(.slice Ao27 t674.length co27)] 28 (0, 0))) ∧ Aside0 (wc.heap[gb682]? = some (.cells #[(.slice Ao33 t678.length co33)] 28 (0, 0))) ∧ Aside0 (Below w.heap.size w wc))
    case first =>
      have H := HC12.out
      clear HC12
      replace H := Option.bind_eq_some_iff.mp H
      obtain ⟨t683, A380, H⟩ := H
      replace H : (if t683 = true then (laws_FnExactLessenGaps.j0 k a1 t672 t681 (t681 != t672) l0_0 t669 t674 t678) else (laws_FnExactLessenGaps.j0 k a1 t672 t681 true l0_0 t669 t674 t678)) = some r := H
      have A38 := Aside0.mk A380
      clear A380
      by_cases c39 : t683 = true
      · subst c39
        have H1 : (laws_FnExactLessenGaps.j0 k a1 t672 t681 (t681 != t672) l0_0 t669 t674 t678) = some r := by rw [if_pos rfl] at H; exact H
        clear H
        have H := H1
        clear H1
        have H' := Aside0.mk H
        clear H
        have hnb40 := NB682_664.out
        have hnc40 := NB664_682.out
        have hnb41 := NB682_673.out
        have hnc41 := NB673_682.out
        have hnb42 := NB682_677.out
        have hnc42 := NB677_682.out
        have hcz43_0 : w32.cell? ⟨gb682, 0, none⟩ = some (.slice none 0 0) := (blk_cell BK682.out 0).trans rfl
        have hfz43_0 := blk_frozen BK682.out 0
        have hnb44 := NB673_664.out
        have hnc44 := NB664_673.out
        have hnb45 := NB673_677.out
        have hnc45 := NB677_673.out
        have hcz46_0 : w32.cell? ⟨gb673, 0, none⟩ = some (.slice Ao21 t669.length co21) := (blk_cell BK673.out 0).trans rfl
        have hfz46_0 := blk_frozen BK673.out 0
        go_wp2_with (first | ((with_reducible refine gate_callee (f := 22) rfl ?_); refine goesL_ (some 38) rfl rfl Try.func22 (by kernel_rfl) rfl #[.agg #[.slice Ao33 t678.length co33], .agg #[.slice Ao21 t669.length co21]] rfl (by (try simp only [List.map_toArray, List.map_cons, List.map_nil]); first | done | rfl | (simp only [List.length_drop, List.length_take]; rfl)) ?_; (with_reducible refine (laws_eqTasks.calls k _ _ t678 _ _ t669 true _ ?side1 ?side2 ?side3 ?side4 A38.out).mono ?_); (case side1 => refine (Kd.R_reads' (e := 2) (base := w.heap.size) (ok := fun k_ => (((True ∧ some k_ ≠ (.slice Ao18 t666.length co18 : Value).ownBlock) ∧ some k_ ≠ (.slice Ao21 t669.length co21 : Value).ownBlock) ∧ some k_ ≠ (.slice Ao27 t674.length co27 : Value).ownBlock)) (n := t678.length) (c := co33) ?_).2.2; exact (by (with_reducible repeat (first | apply Kd.R_alloc | apply Kd.R_drewN | apply Kd.R_drew)); exact (Kd.R_mono (Kd.R_far (p := ⟨gb682, 0, none⟩) (Kd.R_types HO680.out BK682.out (by decide)) (fun _ hk => hk.2) (.slice Ao33 t678.length co33)) (fun _ h_ => h_.1)))); (case side2 => exact (Kd.R_reads' HO680.out).2.1); (case side3 => refine (Kd.R_reads' (e := 2) (base := w.heap.size) (ok := fun k_ => (((True ∧ some k_ ≠ (.slice Ao18 t666.length co18 : Value).ownBlock) ∧ some k_ ≠ (.slice Ao27 t674.length co27 : Value).ownBlock) ∧ some k_ ≠ (.slice Ao33 t678.length co33 : Value).ownBlock)) (n := t669.length) (c := co21) ?_).2.2; exact (by (with_reducible repeat (first | apply Kd.R_alloc | apply Kd.R_drewN | apply Kd.R_drew)); exact (Kd.R_mono (Kd.R_far (p := ⟨gb682, 0, none⟩) (Kd.R_types HO671.out BK682.out (by decide)) (fun _ hk => hk.2) (.slice Ao33 t678.length co33)) (fun _ h_ => h_.1)))); (case side4 => exact (Kd.R_reads' HO671.out).2.1); rintro e w47 ⟨rfl, hb⟩; refine ⟨_, rfl, ?_⟩; have n0_ := Aside0.mk (Kd.R_below (by (with_reducible repeat (first | apply Kd.R_alloc | apply Kd.R_drewN | apply Kd.R_drew)); exact (Kd.R_mono (Kd.R_far (p := ⟨gb682, 0, none⟩) (Kd.R_types HO668.out BK682.out (by decide)) (fun _ hk => hk.2) (.slice Ao33 t678.length co33)) (fun _ h_ => h_.1))) hb); have n1_ := Aside0.mk (Kd.R_below (by (with_reducible repeat (first | apply Kd.R_alloc | apply Kd.R_drewN | apply Kd.R_drew)); exact (Kd.R_mono (Kd.R_far (p := ⟨gb682, 0, none⟩) (Kd.R_types HO671.out BK682.out (by decide)) (fun _ hk => hk.2) (.slice Ao33 t678.length co33)) (fun _ h_ => h_.1))) hb); have n2_ := Aside0.mk (Kd.R_below (by (with_reducible repeat (first | apply Kd.R_alloc | apply Kd.R_drewN | apply Kd.R_drew)); exact (Kd.R_mono (Kd.R_far (p := ⟨gb682, 0, none⟩) (Kd.R_types HO676.out BK682.out (by decide)) (fun _ hk => hk.2) (.slice Ao33 t678.length co33)) (fun _ h_ => h_.1))) hb); have n3_ := Aside0.mk (Kd.R_below (by (with_reducible repeat (first | apply Kd.R_alloc | apply Kd.R_drewN | apply Kd.R_drew)); exact (Kd.R_mono (Kd.R_far (p := ⟨gb682, 0, none⟩) (Kd.R_types HO680.out BK682.out (by decide)) (fun _ hk => hk.2) (.slice Ao33 t678.length co33)) (fun _ h_ => h_.1))) hb); have n4_ := Aside0.mk (blk_below (g := gb664) (o := .cells #[.slice A0_0 l0_0.length c0_0] 24 (0, 0)) (by (with_reducible repeat (first | refine blk_drewN ?_ _ | refine blk_drew ?_ | refine blk_alloc ?_ _)); refine blk_far ?_ NB664_682.out _; (with_reducible repeat (first | refine blk_drewN ?_ _ | refine blk_drew ?_ | refine blk_alloc ?_ _)); exact BK664.out) hb); have n5_ := Aside0.mk (blk_below (g := gb673) (o := .cells #[.slice Ao21 t669.length co21] 28 (0, 0)) (by (with_reducible repeat (first | refine blk_drewN ?_ _ | refine blk_drew ?_ | refine blk_alloc ?_ _)); refine blk_far ?_ NB673_682.out _; (with_reducible repeat (first | refine blk_drewN ?_ _ | refine blk_drew ?_ | refine blk_alloc ?_ _)); exact BK673.out) hb); have n6_ := Aside0.mk (blk_below (g := gb677) (o := .cells #[.slice Ao27 t674.length co27] 28 (0, 0)) (by (with_reducible repeat (first | refine blk_drewN ?_ _ | refine blk_drew ?_ | refine blk_alloc ?_ _)); refine blk_far ?_ NB677_682.out _; (with_reducible repeat (first | refine blk_drewN ?_ _ | refine blk_drew ?_ | refine blk_alloc ?_ _)); exact BK677.out) hb); have n7_ := Aside0.mk (blk_below (g := gb682) (o := .cells #[.slice Ao33 t678.length co33] 28 (0, 0)) (by (with_reducible repeat (first | refine blk_drewN ?_ _ | refine blk_drew ?_ | refine blk_alloc ?_ _)); refine blk_put (cs := #[.slice none 0 0]) ?_ 0 _ rfl; (with_reducible repeat (first | refine blk_drewN ?_ _ | refine blk_drew ?_ | refine blk_alloc ?_ _)); exact BK682.out) hb); have n8_ := Aside0.mk (below_step (by repeat (first | (with_reducible first | exact HB.out | apply below_alloc | apply pw_below_drewN | apply below_drew1 | refine below_set ?_ GE664.out | refine below_set ?_ GE673.out | refine below_set ?_ GE677.out | refine below_set ?_ GE682.out) | exact HB.out)) hb); clear HO668; clear HO671; clear HO676; clear HO680; clear BK664; clear BK673; clear BK677; clear BK682; clear HB; have HO668 := n0_; have HO671 := n1_; have HO676 := n2_; have HO680 := n3_; have BK664 := n4_; have BK673 := n5_; have BK677 := n6_; have BK682 := n7_; have HB := n8_; clear n0_ n1_ n2_ n3_ n4_ n5_ n6_ n7_ n8_; (try clear hb); (try clear hb2); (try clear hk); (try clear hi)))
        go_meet
        case rel => exact ⟨_, ((t681 != t672)), (by first | rfl | (simp; done) | (simp [*]; done)), H', ⟨by first | omega | exact Nat.le_refl _⟩, ⟨by (with_reducible repeat (first | apply Kd.R_alloc | apply Kd.R_drewN | apply Kd.R_drew)); exact Kd.R_mono HO671.out (fun _ hk => ⟨hk.1.2, hk.2⟩)⟩, ⟨by (with_reducible repeat (first | apply Kd.R_alloc | apply Kd.R_drewN | apply Kd.R_drew)); exact Kd.R_mono HO676.out (fun _ hk => ⟨hk.1.2, hk.2⟩)⟩, ⟨by (with_reducible repeat (first | apply Kd.R_alloc | apply Kd.R_drewN | apply Kd.R_drew)); exact Kd.R_mono HO680.out (fun _ hk => ⟨hk.1.2, hk.2⟩)⟩, ⟨by (with_reducible repeat (first | refine blk_drewN ?_ _ | refine blk_drew ?_ | refine blk_alloc ?_ _)); exact BK664.out⟩, ⟨by (with_reducible repeat (first | refine blk_drewN ?_ _ | refine blk_drew ?_ | refine blk_alloc ?_ _)); exact BK673.out⟩, ⟨by (with_reducible repeat (first | refine blk_drewN ?_ _ | refine blk_drew ?_ | refine blk_alloc ?_ _)); exact BK677.out⟩, ⟨by (with_reducible repeat (first | refine blk_drewN ?_ _ | refine blk_drew ?_ | refine blk_alloc ?_ _)); exact BK682.out⟩, ⟨by repeat (first | (with_reducible first | exact HB.out | apply below_alloc | apply pw_below_drewN | apply below_drew1 | refine below_set ?_ GE664.out | refine below_set ?_ GE673.out | refine below_set ?_ GE677.out | refine below_set ?_ GE682.out) | exact HB.out)⟩⟩
      · replace c39 := Bool.eq_false_iff.mpr c39
        subst c39
        have H1 : (laws_FnExactLessenGaps.j0 k a1 t672 t681 true l0_0 t669 t674 t678) = some r := by rw [if_neg (show ¬ (false = true) by decide)] at H; exact H
        clear H
        have H := H1
        clear H1
        have H' := Aside0.mk H
        clear H
        have hnb48 := NB682_664.out
        have hnc48 := NB664_682.out
        have hnb49 := NB682_673.out
        have hnc49 := NB673_682.out
        have hnb50 := NB682_677.out
        have hnc50 := NB677_682.out
        have hcz51_0 : w32.cell? ⟨gb682, 0, none⟩ = some (.slice none 0 0) := (blk_cell BK682.out 0).trans rfl
        have hfz51_0 := blk_frozen BK682.out 0
        have hnb52 := NB673_664.out
        have hnc52 := NB664_673.out
        have hnb53 := NB673_677.out
        have hnc53 := NB677_673.out
        have hcz54_0 : w32.cell? ⟨gb673, 0, none⟩ = some (.slice Ao21 t669.length co21) := (blk_cell BK673.out 0).trans rfl
        have hfz54_0 := blk_frozen BK673.out 0
        go_wp2_with (first | ((with_reducible refine gate_callee (f := 22) rfl ?_); refine goesL_ (some 38) rfl rfl Try.func22 (by kernel_rfl) rfl #[.agg #[.slice Ao33 t678.length co33], .agg #[.slice Ao21 t669.length co21]] rfl (by (try simp only [List.map_toArray, List.map_cons, List.map_nil]); first | done | rfl | (simp only [List.length_drop, List.length_take]; rfl)) ?_; (with_reducible refine (laws_eqTasks.calls k _ _ t678 _ _ t669 false _ ?side1 ?side2 ?side3 ?side4 A38.out).mono ?_); (case side1 => refine (Kd.R_reads' (e := 2) (base := w.heap.size) (ok := fun k_ => (((True ∧ some k_ ≠ (.slice Ao18 t666.length co18 : Value).ownBlock) ∧ some k_ ≠ (.slice Ao21 t669.length co21 : Value).ownBlock) ∧ some k_ ≠ (.slice Ao27 t674.length co27 : Value).ownBlock)) (n := t678.length) (c := co33) ?_).2.2; exact (by (with_reducible repeat (first | apply Kd.R_alloc | apply Kd.R_drewN | apply Kd.R_drew)); exact (Kd.R_mono (Kd.R_far (p := ⟨gb682, 0, none⟩) (Kd.R_types HO680.out BK682.out (by decide)) (fun _ hk => hk.2) (.slice Ao33 t678.length co33)) (fun _ h_ => h_.1)))); (case side2 => exact (Kd.R_reads' HO680.out).2.1); (case side3 => refine (Kd.R_reads' (e := 2) (base := w.heap.size) (ok := fun k_ => (((True ∧ some k_ ≠ (.slice Ao18 t666.length co18 : Value).ownBlock) ∧ some k_ ≠ (.slice Ao27 t674.length co27 : Value).ownBlock) ∧ some k_ ≠ (.slice Ao33 t678.length co33 : Value).ownBlock)) (n := t669.length) (c := co21) ?_).2.2; exact (by (with_reducible repeat (first | apply Kd.R_alloc | apply Kd.R_drewN | apply Kd.R_drew)); exact (Kd.R_mono (Kd.R_far (p := ⟨gb682, 0, none⟩) (Kd.R_types HO671.out BK682.out (by decide)) (fun _ hk => hk.2) (.slice Ao33 t678.length co33)) (fun _ h_ => h_.1)))); (case side4 => exact (Kd.R_reads' HO671.out).2.1); rintro e w55 ⟨rfl, hb⟩; refine ⟨_, rfl, ?_⟩; have n0_ := Aside0.mk (Kd.R_below (by (with_reducible repeat (first | apply Kd.R_alloc | apply Kd.R_drewN | apply Kd.R_drew)); exact (Kd.R_mono (Kd.R_far (p := ⟨gb682, 0, none⟩) (Kd.R_types HO668.out BK682.out (by decide)) (fun _ hk => hk.2) (.slice Ao33 t678.length co33)) (fun _ h_ => h_.1))) hb); have n1_ := Aside0.mk (Kd.R_below (by (with_reducible repeat (first | apply Kd.R_alloc | apply Kd.R_drewN | apply Kd.R_drew)); exact (Kd.R_mono (Kd.R_far (p := ⟨gb682, 0, none⟩) (Kd.R_types HO671.out BK682.out (by decide)) (fun _ hk => hk.2) (.slice Ao33 t678.length co33)) (fun _ h_ => h_.1))) hb); have n2_ := Aside0.mk (Kd.R_below (by (with_reducible repeat (first | apply Kd.R_alloc | apply Kd.R_drewN | apply Kd.R_drew)); exact (Kd.R_mono (Kd.R_far (p := ⟨gb682, 0, none⟩) (Kd.R_types HO676.out BK682.out (by decide)) (fun _ hk => hk.2) (.slice Ao33 t678.length co33)) (fun _ h_ => h_.1))) hb); have n3_ := Aside0.mk (Kd.R_below (by (with_reducible repeat (first | apply Kd.R_alloc | apply Kd.R_drewN | apply Kd.R_drew)); exact (Kd.R_mono (Kd.R_far (p := ⟨gb682, 0, none⟩) (Kd.R_types HO680.out BK682.out (by decide)) (fun _ hk => hk.2) (.slice Ao33 t678.length co33)) (fun _ h_ => h_.1))) hb); have n4_ := Aside0.mk (blk_below (g := gb664) (o := .cells #[.slice A0_0 l0_0.length c0_0] 24 (0, 0)) (by (with_reducible repeat (first | refine blk_drewN ?_ _ | refine blk_drew ?_ | refine blk_alloc ?_ _)); refine blk_far ?_ NB664_682.out _; (with_reducible repeat (first | refine blk_drewN ?_ _ | refine blk_drew ?_ | refine blk_alloc ?_ _)); exact BK664.out) hb); have n5_ := Aside0.mk (blk_below (g := gb673) (o := .cells #[.slice Ao21 t669.length co21] 28 (0, 0)) (by (with_reducible repeat (first | refine blk_drewN ?_ _ | refine blk_drew ?_ | refine blk_alloc ?_ _)); refine blk_far ?_ NB673_682.out _; (with_reducible repeat (first | refine blk_drewN ?_ _ | refine blk_drew ?_ | refine blk_alloc ?_ _)); exact BK673.out) hb); have n6_ := Aside0.mk (blk_below (g := gb677) (o := .cells #[.slice Ao27 t674.length co27] 28 (0, 0)) (by (with_reducible repeat (first | refine blk_drewN ?_ _ | refine blk_drew ?_ | refine blk_alloc ?_ _)); refine blk_far ?_ NB677_682.out _; (with_reducible repeat (first | refine blk_drewN ?_ _ | refine blk_drew ?_ | refine blk_alloc ?_ _)); exact BK677.out) hb); have n7_ := Aside0.mk (blk_below (g := gb682) (o := .cells #[.slice Ao33 t678.length co33] 28 (0, 0)) (by (with_reducible repeat (first | refine blk_drewN ?_ _ | refine blk_drew ?_ | refine blk_alloc ?_ _)); refine blk_put (cs := #[.slice none 0 0]) ?_ 0 _ rfl; (with_reducible repeat (first | refine blk_drewN ?_ _ | refine blk_drew ?_ | refine blk_alloc ?_ _)); exact BK682.out) hb); have n8_ := Aside0.mk (below_step (by repeat (first | (with_reducible first | exact HB.out | apply below_alloc | apply pw_below_drewN | apply below_drew1 | refine below_set ?_ GE664.out | refine below_set ?_ GE673.out | refine below_set ?_ GE677.out | refine below_set ?_ GE682.out) | exact HB.out)) hb); clear HO668; clear HO671; clear HO676; clear HO680; clear BK664; clear BK673; clear BK677; clear BK682; clear HB; have HO668 := n0_; have HO671 := n1_; have HO676 := n2_; have HO680 := n3_; have BK664 := n4_; have BK673 := n5_; have BK677 := n6_; have BK682 := n7_; have HB := n8_; clear n0_ n1_ n2_ n3_ n4_ n5_ n6_ n7_ n8_; (try clear hb); (try clear hb2); (try clear hk); (try clear hi)))
        go_meet
        case rel => exact ⟨_, (true), (by first | rfl | (simp; done) | (simp [*]; done)), H', ⟨by first | omega | exact Nat.le_refl _⟩, ⟨by (with_reducible repeat (first | apply Kd.R_alloc | apply Kd.R_drewN | apply Kd.R_drew)); exact Kd.R_mono HO671.out (fun _ hk => ⟨hk.1.2, hk.2⟩)⟩, ⟨by (with_reducible repeat (first | apply Kd.R_alloc | apply Kd.R_drewN | apply Kd.R_drew)); exact Kd.R_mono HO676.out (fun _ hk => ⟨hk.1.2, hk.2⟩)⟩, ⟨by (with_reducible repeat (first | apply Kd.R_alloc | apply Kd.R_drewN | apply Kd.R_drew)); exact Kd.R_mono HO680.out (fun _ hk => ⟨hk.1.2, hk.2⟩)⟩, ⟨by (with_reducible repeat (first | refine blk_drewN ?_ _ | refine blk_drew ?_ | refine blk_alloc ?_ _)); exact BK664.out⟩, ⟨by (with_reducible repeat (first | refine blk_drewN ?_ _ | refine blk_drew ?_ | refine blk_alloc ?_ _)); exact BK673.out⟩, ⟨by (with_reducible repeat (first | refine blk_drewN ?_ _ | refine blk_drew ?_ | refine blk_alloc ?_ _)); exact BK677.out⟩, ⟨by (with_reducible repeat (first | refine blk_drewN ?_ _ | refine blk_drew ?_ | refine blk_alloc ?_ _)); exact BK682.out⟩, ⟨by repeat (first | (with_reducible first | exact HB.out | apply below_alloc | apply pw_below_drewN | apply below_drew1 | refine below_set ?_ GE664.out | refine below_set ?_ GE673.out | refine below_set ?_ GE677.out | refine below_set ?_ GE682.out) | exact HB.out)⟩⟩
    case rest =>
      clear HC12
      try clear c1
      try clear c2
      try clear p2
      try clear c3
      try clear c4
      try clear c4b0
      try clear c5
      try clear c16
      try clear c17
      try clear c19
      try clear c22
      try clear c28
      try clear c29
      try clear c34
      try clear c35
      try clear c36
      try clear c39
      try clear c40
      try clear c41
      try clear c42
      try clear c44
      try clear c45
      try clear c48
      try clear c49
      try clear c50
      try clear c52
      try clear c53
      try clear c55
      try clear hcz14_0
      try clear hcz16_0
      try clear hcz23_0
      try clear hcz24_0
      try clear hcz30_0
      try clear hcz37_0
      try clear hcz43_0
      try clear hcz46_0
      try clear hcz51_0
      try clear hcz54_0
      try clear hcz6_0
      try clear hfz14_0
      try clear hfz16_0
      try clear hfz23_0
      try clear hfz24_0
      try clear hfz30_0
      try clear hfz37_0
      try clear hfz43_0
      try clear hfz46_0
      try clear hfz51_0
      try clear hfz54_0
      try clear hfz6_0
      obtain ⟨kq, x44_11, rfl, HA, HJ11, HO_674000, HO_678000, HO_683000, BK664, BK673, BK677, BK682, HB⟩ := hcut
      cases kq with
      | zero => exact absurd HA.out (by simp [laws_FnExactLessenGaps.j0])
      | succ kj11 =>
        have H := HA.out
        clear HA
        simp only [laws_FnExactLessenGaps.j0] at H
        by_cases c56 : x44_11 = true
        · subst c56
          have H1 : (some false) = some r := by rw [if_pos rfl] at H; exact H
          clear H
          have H := H1
          clear H1
          obtain rfl := Option.some.inj H
          go_wp2
          go_ret
          exact ⟨by first | rfl | (simp [errW_none, errW_some] <;> rfl) | (simp [*, errW_none, errW_some] <;> rfl), by repeat (first | (with_reducible first | exact HB.out | apply below_alloc | apply pw_below_drewN | apply below_drew1 | refine below_set ?_ GE664.out | refine below_set ?_ GE673.out | refine below_set ?_ GE677.out | refine below_set ?_ GE682.out) | exact HB.out)⟩
        · replace c56 := Bool.eq_false_iff.mpr c56
          subst c56
          have H1 : ((laws_toTasks.f kj11 l0_0).bind fun t684 => ((laws_eqTasks.f kj11 t674 t684).bind fun t687 => (if t687 = true then ((laws_markTasks.f kj11 t674 1).bind fun bt688 => (if bt688.1 < 0 then (laws_FnExactLessenGaps.j1 kj11 a1 t672 true l0_0 t669 t678) else ((laws_eqTasks.f kj11 t678 t669).bind fun t690 => (if t690 = true then (laws_FnExactLessenGaps.j1 kj11 a1 t672 (t681 != t672) l0_0 t669 t678) else (laws_FnExactLessenGaps.j1 kj11 a1 t672 true l0_0 t669 t678))))) else (some false)))) = some r := by rw [if_neg (show ¬ (false = true) by decide)] at H; exact H
          clear H
          have H := H1
          clear H1
          replace H := Option.bind_eq_some_iff.mp H
          obtain ⟨t684, A570, H⟩ := H
          replace H : ((laws_eqTasks.f kj11 t674 t684).bind fun t687 => (if t687 = true then ((laws_markTasks.f kj11 t674 1).bind fun bt688 => (if bt688.1 < 0 then (laws_FnExactLessenGaps.j1 kj11 a1 t672 true l0_0 t669 t678) else ((laws_eqTasks.f kj11 t678 t669).bind fun t690 => (if t690 = true then (laws_FnExactLessenGaps.j1 kj11 a1 t672 (t681 != t672) l0_0 t669 t678) else (laws_FnExactLessenGaps.j1 kj11 a1 t672 true l0_0 t669 t678))))) else (some false))) = some r := H
          have A57 := Aside0.mk A570
          clear A570
          replace H := Option.bind_eq_some_iff.mp H
          obtain ⟨t687, A580, H⟩ := H
          replace H : (if t687 = true then ((laws_markTasks.f kj11 t674 1).bind fun bt688 => (if bt688.1 < 0 then (laws_FnExactLessenGaps.j1 kj11 a1 t672 true l0_0 t669 t678) else ((laws_eqTasks.f kj11 t678 t669).bind fun t690 => (if t690 = true then (laws_FnExactLessenGaps.j1 kj11 a1 t672 (t681 != t672) l0_0 t669 t678) else (laws_FnExactLessenGaps.j1 kj11 a1 t672 true l0_0 t669 t678))))) else (some false)) = some r := H
          have A58 := Aside0.mk A580
          clear A580
          by_cases c59 : t687 = true
          · subst c59
            have H1 : ((laws_markTasks.f kj11 t674 1).bind fun bt688 => (if bt688.1 < 0 then (laws_FnExactLessenGaps.j1 kj11 a1 t672 true l0_0 t669 t678) else ((laws_eqTasks.f kj11 t678 t669).bind fun t690 => (if t690 = true then (laws_FnExactLessenGaps.j1 kj11 a1 t672 (t681 != t672) l0_0 t669 t678) else (laws_FnExactLessenGaps.j1 kj11 a1 t672 true l0_0 t669 t678))))) = some r := by rw [if_pos rfl] at H; exact H
            clear H
            have H := H1
            clear H1
            replace H := Option.bind_eq_some_iff.mp H
            obtain ⟨⟨t688, t689⟩, A600, H⟩ := H
            replace H : (if t688 < 0 then (laws_FnExactLessenGaps.j1 kj11 a1 t672 true l0_0 t669 t678) else ((laws_eqTasks.f kj11 t678 t669).bind fun t690 => (if t690 = true then (laws_FnExactLessenGaps.j1 kj11 a1 t672 (t681 != t672) l0_0 t669 t678) else (laws_FnExactLessenGaps.j1 kj11 a1 t672 true l0_0 t669 t678)))) = some r := H
            have A60 := Aside0.mk A600
            clear A600
            have HC61 := Aside0.mk H
            clear H
            try go_wp2
            have n0_ := Aside0.mk (Kd.R_drew HO_674000.out)
            have n1_ := Aside0.mk (Kd.R_drew HO_678000.out)
            have n2_ := Aside0.mk (Kd.R_drew HO_683000.out)
            have n3_ := Aside0.mk (blk_drew BK664.out)
            have n4_ := Aside0.mk (blk_drew BK673.out)
            have n5_ := Aside0.mk (blk_drew BK677.out)
            have n6_ := Aside0.mk (blk_drew BK682.out)
            have n7_ := Aside0.mk (below_drew1 HB.out)
            clear HO_674000
            clear HO_678000
            clear HO_683000
            clear BK664
            clear BK673
            clear BK677
            clear BK682
            clear HB
            have HO_674000 := n0_
            have HO_678000 := n1_
            have HO_683000 := n2_
            have BK664 := n3_
            have BK673 := n4_
            have BK677 := n5_
            have BK682 := n6_
            have HB := n7_
            clear n0_ n1_ n2_ n3_ n4_ n5_ n6_ n7_
            refine start_ (n := 5) (S := fun w' => w'.cell? ⟨gb677, 0, none⟩ = some (.slice Ao27 t674.length co27) ∧ w'.cell? ⟨gb664, 0, none⟩ = some (.slice A0_0 l0_0.length c0_0)) (ds := []) #[false, false, false, false, false] (by kernel_rfl) rfl rfl ⟨(blk_cell BK677.out 0).trans rfl, (blk_cell BK664.out 0).trans rfl⟩ (fun hHeld => ?_)
            generalize wc.drew = w62 at HO_674000 HO_678000 HO_683000 BK664 BK673 BK677 BK682 HB hHeld ⊢
            refine take_ (i := 0) (N := some 45) (v := ?_) (a' := ?_) #[true, false, false, false, false] rfl rfl (by kernel_rfl) (fun _ _ _ h => h) (Or.inl ⟨by rfl, ?_⟩) hHeld ?_ ?_
            rotate_left
            · rintro w' ⟨s0, s1⟩
              go_simp
              with_reducible rfl
            rotate_left
            · simp only [Act.put, List.setIfInBounds_toArray, List.set_cons_zero, List.set_cons_succ, i64_w, i32_w]
              rfl
            refine take_ (i := 1) (N := some 46) (v := ?_) (a' := ?_) #[true, true, false, false, false] rfl rfl (by kernel_rfl) (fun _ _ _ h => h) (Or.inl ⟨by rfl, ?_⟩) hHeld ?_ ?_
            rotate_left
            · rintro w' ⟨s0, s1⟩
              go_simp
              with_reducible rfl
            rotate_left
            · simp only [Act.put, List.setIfInBounds_toArray, List.set_cons_zero, List.set_cons_succ, i64_w, i32_w]
              rfl
            refine one_ (i := 2) (N := some 47) #[true, true, true, false, false] rfl rfl (by kernel_rfl) (by decide) (fun K hK => ?_)
            refine goes_ Try.func19 (by kernel_rfl) rfl #[.agg #[.slice A0_0 l0_0.length c0_0]] (by rfl) rfl rfl (by (try simp only [List.map_toArray, List.map_cons, List.map_nil]); first | done | rfl | (simp only [List.length_drop, List.length_take]; rfl)) ?_
            with_reducible refine (laws_toTasks.calls kj11 _ _ l0_0 t684 _ ?side1 ?side2 A57.out).mono ?_
            (case side1 => repeat (first | exact (Kd.C_below HR0_0.out HB.out) | (with_reducible refine Kd.C_alloc ?_ _) | (with_reducible refine Kd.C_drewN ?_ _) | (with_reducible refine Kd.C_drew ?_)))
            (case side2 => exact HC0_0.out)
            rintro e w63 ⟨v685, rfl, ho0, hb⟩
            refine ⟨_, rfl, ?_⟩
            have n0_ := Aside0.mk (Kd.R_elder' (by (with_reducible repeat (first | apply Kd.R_alloc | apply Kd.R_drewN | apply Kd.R_drew)); exact HO_674000.out) (Kd.R_base ho0) hb)
            have n1_ := Aside0.mk (Kd.R_elder' (by (with_reducible repeat (first | apply Kd.R_alloc | apply Kd.R_drewN | apply Kd.R_drew)); exact HO_678000.out) (Kd.R_base ho0) hb)
            have n2_ := Aside0.mk (Kd.R_elder' (by (with_reducible repeat (first | apply Kd.R_alloc | apply Kd.R_drewN | apply Kd.R_drew)); exact HO_683000.out) (Kd.R_base ho0) hb)
            have n3_ := Aside0.mk (Kd.R_lower (Kd.R_new' (Kd.R_new' (Kd.R_new' ho0 (Kd.R_lt (by (with_reducible repeat (first | apply Kd.R_alloc | apply Kd.R_drewN | apply Kd.R_drew)); exact HO_674000.out))) (Kd.R_lt (by (with_reducible repeat (first | apply Kd.R_alloc | apply Kd.R_drewN | apply Kd.R_drew)); exact HO_678000.out))) (Kd.R_lt (by (with_reducible repeat (first | apply Kd.R_alloc | apply Kd.R_drewN | apply Kd.R_drew)); exact HO_683000.out))) (below_size (by repeat (first | (with_reducible first | exact HB.out | apply below_alloc | apply pw_below_drewN | apply below_drew1 | refine below_set ?_ GE664.out | refine below_set ?_ GE673.out | refine below_set ?_ GE677.out | refine below_set ?_ GE682.out) | exact HB.out))))
            have n4_ := Aside0.mk (blk_below (g := gb664) (o := .cells #[.slice A0_0 l0_0.length c0_0] 24 (0, 0)) (by (with_reducible repeat (first | refine blk_drewN ?_ _ | refine blk_drew ?_ | refine blk_alloc ?_ _)); exact BK664.out) hb)
            have n5_ := Aside0.mk (blk_below (g := gb673) (o := .cells #[.slice Ao21 t669.length co21] 28 (0, 0)) (by (with_reducible repeat (first | refine blk_drewN ?_ _ | refine blk_drew ?_ | refine blk_alloc ?_ _)); exact BK673.out) hb)
            have n6_ := Aside0.mk (blk_below (g := gb677) (o := .cells #[.slice Ao27 t674.length co27] 28 (0, 0)) (by (with_reducible repeat (first | refine blk_drewN ?_ _ | refine blk_drew ?_ | refine blk_alloc ?_ _)); exact BK677.out) hb)
            have n7_ := Aside0.mk (blk_below (g := gb682) (o := .cells #[.slice Ao33 t678.length co33] 28 (0, 0)) (by (with_reducible repeat (first | refine blk_drewN ?_ _ | refine blk_drew ?_ | refine blk_alloc ?_ _)); exact BK682.out) hb)
            have n8_ := Aside0.mk (below_step (by repeat (first | (with_reducible first | exact HB.out | apply below_alloc | apply pw_below_drewN | apply below_drew1 | refine below_set ?_ GE664.out | refine below_set ?_ GE673.out | refine below_set ?_ GE677.out | refine below_set ?_ GE682.out) | exact HB.out)) hb)
            clear HO_674000
            clear HO_678000
            clear HO_683000
            clear BK664
            clear BK673
            clear BK677
            clear BK682
            clear HB
            have HO_674000 := n0_
            have HO_678000 := n1_
            have HO_683000 := n2_
            have HO686 := n3_
            have BK664 := n4_
            have BK673 := n5_
            have BK677 := n6_
            have BK682 := n7_
            have HB := n8_
            clear n0_ n1_ n2_ n3_ n4_ n5_ n6_ n7_ n8_
            (try clear hb)
            (try clear hb2)
            (try clear hk)
            (try clear hi)
            (try clear ho0)
            obtain ⟨Ao64, co64, eo64⟩ := Kd.R_slice HO686.out
            (first | subst eo64 | (injection eo64 with f1_ f2_ f3_; have f4_ := f1_.symm; have f5_ := f3_.symm; clear f1_ f2_ f3_; subst f4_; subst f5_))
            refine hK.out _ _ ⟨(blk_cell BK677.out 0).trans rfl, (blk_cell BK664.out 0).trans rfl⟩ (fun hHeld => ?_)
            clear hK K
            refine norm_ (a' := ?_) ?_ ?_
            rotate_left
            · show Act.put _ (some 47) _ = _
              simp only [Act.put, List.setIfInBounds_toArray, List.set_cons_zero, List.set_cons_succ, i64_w, i32_w]
              rfl
            refine one_ (i := 3) (N := some 48) #[true, true, true, true, false] rfl rfl (by kernel_rfl) (by decide) (fun K hK => ?_)
            refine goes_ Try.func22 (by kernel_rfl) rfl #[.agg #[.slice Ao27 t674.length co27], .agg #[.slice Ao64 t684.length co64]] (by rfl) rfl rfl (by (try simp only [List.map_toArray, List.map_cons, List.map_nil]); first | done | rfl | (simp only [List.length_drop, List.length_take]; rfl)) ?_
            with_reducible refine (laws_eqTasks.calls kj11 _ _ t674 _ _ t684 true _ ?side1 ?side2 ?side3 ?side4 A58.out).mono ?_
            (case side1 => repeat (first | exact (Kd.R_reads' HO_678000.out).2.2 | (with_reducible refine Kd.C_alloc ?_ _) | (with_reducible refine Kd.C_drewN ?_ _) | (with_reducible refine Kd.C_drew ?_)))
            (case side2 => exact (Kd.R_reads' HO_678000.out).2.1)
            (case side3 => repeat (first | exact (Kd.R_reads' HO686.out).2.2 | (with_reducible refine Kd.C_alloc ?_ _) | (with_reducible refine Kd.C_drewN ?_ _) | (with_reducible refine Kd.C_drew ?_)))
            (case side4 => exact (Kd.R_reads' HO686.out).2.1)
            rintro e w65 ⟨rfl, hb⟩
            refine ⟨_, rfl, ?_⟩
            have n0_ := Aside0.mk (Kd.R_below (by (with_reducible repeat (first | apply Kd.R_alloc | apply Kd.R_drewN | apply Kd.R_drew)); exact HO_674000.out) hb)
            have n1_ := Aside0.mk (Kd.R_below (by (with_reducible repeat (first | apply Kd.R_alloc | apply Kd.R_drewN | apply Kd.R_drew)); exact HO_678000.out) hb)
            have n2_ := Aside0.mk (Kd.R_below (by (with_reducible repeat (first | apply Kd.R_alloc | apply Kd.R_drewN | apply Kd.R_drew)); exact HO_683000.out) hb)
            have n3_ := Aside0.mk (Kd.R_below (by (with_reducible repeat (first | apply Kd.R_alloc | apply Kd.R_drewN | apply Kd.R_drew)); exact HO686.out) hb)
            have n4_ := Aside0.mk (blk_below (g := gb664) (o := .cells #[.slice A0_0 l0_0.length c0_0] 24 (0, 0)) (by (with_reducible repeat (first | refine blk_drewN ?_ _ | refine blk_drew ?_ | refine blk_alloc ?_ _)); exact BK664.out) hb)
            have n5_ := Aside0.mk (blk_below (g := gb673) (o := .cells #[.slice Ao21 t669.length co21] 28 (0, 0)) (by (with_reducible repeat (first | refine blk_drewN ?_ _ | refine blk_drew ?_ | refine blk_alloc ?_ _)); exact BK673.out) hb)
            have n6_ := Aside0.mk (blk_below (g := gb677) (o := .cells #[.slice Ao27 t674.length co27] 28 (0, 0)) (by (with_reducible repeat (first | refine blk_drewN ?_ _ | refine blk_drew ?_ | refine blk_alloc ?_ _)); exact BK677.out) hb)
            have n7_ := Aside0.mk (blk_below (g := gb682) (o := .cells #[.slice Ao33 t678.length co33] 28 (0, 0)) (by (with_reducible repeat (first | refine blk_drewN ?_ _ | refine blk_drew ?_ | refine blk_alloc ?_ _)); exact BK682.out) hb)
            have n8_ := Aside0.mk (below_step (by repeat (first | (with_reducible first | exact HB.out | apply below_alloc | apply pw_below_drewN | apply below_drew1 | refine below_set ?_ GE664.out | refine below_set ?_ GE673.out | refine below_set ?_ GE677.out | refine below_set ?_ GE682.out) | exact HB.out)) hb)
            clear HO_674000
            clear HO_678000
            clear HO_683000
            clear HO686
            clear BK664
            clear BK673
            clear BK677
            clear BK682
            clear HB
            have HO_674000 := n0_
            have HO_678000 := n1_
            have HO_683000 := n2_
            have HO686 := n3_
            have BK664 := n4_
            have BK673 := n5_
            have BK677 := n6_
            have BK682 := n7_
            have HB := n8_
            clear n0_ n1_ n2_ n3_ n4_ n5_ n6_ n7_ n8_
            (try clear hb)
            (try clear hb2)
            (try clear hk)
            (try clear hi)
            refine hK.out _ _ ⟨(blk_cell BK677.out 0).trans rfl, (blk_cell BK664.out 0).trans rfl⟩ (fun hHeld => ?_)
            clear hK K
            refine norm_ (a' := ?_) ?_ ?_
            rotate_left
            · show Act.put _ (some 48) _ = _
              simp only [Act.put, List.setIfInBounds_toArray, List.set_cons_zero, List.set_cons_succ, i64_w, i32_w]
              rfl
            refine pure_ (i := 4) (N := some 49) (v := ?_) (a' := ?_) #[true, true, true, true, true] rfl rfl (by kernel_rfl) (fun _ _ _ h => h) (Or.inl ⟨by rfl, ?_⟩) ?_ ?_
            rotate_left
            · intro w'
              go_simp
              with_reducible rfl
            rotate_left
            · simp only [Act.put, List.setIfInBounds_toArray, List.set_cons_zero, List.set_cons_succ, i64_w, i32_w]
              rfl
            refine done_ (by kernel_rfl) ?_
            have hnb66 := NB677_664.out
            have hnc66 := NB664_677.out
            have hnb67 := NB677_673.out
            have hnc67 := NB673_677.out
            have hnb68 := NB677_682.out
            have hnc68 := NB682_677.out
            have hcz69_0 : w65.cell? ⟨gb677, 0, none⟩ = some (.slice Ao27 t674.length co27) := (blk_cell BK677.out 0).trans rfl
            have hfz69_0 := blk_frozen BK677.out 0
            go_upto_region 14 with (first | ((with_reducible refine gate_callee (f := 30) rfl ?_); refine goesL_ (some 52) rfl rfl Try.func30 (by kernel_rfl) rfl #[.agg #[.slice Ao27 t674.length co27], .int .i64 1] rfl (by (try simp only [List.map_toArray, List.map_cons, List.map_nil]); first | done | rfl | (simp only [List.length_drop, List.length_take]; rfl)) ?_; (with_reducible refine (laws_markTasks.calls kj11 (fun k_ => some k_ = (.slice Ao27 t674.length co27 : Value).ownBlock) (.slice Ao27 t674.length co27) t674 1 t688 t689 w _ ?side1 ?side2 A60.out).mono ?_); (case side1 => repeat (first | (with_reducible first | exact HB.out | apply below_alloc | apply pw_below_drewN | apply below_drew1 | refine below_set ?_ GE664.out | refine below_set ?_ GE673.out | refine below_set ?_ GE677.out | refine below_set ?_ GE682.out) | exact HB.out)); (case side2 => exact Kd.R_tight rfl HO_678000.out); rintro e w70 ⟨rfl, hy0, hb, hkp⟩; refine ⟨_, rfl, ?_⟩; have n0_ := Aside0.mk (Kd.R_mono (ok' := fun k_ => some k_ ≠ (.slice Ao27 t674.length co27 : Value).ownBlock ∧ some k_ ≠ (.slice Ao33 t678.length co33 : Value).ownBlock ∧ some k_ ≠ (.slice Ao64 t684.length co64 : Value).ownBlock) (Kd.R_keptB (HO_674000.out) hkp (fun k_ hk_ hs_ => (hk_.1.1) hs_)) (fun k_ hk_ => ⟨hk_.1.1.1, hk_.1.1.2, hk_.1.2⟩)); have n1_ := Aside0.mk (Kd.R_reok rfl hy0 (fun k_ e_ => HO_678000.out.1 k_ e_)); have n2_ := Aside0.mk (Kd.R_mono (ok' := fun k_ => some k_ ≠ (.slice Ao21 t669.length co21 : Value).ownBlock ∧ some k_ ≠ (.slice Ao27 t674.length co27 : Value).ownBlock ∧ some k_ ≠ (.slice Ao64 t684.length co64 : Value).ownBlock) (Kd.R_keptB (HO_683000.out) hkp (fun k_ hk_ hs_ => (hk_.1.2) hs_)) (fun k_ hk_ => ⟨hk_.1.1.1, hk_.1.1.2, hk_.1.2⟩)); have n3_ := Aside0.mk (blk_kept (by (with_reducible repeat (first | refine blk_drewN ?_ _ | refine blk_drew ?_ | refine blk_alloc ?_ _)); exact BK664.out) hkp (fun hs_ => (fun e_ => (Kd.R_ne HO_678000.out BK664.out (by decide)) e_) hs_)); have n4_ := Aside0.mk (blk_kept (by (with_reducible repeat (first | refine blk_drewN ?_ _ | refine blk_drew ?_ | refine blk_alloc ?_ _)); exact BK673.out) hkp (fun hs_ => (fun e_ => (Kd.R_ne HO_678000.out BK673.out (by decide)) e_) hs_)); have n5_ := Aside0.mk (blk_kept (by (with_reducible repeat (first | refine blk_drewN ?_ _ | refine blk_drew ?_ | refine blk_alloc ?_ _)); exact BK677.out) hkp (fun hs_ => (fun e_ => (Kd.R_ne HO_678000.out BK677.out (by decide)) e_) hs_)); have n6_ := Aside0.mk (blk_kept (by (with_reducible repeat (first | refine blk_drewN ?_ _ | refine blk_drew ?_ | refine blk_alloc ?_ _)); exact BK682.out) hkp (fun hs_ => (fun e_ => (Kd.R_ne HO_678000.out BK682.out (by decide)) e_) hs_)); have n7_ := Aside0.mk (Kd.R_mono (ok' := fun k_ => some k_ ≠ (.slice Ao21 t669.length co21 : Value).ownBlock ∧ some k_ ≠ (.slice Ao27 t674.length co27 : Value).ownBlock ∧ some k_ ≠ (.slice Ao33 t678.length co33 : Value).ownBlock) (Kd.R_keptB (HO686.out) hkp (fun k_ hk_ hs_ => (hk_.1.2) hs_)) (fun k_ hk_ => ⟨hk_.1.1.1.2, hk_.1.1.2, hk_.1.2⟩)); have n8_ := Aside0.mk (hb); clear HO_674000; clear HO_678000; clear HO_683000; clear BK664; clear BK673; clear BK677; clear BK682; clear HO686; clear HB; have HO_674000 := n0_; have HO_678000 := n1_; have HO_683000 := n2_; have BK664 := n3_; have BK673 := n4_; have BK677 := n5_; have BK682 := n6_; have HO686 := n7_; have HB := n8_; clear n0_ n1_ n2_ n3_ n4_ n5_ n6_ n7_ n8_; (try clear hb); (try clear hkp); (try clear hy0)))
            (try simp only [Act.put, List.setIfInBounds_toArray, List.set_cons_zero, List.set_cons_succ])
            go_cut [65] (fun v65 wc => ∃ (kq : Nat) (x65_60 : Bool), v65 = .bool x65_60 ∧ Aside0 (laws_FnExactLessenGaps.j1 kq a1 t672 x65_60 l0_0 t669 t678 = some r) ∧ Aside0 (kq ≤ kj11) ∧ Aside0 (Kd.R (Kd.int .i64) 2 wc w.heap.size (fun k_ => some k_ ≠ ((.slice Ao27 t674.length co27) : Value).ownBlock ∧ some k_ ≠ ((.slice Ao33 t678.length co33) : Value).ownBlock) (.slice Ao21 t669.length co21) t669) ∧ Aside0 (Kd.R (Kd.int .i64) 2 wc w.heap.size (fun k_ => some k_ ≠ ((.slice Ao21 t669.length co21) : Value).ownBlock ∧ some k_ ≠ ((.slice Ao33 t678.length co33) : Value).ownBlock) (.slice Ao27 t674.length co27) t689) ∧ Aside0 (Kd.R (Kd.int .i64) 2 wc w.heap.size (fun k_ => some k_ ≠ ((.slice Ao21 t669.length co21) : Value).ownBlock ∧ some k_ ≠ ((.slice Ao27 t674.length co27) : Value).ownBlock) (.slice Ao33 t678.length co33) t678) ∧ Aside0 (wc.heap[gb664]? = some (.cells #[(.slice A0_0 l0_0.length c0_0)] 24 (0, 0))) ∧ Aside0 (wc.heap[gb673]? = some (.cells #[(.slice Ao21 t669.length co21)] 28 (0, 0))) ∧ Aside0 (wc.heap[gb677]? = some (.cells #[(.slice Ao27 t674.length co27)] 28 (0, 0))) ∧ Aside0 (wc.heap[gb682]? = some (.cells #[(.slice Ao33 t678.length co33)] 28 (0, 0))) ∧ Aside0 (Below w.heap.size w wc))
            case first =>
              have H := HC61.out
              clear HC61
              by_cases c71 : t688 < 0
              · rw [if_pos c71] at H
                have c71b0 : decide (t688 < 0) = true := decide_eq_true c71
                clear c71
                (first | rw [c71b0] | (simp only [i64_w, i32_w]; rw [c71b0]) | skip)
                have H' := Aside0.mk H
                clear H
                go_wp2
                go_meet
                case rel => exact ⟨_, (true), (by first | rfl | (simp; done) | (simp [*]; done)), H', ⟨by have := HJ11.out; first | omega | exact Nat.le_refl _⟩, ⟨by (with_reducible repeat (first | apply Kd.R_alloc | apply Kd.R_drewN | apply Kd.R_drew)); exact Kd.R_mono HO_674000.out (fun _ hk => ⟨hk.1, hk.2.1⟩)⟩, ⟨by (with_reducible repeat (first | apply Kd.R_alloc | apply Kd.R_drewN | apply Kd.R_drew)); exact Kd.R_mono HO_678000.out (fun _ hk => ⟨hk.1.1, hk.1.2⟩)⟩, ⟨by (with_reducible repeat (first | apply Kd.R_alloc | apply Kd.R_drewN | apply Kd.R_drew)); exact Kd.R_mono HO_683000.out (fun _ hk => ⟨hk.1, hk.2.1⟩)⟩, ⟨by (with_reducible repeat (first | refine blk_drewN ?_ _ | refine blk_drew ?_ | refine blk_alloc ?_ _)); exact BK664.out⟩, ⟨by (with_reducible repeat (first | refine blk_drewN ?_ _ | refine blk_drew ?_ | refine blk_alloc ?_ _)); exact BK673.out⟩, ⟨by (with_reducible repeat (first | refine blk_drewN ?_ _ | refine blk_drew ?_ | refine blk_alloc ?_ _)); exact BK677.out⟩, ⟨by (with_reducible repeat (first | refine blk_drewN ?_ _ | refine blk_drew ?_ | refine blk_alloc ?_ _)); exact BK682.out⟩, ⟨by repeat (first | (with_reducible first | exact HB.out | apply below_alloc | apply pw_below_drewN | apply below_drew1 | refine below_set ?_ GE664.out | refine below_set ?_ GE673.out | refine below_set ?_ GE677.out | refine below_set ?_ GE682.out) | exact HB.out)⟩⟩
              · rw [if_neg c71] at H
                have c71b0 : decide (t688 < 0) = false := decide_eq_false c71
                clear c71
                (first | rw [c71b0] | (simp only [i64_w, i32_w]; rw [c71b0]) | skip)
                replace H := Option.bind_eq_some_iff.mp H
                obtain ⟨t690, A720, H⟩ := H
                replace H : (if t690 = true then (laws_FnExactLessenGaps.j1 kj11 a1 t672 (t681 != t672) l0_0 t669 t678) else (laws_FnExactLessenGaps.j1 kj11 a1 t672 true l0_0 t669 t678)) = some r := H
                have A72 := Aside0.mk A720
                clear A720
                by_cases c73 : t690 = true
                · subst c73
                  have H1 : (laws_FnExactLessenGaps.j1 kj11 a1 t672 (t681 != t672) l0_0 t669 t678) = some r := by rw [if_pos rfl] at H; exact H
                  clear H
                  have H := H1
                  clear H1
                  have H' := Aside0.mk H
                  clear H
                  have hnb74 := NB682_664.out
                  have hnc74 := NB664_682.out
                  have hnb75 := NB682_673.out
                  have hnc75 := NB673_682.out
                  have hnb76 := NB682_677.out
                  have hnc76 := NB677_682.out
                  have hcz77_0 : w70.cell? ⟨gb682, 0, none⟩ = some (.slice Ao33 t678.length co33) := (blk_cell BK682.out 0).trans rfl
                  have hfz77_0 := blk_frozen BK682.out 0
                  have hnb78 := NB673_664.out
                  have hnc78 := NB664_673.out
                  have hnb79 := NB673_677.out
                  have hnc79 := NB677_673.out
                  have hcz80_0 : w70.cell? ⟨gb673, 0, none⟩ = some (.slice Ao21 t669.length co21) := (blk_cell BK673.out 0).trans rfl
                  have hfz80_0 := blk_frozen BK673.out 0
                  go_wp2_with (first | (go_at_call 22; (with_reducible refine (laws_eqTasks.calls kj11 _ _ t678 _ _ t669 true _ ?side1 ?side2 ?side3 ?side4 A72.out).mono ?_); (case side1 => repeat (first | exact (Kd.R_reads' HO_683000.out).2.2 | (with_reducible refine Kd.C_alloc ?_ _) | (with_reducible refine Kd.C_drewN ?_ _) | (with_reducible refine Kd.C_drew ?_))); (case side2 => exact (Kd.R_reads' HO_683000.out).2.1); (case side3 => repeat (first | exact (Kd.R_reads' HO_674000.out).2.2 | (with_reducible refine Kd.C_alloc ?_ _) | (with_reducible refine Kd.C_drewN ?_ _) | (with_reducible refine Kd.C_drew ?_))); (case side4 => exact (Kd.R_reads' HO_674000.out).2.1); rintro e w81 ⟨rfl, hb⟩; have n0_ := Aside0.mk (Kd.R_below (by (with_reducible repeat (first | apply Kd.R_alloc | apply Kd.R_drewN | apply Kd.R_drew)); exact HO_674000.out) hb); have n1_ := Aside0.mk (Kd.R_below (by (with_reducible repeat (first | apply Kd.R_alloc | apply Kd.R_drewN | apply Kd.R_drew)); exact HO_678000.out) hb); have n2_ := Aside0.mk (Kd.R_below (by (with_reducible repeat (first | apply Kd.R_alloc | apply Kd.R_drewN | apply Kd.R_drew)); exact HO_683000.out) hb); have n3_ := Aside0.mk (Kd.R_below (by (with_reducible repeat (first | apply Kd.R_alloc | apply Kd.R_drewN | apply Kd.R_drew)); exact HO686.out) hb); have n4_ := Aside0.mk (blk_below (g := gb664) (o := .cells #[.slice A0_0 l0_0.length c0_0] 24 (0, 0)) (by (with_reducible repeat (first | refine blk_drewN ?_ _ | refine blk_drew ?_ | refine blk_alloc ?_ _)); exact BK664.out) hb); have n5_ := Aside0.mk (blk_below (g := gb673) (o := .cells #[.slice Ao21 t669.length co21] 28 (0, 0)) (by (with_reducible repeat (first | refine blk_drewN ?_ _ | refine blk_drew ?_ | refine blk_alloc ?_ _)); exact BK673.out) hb); have n6_ := Aside0.mk (blk_below (g := gb677) (o := .cells #[.slice Ao27 t674.length co27] 28 (0, 0)) (by (with_reducible repeat (first | refine blk_drewN ?_ _ | refine blk_drew ?_ | refine blk_alloc ?_ _)); exact BK677.out) hb); have n7_ := Aside0.mk (blk_below (g := gb682) (o := .cells #[.slice Ao33 t678.length co33] 28 (0, 0)) (by (with_reducible repeat (first | refine blk_drewN ?_ _ | refine blk_drew ?_ | refine blk_alloc ?_ _)); exact BK682.out) hb); have n8_ := Aside0.mk (below_step (by repeat (first | (with_reducible first | exact HB.out | apply below_alloc | apply pw_below_drewN | apply below_drew1 | refine below_set ?_ GE664.out | refine below_set ?_ GE673.out | refine below_set ?_ GE677.out | refine below_set ?_ GE682.out) | exact HB.out)) hb); clear HO_674000; clear HO_678000; clear HO_683000; clear HO686; clear BK664; clear BK673; clear BK677; clear BK682; clear HB; have HO_674000 := n0_; have HO_678000 := n1_; have HO_683000 := n2_; have HO686 := n3_; have BK664 := n4_; have BK673 := n5_; have BK677 := n6_; have BK682 := n7_; have HB := n8_; clear n0_ n1_ n2_ n3_ n4_ n5_ n6_ n7_ n8_; (try clear hb); (try clear hb2); (try clear hk); (try clear hi)))
                  go_meet
                  case rel => exact ⟨_, ((t681 != t672)), (by first | rfl | (simp; done) | (simp [*]; done)), H', ⟨by have := HJ11.out; first | omega | exact Nat.le_refl _⟩, ⟨by (with_reducible repeat (first | apply Kd.R_alloc | apply Kd.R_drewN | apply Kd.R_drew)); exact Kd.R_mono HO_674000.out (fun _ hk => ⟨hk.1, hk.2.1⟩)⟩, ⟨by (with_reducible repeat (first | apply Kd.R_alloc | apply Kd.R_drewN | apply Kd.R_drew)); exact Kd.R_mono HO_678000.out (fun _ hk => ⟨hk.1.1, hk.1.2⟩)⟩, ⟨by (with_reducible repeat (first | apply Kd.R_alloc | apply Kd.R_drewN | apply Kd.R_drew)); exact Kd.R_mono HO_683000.out (fun _ hk => ⟨hk.1, hk.2.1⟩)⟩, ⟨by (with_reducible repeat (first | refine blk_drewN ?_ _ | refine blk_drew ?_ | refine blk_alloc ?_ _)); exact BK664.out⟩, ⟨by (with_reducible repeat (first | refine blk_drewN ?_ _ | refine blk_drew ?_ | refine blk_alloc ?_ _)); exact BK673.out⟩, ⟨by (with_reducible repeat (first | refine blk_drewN ?_ _ | refine blk_drew ?_ | refine blk_alloc ?_ _)); exact BK677.out⟩, ⟨by (with_reducible repeat (first | refine blk_drewN ?_ _ | refine blk_drew ?_ | refine blk_alloc ?_ _)); exact BK682.out⟩, ⟨by repeat (first | (with_reducible first | exact HB.out | apply below_alloc | apply pw_below_drewN | apply below_drew1 | refine below_set ?_ GE664.out | refine below_set ?_ GE673.out | refine below_set ?_ GE677.out | refine below_set ?_ GE682.out) | exact HB.out)⟩⟩
                · replace c73 := Bool.eq_false_iff.mpr c73
                  subst c73
                  have H1 : (laws_FnExactLessenGaps.j1 kj11 a1 t672 true l0_0 t669 t678) = some r := by rw [if_neg (show ¬ (false = true) by decide)] at H; exact H
                  clear H
                  have H := H1
                  clear H1
                  have H' := Aside0.mk H
                  clear H
                  have hnb82 := NB682_664.out
                  have hnc82 := NB664_682.out
                  have hnb83 := NB682_673.out
                  have hnc83 := NB673_682.out
                  have hnb84 := NB682_677.out
                  have hnc84 := NB677_682.out
                  have hcz85_0 : w70.cell? ⟨gb682, 0, none⟩ = some (.slice Ao33 t678.length co33) := (blk_cell BK682.out 0).trans rfl
                  have hfz85_0 := blk_frozen BK682.out 0
                  have hnb86 := NB673_664.out
                  have hnc86 := NB664_673.out
                  have hnb87 := NB673_677.out
                  have hnc87 := NB677_673.out
                  have hcz88_0 : w70.cell? ⟨gb673, 0, none⟩ = some (.slice Ao21 t669.length co21) := (blk_cell BK673.out 0).trans rfl
                  have hfz88_0 := blk_frozen BK673.out 0
                  go_wp2_with (first | (go_at_call 22; (with_reducible refine (laws_eqTasks.calls kj11 _ _ t678 _ _ t669 false _ ?side1 ?side2 ?side3 ?side4 A72.out).mono ?_); (case side1 => repeat (first | exact (Kd.R_reads' HO_683000.out).2.2 | (with_reducible refine Kd.C_alloc ?_ _) | (with_reducible refine Kd.C_drewN ?_ _) | (with_reducible refine Kd.C_drew ?_))); (case side2 => exact (Kd.R_reads' HO_683000.out).2.1); (case side3 => repeat (first | exact (Kd.R_reads' HO_674000.out).2.2 | (with_reducible refine Kd.C_alloc ?_ _) | (with_reducible refine Kd.C_drewN ?_ _) | (with_reducible refine Kd.C_drew ?_))); (case side4 => exact (Kd.R_reads' HO_674000.out).2.1); rintro e w89 ⟨rfl, hb⟩; have n0_ := Aside0.mk (Kd.R_below (by (with_reducible repeat (first | apply Kd.R_alloc | apply Kd.R_drewN | apply Kd.R_drew)); exact HO_674000.out) hb); have n1_ := Aside0.mk (Kd.R_below (by (with_reducible repeat (first | apply Kd.R_alloc | apply Kd.R_drewN | apply Kd.R_drew)); exact HO_678000.out) hb); have n2_ := Aside0.mk (Kd.R_below (by (with_reducible repeat (first | apply Kd.R_alloc | apply Kd.R_drewN | apply Kd.R_drew)); exact HO_683000.out) hb); have n3_ := Aside0.mk (Kd.R_below (by (with_reducible repeat (first | apply Kd.R_alloc | apply Kd.R_drewN | apply Kd.R_drew)); exact HO686.out) hb); have n4_ := Aside0.mk (blk_below (g := gb664) (o := .cells #[.slice A0_0 l0_0.length c0_0] 24 (0, 0)) (by (with_reducible repeat (first | refine blk_drewN ?_ _ | refine blk_drew ?_ | refine blk_alloc ?_ _)); exact BK664.out) hb); have n5_ := Aside0.mk (blk_below (g := gb673) (o := .cells #[.slice Ao21 t669.length co21] 28 (0, 0)) (by (with_reducible repeat (first | refine blk_drewN ?_ _ | refine blk_drew ?_ | refine blk_alloc ?_ _)); exact BK673.out) hb); have n6_ := Aside0.mk (blk_below (g := gb677) (o := .cells #[.slice Ao27 t674.length co27] 28 (0, 0)) (by (with_reducible repeat (first | refine blk_drewN ?_ _ | refine blk_drew ?_ | refine blk_alloc ?_ _)); exact BK677.out) hb); have n7_ := Aside0.mk (blk_below (g := gb682) (o := .cells #[.slice Ao33 t678.length co33] 28 (0, 0)) (by (with_reducible repeat (first | refine blk_drewN ?_ _ | refine blk_drew ?_ | refine blk_alloc ?_ _)); exact BK682.out) hb); have n8_ := Aside0.mk (below_step (by repeat (first | (with_reducible first | exact HB.out | apply below_alloc | apply pw_below_drewN | apply below_drew1 | refine below_set ?_ GE664.out | refine below_set ?_ GE673.out | refine below_set ?_ GE677.out | refine below_set ?_ GE682.out) | exact HB.out)) hb); clear HO_674000; clear HO_678000; clear HO_683000; clear HO686; clear BK664; clear BK673; clear BK677; clear BK682; clear HB; have HO_674000 := n0_; have HO_678000 := n1_; have HO_683000 := n2_; have HO686 := n3_; have BK664 := n4_; have BK673 := n5_; have BK677 := n6_; have BK682 := n7_; have HB := n8_; clear n0_ n1_ n2_ n3_ n4_ n5_ n6_ n7_ n8_; (try clear hb); (try clear hb2); (try clear hk); (try clear hi)))
                  go_meet
                  case rel => exact ⟨_, (true), (by first | rfl | (simp; done) | (simp [*]; done)), H', ⟨by have := HJ11.out; first | omega | exact Nat.le_refl _⟩, ⟨by (with_reducible repeat (first | apply Kd.R_alloc | apply Kd.R_drewN | apply Kd.R_drew)); exact Kd.R_mono HO_674000.out (fun _ hk => ⟨hk.1, hk.2.1⟩)⟩, ⟨by (with_reducible repeat (first | apply Kd.R_alloc | apply Kd.R_drewN | apply Kd.R_drew)); exact Kd.R_mono HO_678000.out (fun _ hk => ⟨hk.1.1, hk.1.2⟩)⟩, ⟨by (with_reducible repeat (first | apply Kd.R_alloc | apply Kd.R_drewN | apply Kd.R_drew)); exact Kd.R_mono HO_683000.out (fun _ hk => ⟨hk.1, hk.2.1⟩)⟩, ⟨by (with_reducible repeat (first | refine blk_drewN ?_ _ | refine blk_drew ?_ | refine blk_alloc ?_ _)); exact BK664.out⟩, ⟨by (with_reducible repeat (first | refine blk_drewN ?_ _ | refine blk_drew ?_ | refine blk_alloc ?_ _)); exact BK673.out⟩, ⟨by (with_reducible repeat (first | refine blk_drewN ?_ _ | refine blk_drew ?_ | refine blk_alloc ?_ _)); exact BK677.out⟩, ⟨by (with_reducible repeat (first | refine blk_drewN ?_ _ | refine blk_drew ?_ | refine blk_alloc ?_ _)); exact BK682.out⟩, ⟨by repeat (first | (with_reducible first | exact HB.out | apply below_alloc | apply pw_below_drewN | apply below_drew1 | refine below_set ?_ GE664.out | refine below_set ?_ GE673.out | refine below_set ?_ GE677.out | refine below_set ?_ GE682.out) | exact HB.out)⟩⟩
            case rest =>
              clear HC61
              try clear c1
              try clear c2
              try clear p2
              try clear c3
              try clear c4
              try clear c4b0
              try clear c5
              try clear c6
              try clear c7
              try clear c8
              try clear c16
              try clear c17
              try clear c19
              try clear c22
              try clear c28
              try clear c29
              try clear c30
              try clear c34
              try clear c35
              try clear c36
              try clear c39
              try clear c40
              try clear c41
              try clear c42
              try clear c44
              try clear c45
              try clear c48
              try clear c49
              try clear c50
              try clear c52
              try clear c53
              try clear c55
              try clear c56
              try clear c59
              try clear c66
              try clear c67
              try clear c68
              try clear c71
              try clear c71b0
              try clear c73
              try clear c74
              try clear c75
              try clear c76
              try clear c78
              try clear c79
              try clear c82
              try clear c83
              try clear c84
              try clear c86
              try clear c87
              try clear hcz14_0
              try clear hcz16_0
              try clear hcz23_0
              try clear hcz24_0
              try clear hcz30_0
              try clear hcz37_0
              try clear hcz43_0
              try clear hcz46_0
              try clear hcz51_0
              try clear hcz54_0
              try clear hcz69_0
              try clear hcz6_0
              try clear hcz77_0
              try clear hcz80_0
              try clear hcz85_0
              try clear hcz88_0
              try clear hfz14_0
              try clear hfz16_0
              try clear hfz23_0
              try clear hfz24_0
              try clear hfz30_0
              try clear hfz37_0
              try clear hfz43_0
              try clear hfz46_0
              try clear hfz51_0
              try clear hfz54_0
              try clear hfz69_0
              try clear hfz6_0
              try clear hfz77_0
              try clear hfz80_0
              try clear hfz85_0
              try clear hfz88_0
              try clear p2
              obtain ⟨kq, x65_60, rfl, HA, HJ60, HO_674000, HO_678000, HO_683000, BK664, BK673, BK677, BK682, HB⟩ := hcut
              have hl678000_60 := (Kd.R_reads' HO_678000.out).1
              rw [hl678000_60] at HO_678000
              (try simp only [hl678000_60])
              (try simp only [hl678000_60] at BK664)
              (try simp only [hl678000_60] at BK673)
              (try simp only [hl678000_60] at BK677)
              (try simp only [hl678000_60] at BK682)
              (try simp only [hl678000_60] at HO_674000)
              (try simp only [hl678000_60] at HO_683000)
              cases kq with
              | zero => exact absurd HA.out (by simp [laws_FnExactLessenGaps.j1])
              | succ kj60 =>
                have H := HA.out
                clear HA
                simp only [laws_FnExactLessenGaps.j1] at H
                by_cases c90 : x65_60 = true
                · subst c90
                  have H1 : (some false) = some r := by rw [if_pos rfl] at H; exact H
                  clear H
                  have H := H1
                  clear H1
                  obtain rfl := Option.some.inj H
                  go_wp2
                  go_ret
                  exact ⟨by first | rfl | (simp [errW_none, errW_some] <;> rfl) | (simp [*, errW_none, errW_some] <;> rfl), by repeat (first | (with_reducible first | exact HB.out | apply below_alloc | apply pw_below_drewN | apply below_drew1 | refine below_set ?_ GE664.out | refine below_set ?_ GE673.out | refine below_set ?_ GE677.out | refine below_set ?_ GE682.out) | exact HB.out)⟩
                · replace c90 := Bool.eq_false_iff.mpr c90
                  subst c90
                  have H1 : ((laws_markTasks.f kj60 t678 1).bind fun bt691 => ((laws_heldTasks.f kj60 bt691.2 1).bind fun t693 => (if t693 < 0 then (some false) else (if t693 = bt691.1 then ((laws_toTasks.f kj60 l0_0).bind fun t694 => ((impl_LessenGaps.f kj60 t694 a1).bind fun bt697 => ((laws_eqTasks.f kj60 bt697.1 t669).bind fun t702 => (if t702 = true then (laws_FnExactLessenGaps.j2 kj60 bt691.1 (bt697.2 != t672) bt691.2) else (laws_FnExactLessenGaps.j2 kj60 bt691.1 true bt691.2))))) else (some false))))) = some r := by rw [if_neg (show ¬ (false = true) by decide)] at H; exact H
                  clear H
                  have H := H1
                  clear H1
                  replace H := Option.bind_eq_some_iff.mp H
                  obtain ⟨⟨t691, t692⟩, A910, H⟩ := H
                  replace H : ((laws_heldTasks.f kj60 t692 1).bind fun t693 => (if t693 < 0 then (some false) else (if t693 = t691 then ((laws_toTasks.f kj60 l0_0).bind fun t694 => ((impl_LessenGaps.f kj60 t694 a1).bind fun bt697 => ((laws_eqTasks.f kj60 bt697.1 t669).bind fun t702 => (if t702 = true then (laws_FnExactLessenGaps.j2 kj60 t691 (bt697.2 != t672) t692) else (laws_FnExactLessenGaps.j2 kj60 t691 true t692))))) else (some false)))) = some r := H
                  have A91 := Aside0.mk A910
                  clear A910
                  replace H := Option.bind_eq_some_iff.mp H
                  obtain ⟨t693, A920, H⟩ := H
                  replace H : (if t693 < 0 then (some false) else (if t693 = t691 then ((laws_toTasks.f kj60 l0_0).bind fun t694 => ((impl_LessenGaps.f kj60 t694 a1).bind fun bt697 => ((laws_eqTasks.f kj60 bt697.1 t669).bind fun t702 => (if t702 = true then (laws_FnExactLessenGaps.j2 kj60 t691 (bt697.2 != t672) t692) else (laws_FnExactLessenGaps.j2 kj60 t691 true t692))))) else (some false))) = some r := H
                  have A92 := Aside0.mk A920
                  clear A920
                  by_cases c93 : t693 < 0
                  · rw [if_pos c93] at H
                    have c93b0 : decide (t693 < 0) = true := decide_eq_true c93
                    (try (have c93h_hl678000_60 := c93b0; rw [hl678000_60] at c93h_hl678000_60))
                    clear c93
                    obtain rfl := Option.some.inj H
                    have hnb94 := NB682_664.out
                    have hnc94 := NB664_682.out
                    have hnb95 := NB682_673.out
                    have hnc95 := NB673_682.out
                    have hnb96 := NB682_677.out
                    have hnc96 := NB677_682.out
                    have hcz97_0 : wc.cell? ⟨gb682, 0, none⟩ = some (.slice Ao33 t678.length co33) := (blk_cell BK682.out 0).trans rfl
                    have hfz97_0 := blk_frozen BK682.out 0
                    go_wp2_with (first | ((with_reducible refine gate_callee (f := 30) rfl ?_); refine goesL_ (some 68) rfl rfl Try.func30 (by kernel_rfl) rfl #[.agg #[.slice Ao33 t678.length co33], .int .i64 1] rfl (by (try simp only [List.map_toArray, List.map_cons, List.map_nil]); first | done | rfl | (simp only [List.length_drop, List.length_take]; rfl)) ?_; (with_reducible refine (laws_markTasks.calls kj60 (fun k_ => some k_ = (.slice Ao33 t678.length co33 : Value).ownBlock) (.slice Ao33 t678.length co33) t678 1 t691 t692 w _ ?side1 ?side2 A91.out).mono ?_); (case side1 => repeat (first | (with_reducible first | exact HB.out | apply below_alloc | apply pw_below_drewN | apply below_drew1 | refine below_set ?_ GE664.out | refine below_set ?_ GE673.out | refine below_set ?_ GE677.out | refine below_set ?_ GE682.out) | exact HB.out)); (case side2 => exact Kd.R_tight rfl HO_683000.out); rintro e w98 ⟨rfl, hy0, hb, hkp⟩; refine ⟨_, rfl, ?_⟩; have n0_ := Aside0.mk (Kd.R_mono (ok' := fun k_ => some k_ ≠ (.slice Ao27 t689.length co27 : Value).ownBlock ∧ some k_ ≠ (.slice Ao33 t678.length co33 : Value).ownBlock) (Kd.R_keptB (HO_674000.out) hkp (fun k_ hk_ hs_ => (hk_.2) hs_)) (fun k_ hk_ => ⟨hk_.1.1, hk_.1.2⟩)); have n1_ := Aside0.mk (Kd.R_mono (ok' := fun k_ => some k_ ≠ (.slice Ao21 t669.length co21 : Value).ownBlock ∧ some k_ ≠ (.slice Ao33 t678.length co33 : Value).ownBlock) (Kd.R_keptB (HO_678000.out) hkp (fun k_ hk_ hs_ => (hk_.2) hs_)) (fun k_ hk_ => ⟨hk_.1.1, hk_.1.2⟩)); have n2_ := Aside0.mk (Kd.R_reok rfl hy0 (fun k_ e_ => HO_683000.out.1 k_ e_)); have n3_ := Aside0.mk (blk_kept (by (with_reducible repeat (first | refine blk_drewN ?_ _ | refine blk_drew ?_ | refine blk_alloc ?_ _)); exact BK664.out) hkp (fun hs_ => (fun e_ => (Kd.R_ne HO_683000.out BK664.out (by decide)) e_) hs_)); have n4_ := Aside0.mk (blk_kept (by (with_reducible repeat (first | refine blk_drewN ?_ _ | refine blk_drew ?_ | refine blk_alloc ?_ _)); exact BK673.out) hkp (fun hs_ => (fun e_ => (Kd.R_ne HO_683000.out BK673.out (by decide)) e_) hs_)); have n5_ := Aside0.mk (blk_kept (by (with_reducible repeat (first | refine blk_drewN ?_ _ | refine blk_drew ?_ | refine blk_alloc ?_ _)); exact BK677.out) hkp (fun hs_ => (fun e_ => (Kd.R_ne HO_683000.out BK677.out (by decide)) e_) hs_)); have n6_ := Aside0.mk (blk_kept (by (with_reducible repeat (first | refine blk_drewN ?_ _ | refine blk_drew ?_ | refine blk_alloc ?_ _)); exact BK682.out) hkp (fun hs_ => (fun e_ => (Kd.R_ne HO_683000.out BK682.out (by decide)) e_) hs_)); have n7_ := Aside0.mk (hb); clear HO_674000; clear HO_678000; clear HO_683000; clear BK664; clear BK673; clear BK677; clear BK682; clear HB; have HO_674000 := n0_; have HO_678000 := n1_; have HO_683000 := n2_; have BK664 := n3_; have BK673 := n4_; have BK677 := n5_; have BK682 := n6_; have HB := n7_; clear n0_ n1_ n2_ n3_ n4_ n5_ n6_ n7_; (try clear hb); (try clear hkp); (try clear hy0); have hcz99_0 : w98.cell? ⟨gb682, 0, none⟩ = some (.slice Ao33 t678.length co33) := (blk_cell BK682.out 0).trans rfl; have hfz99_0 := blk_frozen BK682.out 0) | ((with_reducible refine gate_callee (f := 43) rfl ?_); refine goesL_ (some 71) rfl rfl Try.func43 (by kernel_rfl) rfl #[.agg #[.slice Ao33 t692.length co33], .int .i64 1] rfl (by (try simp only [List.map_toArray, List.map_cons, List.map_nil]); first | done | (rw [show t692.length = t678.length from (Kd.R_reads' HO_683000.out).1.symm] <;> rfl) | rfl | (simp only [List.length_drop, List.length_take]; rfl)) ?_; (with_reducible refine (laws_heldTasks.calls kj60 _ _ t692 1 t693 _ ?side1 ?side2 A92.out).mono ?_); (case side1 => repeat (first | exact (Kd.R_reads' HO_683000.out).2.2 | (with_reducible refine Kd.C_alloc ?_ _) | (with_reducible refine Kd.C_drewN ?_ _) | (with_reducible refine Kd.C_drew ?_))); (case side2 => rw [show t692.length = t678.length from (Kd.R_reads' HO_683000.out).1.symm]; exact (Kd.R_reads' HO_683000.out).2.1); rintro e w100 ⟨rfl, hb⟩; refine ⟨_, rfl, ?_⟩; have n0_ := Aside0.mk (Kd.R_below (by (with_reducible repeat (first | apply Kd.R_alloc | apply Kd.R_drewN | apply Kd.R_drew)); exact HO_674000.out) hb); have n1_ := Aside0.mk (Kd.R_below (by (with_reducible repeat (first | apply Kd.R_alloc | apply Kd.R_drewN | apply Kd.R_drew)); exact HO_678000.out) hb); have n2_ := Aside0.mk (Kd.R_below (by (with_reducible repeat (first | apply Kd.R_alloc | apply Kd.R_drewN | apply Kd.R_drew)); exact HO_683000.out) hb); have n3_ := Aside0.mk (blk_below (g := gb664) (o := .cells #[.slice A0_0 l0_0.length c0_0] 24 (0, 0)) (by (with_reducible repeat (first | refine blk_drewN ?_ _ | refine blk_drew ?_ | refine blk_alloc ?_ _)); exact BK664.out) hb); have n4_ := Aside0.mk (blk_below (g := gb673) (o := .cells #[.slice Ao21 t669.length co21] 28 (0, 0)) (by (with_reducible repeat (first | refine blk_drewN ?_ _ | refine blk_drew ?_ | refine blk_alloc ?_ _)); exact BK673.out) hb); have n5_ := Aside0.mk (blk_below (g := gb677) (o := .cells #[.slice Ao27 t689.length co27] 28 (0, 0)) (by (with_reducible repeat (first | refine blk_drewN ?_ _ | refine blk_drew ?_ | refine blk_alloc ?_ _)); exact BK677.out) hb); have n6_ := Aside0.mk (blk_below (g := gb682) (o := .cells #[.slice Ao33 t678.length co33] 28 (0, 0)) (by (with_reducible repeat (first | refine blk_drewN ?_ _ | refine blk_drew ?_ | refine blk_alloc ?_ _)); exact BK682.out) hb); have n7_ := Aside0.mk (below_step (by repeat (first | (with_reducible first | exact HB.out | apply below_alloc | apply pw_below_drewN | apply below_drew1 | refine below_set ?_ GE664.out | refine below_set ?_ GE673.out | refine below_set ?_ GE677.out | refine below_set ?_ GE682.out) | exact HB.out)) hb); clear HO_674000; clear HO_678000; clear HO_683000; clear BK664; clear BK673; clear BK677; clear BK682; clear HB; have HO_674000 := n0_; have HO_678000 := n1_; have HO_683000 := n2_; have BK664 := n3_; have BK673 := n4_; have BK677 := n5_; have BK682 := n6_; have HB := n7_; clear n0_ n1_ n2_ n3_ n4_ n5_ n6_ n7_; (try clear hb); (try clear hb2); (try clear hk); (try clear hi)))
                    go_ret
                    exact ⟨by first | rfl | (simp [errW_none, errW_some] <;> rfl) | (simp [*, errW_none, errW_some] <;> rfl), by repeat (first | (with_reducible first | exact HB.out | apply below_alloc | apply pw_below_drewN | apply below_drew1 | refine below_set ?_ GE664.out | refine below_set ?_ GE673.out | refine below_set ?_ GE677.out | refine below_set ?_ GE682.out) | exact HB.out)⟩
                  · rw [if_neg c93] at H
                    have c93b0 : decide (t693 < 0) = false := decide_eq_false c93
                    (try (have c93h_hl678000_60 := c93b0; rw [hl678000_60] at c93h_hl678000_60))
                    clear c93
                    by_cases c101 : t693 = t691
                    · rw [if_pos c101] at H
                      have c101b0 : (t693 == t691) = true := beq_iff_eq.mpr c101
                      have c101b1 : (t693 != t691) = false := bne_eq_false_iff_eq.mpr c101
                      (try (have c101h_hl678000_60 := c101b0; rw [hl678000_60] at c101h_hl678000_60))
                      clear c101
                      replace H := Option.bind_eq_some_iff.mp H
                      obtain ⟨t694, A1020, H⟩ := H
                      replace H : ((impl_LessenGaps.f kj60 t694 a1).bind fun bt697 => ((laws_eqTasks.f kj60 bt697.1 t669).bind fun t702 => (if t702 = true then (laws_FnExactLessenGaps.j2 kj60 t691 (bt697.2 != t672) t692) else (laws_FnExactLessenGaps.j2 kj60 t691 true t692)))) = some r := H
                      have A102 := Aside0.mk A1020
                      clear A1020
                      replace H := Option.bind_eq_some_iff.mp H
                      obtain ⟨⟨t697, t700⟩, A1030, H⟩ := H
                      replace H : ((laws_eqTasks.f kj60 t697 t669).bind fun t702 => (if t702 = true then (laws_FnExactLessenGaps.j2 kj60 t691 (t700 != t672) t692) else (laws_FnExactLessenGaps.j2 kj60 t691 true t692))) = some r := H
                      have A103 := Aside0.mk A1030
                      clear A1030
                      have HC104 := Aside0.mk H
                      clear H
                      have hnb105 := NB682_664.out
                      have hnc105 := NB664_682.out
                      have hnb106 := NB682_673.out
                      have hnc106 := NB673_682.out
                      have hnb107 := NB682_677.out
                      have hnc107 := NB677_682.out
                      have hcz108_0 : wc.cell? ⟨gb682, 0, none⟩ = some (.slice Ao33 t678.length co33) := (blk_cell BK682.out 0).trans rfl
                      have hfz108_0 := blk_frozen BK682.out 0
                      go_upto_region 25 with (first | ((with_reducible refine gate_callee (f := 30) rfl ?_); refine goesL_ (some 68) rfl rfl Try.func30 (by kernel_rfl) rfl #[.agg #[.slice Ao33 t678.length co33], .int .i64 1] rfl (by (try simp only [List.map_toArray, List.map_cons, List.map_nil]); first | done | rfl | (simp only [List.length_drop, List.length_take]; rfl)) ?_; (with_reducible refine (laws_markTasks.calls kj60 (fun k_ => some k_ = (.slice Ao33 t678.length co33 : Value).ownBlock) (.slice Ao33 t678.length co33) t678 1 t691 t692 w _ ?side1 ?side2 A91.out).mono ?_); (case side1 => repeat (first | (with_reducible first | exact HB.out | apply below_alloc | apply pw_below_drewN | apply below_drew1 | refine below_set ?_ GE664.out | refine below_set ?_ GE673.out | refine below_set ?_ GE677.out | refine below_set ?_ GE682.out) | exact HB.out)); (case side2 => exact Kd.R_tight rfl HO_683000.out); rintro e w109 ⟨rfl, hy0, hb, hkp⟩; refine ⟨_, rfl, ?_⟩; have n0_ := Aside0.mk (Kd.R_mono (ok' := fun k_ => some k_ ≠ (.slice Ao27 t689.length co27 : Value).ownBlock ∧ some k_ ≠ (.slice Ao33 t678.length co33 : Value).ownBlock) (Kd.R_keptB (HO_674000.out) hkp (fun k_ hk_ hs_ => (hk_.2) hs_)) (fun k_ hk_ => ⟨hk_.1.1, hk_.1.2⟩)); have n1_ := Aside0.mk (Kd.R_mono (ok' := fun k_ => some k_ ≠ (.slice Ao21 t669.length co21 : Value).ownBlock ∧ some k_ ≠ (.slice Ao33 t678.length co33 : Value).ownBlock) (Kd.R_keptB (HO_678000.out) hkp (fun k_ hk_ hs_ => (hk_.2) hs_)) (fun k_ hk_ => ⟨hk_.1.1, hk_.1.2⟩)); have n2_ := Aside0.mk (Kd.R_reok rfl hy0 (fun k_ e_ => HO_683000.out.1 k_ e_)); have n3_ := Aside0.mk (blk_kept (by (with_reducible repeat (first | refine blk_drewN ?_ _ | refine blk_drew ?_ | refine blk_alloc ?_ _)); exact BK664.out) hkp (fun hs_ => (fun e_ => (Kd.R_ne HO_683000.out BK664.out (by decide)) e_) hs_)); have n4_ := Aside0.mk (blk_kept (by (with_reducible repeat (first | refine blk_drewN ?_ _ | refine blk_drew ?_ | refine blk_alloc ?_ _)); exact BK673.out) hkp (fun hs_ => (fun e_ => (Kd.R_ne HO_683000.out BK673.out (by decide)) e_) hs_)); have n5_ := Aside0.mk (blk_kept (by (with_reducible repeat (first | refine blk_drewN ?_ _ | refine blk_drew ?_ | refine blk_alloc ?_ _)); exact BK677.out) hkp (fun hs_ => (fun e_ => (Kd.R_ne HO_683000.out BK677.out (by decide)) e_) hs_)); have n6_ := Aside0.mk (blk_kept (by (with_reducible repeat (first | refine blk_drewN ?_ _ | refine blk_drew ?_ | refine blk_alloc ?_ _)); exact BK682.out) hkp (fun hs_ => (fun e_ => (Kd.R_ne HO_683000.out BK682.out (by decide)) e_) hs_)); have n7_ := Aside0.mk (hb); clear HO_674000; clear HO_678000; clear HO_683000; clear BK664; clear BK673; clear BK677; clear BK682; clear HB; have HO_674000 := n0_; have HO_678000 := n1_; have HO_683000 := n2_; have BK664 := n3_; have BK673 := n4_; have BK677 := n5_; have BK682 := n6_; have HB := n7_; clear n0_ n1_ n2_ n3_ n4_ n5_ n6_ n7_; (try clear hb); (try clear hkp); (try clear hy0); have hcz110_0 : w109.cell? ⟨gb682, 0, none⟩ = some (.slice Ao33 t678.length co33) := (blk_cell BK682.out 0).trans rfl; have hfz110_0 := blk_frozen BK682.out 0) | ((with_reducible refine gate_callee (f := 43) rfl ?_); refine goesL_ (some 71) rfl rfl Try.func43 (by kernel_rfl) rfl #[.agg #[.slice Ao33 t692.length co33], .int .i64 1] rfl (by (try simp only [List.map_toArray, List.map_cons, List.map_nil]); first | done | (rw [show t692.length = t678.length from (Kd.R_reads' HO_683000.out).1.symm] <;> rfl) | rfl | (simp only [List.length_drop, List.length_take]; rfl)) ?_; (with_reducible refine (laws_heldTasks.calls kj60 _ _ t692 1 t693 _ ?side1 ?side2 A92.out).mono ?_); (case side1 => repeat (first | exact (Kd.R_reads' HO_683000.out).2.2 | (with_reducible refine Kd.C_alloc ?_ _) | (with_reducible refine Kd.C_drewN ?_ _) | (with_reducible refine Kd.C_drew ?_))); (case side2 => rw [show t692.length = t678.length from (Kd.R_reads' HO_683000.out).1.symm]; exact (Kd.R_reads' HO_683000.out).2.1); rintro e w111 ⟨rfl, hb⟩; refine ⟨_, rfl, ?_⟩; have n0_ := Aside0.mk (Kd.R_below (by (with_reducible repeat (first | apply Kd.R_alloc | apply Kd.R_drewN | apply Kd.R_drew)); exact HO_674000.out) hb); have n1_ := Aside0.mk (Kd.R_below (by (with_reducible repeat (first | apply Kd.R_alloc | apply Kd.R_drewN | apply Kd.R_drew)); exact HO_678000.out) hb); have n2_ := Aside0.mk (Kd.R_below (by (with_reducible repeat (first | apply Kd.R_alloc | apply Kd.R_drewN | apply Kd.R_drew)); exact HO_683000.out) hb); have n3_ := Aside0.mk (blk_below (g := gb664) (o := .cells #[.slice A0_0 l0_0.length c0_0] 24 (0, 0)) (by (with_reducible repeat (first | refine blk_drewN ?_ _ | refine blk_drew ?_ | refine blk_alloc ?_ _)); exact BK664.out) hb); have n4_ := Aside0.mk (blk_below (g := gb673) (o := .cells #[.slice Ao21 t669.length co21] 28 (0, 0)) (by (with_reducible repeat (first | refine blk_drewN ?_ _ | refine blk_drew ?_ | refine blk_alloc ?_ _)); exact BK673.out) hb); have n5_ := Aside0.mk (blk_below (g := gb677) (o := .cells #[.slice Ao27 t689.length co27] 28 (0, 0)) (by (with_reducible repeat (first | refine blk_drewN ?_ _ | refine blk_drew ?_ | refine blk_alloc ?_ _)); exact BK677.out) hb); have n6_ := Aside0.mk (blk_below (g := gb682) (o := .cells #[.slice Ao33 t678.length co33] 28 (0, 0)) (by (with_reducible repeat (first | refine blk_drewN ?_ _ | refine blk_drew ?_ | refine blk_alloc ?_ _)); exact BK682.out) hb); have n7_ := Aside0.mk (below_step (by repeat (first | (with_reducible first | exact HB.out | apply below_alloc | apply pw_below_drewN | apply below_drew1 | refine below_set ?_ GE664.out | refine below_set ?_ GE673.out | refine below_set ?_ GE677.out | refine below_set ?_ GE682.out) | exact HB.out)) hb); clear HO_674000; clear HO_678000; clear HO_683000; clear BK664; clear BK673; clear BK677; clear BK682; clear HB; have HO_674000 := n0_; have HO_678000 := n1_; have HO_683000 := n2_; have BK664 := n3_; have BK673 := n4_; have BK677 := n5_; have BK682 := n6_; have HB := n7_; clear n0_ n1_ n2_ n3_ n4_ n5_ n6_ n7_; (try clear hb); (try clear hb2); (try clear hk); (try clear hi); have hnb112 := NB664_673.out; have hnc112 := NB673_664.out; have hnb113 := NB664_677.out; have hnc113 := NB677_664.out; have hcz114_0 : w111.cell? ⟨gb664, 0, none⟩ = some (.slice A0_0 l0_0.length c0_0) := (blk_cell BK664.out 0).trans rfl; have hfz114_0 := blk_frozen BK664.out 0) | ((with_reducible refine gate_callee (f := 19) rfl ?_); refine goesL_ (some 79) rfl rfl Try.func19 (by kernel_rfl) rfl #[.agg #[.slice A0_0 l0_0.length c0_0]] rfl (by (try simp only [List.map_toArray, List.map_cons, List.map_nil]); first | done | rfl | (simp only [List.length_drop, List.length_take]; rfl)) ?_; (with_reducible refine (laws_toTasks.calls kj60 _ _ l0_0 t694 _ ?side1 ?side2 A102.out).mono ?_); (case side1 => repeat (first | exact (Kd.C_below HR0_0.out HB.out) | (with_reducible refine Kd.C_alloc ?_ _) | (with_reducible refine Kd.C_drewN ?_ _) | (with_reducible refine Kd.C_drew ?_))); (case side2 => exact HC0_0.out); rintro e w115 ⟨v695, rfl, ho0, hb⟩; refine ⟨_, rfl, ?_⟩; have n0_ := Aside0.mk (Kd.R_elder' (by (with_reducible repeat (first | apply Kd.R_alloc | apply Kd.R_drewN | apply Kd.R_drew)); exact HO_674000.out) (Kd.R_base ho0) hb); have n1_ := Aside0.mk (Kd.R_elder' (by (with_reducible repeat (first | apply Kd.R_alloc | apply Kd.R_drewN | apply Kd.R_drew)); exact HO_678000.out) (Kd.R_base ho0) hb); have n2_ := Aside0.mk (Kd.R_elder' (by (with_reducible repeat (first | apply Kd.R_alloc | apply Kd.R_drewN | apply Kd.R_drew)); exact HO_683000.out) (Kd.R_base ho0) hb); have n3_ := Aside0.mk (Kd.R_lower (Kd.R_new' (Kd.R_new' (Kd.R_new' ho0 (Kd.R_lt (by (with_reducible repeat (first | apply Kd.R_alloc | apply Kd.R_drewN | apply Kd.R_drew)); exact HO_674000.out))) (Kd.R_lt (by (with_reducible repeat (first | apply Kd.R_alloc | apply Kd.R_drewN | apply Kd.R_drew)); exact HO_678000.out))) (Kd.R_lt (by (with_reducible repeat (first | apply Kd.R_alloc | apply Kd.R_drewN | apply Kd.R_drew)); exact HO_683000.out))) (below_size (by repeat (first | (with_reducible first | exact HB.out | apply below_alloc | apply pw_below_drewN | apply below_drew1 | refine below_set ?_ GE664.out | refine below_set ?_ GE673.out | refine below_set ?_ GE677.out | refine below_set ?_ GE682.out) | exact HB.out)))); have n4_ := Aside0.mk (blk_below (g := gb664) (o := .cells #[.slice A0_0 l0_0.length c0_0] 24 (0, 0)) (by (with_reducible repeat (first | refine blk_drewN ?_ _ | refine blk_drew ?_ | refine blk_alloc ?_ _)); exact BK664.out) hb); have n5_ := Aside0.mk (blk_below (g := gb673) (o := .cells #[.slice Ao21 t669.length co21] 28 (0, 0)) (by (with_reducible repeat (first | refine blk_drewN ?_ _ | refine blk_drew ?_ | refine blk_alloc ?_ _)); exact BK673.out) hb); have n6_ := Aside0.mk (blk_below (g := gb677) (o := .cells #[.slice Ao27 t689.length co27] 28 (0, 0)) (by (with_reducible repeat (first | refine blk_drewN ?_ _ | refine blk_drew ?_ | refine blk_alloc ?_ _)); exact BK677.out) hb); have n7_ := Aside0.mk (blk_below (g := gb682) (o := .cells #[.slice Ao33 t678.length co33] 28 (0, 0)) (by (with_reducible repeat (first | refine blk_drewN ?_ _ | refine blk_drew ?_ | refine blk_alloc ?_ _)); exact BK682.out) hb); have n8_ := Aside0.mk (below_step (by repeat (first | (with_reducible first | exact HB.out | apply below_alloc | apply pw_below_drewN | apply below_drew1 | refine below_set ?_ GE664.out | refine below_set ?_ GE673.out | refine below_set ?_ GE677.out | refine below_set ?_ GE682.out) | exact HB.out)) hb); clear HO_674000; clear HO_678000; clear HO_683000; clear BK664; clear BK673; clear BK677; clear BK682; clear HB; have HO_674000 := n0_; have HO_678000 := n1_; have HO_683000 := n2_; have HO696 := n3_; have BK664 := n4_; have BK673 := n5_; have BK677 := n6_; have BK682 := n7_; have HB := n8_; clear n0_ n1_ n2_ n3_ n4_ n5_ n6_ n7_ n8_; (try clear hb); (try clear hb2); (try clear hk); (try clear hi); (try clear ho0); obtain ⟨Ao116, co116, eo116⟩ := Kd.R_slice HO696.out; subst eo116) | ((with_reducible refine gate_callee (f := 56) rfl ?_); refine goesL_ (some 81) rfl rfl Try.func56 (by kernel_rfl) rfl #[.agg #[.slice Ao116 t694.length co116], .int .i64 a1] rfl (by (try simp only [List.map_toArray, List.map_cons, List.map_nil]); first | done | rfl | (simp only [List.length_drop, List.length_take]; rfl)) ?_; (with_reducible refine (impl_LessenGaps.calls kj60 _ _ t694 a1 t697 t700 _ ?side1 ?side2 A103.out).mono ?_); (case side1 => repeat (first | exact (Kd.R_reads' HO696.out).2.2 | (with_reducible refine Kd.C_alloc ?_ _) | (with_reducible refine Kd.C_drewN ?_ _) | (with_reducible refine Kd.C_drew ?_))); (case side2 => exact (Kd.R_reads' HO696.out).2.1); rintro e w117 ⟨v698, rfl, ho0, hb⟩; refine ⟨_, rfl, ?_⟩; have n0_ := Aside0.mk (Kd.R_elder' (by (with_reducible repeat (first | apply Kd.R_alloc | apply Kd.R_drewN | apply Kd.R_drew)); exact HO_674000.out) (Kd.R_base ho0) hb); have n1_ := Aside0.mk (Kd.R_elder' (by (with_reducible repeat (first | apply Kd.R_alloc | apply Kd.R_drewN | apply Kd.R_drew)); exact HO_678000.out) (Kd.R_base ho0) hb); have n2_ := Aside0.mk (Kd.R_elder' (by (with_reducible repeat (first | apply Kd.R_alloc | apply Kd.R_drewN | apply Kd.R_drew)); exact HO_683000.out) (Kd.R_base ho0) hb); have n3_ := Aside0.mk (Kd.R_elder' (by (with_reducible repeat (first | apply Kd.R_alloc | apply Kd.R_drewN | apply Kd.R_drew)); exact HO696.out) (Kd.R_base ho0) hb); have n4_ := Aside0.mk (Kd.R_lower (Kd.R_new' (Kd.R_new' (Kd.R_new' (Kd.R_new' ho0 (Kd.R_lt (by (with_reducible repeat (first | apply Kd.R_alloc | apply Kd.R_drewN | apply Kd.R_drew)); exact HO_674000.out))) (Kd.R_lt (by (with_reducible repeat (first | apply Kd.R_alloc | apply Kd.R_drewN | apply Kd.R_drew)); exact HO_678000.out))) (Kd.R_lt (by (with_reducible repeat (first | apply Kd.R_alloc | apply Kd.R_drewN | apply Kd.R_drew)); exact HO_683000.out))) (Kd.R_lt (by (with_reducible repeat (first | apply Kd.R_alloc | apply Kd.R_drewN | apply Kd.R_drew)); exact HO696.out))) (below_size (by repeat (first | (with_reducible first | exact HB.out | apply below_alloc | apply pw_below_drewN | apply below_drew1 | refine below_set ?_ GE664.out | refine below_set ?_ GE673.out | refine below_set ?_ GE677.out | refine below_set ?_ GE682.out) | exact HB.out)))); have n5_ := Aside0.mk (blk_below (g := gb664) (o := .cells #[.slice A0_0 l0_0.length c0_0] 24 (0, 0)) (by (with_reducible repeat (first | refine blk_drewN ?_ _ | refine blk_drew ?_ | refine blk_alloc ?_ _)); exact BK664.out) hb); have n6_ := Aside0.mk (blk_below (g := gb673) (o := .cells #[.slice Ao21 t669.length co21] 28 (0, 0)) (by (with_reducible repeat (first | refine blk_drewN ?_ _ | refine blk_drew ?_ | refine blk_alloc ?_ _)); exact BK673.out) hb); have n7_ := Aside0.mk (blk_below (g := gb677) (o := .cells #[.slice Ao27 t689.length co27] 28 (0, 0)) (by (with_reducible repeat (first | refine blk_drewN ?_ _ | refine blk_drew ?_ | refine blk_alloc ?_ _)); exact BK677.out) hb); have n8_ := Aside0.mk (blk_below (g := gb682) (o := .cells #[.slice Ao33 t678.length co33] 28 (0, 0)) (by (with_reducible repeat (first | refine blk_drewN ?_ _ | refine blk_drew ?_ | refine blk_alloc ?_ _)); exact BK682.out) hb); have n9_ := Aside0.mk (below_step (by repeat (first | (with_reducible first | exact HB.out | apply below_alloc | apply pw_below_drewN | apply below_drew1 | refine below_set ?_ GE664.out | refine below_set ?_ GE673.out | refine below_set ?_ GE677.out | refine below_set ?_ GE682.out) | exact HB.out)) hb); clear HO_674000; clear HO_678000; clear HO_683000; clear HO696; clear BK664; clear BK673; clear BK677; clear BK682; clear HB; have HO_674000 := n0_; have HO_678000 := n1_; have HO_683000 := n2_; have HO696 := n3_; have HO699 := n4_; have BK664 := n5_; have BK673 := n6_; have BK677 := n7_; have BK682 := n8_; have HB := n9_; clear n0_ n1_ n2_ n3_ n4_ n5_ n6_ n7_ n8_ n9_; (try clear hb); (try clear hb2); (try clear hk); (try clear hi); (try clear ho0)) | ((with_reducible refine gate_dst (N := 14) rfl ?_); refine box_event ?hg (N := 14) ?hd (cs := #[.slice none 0 0]) (t := 28) ?hr ?_; (case hd => rfl); (case hg => rfl); (case hr => first | (go_simp; done) | (go_simp; rfl)); intro gb701 hg w118 hbox hb; have n0_ := Aside0.mk (Kd.R_below (by (with_reducible repeat (first | apply Kd.R_alloc | apply Kd.R_drewN | apply Kd.R_drew)); exact HO_674000.out) hb); have n1_ := Aside0.mk (Kd.R_below (by (with_reducible repeat (first | apply Kd.R_alloc | apply Kd.R_drewN | apply Kd.R_drew)); exact HO_678000.out) hb); have n2_ := Aside0.mk (Kd.R_below (by (with_reducible repeat (first | apply Kd.R_alloc | apply Kd.R_drewN | apply Kd.R_drew)); exact HO_683000.out) hb); have n3_ := Aside0.mk (Kd.R_below (by (with_reducible repeat (first | apply Kd.R_alloc | apply Kd.R_drewN | apply Kd.R_drew)); exact HO696.out) hb); have n4_ := Aside0.mk (Kd.R_below (by (with_reducible repeat (first | apply Kd.R_alloc | apply Kd.R_drewN | apply Kd.R_drew)); exact HO699.out) hb); have n5_ := Aside0.mk (blk_below (g := gb664) (o := .cells #[.slice A0_0 l0_0.length c0_0] 24 (0, 0)) (by (with_reducible repeat (first | refine blk_drewN ?_ _ | refine blk_drew ?_ | refine blk_alloc ?_ _)); exact BK664.out) hb); have n6_ := Aside0.mk (blk_below (g := gb673) (o := .cells #[.slice Ao21 t669.length co21] 28 (0, 0)) (by (with_reducible repeat (first | refine blk_drewN ?_ _ | refine blk_drew ?_ | refine blk_alloc ?_ _)); exact BK673.out) hb); have n7_ := Aside0.mk (blk_below (g := gb677) (o := .cells #[.slice Ao27 t689.length co27] 28 (0, 0)) (by (with_reducible repeat (first | refine blk_drewN ?_ _ | refine blk_drew ?_ | refine blk_alloc ?_ _)); exact BK677.out) hb); have n8_ := Aside0.mk (blk_below (g := gb682) (o := .cells #[.slice Ao33 t678.length co33] 28 (0, 0)) (by (with_reducible repeat (first | refine blk_drewN ?_ _ | refine blk_drew ?_ | refine blk_alloc ?_ _)); exact BK682.out) hb); have n9_ := Aside0.mk (below_step (by repeat (first | (with_reducible first | exact HB.out | apply below_alloc | apply pw_below_drewN | apply below_drew1 | refine below_set ?_ GE664.out | refine below_set ?_ GE673.out | refine below_set ?_ GE677.out | refine below_set ?_ GE682.out) | exact HB.out)) hb); have n10_ := Aside0.mk (hbox); have n11_ := Aside0.mk ((by rw [hg]; exact (below_size (by repeat (first | (with_reducible first | exact HB.out | apply below_alloc | apply pw_below_drewN | apply below_drew1 | refine below_set ?_ GE664.out | refine below_set ?_ GE673.out | refine below_set ?_ GE677.out | refine below_set ?_ GE682.out) | exact HB.out))) : w.heap.size ≤ gb701)); have n12_ := Aside0.mk ((by rw [hg]; exact (below_size (by repeat (first | (with_reducible first | exact HB.out | apply below_alloc | apply pw_below_drewN | apply below_drew1 | refine below_set ?_ GE664.out | refine below_set ?_ GE673.out | refine below_set ?_ GE677.out | refine below_set ?_ GE682.out) | exact HB.out))) : w.heap.size ≤ gb701)); have n13_ := Aside0.mk ((by rw [hg]; exact Nat.ne_of_lt (blk_lt (g := gb664) (o := .cells #[.slice A0_0 l0_0.length c0_0] 24 (0, 0)) (by (with_reducible repeat (first | refine blk_drewN ?_ _ | refine blk_drew ?_ | refine blk_alloc ?_ _)); exact BK664.out)) : gb664 ≠ gb701)); have n14_ := Aside0.mk ((by rw [hg]; exact Nat.ne_of_gt (blk_lt (g := gb664) (o := .cells #[.slice A0_0 l0_0.length c0_0] 24 (0, 0)) (by (with_reducible repeat (first | refine blk_drewN ?_ _ | refine blk_drew ?_ | refine blk_alloc ?_ _)); exact BK664.out)) : gb701 ≠ gb664)); have n15_ := Aside0.mk ((by rw [hg]; exact Nat.ne_of_lt (blk_lt (g := gb673) (o := .cells #[.slice Ao21 t669.length co21] 28 (0, 0)) (by (with_reducible repeat (first | refine blk_drewN ?_ _ | refine blk_drew ?_ | refine blk_alloc ?_ _)); exact BK673.out)) : gb673 ≠ gb701)); have n16_ := Aside0.mk ((by rw [hg]; exact Nat.ne_of_gt (blk_lt (g := gb673) (o := .cells #[.slice Ao21 t669.length co21] 28 (0, 0)) (by (with_reducible repeat (first | refine blk_drewN ?_ _ | refine blk_drew ?_ | refine blk_alloc ?_ _)); exact BK673.out)) : gb701 ≠ gb673)); have n17_ := Aside0.mk ((by rw [hg]; exact Nat.ne_of_lt (blk_lt (g := gb677) (o := .cells #[.slice Ao27 t689.length co27] 28 (0, 0)) (by (with_reducible repeat (first | refine blk_drewN ?_ _ | refine blk_drew ?_ | refine blk_alloc ?_ _)); exact BK677.out)) : gb677 ≠ gb701)); have n18_ := Aside0.mk ((by rw [hg]; exact Nat.ne_of_gt (blk_lt (g := gb677) (o := .cells #[.slice Ao27 t689.length co27] 28 (0, 0)) (by (with_reducible repeat (first | refine blk_drewN ?_ _ | refine blk_drew ?_ | refine blk_alloc ?_ _)); exact BK677.out)) : gb701 ≠ gb677)); have n19_ := Aside0.mk ((by rw [hg]; exact Nat.ne_of_lt (blk_lt (g := gb682) (o := .cells #[.slice Ao33 t678.length co33] 28 (0, 0)) (by (with_reducible repeat (first | refine blk_drewN ?_ _ | refine blk_drew ?_ | refine blk_alloc ?_ _)); exact BK682.out)) : gb682 ≠ gb701)); have n20_ := Aside0.mk ((by rw [hg]; exact Nat.ne_of_gt (blk_lt (g := gb682) (o := .cells #[.slice Ao33 t678.length co33] 28 (0, 0)) (by (with_reducible repeat (first | refine blk_drewN ?_ _ | refine blk_drew ?_ | refine blk_alloc ?_ _)); exact BK682.out)) : gb701 ≠ gb682)); clear HO_674000; clear HO_678000; clear HO_683000; clear HO696; clear HO699; clear BK664; clear BK673; clear BK677; clear BK682; clear HB; have HO_674000 := n0_; have HO_678000 := n1_; have HO_683000 := n2_; have HO696 := n3_; have HO699 := n4_; have BK664 := n5_; have BK673 := n6_; have BK677 := n7_; have BK682 := n8_; have HB := n9_; have BK701 := n10_; have GW701 := n11_; have GE701 := n12_; have NB664_701 := n13_; have NB701_664 := n14_; have NB673_701 := n15_; have NB701_673 := n16_; have NB677_701 := n17_; have NB701_677 := n18_; have NB682_701 := n19_; have NB701_682 := n20_; clear n0_ n1_ n2_ n3_ n4_ n5_ n6_ n7_ n8_ n9_ n10_ n11_ n12_ n13_ n14_ n15_ n16_ n17_ n18_ n19_ n20_; clear hb hbox hg; obtain ⟨Ao119, co119, eo119⟩ := Kd.R_slice HO699.out; subst eo119; have hnb120 := NB701_664.out; have hnc120 := NB664_701.out; have hnb121 := NB701_673.out; have hnc121 := NB673_701.out; have hnb122 := NB701_677.out; have hnc122 := NB677_701.out; have hnb123 := NB701_682.out; have hnc123 := NB682_701.out; have hcz124_0 : w118.cell? ⟨gb701, 0, none⟩ = some (.slice none 0 0) := (blk_cell BK701.out 0).trans rfl; have hfz124_0 := blk_frozen BK701.out 0))
                      (try simp only [Act.put, List.setIfInBounds_toArray, List.set_cons_zero, List.set_cons_succ])
                      go_cut [92] (fun v92 wc => ∃ (kq : Nat) (x92_103 : Bool), v92 = .bool x92_103 ∧ Aside0 (laws_FnExactLessenGaps.j2 kq t691 x92_103 t692 = some r) ∧ Aside0 (kq ≤ kj60) ∧ Aside0 (Kd.R (Kd.int .i64) 2 wc w.heap.size (fun k_ => some k_ ≠ ((.slice Ao27 t689.length co27) : Value).ownBlock ∧ some k_ ≠ ((.slice Ao33 t678.length co33) : Value).ownBlock ∧ some k_ ≠ ((.slice Ao119 t697.length co119) : Value).ownBlock) (.slice Ao21 t669.length co21) t669) ∧ Aside0 (Kd.R (Kd.int .i64) 2 wc w.heap.size (fun k_ => some k_ ≠ ((.slice Ao21 t669.length co21) : Value).ownBlock ∧ some k_ ≠ ((.slice Ao33 t678.length co33) : Value).ownBlock ∧ some k_ ≠ ((.slice Ao119 t697.length co119) : Value).ownBlock) (.slice Ao27 t689.length co27) t689) ∧ Aside0 (Kd.R (Kd.int .i64) 2 wc w.heap.size (fun k_ => some k_ ≠ ((.slice Ao21 t669.length co21) : Value).ownBlock ∧ some k_ ≠ ((.slice Ao27 t689.length co27) : Value).ownBlock ∧ some k_ ≠ ((.slice Ao119 t697.length co119) : Value).ownBlock) (.slice Ao33 t678.length co33) t692) ∧ Aside0 (Kd.R (Kd.int .i64) 2 wc w.heap.size (fun k_ => some k_ ≠ ((.slice Ao21 t669.length co21) : Value).ownBlock ∧ some k_ ≠ ((.slice Ao27 t689.length co27) : Value).ownBlock ∧ some k_ ≠ ((.slice Ao33 t678.length co33) : Value).ownBlock) (.slice Ao119 t697.length co119) t697) ∧ Aside0 (wc.heap[gb664]? = some (.cells #[(.slice A0_0 l0_0.length c0_0)] 24 (0, 0))) ∧ Aside0 (wc.heap[gb673]? = some (.cells #[(.slice Ao21 t669.length co21)] 28 (0, 0))) ∧ Aside0 (wc.heap[gb677]? = some (.cells #[(.slice Ao27 t689.length co27)] 28 (0, 0))) ∧ Aside0 (wc.heap[gb682]? = some (.cells #[(.slice Ao33 t678.length co33)] 28 (0, 0))) ∧ Aside0 (wc.heap[gb701]? = some (.cells #[(.slice Ao119 t697.length co119)] 28 (0, 0))) ∧ Aside0 (Below w.heap.size w wc))
                      case first =>
                        have H := HC104.out
                        clear HC104
                        replace H := Option.bind_eq_some_iff.mp H
                        obtain ⟨t702, A1250, H⟩ := H
                        replace H : (if t702 = true then (laws_FnExactLessenGaps.j2 kj60 t691 (t700 != t672) t692) else (laws_FnExactLessenGaps.j2 kj60 t691 true t692)) = some r := H
                        have A125 := Aside0.mk A1250
                        clear A1250
                        by_cases c126 : t702 = true
                        · subst c126
                          have H1 : (laws_FnExactLessenGaps.j2 kj60 t691 (t700 != t672) t692) = some r := by rw [if_pos rfl] at H; exact H
                          clear H
                          have H := H1
                          clear H1
                          have H' := Aside0.mk H
                          clear H
                          have hnb127 := NB701_664.out
                          have hnc127 := NB664_701.out
                          have hnb128 := NB701_673.out
                          have hnc128 := NB673_701.out
                          have hnb129 := NB701_677.out
                          have hnc129 := NB677_701.out
                          have hnb130 := NB701_682.out
                          have hnc130 := NB682_701.out
                          have hcz131_0 : w118.cell? ⟨gb701, 0, none⟩ = some (.slice none 0 0) := (blk_cell BK701.out 0).trans rfl
                          have hfz131_0 := blk_frozen BK701.out 0
                          have hnb132 := NB673_664.out
                          have hnc132 := NB664_673.out
                          have hnb133 := NB673_677.out
                          have hnc133 := NB677_673.out
                          have hnb134 := NB673_682.out
                          have hnc134 := NB682_673.out
                          have hcz135_0 : w118.cell? ⟨gb673, 0, none⟩ = some (.slice Ao21 t669.length co21) := (blk_cell BK673.out 0).trans rfl
                          have hfz135_0 := blk_frozen BK673.out 0
                          go_wp2_with (first | ((with_reducible refine gate_callee (f := 22) rfl ?_); refine goesL_ (some 86) rfl rfl Try.func22 (by kernel_rfl) rfl #[.agg #[.slice Ao119 t697.length co119], .agg #[.slice Ao21 t669.length co21]] rfl (by (try simp only [List.map_toArray, List.map_cons, List.map_nil]); first | done | rfl | (simp only [List.length_drop, List.length_take]; rfl)) ?_; (with_reducible refine (laws_eqTasks.calls kj60 _ _ t697 _ _ t669 true _ ?side1 ?side2 ?side3 ?side4 A125.out).mono ?_); (case side1 => refine (Kd.R_reads' (e := 2) (base := w.heap.size) (ok := fun k_ => ((((True ∧ some k_ ≠ (.slice Ao21 t669.length co21 : Value).ownBlock) ∧ some k_ ≠ (.slice Ao27 t689.length co27 : Value).ownBlock) ∧ some k_ ≠ (.slice Ao33 t678.length co33 : Value).ownBlock) ∧ some k_ ≠ (.slice Ao116 t694.length co116 : Value).ownBlock)) (n := t697.length) (c := co119) ?_).2.2; exact (by (with_reducible repeat (first | apply Kd.R_alloc | apply Kd.R_drewN | apply Kd.R_drew)); exact (Kd.R_mono (Kd.R_far (p := ⟨gb701, 0, none⟩) (Kd.R_types HO699.out BK701.out (by decide)) (fun _ hk => hk.2) (.slice Ao119 t697.length co119)) (fun _ h_ => h_.1)))); (case side2 => exact (Kd.R_reads' HO699.out).2.1); (case side3 => refine (Kd.R_reads' (e := 2) (base := w.heap.size) (ok := fun k_ => (((some k_ ≠ (.slice Ao27 t689.length co27 : Value).ownBlock ∧ some k_ ≠ (.slice Ao33 t678.length co33 : Value).ownBlock) ∧ some k_ ≠ (.slice Ao116 t694.length co116 : Value).ownBlock) ∧ some k_ ≠ (.slice Ao119 t697.length co119 : Value).ownBlock)) (n := t669.length) (c := co21) ?_).2.2; exact (by (with_reducible repeat (first | apply Kd.R_alloc | apply Kd.R_drewN | apply Kd.R_drew)); exact (Kd.R_mono (Kd.R_far (p := ⟨gb701, 0, none⟩) (Kd.R_types HO_674000.out BK701.out (by decide)) (fun _ hk => hk.2) (.slice Ao119 t697.length co119)) (fun _ h_ => h_.1)))); (case side4 => exact (Kd.R_reads' HO_674000.out).2.1); rintro e w136 ⟨rfl, hb⟩; refine ⟨_, rfl, ?_⟩; have n0_ := Aside0.mk (Kd.R_below (by (with_reducible repeat (first | apply Kd.R_alloc | apply Kd.R_drewN | apply Kd.R_drew)); exact (Kd.R_mono (Kd.R_far (p := ⟨gb701, 0, none⟩) (Kd.R_types HO_674000.out BK701.out (by decide)) (fun _ hk => hk.2) (.slice Ao119 t697.length co119)) (fun _ h_ => h_.1))) hb); have n1_ := Aside0.mk (Kd.R_below (by (with_reducible repeat (first | apply Kd.R_alloc | apply Kd.R_drewN | apply Kd.R_drew)); exact (Kd.R_mono (Kd.R_far (p := ⟨gb701, 0, none⟩) (Kd.R_types HO_678000.out BK701.out (by decide)) (fun _ hk => hk.2) (.slice Ao119 t697.length co119)) (fun _ h_ => h_.1))) hb); have n2_ := Aside0.mk (Kd.R_below (by (with_reducible repeat (first | apply Kd.R_alloc | apply Kd.R_drewN | apply Kd.R_drew)); exact (Kd.R_mono (Kd.R_far (p := ⟨gb701, 0, none⟩) (Kd.R_types HO_683000.out BK701.out (by decide)) (fun _ hk => hk.2) (.slice Ao119 t697.length co119)) (fun _ h_ => h_.1))) hb); have n3_ := Aside0.mk (Kd.R_below (by (with_reducible repeat (first | apply Kd.R_alloc | apply Kd.R_drewN | apply Kd.R_drew)); exact (Kd.R_mono (Kd.R_far (p := ⟨gb701, 0, none⟩) (Kd.R_types HO696.out BK701.out (by decide)) (fun _ hk => hk.2) (.slice Ao119 t697.length co119)) (fun _ h_ => h_.1))) hb); have n4_ := Aside0.mk (Kd.R_below (by (with_reducible repeat (first | apply Kd.R_alloc | apply Kd.R_drewN | apply Kd.R_drew)); exact (Kd.R_mono (Kd.R_far (p := ⟨gb701, 0, none⟩) (Kd.R_types HO699.out BK701.out (by decide)) (fun _ hk => hk.2) (.slice Ao119 t697.length co119)) (fun _ h_ => h_.1))) hb); have n5_ := Aside0.mk (blk_below (g := gb664) (o := .cells #[.slice A0_0 l0_0.length c0_0] 24 (0, 0)) (by (with_reducible repeat (first | refine blk_drewN ?_ _ | refine blk_drew ?_ | refine blk_alloc ?_ _)); refine blk_far ?_ NB664_701.out _; (with_reducible repeat (first | refine blk_drewN ?_ _ | refine blk_drew ?_ | refine blk_alloc ?_ _)); exact BK664.out) hb); have n6_ := Aside0.mk (blk_below (g := gb673) (o := .cells #[.slice Ao21 t669.length co21] 28 (0, 0)) (by (with_reducible repeat (first | refine blk_drewN ?_ _ | refine blk_drew ?_ | refine blk_alloc ?_ _)); refine blk_far ?_ NB673_701.out _; (with_reducible repeat (first | refine blk_drewN ?_ _ | refine blk_drew ?_ | refine blk_alloc ?_ _)); exact BK673.out) hb); have n7_ := Aside0.mk (blk_below (g := gb677) (o := .cells #[.slice Ao27 t689.length co27] 28 (0, 0)) (by (with_reducible repeat (first | refine blk_drewN ?_ _ | refine blk_drew ?_ | refine blk_alloc ?_ _)); refine blk_far ?_ NB677_701.out _; (with_reducible repeat (first | refine blk_drewN ?_ _ | refine blk_drew ?_ | refine blk_alloc ?_ _)); exact BK677.out) hb); have n8_ := Aside0.mk (blk_below (g := gb682) (o := .cells #[.slice Ao33 t678.length co33] 28 (0, 0)) (by (with_reducible repeat (first | refine blk_drewN ?_ _ | refine blk_drew ?_ | refine blk_alloc ?_ _)); refine blk_far ?_ NB682_701.out _; (with_reducible repeat (first | refine blk_drewN ?_ _ | refine blk_drew ?_ | refine blk_alloc ?_ _)); exact BK682.out) hb); have n9_ := Aside0.mk (blk_below (g := gb701) (o := .cells #[.slice Ao119 t697.length co119] 28 (0, 0)) (by (with_reducible repeat (first | refine blk_drewN ?_ _ | refine blk_drew ?_ | refine blk_alloc ?_ _)); refine blk_put (cs := #[.slice none 0 0]) ?_ 0 _ rfl; (with_reducible repeat (first | refine blk_drewN ?_ _ | refine blk_drew ?_ | refine blk_alloc ?_ _)); exact BK701.out) hb); have n10_ := Aside0.mk (below_step (by repeat (first | (with_reducible first | exact HB.out | apply below_alloc | apply pw_below_drewN | apply below_drew1 | refine below_set ?_ GE664.out | refine below_set ?_ GE673.out | refine below_set ?_ GE677.out | refine below_set ?_ GE682.out | refine below_set ?_ GE701.out) | exact HB.out)) hb); clear HO_674000; clear HO_678000; clear HO_683000; clear HO696; clear HO699; clear BK664; clear BK673; clear BK677; clear BK682; clear BK701; clear HB; have HO_674000 := n0_; have HO_678000 := n1_; have HO_683000 := n2_; have HO696 := n3_; have HO699 := n4_; have BK664 := n5_; have BK673 := n6_; have BK677 := n7_; have BK682 := n8_; have BK701 := n9_; have HB := n10_; clear n0_ n1_ n2_ n3_ n4_ n5_ n6_ n7_ n8_ n9_ n10_; (try clear hb); (try clear hb2); (try clear hk); (try clear hi)))
                          go_meet
                          case rel => exact ⟨_, ((t700 != t672)), (by first | rfl | (simp; done) | (simp [*]; done)), H', ⟨by have := HJ11.out; have := HJ60.out; first | omega | exact Nat.le_refl _⟩, ⟨by (try simp only [hl678000_60]); (with_reducible repeat (first | apply Kd.R_alloc | apply Kd.R_drewN | apply Kd.R_drew)); exact Kd.R_mono HO_674000.out (fun _ hk => ⟨hk.1.1.1, ⟨hk.1.1.2, hk.2⟩⟩)⟩, ⟨by (try simp only [hl678000_60]); (with_reducible repeat (first | apply Kd.R_alloc | apply Kd.R_drewN | apply Kd.R_drew)); exact Kd.R_mono HO_678000.out (fun _ hk => ⟨hk.1.1.1, ⟨hk.1.1.2, hk.2⟩⟩)⟩, ⟨by (try simp only [hl678000_60]); (with_reducible repeat (first | apply Kd.R_alloc | apply Kd.R_drewN | apply Kd.R_drew)); exact Kd.R_mono HO_683000.out (fun _ hk => ⟨hk.1.1.1, ⟨hk.1.1.2, hk.2⟩⟩)⟩, ⟨by (try simp only [hl678000_60]); (with_reducible repeat (first | apply Kd.R_alloc | apply Kd.R_drewN | apply Kd.R_drew)); exact Kd.R_mono HO699.out (fun _ hk => ⟨hk.1.1.1.2, ⟨hk.1.1.2, hk.1.2⟩⟩)⟩, ⟨by (try simp only [hl678000_60]); (with_reducible repeat (first | refine blk_drewN ?_ _ | refine blk_drew ?_ | refine blk_alloc ?_ _)); exact BK664.out⟩, ⟨by (try simp only [hl678000_60]); (with_reducible repeat (first | refine blk_drewN ?_ _ | refine blk_drew ?_ | refine blk_alloc ?_ _)); exact BK673.out⟩, ⟨by (try simp only [hl678000_60]); (with_reducible repeat (first | refine blk_drewN ?_ _ | refine blk_drew ?_ | refine blk_alloc ?_ _)); exact BK677.out⟩, ⟨by (try simp only [hl678000_60]); (with_reducible repeat (first | refine blk_drewN ?_ _ | refine blk_drew ?_ | refine blk_alloc ?_ _)); exact BK682.out⟩, ⟨by (try simp only [hl678000_60]); (with_reducible repeat (first | refine blk_drewN ?_ _ | refine blk_drew ?_ | refine blk_alloc ?_ _)); exact BK701.out⟩, ⟨by repeat (first | (with_reducible first | exact HB.out | apply below_alloc | apply pw_below_drewN | apply below_drew1 | refine below_set ?_ GE664.out | refine below_set ?_ GE673.out | refine below_set ?_ GE677.out | refine below_set ?_ GE682.out | refine below_set ?_ GE701.out) | exact HB.out)⟩⟩
                        · replace c126 := Bool.eq_false_iff.mpr c126
                          subst c126
                          have H1 : (laws_FnExactLessenGaps.j2 kj60 t691 true t692) = some r := by rw [if_neg (show ¬ (false = true) by decide)] at H; exact H
                          clear H
                          have H := H1
                          clear H1
                          have H' := Aside0.mk H
                          clear H
                          have hnb137 := NB701_664.out
                          have hnc137 := NB664_701.out
                          have hnb138 := NB701_673.out
                          have hnc138 := NB673_701.out
                          have hnb139 := NB701_677.out
                          have hnc139 := NB677_701.out
                          have hnb140 := NB701_682.out
                          have hnc140 := NB682_701.out
                          have hcz141_0 : w118.cell? ⟨gb701, 0, none⟩ = some (.slice none 0 0) := (blk_cell BK701.out 0).trans rfl
                          have hfz141_0 := blk_frozen BK701.out 0
                          have hnb142 := NB673_664.out
                          have hnc142 := NB664_673.out
                          have hnb143 := NB673_677.out
                          have hnc143 := NB677_673.out
                          have hnb144 := NB673_682.out
                          have hnc144 := NB682_673.out
                          have hcz145_0 : w118.cell? ⟨gb673, 0, none⟩ = some (.slice Ao21 t669.length co21) := (blk_cell BK673.out 0).trans rfl
                          have hfz145_0 := blk_frozen BK673.out 0
                          go_wp2_with (first | ((with_reducible refine gate_callee (f := 22) rfl ?_); refine goesL_ (some 86) rfl rfl Try.func22 (by kernel_rfl) rfl #[.agg #[.slice Ao119 t697.length co119], .agg #[.slice Ao21 t669.length co21]] rfl (by (try simp only [List.map_toArray, List.map_cons, List.map_nil]); first | done | rfl | (simp only [List.length_drop, List.length_take]; rfl)) ?_; (with_reducible refine (laws_eqTasks.calls kj60 _ _ t697 _ _ t669 false _ ?side1 ?side2 ?side3 ?side4 A125.out).mono ?_); (case side1 => refine (Kd.R_reads' (e := 2) (base := w.heap.size) (ok := fun k_ => ((((True ∧ some k_ ≠ (.slice Ao21 t669.length co21 : Value).ownBlock) ∧ some k_ ≠ (.slice Ao27 t689.length co27 : Value).ownBlock) ∧ some k_ ≠ (.slice Ao33 t678.length co33 : Value).ownBlock) ∧ some k_ ≠ (.slice Ao116 t694.length co116 : Value).ownBlock)) (n := t697.length) (c := co119) ?_).2.2; exact (by (with_reducible repeat (first | apply Kd.R_alloc | apply Kd.R_drewN | apply Kd.R_drew)); exact (Kd.R_mono (Kd.R_far (p := ⟨gb701, 0, none⟩) (Kd.R_types HO699.out BK701.out (by decide)) (fun _ hk => hk.2) (.slice Ao119 t697.length co119)) (fun _ h_ => h_.1)))); (case side2 => exact (Kd.R_reads' HO699.out).2.1); (case side3 => refine (Kd.R_reads' (e := 2) (base := w.heap.size) (ok := fun k_ => (((some k_ ≠ (.slice Ao27 t689.length co27 : Value).ownBlock ∧ some k_ ≠ (.slice Ao33 t678.length co33 : Value).ownBlock) ∧ some k_ ≠ (.slice Ao116 t694.length co116 : Value).ownBlock) ∧ some k_ ≠ (.slice Ao119 t697.length co119 : Value).ownBlock)) (n := t669.length) (c := co21) ?_).2.2; exact (by (with_reducible repeat (first | apply Kd.R_alloc | apply Kd.R_drewN | apply Kd.R_drew)); exact (Kd.R_mono (Kd.R_far (p := ⟨gb701, 0, none⟩) (Kd.R_types HO_674000.out BK701.out (by decide)) (fun _ hk => hk.2) (.slice Ao119 t697.length co119)) (fun _ h_ => h_.1)))); (case side4 => exact (Kd.R_reads' HO_674000.out).2.1); rintro e w146 ⟨rfl, hb⟩; refine ⟨_, rfl, ?_⟩; have n0_ := Aside0.mk (Kd.R_below (by (with_reducible repeat (first | apply Kd.R_alloc | apply Kd.R_drewN | apply Kd.R_drew)); exact (Kd.R_mono (Kd.R_far (p := ⟨gb701, 0, none⟩) (Kd.R_types HO_674000.out BK701.out (by decide)) (fun _ hk => hk.2) (.slice Ao119 t697.length co119)) (fun _ h_ => h_.1))) hb); have n1_ := Aside0.mk (Kd.R_below (by (with_reducible repeat (first | apply Kd.R_alloc | apply Kd.R_drewN | apply Kd.R_drew)); exact (Kd.R_mono (Kd.R_far (p := ⟨gb701, 0, none⟩) (Kd.R_types HO_678000.out BK701.out (by decide)) (fun _ hk => hk.2) (.slice Ao119 t697.length co119)) (fun _ h_ => h_.1))) hb); have n2_ := Aside0.mk (Kd.R_below (by (with_reducible repeat (first | apply Kd.R_alloc | apply Kd.R_drewN | apply Kd.R_drew)); exact (Kd.R_mono (Kd.R_far (p := ⟨gb701, 0, none⟩) (Kd.R_types HO_683000.out BK701.out (by decide)) (fun _ hk => hk.2) (.slice Ao119 t697.length co119)) (fun _ h_ => h_.1))) hb); have n3_ := Aside0.mk (Kd.R_below (by (with_reducible repeat (first | apply Kd.R_alloc | apply Kd.R_drewN | apply Kd.R_drew)); exact (Kd.R_mono (Kd.R_far (p := ⟨gb701, 0, none⟩) (Kd.R_types HO696.out BK701.out (by decide)) (fun _ hk => hk.2) (.slice Ao119 t697.length co119)) (fun _ h_ => h_.1))) hb); have n4_ := Aside0.mk (Kd.R_below (by (with_reducible repeat (first | apply Kd.R_alloc | apply Kd.R_drewN | apply Kd.R_drew)); exact (Kd.R_mono (Kd.R_far (p := ⟨gb701, 0, none⟩) (Kd.R_types HO699.out BK701.out (by decide)) (fun _ hk => hk.2) (.slice Ao119 t697.length co119)) (fun _ h_ => h_.1))) hb); have n5_ := Aside0.mk (blk_below (g := gb664) (o := .cells #[.slice A0_0 l0_0.length c0_0] 24 (0, 0)) (by (with_reducible repeat (first | refine blk_drewN ?_ _ | refine blk_drew ?_ | refine blk_alloc ?_ _)); refine blk_far ?_ NB664_701.out _; (with_reducible repeat (first | refine blk_drewN ?_ _ | refine blk_drew ?_ | refine blk_alloc ?_ _)); exact BK664.out) hb); have n6_ := Aside0.mk (blk_below (g := gb673) (o := .cells #[.slice Ao21 t669.length co21] 28 (0, 0)) (by (with_reducible repeat (first | refine blk_drewN ?_ _ | refine blk_drew ?_ | refine blk_alloc ?_ _)); refine blk_far ?_ NB673_701.out _; (with_reducible repeat (first | refine blk_drewN ?_ _ | refine blk_drew ?_ | refine blk_alloc ?_ _)); exact BK673.out) hb); have n7_ := Aside0.mk (blk_below (g := gb677) (o := .cells #[.slice Ao27 t689.length co27] 28 (0, 0)) (by (with_reducible repeat (first | refine blk_drewN ?_ _ | refine blk_drew ?_ | refine blk_alloc ?_ _)); refine blk_far ?_ NB677_701.out _; (with_reducible repeat (first | refine blk_drewN ?_ _ | refine blk_drew ?_ | refine blk_alloc ?_ _)); exact BK677.out) hb); have n8_ := Aside0.mk (blk_below (g := gb682) (o := .cells #[.slice Ao33 t678.length co33] 28 (0, 0)) (by (with_reducible repeat (first | refine blk_drewN ?_ _ | refine blk_drew ?_ | refine blk_alloc ?_ _)); refine blk_far ?_ NB682_701.out _; (with_reducible repeat (first | refine blk_drewN ?_ _ | refine blk_drew ?_ | refine blk_alloc ?_ _)); exact BK682.out) hb); have n9_ := Aside0.mk (blk_below (g := gb701) (o := .cells #[.slice Ao119 t697.length co119] 28 (0, 0)) (by (with_reducible repeat (first | refine blk_drewN ?_ _ | refine blk_drew ?_ | refine blk_alloc ?_ _)); refine blk_put (cs := #[.slice none 0 0]) ?_ 0 _ rfl; (with_reducible repeat (first | refine blk_drewN ?_ _ | refine blk_drew ?_ | refine blk_alloc ?_ _)); exact BK701.out) hb); have n10_ := Aside0.mk (below_step (by repeat (first | (with_reducible first | exact HB.out | apply below_alloc | apply pw_below_drewN | apply below_drew1 | refine below_set ?_ GE664.out | refine below_set ?_ GE673.out | refine below_set ?_ GE677.out | refine below_set ?_ GE682.out | refine below_set ?_ GE701.out) | exact HB.out)) hb); clear HO_674000; clear HO_678000; clear HO_683000; clear HO696; clear HO699; clear BK664; clear BK673; clear BK677; clear BK682; clear BK701; clear HB; have HO_674000 := n0_; have HO_678000 := n1_; have HO_683000 := n2_; have HO696 := n3_; have HO699 := n4_; have BK664 := n5_; have BK673 := n6_; have BK677 := n7_; have BK682 := n8_; have BK701 := n9_; have HB := n10_; clear n0_ n1_ n2_ n3_ n4_ n5_ n6_ n7_ n8_ n9_ n10_; (try clear hb); (try clear hb2); (try clear hk); (try clear hi)))
                          go_meet
                          case rel => exact ⟨_, (true), (by first | rfl | (simp; done) | (simp [*]; done)), H', ⟨by have := HJ11.out; have := HJ60.out; first | omega | exact Nat.le_refl _⟩, ⟨by (try simp only [hl678000_60]); (with_reducible repeat (first | apply Kd.R_alloc | apply Kd.R_drewN | apply Kd.R_drew)); exact Kd.R_mono HO_674000.out (fun _ hk => ⟨hk.1.1.1, ⟨hk.1.1.2, hk.2⟩⟩)⟩, ⟨by (try simp only [hl678000_60]); (with_reducible repeat (first | apply Kd.R_alloc | apply Kd.R_drewN | apply Kd.R_drew)); exact Kd.R_mono HO_678000.out (fun _ hk => ⟨hk.1.1.1, ⟨hk.1.1.2, hk.2⟩⟩)⟩, ⟨by (try simp only [hl678000_60]); (with_reducible repeat (first | apply Kd.R_alloc | apply Kd.R_drewN | apply Kd.R_drew)); exact Kd.R_mono HO_683000.out (fun _ hk => ⟨hk.1.1.1, ⟨hk.1.1.2, hk.2⟩⟩)⟩, ⟨by (try simp only [hl678000_60]); (with_reducible repeat (first | apply Kd.R_alloc | apply Kd.R_drewN | apply Kd.R_drew)); exact Kd.R_mono HO699.out (fun _ hk => ⟨hk.1.1.1.2, ⟨hk.1.1.2, hk.1.2⟩⟩)⟩, ⟨by (try simp only [hl678000_60]); (with_reducible repeat (first | refine blk_drewN ?_ _ | refine blk_drew ?_ | refine blk_alloc ?_ _)); exact BK664.out⟩, ⟨by (try simp only [hl678000_60]); (with_reducible repeat (first | refine blk_drewN ?_ _ | refine blk_drew ?_ | refine blk_alloc ?_ _)); exact BK673.out⟩, ⟨by (try simp only [hl678000_60]); (with_reducible repeat (first | refine blk_drewN ?_ _ | refine blk_drew ?_ | refine blk_alloc ?_ _)); exact BK677.out⟩, ⟨by (try simp only [hl678000_60]); (with_reducible repeat (first | refine blk_drewN ?_ _ | refine blk_drew ?_ | refine blk_alloc ?_ _)); exact BK682.out⟩, ⟨by (try simp only [hl678000_60]); (with_reducible repeat (first | refine blk_drewN ?_ _ | refine blk_drew ?_ | refine blk_alloc ?_ _)); exact BK701.out⟩, ⟨by repeat (first | (with_reducible first | exact HB.out | apply below_alloc | apply pw_below_drewN | apply below_drew1 | refine below_set ?_ GE664.out | refine below_set ?_ GE673.out | refine below_set ?_ GE677.out | refine below_set ?_ GE682.out | refine below_set ?_ GE701.out) | exact HB.out)⟩⟩
                      case rest =>
                        clear HC104
                        try clear c1
                        try clear c2
                        try clear p2
                        try clear c3
                        try clear c4
                        try clear c4b0
                        try clear c5
                        try clear c6
                        try clear c7
                        try clear c8
                        try clear c9
                        try clear c10
                        try clear c11
                        try clear c12
                        try clear c13
                        try clear c14
                        try clear c16
                        try clear c17
                        try clear c19
                        try clear c22
                        try clear c28
                        try clear c29
                        try clear c30
                        try clear c34
                        try clear c35
                        try clear c36
                        try clear c39
                        try clear c40
                        try clear c41
                        try clear c42
                        try clear c43
                        try clear c44
                        try clear c45
                        try clear c48
                        try clear c49
                        try clear c50
                        try clear c52
                        try clear c53
                        try clear c55
                        try clear c56
                        try clear c59
                        try clear c66
                        try clear c67
                        try clear c68
                        try clear c71
                        try clear c71b0
                        try clear c73
                        try clear c74
                        try clear c75
                        try clear c76
                        try clear c78
                        try clear c79
                        try clear c82
                        try clear c83
                        try clear c84
                        try clear c86
                        try clear c87
                        try clear c90
                        try clear c93
                        try clear c93b0
                        try clear c94
                        try clear c95
                        try clear c96
                        try clear c101
                        try clear c101b0
                        try clear c101b1
                        try clear c105
                        try clear c106
                        try clear c107
                        try clear c112
                        try clear c113
                        try clear c120
                        try clear c121
                        try clear c122
                        try clear c123
                        try clear c126
                        try clear c127
                        try clear c128
                        try clear c129
                        try clear c130
                        try clear c132
                        try clear c133
                        try clear c134
                        try clear c137
                        try clear c138
                        try clear c139
                        try clear c140
                        try clear c142
                        try clear c143
                        try clear c144
                        try clear hcz108_0
                        try clear hcz110_0
                        try clear hcz114_0
                        try clear hcz124_0
                        try clear hcz131_0
                        try clear hcz135_0
                        try clear hcz141_0
                        try clear hcz145_0
                        try clear hcz14_0
                        try clear hcz16_0
                        try clear hcz23_0
                        try clear hcz24_0
                        try clear hcz30_0
                        try clear hcz37_0
                        try clear hcz43_0
                        try clear hcz46_0
                        try clear hcz51_0
                        try clear hcz54_0
                        try clear hcz69_0
                        try clear hcz6_0
                        try clear hcz77_0
                        try clear hcz80_0
                        try clear hcz85_0
                        try clear hcz88_0
                        try clear hcz97_0
                        try clear hcz99_0
                        try clear hfz108_0
                        try clear hfz110_0
                        try clear hfz114_0
                        try clear hfz124_0
                        try clear hfz131_0
                        try clear hfz135_0
                        try clear hfz141_0
                        try clear hfz145_0
                        try clear hfz14_0
                        try clear hfz16_0
                        try clear hfz23_0
                        try clear hfz24_0
                        try clear hfz30_0
                        try clear hfz37_0
                        try clear hfz43_0
                        try clear hfz46_0
                        try clear hfz51_0
                        try clear hfz54_0
                        try clear hfz69_0
                        try clear hfz6_0
                        try clear hfz77_0
                        try clear hfz80_0
                        try clear hfz85_0
                        try clear hfz88_0
                        try clear hfz97_0
                        try clear hfz99_0
                        try clear p2
                        obtain ⟨kq, x92_103, rfl, HA, HJ103, HO_674000, HO_678000, HO_683000, HO_702000, BK664, BK673, BK677, BK682, BK701, HB⟩ := hcut
                        have hl683000_103 := (Kd.R_reads' HO_683000.out).1
                        rw [hl683000_103] at HO_683000
                        (try simp only [hl683000_103])
                        (try simp only [hl683000_103] at BK664)
                        (try simp only [hl683000_103] at BK673)
                        (try simp only [hl683000_103] at BK677)
                        (try simp only [hl683000_103] at BK682)
                        (try simp only [hl683000_103] at BK701)
                        (try simp only [hl683000_103] at HO_674000)
                        (try simp only [hl683000_103] at HO_678000)
                        (try simp only [hl683000_103] at HO_702000)
                        cases kq with
                        | zero => exact absurd HA.out (by simp [laws_FnExactLessenGaps.j2])
                        | succ kj103 =>
                          have H := HA.out
                          clear HA
                          simp only [laws_FnExactLessenGaps.j2] at H
                          by_cases c147 : x92_103 = true
                          · subst c147
                            have H1 : (some false) = some r := by rw [if_pos rfl] at H; exact H
                            clear H
                            have H := H1
                            clear H1
                            obtain rfl := Option.some.inj H
                            go_wp2
                            go_ret
                            exact ⟨by first | rfl | (simp [errW_none, errW_some] <;> rfl) | (simp [*, errW_none, errW_some] <;> rfl), by repeat (first | (with_reducible first | exact HB.out | apply below_alloc | apply pw_below_drewN | apply below_drew1 | refine below_set ?_ GE664.out | refine below_set ?_ GE673.out | refine below_set ?_ GE677.out | refine below_set ?_ GE682.out | refine below_set ?_ GE701.out) | exact HB.out)⟩
                          · replace c147 := Bool.eq_false_iff.mpr c147
                            subst c147
                            have H1 : ((laws_heldTasks.f kj103 t692 1).bind fun t703 => (if t703 < 0 then (some false) else (if t703 = t691 then (some true) else (some false)))) = some r := by rw [if_neg (show ¬ (false = true) by decide)] at H; exact H
                            clear H
                            have H := H1
                            clear H1
                            replace H := Option.bind_eq_some_iff.mp H
                            obtain ⟨t703, A1480, H⟩ := H
                            replace H : (if t703 < 0 then (some false) else (if t703 = t691 then (some true) else (some false))) = some r := H
                            have A148 := Aside0.mk A1480
                            clear A1480
                            by_cases c149 : t703 < 0
                            · rw [if_pos c149] at H
                              have c149b0 : decide (t703 < 0) = true := decide_eq_true c149
                              (try (have c149h_hl678000_60 := c149b0; rw [hl678000_60] at c149h_hl678000_60))
                              (try (have c149h_hl683000_103 := c149b0; rw [hl683000_103] at c149h_hl683000_103))
                              clear c149
                              obtain rfl := Option.some.inj H
                              have hnb150 := NB682_664.out
                              have hnc150 := NB664_682.out
                              have hnb151 := NB682_673.out
                              have hnc151 := NB673_682.out
                              have hnb152 := NB682_677.out
                              have hnc152 := NB677_682.out
                              have hnb153 := NB682_701.out
                              have hnc153 := NB701_682.out
                              have hcz154_0 : wc.cell? ⟨gb682, 0, none⟩ = some (.slice Ao33 t692.length co33) := (blk_cell BK682.out 0).trans rfl
                              have hfz154_0 := blk_frozen BK682.out 0
                              go_wp2_with (first | ((with_reducible refine gate_callee (f := 43) rfl ?_); refine goesL_ (some 95) rfl rfl Try.func43 (by kernel_rfl) rfl #[.agg #[.slice Ao33 t692.length co33], .int .i64 1] rfl (by (try simp only [List.map_toArray, List.map_cons, List.map_nil]); first | done | rfl | (simp only [List.length_drop, List.length_take]; rfl)) ?_; (with_reducible refine (laws_heldTasks.calls kj103 _ _ t692 1 t703 _ ?side1 ?side2 A148.out).mono ?_); (case side1 => repeat (first | exact (Kd.R_reads' HO_683000.out).2.2 | (with_reducible refine Kd.C_alloc ?_ _) | (with_reducible refine Kd.C_drewN ?_ _) | (with_reducible refine Kd.C_drew ?_))); (case side2 => exact (Kd.R_reads' HO_683000.out).2.1); rintro e w155 ⟨rfl, hb⟩; refine ⟨_, rfl, ?_⟩; have n0_ := Aside0.mk (Kd.R_below (by (with_reducible repeat (first | apply Kd.R_alloc | apply Kd.R_drewN | apply Kd.R_drew)); exact HO_674000.out) hb); have n1_ := Aside0.mk (Kd.R_below (by (with_reducible repeat (first | apply Kd.R_alloc | apply Kd.R_drewN | apply Kd.R_drew)); exact HO_678000.out) hb); have n2_ := Aside0.mk (Kd.R_below (by (with_reducible repeat (first | apply Kd.R_alloc | apply Kd.R_drewN | apply Kd.R_drew)); exact HO_683000.out) hb); have n3_ := Aside0.mk (Kd.R_below (by (with_reducible repeat (first | apply Kd.R_alloc | apply Kd.R_drewN | apply Kd.R_drew)); exact HO_702000.out) hb); have n4_ := Aside0.mk (blk_below (g := gb664) (o := .cells #[.slice A0_0 l0_0.length c0_0] 24 (0, 0)) (by (with_reducible repeat (first | refine blk_drewN ?_ _ | refine blk_drew ?_ | refine blk_alloc ?_ _)); exact BK664.out) hb); have n5_ := Aside0.mk (blk_below (g := gb673) (o := .cells #[.slice Ao21 t669.length co21] 28 (0, 0)) (by (with_reducible repeat (first | refine blk_drewN ?_ _ | refine blk_drew ?_ | refine blk_alloc ?_ _)); exact BK673.out) hb); have n6_ := Aside0.mk (blk_below (g := gb677) (o := .cells #[.slice Ao27 t689.length co27] 28 (0, 0)) (by (with_reducible repeat (first | refine blk_drewN ?_ _ | refine blk_drew ?_ | refine blk_alloc ?_ _)); exact BK677.out) hb); have n7_ := Aside0.mk (blk_below (g := gb682) (o := .cells #[.slice Ao33 t692.length co33] 28 (0, 0)) (by (with_reducible repeat (first | refine blk_drewN ?_ _ | refine blk_drew ?_ | refine blk_alloc ?_ _)); exact BK682.out) hb); have n8_ := Aside0.mk (blk_below (g := gb701) (o := .cells #[.slice Ao119 t697.length co119] 28 (0, 0)) (by (with_reducible repeat (first | refine blk_drewN ?_ _ | refine blk_drew ?_ | refine blk_alloc ?_ _)); exact BK701.out) hb); have n9_ := Aside0.mk (below_step (by repeat (first | (with_reducible first | exact HB.out | apply below_alloc | apply pw_below_drewN | apply below_drew1 | refine below_set ?_ GE664.out | refine below_set ?_ GE673.out | refine below_set ?_ GE677.out | refine below_set ?_ GE682.out | refine below_set ?_ GE701.out) | exact HB.out)) hb); clear HO_674000; clear HO_678000; clear HO_683000; clear HO_702000; clear BK664; clear BK673; clear BK677; clear BK682; clear BK701; clear HB; have HO_674000 := n0_; have HO_678000 := n1_; have HO_683000 := n2_; have HO_702000 := n3_; have BK664 := n4_; have BK673 := n5_; have BK677 := n6_; have BK682 := n7_; have BK701 := n8_; have HB := n9_; clear n0_ n1_ n2_ n3_ n4_ n5_ n6_ n7_ n8_ n9_; (try clear hb); (try clear hb2); (try clear hk); (try clear hi)))
                              go_ret
                              exact ⟨by first | rfl | (simp [errW_none, errW_some] <;> rfl) | (simp [*, errW_none, errW_some] <;> rfl), by repeat (first | (with_reducible first | exact HB.out | apply below_alloc | apply pw_below_drewN | apply below_drew1 | refine below_set ?_ GE664.out | refine below_set ?_ GE673.out | refine below_set ?_ GE677.out | refine below_set ?_ GE682.out | refine below_set ?_ GE701.out) | exact HB.out)⟩
                            · rw [if_neg c149] at H
                              have c149b0 : decide (t703 < 0) = false := decide_eq_false c149
                              (try (have c149h_hl678000_60 := c149b0; rw [hl678000_60] at c149h_hl678000_60))
                              (try (have c149h_hl683000_103 := c149b0; rw [hl683000_103] at c149h_hl683000_103))
                              clear c149
                              by_cases c156 : t703 = t691
                              · rw [if_pos c156] at H
                                have c156b0 : (t703 == t691) = true := beq_iff_eq.mpr c156
                                have c156b1 : (t703 != t691) = false := bne_eq_false_iff_eq.mpr c156
                                (try (have c156h_hl678000_60 := c156b0; rw [hl678000_60] at c156h_hl678000_60))
                                (try (have c156h_hl683000_103 := c156b0; rw [hl683000_103] at c156h_hl683000_103))
                                clear c156
                                obtain rfl := Option.some.inj H
                                have hnb157 := NB682_664.out
                                have hnc157 := NB664_682.out
                                have hnb158 := NB682_673.out
                                have hnc158 := NB673_682.out
                                have hnb159 := NB682_677.out
                                have hnc159 := NB677_682.out
                                have hnb160 := NB682_701.out
                                have hnc160 := NB701_682.out
                                have hcz161_0 : wc.cell? ⟨gb682, 0, none⟩ = some (.slice Ao33 t692.length co33) := (blk_cell BK682.out 0).trans rfl
                                have hfz161_0 := blk_frozen BK682.out 0
                                go_wp2_with (first | ((with_reducible refine gate_callee (f := 43) rfl ?_); refine goesL_ (some 95) rfl rfl Try.func43 (by kernel_rfl) rfl #[.agg #[.slice Ao33 t692.length co33], .int .i64 1] rfl (by (try simp only [List.map_toArray, List.map_cons, List.map_nil]); first | done | rfl | (simp only [List.length_drop, List.length_take]; rfl)) ?_; (with_reducible refine (laws_heldTasks.calls kj103 _ _ t692 1 t703 _ ?side1 ?side2 A148.out).mono ?_); (case side1 => repeat (first | exact (Kd.R_reads' HO_683000.out).2.2 | (with_reducible refine Kd.C_alloc ?_ _) | (with_reducible refine Kd.C_drewN ?_ _) | (with_reducible refine Kd.C_drew ?_))); (case side2 => exact (Kd.R_reads' HO_683000.out).2.1); rintro e w162 ⟨rfl, hb⟩; refine ⟨_, rfl, ?_⟩; have n0_ := Aside0.mk (Kd.R_below (by (with_reducible repeat (first | apply Kd.R_alloc | apply Kd.R_drewN | apply Kd.R_drew)); exact HO_674000.out) hb); have n1_ := Aside0.mk (Kd.R_below (by (with_reducible repeat (first | apply Kd.R_alloc | apply Kd.R_drewN | apply Kd.R_drew)); exact HO_678000.out) hb); have n2_ := Aside0.mk (Kd.R_below (by (with_reducible repeat (first | apply Kd.R_alloc | apply Kd.R_drewN | apply Kd.R_drew)); exact HO_683000.out) hb); have n3_ := Aside0.mk (Kd.R_below (by (with_reducible repeat (first | apply Kd.R_alloc | apply Kd.R_drewN | apply Kd.R_drew)); exact HO_702000.out) hb); have n4_ := Aside0.mk (blk_below (g := gb664) (o := .cells #[.slice A0_0 l0_0.length c0_0] 24 (0, 0)) (by (with_reducible repeat (first | refine blk_drewN ?_ _ | refine blk_drew ?_ | refine blk_alloc ?_ _)); exact BK664.out) hb); have n5_ := Aside0.mk (blk_below (g := gb673) (o := .cells #[.slice Ao21 t669.length co21] 28 (0, 0)) (by (with_reducible repeat (first | refine blk_drewN ?_ _ | refine blk_drew ?_ | refine blk_alloc ?_ _)); exact BK673.out) hb); have n6_ := Aside0.mk (blk_below (g := gb677) (o := .cells #[.slice Ao27 t689.length co27] 28 (0, 0)) (by (with_reducible repeat (first | refine blk_drewN ?_ _ | refine blk_drew ?_ | refine blk_alloc ?_ _)); exact BK677.out) hb); have n7_ := Aside0.mk (blk_below (g := gb682) (o := .cells #[.slice Ao33 t692.length co33] 28 (0, 0)) (by (with_reducible repeat (first | refine blk_drewN ?_ _ | refine blk_drew ?_ | refine blk_alloc ?_ _)); exact BK682.out) hb); have n8_ := Aside0.mk (blk_below (g := gb701) (o := .cells #[.slice Ao119 t697.length co119] 28 (0, 0)) (by (with_reducible repeat (first | refine blk_drewN ?_ _ | refine blk_drew ?_ | refine blk_alloc ?_ _)); exact BK701.out) hb); have n9_ := Aside0.mk (below_step (by repeat (first | (with_reducible first | exact HB.out | apply below_alloc | apply pw_below_drewN | apply below_drew1 | refine below_set ?_ GE664.out | refine below_set ?_ GE673.out | refine below_set ?_ GE677.out | refine below_set ?_ GE682.out | refine below_set ?_ GE701.out) | exact HB.out)) hb); clear HO_674000; clear HO_678000; clear HO_683000; clear HO_702000; clear BK664; clear BK673; clear BK677; clear BK682; clear BK701; clear HB; have HO_674000 := n0_; have HO_678000 := n1_; have HO_683000 := n2_; have HO_702000 := n3_; have BK664 := n4_; have BK673 := n5_; have BK677 := n6_; have BK682 := n7_; have BK701 := n8_; have HB := n9_; clear n0_ n1_ n2_ n3_ n4_ n5_ n6_ n7_ n8_ n9_; (try clear hb); (try clear hb2); (try clear hk); (try clear hi)))
                                go_ret
                                exact ⟨by first | rfl | (simp [errW_none, errW_some] <;> rfl) | (simp [*, errW_none, errW_some] <;> rfl), by repeat (first | (with_reducible first | exact HB.out | apply below_alloc | apply pw_below_drewN | apply below_drew1 | refine below_set ?_ GE664.out | refine below_set ?_ GE673.out | refine below_set ?_ GE677.out | refine below_set ?_ GE682.out | refine below_set ?_ GE701.out) | exact HB.out)⟩
                              · rw [if_neg c156] at H
                                have c156b0 : (t703 == t691) = false := beq_eq_false_iff_ne.mpr c156
                                have c156b1 : (t703 != t691) = true := bne_iff_ne.mpr c156
                                (try (have c156h_hl678000_60 := c156b0; rw [hl678000_60] at c156h_hl678000_60))
                                (try (have c156h_hl683000_103 := c156b0; rw [hl683000_103] at c156h_hl683000_103))
                                obtain rfl := Option.some.inj H
                                have hnb163 := NB682_664.out
                                have hnc163 := NB664_682.out
                                have hnb164 := NB682_673.out
                                have hnc164 := NB673_682.out
                                have hnb165 := NB682_677.out
                                have hnc165 := NB677_682.out
                                have hnb166 := NB682_701.out
                                have hnc166 := NB701_682.out
                                have hcz167_0 : wc.cell? ⟨gb682, 0, none⟩ = some (.slice Ao33 t692.length co33) := (blk_cell BK682.out 0).trans rfl
                                have hfz167_0 := blk_frozen BK682.out 0
                                go_wp2_with (first | ((with_reducible refine gate_callee (f := 43) rfl ?_); refine goesL_ (some 95) rfl rfl Try.func43 (by kernel_rfl) rfl #[.agg #[.slice Ao33 t692.length co33], .int .i64 1] rfl (by (try simp only [List.map_toArray, List.map_cons, List.map_nil]); first | done | rfl | (simp only [List.length_drop, List.length_take]; rfl)) ?_; (with_reducible refine (laws_heldTasks.calls kj103 _ _ t692 1 t703 _ ?side1 ?side2 A148.out).mono ?_); (case side1 => repeat (first | exact (Kd.R_reads' HO_683000.out).2.2 | (with_reducible refine Kd.C_alloc ?_ _) | (with_reducible refine Kd.C_drewN ?_ _) | (with_reducible refine Kd.C_drew ?_))); (case side2 => exact (Kd.R_reads' HO_683000.out).2.1); rintro e w168 ⟨rfl, hb⟩; refine ⟨_, rfl, ?_⟩; have n0_ := Aside0.mk (Kd.R_below (by (with_reducible repeat (first | apply Kd.R_alloc | apply Kd.R_drewN | apply Kd.R_drew)); exact HO_674000.out) hb); have n1_ := Aside0.mk (Kd.R_below (by (with_reducible repeat (first | apply Kd.R_alloc | apply Kd.R_drewN | apply Kd.R_drew)); exact HO_678000.out) hb); have n2_ := Aside0.mk (Kd.R_below (by (with_reducible repeat (first | apply Kd.R_alloc | apply Kd.R_drewN | apply Kd.R_drew)); exact HO_683000.out) hb); have n3_ := Aside0.mk (Kd.R_below (by (with_reducible repeat (first | apply Kd.R_alloc | apply Kd.R_drewN | apply Kd.R_drew)); exact HO_702000.out) hb); have n4_ := Aside0.mk (blk_below (g := gb664) (o := .cells #[.slice A0_0 l0_0.length c0_0] 24 (0, 0)) (by (with_reducible repeat (first | refine blk_drewN ?_ _ | refine blk_drew ?_ | refine blk_alloc ?_ _)); exact BK664.out) hb); have n5_ := Aside0.mk (blk_below (g := gb673) (o := .cells #[.slice Ao21 t669.length co21] 28 (0, 0)) (by (with_reducible repeat (first | refine blk_drewN ?_ _ | refine blk_drew ?_ | refine blk_alloc ?_ _)); exact BK673.out) hb); have n6_ := Aside0.mk (blk_below (g := gb677) (o := .cells #[.slice Ao27 t689.length co27] 28 (0, 0)) (by (with_reducible repeat (first | refine blk_drewN ?_ _ | refine blk_drew ?_ | refine blk_alloc ?_ _)); exact BK677.out) hb); have n7_ := Aside0.mk (blk_below (g := gb682) (o := .cells #[.slice Ao33 t692.length co33] 28 (0, 0)) (by (with_reducible repeat (first | refine blk_drewN ?_ _ | refine blk_drew ?_ | refine blk_alloc ?_ _)); exact BK682.out) hb); have n8_ := Aside0.mk (blk_below (g := gb701) (o := .cells #[.slice Ao119 t697.length co119] 28 (0, 0)) (by (with_reducible repeat (first | refine blk_drewN ?_ _ | refine blk_drew ?_ | refine blk_alloc ?_ _)); exact BK701.out) hb); have n9_ := Aside0.mk (below_step (by repeat (first | (with_reducible first | exact HB.out | apply below_alloc | apply pw_below_drewN | apply below_drew1 | refine below_set ?_ GE664.out | refine below_set ?_ GE673.out | refine below_set ?_ GE677.out | refine below_set ?_ GE682.out | refine below_set ?_ GE701.out) | exact HB.out)) hb); clear HO_674000; clear HO_678000; clear HO_683000; clear HO_702000; clear BK664; clear BK673; clear BK677; clear BK682; clear BK701; clear HB; have HO_674000 := n0_; have HO_678000 := n1_; have HO_683000 := n2_; have HO_702000 := n3_; have BK664 := n4_; have BK673 := n5_; have BK677 := n6_; have BK682 := n7_; have BK701 := n8_; have HB := n9_; clear n0_ n1_ n2_ n3_ n4_ n5_ n6_ n7_ n8_ n9_; (try clear hb); (try clear hb2); (try clear hk); (try clear hi)))
                                go_ret
                                exact ⟨by first | rfl | (simp [errW_none, errW_some] <;> rfl) | (simp [*, errW_none, errW_some] <;> rfl), by repeat (first | (with_reducible first | exact HB.out | apply below_alloc | apply pw_below_drewN | apply below_drew1 | refine below_set ?_ GE664.out | refine below_set ?_ GE673.out | refine below_set ?_ GE677.out | refine below_set ?_ GE682.out | refine below_set ?_ GE701.out) | exact HB.out)⟩
                    · rw [if_neg c101] at H
                      have c101b0 : (t693 == t691) = false := beq_eq_false_iff_ne.mpr c101
                      have c101b1 : (t693 != t691) = true := bne_iff_ne.mpr c101
                      (try (have c101h_hl678000_60 := c101b0; rw [hl678000_60] at c101h_hl678000_60))
                      obtain rfl := Option.some.inj H
                      have hnb169 := NB682_664.out
                      have hnc169 := NB664_682.out
                      have hnb170 := NB682_673.out
                      have hnc170 := NB673_682.out
                      have hnb171 := NB682_677.out
                      have hnc171 := NB677_682.out
                      have hcz172_0 : wc.cell? ⟨gb682, 0, none⟩ = some (.slice Ao33 t678.length co33) := (blk_cell BK682.out 0).trans rfl
                      have hfz172_0 := blk_frozen BK682.out 0
                      go_wp2_with (first | ((with_reducible refine gate_callee (f := 30) rfl ?_); refine goesL_ (some 68) rfl rfl Try.func30 (by kernel_rfl) rfl #[.agg #[.slice Ao33 t678.length co33], .int .i64 1] rfl (by (try simp only [List.map_toArray, List.map_cons, List.map_nil]); first | done | rfl | (simp only [List.length_drop, List.length_take]; rfl)) ?_; (with_reducible refine (laws_markTasks.calls kj60 (fun k_ => some k_ = (.slice Ao33 t678.length co33 : Value).ownBlock) (.slice Ao33 t678.length co33) t678 1 t691 t692 w _ ?side1 ?side2 A91.out).mono ?_); (case side1 => repeat (first | (with_reducible first | exact HB.out | apply below_alloc | apply pw_below_drewN | apply below_drew1 | refine below_set ?_ GE664.out | refine below_set ?_ GE673.out | refine below_set ?_ GE677.out | refine below_set ?_ GE682.out) | exact HB.out)); (case side2 => exact Kd.R_tight rfl HO_683000.out); rintro e w173 ⟨rfl, hy0, hb, hkp⟩; refine ⟨_, rfl, ?_⟩; have n0_ := Aside0.mk (Kd.R_mono (ok' := fun k_ => some k_ ≠ (.slice Ao27 t689.length co27 : Value).ownBlock ∧ some k_ ≠ (.slice Ao33 t678.length co33 : Value).ownBlock) (Kd.R_keptB (HO_674000.out) hkp (fun k_ hk_ hs_ => (hk_.2) hs_)) (fun k_ hk_ => ⟨hk_.1.1, hk_.1.2⟩)); have n1_ := Aside0.mk (Kd.R_mono (ok' := fun k_ => some k_ ≠ (.slice Ao21 t669.length co21 : Value).ownBlock ∧ some k_ ≠ (.slice Ao33 t678.length co33 : Value).ownBlock) (Kd.R_keptB (HO_678000.out) hkp (fun k_ hk_ hs_ => (hk_.2) hs_)) (fun k_ hk_ => ⟨hk_.1.1, hk_.1.2⟩)); have n2_ := Aside0.mk (Kd.R_reok rfl hy0 (fun k_ e_ => HO_683000.out.1 k_ e_)); have n3_ := Aside0.mk (blk_kept (by (with_reducible repeat (first | refine blk_drewN ?_ _ | refine blk_drew ?_ | refine blk_alloc ?_ _)); exact BK664.out) hkp (fun hs_ => (fun e_ => (Kd.R_ne HO_683000.out BK664.out (by decide)) e_) hs_)); have n4_ := Aside0.mk (blk_kept (by (with_reducible repeat (first | refine blk_drewN ?_ _ | refine blk_drew ?_ | refine blk_alloc ?_ _)); exact BK673.out) hkp (fun hs_ => (fun e_ => (Kd.R_ne HO_683000.out BK673.out (by decide)) e_) hs_)); have n5_ := Aside0.mk (blk_kept (by (with_reducible repeat (first | refine blk_drewN ?_ _ | refine blk_drew ?_ | refine blk_alloc ?_ _)); exact BK677.out) hkp (fun hs_ => (fun e_ => (Kd.R_ne HO_683000.out BK677.out (by decide)) e_) hs_)); have n6_ := Aside0.mk (blk_kept (by (with_reducible repeat (first | refine blk_drewN ?_ _ | refine blk_drew ?_ | refine blk_alloc ?_ _)); exact BK682.out) hkp (fun hs_ => (fun e_ => (Kd.R_ne HO_683000.out BK682.out (by decide)) e_) hs_)); have n7_ := Aside0.mk (hb); clear HO_674000; clear HO_678000; clear HO_683000; clear BK664; clear BK673; clear BK677; clear BK682; clear HB; have HO_674000 := n0_; have HO_678000 := n1_; have HO_683000 := n2_; have BK664 := n3_; have BK673 := n4_; have BK677 := n5_; have BK682 := n6_; have HB := n7_; clear n0_ n1_ n2_ n3_ n4_ n5_ n6_ n7_; (try clear hb); (try clear hkp); (try clear hy0); have hcz174_0 : w173.cell? ⟨gb682, 0, none⟩ = some (.slice Ao33 t678.length co33) := (blk_cell BK682.out 0).trans rfl; have hfz174_0 := blk_frozen BK682.out 0) | ((with_reducible refine gate_callee (f := 43) rfl ?_); refine goesL_ (some 71) rfl rfl Try.func43 (by kernel_rfl) rfl #[.agg #[.slice Ao33 t692.length co33], .int .i64 1] rfl (by (try simp only [List.map_toArray, List.map_cons, List.map_nil]); first | done | (rw [show t692.length = t678.length from (Kd.R_reads' HO_683000.out).1.symm] <;> rfl) | rfl | (simp only [List.length_drop, List.length_take]; rfl)) ?_; (with_reducible refine (laws_heldTasks.calls kj60 _ _ t692 1 t693 _ ?side1 ?side2 A92.out).mono ?_); (case side1 => repeat (first | exact (Kd.R_reads' HO_683000.out).2.2 | (with_reducible refine Kd.C_alloc ?_ _) | (with_reducible refine Kd.C_drewN ?_ _) | (with_reducible refine Kd.C_drew ?_))); (case side2 => rw [show t692.length = t678.length from (Kd.R_reads' HO_683000.out).1.symm]; exact (Kd.R_reads' HO_683000.out).2.1); rintro e w175 ⟨rfl, hb⟩; refine ⟨_, rfl, ?_⟩; have n0_ := Aside0.mk (Kd.R_below (by (with_reducible repeat (first | apply Kd.R_alloc | apply Kd.R_drewN | apply Kd.R_drew)); exact HO_674000.out) hb); have n1_ := Aside0.mk (Kd.R_below (by (with_reducible repeat (first | apply Kd.R_alloc | apply Kd.R_drewN | apply Kd.R_drew)); exact HO_678000.out) hb); have n2_ := Aside0.mk (Kd.R_below (by (with_reducible repeat (first | apply Kd.R_alloc | apply Kd.R_drewN | apply Kd.R_drew)); exact HO_683000.out) hb); have n3_ := Aside0.mk (blk_below (g := gb664) (o := .cells #[.slice A0_0 l0_0.length c0_0] 24 (0, 0)) (by (with_reducible repeat (first | refine blk_drewN ?_ _ | refine blk_drew ?_ | refine blk_alloc ?_ _)); exact BK664.out) hb); have n4_ := Aside0.mk (blk_below (g := gb673) (o := .cells #[.slice Ao21 t669.length co21] 28 (0, 0)) (by (with_reducible repeat (first | refine blk_drewN ?_ _ | refine blk_drew ?_ | refine blk_alloc ?_ _)); exact BK673.out) hb); have n5_ := Aside0.mk (blk_below (g := gb677) (o := .cells #[.slice Ao27 t689.length co27] 28 (0, 0)) (by (with_reducible repeat (first | refine blk_drewN ?_ _ | refine blk_drew ?_ | refine blk_alloc ?_ _)); exact BK677.out) hb); have n6_ := Aside0.mk (blk_below (g := gb682) (o := .cells #[.slice Ao33 t678.length co33] 28 (0, 0)) (by (with_reducible repeat (first | refine blk_drewN ?_ _ | refine blk_drew ?_ | refine blk_alloc ?_ _)); exact BK682.out) hb); have n7_ := Aside0.mk (below_step (by repeat (first | (with_reducible first | exact HB.out | apply below_alloc | apply pw_below_drewN | apply below_drew1 | refine below_set ?_ GE664.out | refine below_set ?_ GE673.out | refine below_set ?_ GE677.out | refine below_set ?_ GE682.out) | exact HB.out)) hb); clear HO_674000; clear HO_678000; clear HO_683000; clear BK664; clear BK673; clear BK677; clear BK682; clear HB; have HO_674000 := n0_; have HO_678000 := n1_; have HO_683000 := n2_; have BK664 := n3_; have BK673 := n4_; have BK677 := n5_; have BK682 := n6_; have HB := n7_; clear n0_ n1_ n2_ n3_ n4_ n5_ n6_ n7_; (try clear hb); (try clear hb2); (try clear hk); (try clear hi)))
                      go_ret
                      exact ⟨by first | rfl | (simp [errW_none, errW_some] <;> rfl) | (simp [*, errW_none, errW_some] <;> rfl), by repeat (first | (with_reducible first | exact HB.out | apply below_alloc | apply pw_below_drewN | apply below_drew1 | refine below_set ?_ GE664.out | refine below_set ?_ GE673.out | refine below_set ?_ GE677.out | refine below_set ?_ GE682.out) | exact HB.out)⟩
          · replace c59 := Bool.eq_false_iff.mpr c59
            subst c59
            have H1 : (some false) = some r := by rw [if_neg (show ¬ (false = true) by decide)] at H; exact H
            clear H
            have H := H1
            clear H1
            obtain rfl := Option.some.inj H
            try go_wp2
            have n0_ := Aside0.mk (Kd.R_drew HO_674000.out)
            have n1_ := Aside0.mk (Kd.R_drew HO_678000.out)
            have n2_ := Aside0.mk (Kd.R_drew HO_683000.out)
            have n3_ := Aside0.mk (blk_drew BK664.out)
            have n4_ := Aside0.mk (blk_drew BK673.out)
            have n5_ := Aside0.mk (blk_drew BK677.out)
            have n6_ := Aside0.mk (blk_drew BK682.out)
            have n7_ := Aside0.mk (below_drew1 HB.out)
            clear HO_674000
            clear HO_678000
            clear HO_683000
            clear BK664
            clear BK673
            clear BK677
            clear BK682
            clear HB
            have HO_674000 := n0_
            have HO_678000 := n1_
            have HO_683000 := n2_
            have BK664 := n3_
            have BK673 := n4_
            have BK677 := n5_
            have BK682 := n6_
            have HB := n7_
            clear n0_ n1_ n2_ n3_ n4_ n5_ n6_ n7_
            refine start_ (n := 5) (S := fun w' => w'.cell? ⟨gb677, 0, none⟩ = some (.slice Ao27 t674.length co27) ∧ w'.cell? ⟨gb664, 0, none⟩ = some (.slice A0_0 l0_0.length c0_0)) (ds := []) #[false, false, false, false, false] (by kernel_rfl) rfl rfl ⟨(blk_cell BK677.out 0).trans rfl, (blk_cell BK664.out 0).trans rfl⟩ (fun hHeld => ?_)
            generalize wc.drew = w176 at HO_674000 HO_678000 HO_683000 BK664 BK673 BK677 BK682 HB hHeld ⊢
            refine take_ (i := 0) (N := some 45) (v := ?_) (a' := ?_) #[true, false, false, false, false] rfl rfl (by kernel_rfl) (fun _ _ _ h => h) (Or.inl ⟨by rfl, ?_⟩) hHeld ?_ ?_
            rotate_left
            · rintro w' ⟨s0, s1⟩
              go_simp
              with_reducible rfl
            rotate_left
            · simp only [Act.put, List.setIfInBounds_toArray, List.set_cons_zero, List.set_cons_succ, i64_w, i32_w]
              rfl
            refine take_ (i := 1) (N := some 46) (v := ?_) (a' := ?_) #[true, true, false, false, false] rfl rfl (by kernel_rfl) (fun _ _ _ h => h) (Or.inl ⟨by rfl, ?_⟩) hHeld ?_ ?_
            rotate_left
            · rintro w' ⟨s0, s1⟩
              go_simp
              with_reducible rfl
            rotate_left
            · simp only [Act.put, List.setIfInBounds_toArray, List.set_cons_zero, List.set_cons_succ, i64_w, i32_w]
              rfl
            refine one_ (i := 2) (N := some 47) #[true, true, true, false, false] rfl rfl (by kernel_rfl) (by decide) (fun K hK => ?_)
            refine goes_ Try.func19 (by kernel_rfl) rfl #[.agg #[.slice A0_0 l0_0.length c0_0]] (by rfl) rfl rfl (by (try simp only [List.map_toArray, List.map_cons, List.map_nil]); first | done | rfl | (simp only [List.length_drop, List.length_take]; rfl)) ?_
            with_reducible refine (laws_toTasks.calls kj11 _ _ l0_0 t684 _ ?side1 ?side2 A57.out).mono ?_
            (case side1 => repeat (first | exact (Kd.C_below HR0_0.out HB.out) | (with_reducible refine Kd.C_alloc ?_ _) | (with_reducible refine Kd.C_drewN ?_ _) | (with_reducible refine Kd.C_drew ?_)))
            (case side2 => exact HC0_0.out)
            rintro e w177 ⟨v685, rfl, ho0, hb⟩
            refine ⟨_, rfl, ?_⟩
            have n0_ := Aside0.mk (Kd.R_elder' (by (with_reducible repeat (first | apply Kd.R_alloc | apply Kd.R_drewN | apply Kd.R_drew)); exact HO_674000.out) (Kd.R_base ho0) hb)
            have n1_ := Aside0.mk (Kd.R_elder' (by (with_reducible repeat (first | apply Kd.R_alloc | apply Kd.R_drewN | apply Kd.R_drew)); exact HO_678000.out) (Kd.R_base ho0) hb)
            have n2_ := Aside0.mk (Kd.R_elder' (by (with_reducible repeat (first | apply Kd.R_alloc | apply Kd.R_drewN | apply Kd.R_drew)); exact HO_683000.out) (Kd.R_base ho0) hb)
            have n3_ := Aside0.mk (Kd.R_lower (Kd.R_new' (Kd.R_new' (Kd.R_new' ho0 (Kd.R_lt (by (with_reducible repeat (first | apply Kd.R_alloc | apply Kd.R_drewN | apply Kd.R_drew)); exact HO_674000.out))) (Kd.R_lt (by (with_reducible repeat (first | apply Kd.R_alloc | apply Kd.R_drewN | apply Kd.R_drew)); exact HO_678000.out))) (Kd.R_lt (by (with_reducible repeat (first | apply Kd.R_alloc | apply Kd.R_drewN | apply Kd.R_drew)); exact HO_683000.out))) (below_size (by repeat (first | (with_reducible first | exact HB.out | apply below_alloc | apply pw_below_drewN | apply below_drew1 | refine below_set ?_ GE664.out | refine below_set ?_ GE673.out | refine below_set ?_ GE677.out | refine below_set ?_ GE682.out) | exact HB.out))))
            have n4_ := Aside0.mk (blk_below (g := gb664) (o := .cells #[.slice A0_0 l0_0.length c0_0] 24 (0, 0)) (by (with_reducible repeat (first | refine blk_drewN ?_ _ | refine blk_drew ?_ | refine blk_alloc ?_ _)); exact BK664.out) hb)
            have n5_ := Aside0.mk (blk_below (g := gb673) (o := .cells #[.slice Ao21 t669.length co21] 28 (0, 0)) (by (with_reducible repeat (first | refine blk_drewN ?_ _ | refine blk_drew ?_ | refine blk_alloc ?_ _)); exact BK673.out) hb)
            have n6_ := Aside0.mk (blk_below (g := gb677) (o := .cells #[.slice Ao27 t674.length co27] 28 (0, 0)) (by (with_reducible repeat (first | refine blk_drewN ?_ _ | refine blk_drew ?_ | refine blk_alloc ?_ _)); exact BK677.out) hb)
            have n7_ := Aside0.mk (blk_below (g := gb682) (o := .cells #[.slice Ao33 t678.length co33] 28 (0, 0)) (by (with_reducible repeat (first | refine blk_drewN ?_ _ | refine blk_drew ?_ | refine blk_alloc ?_ _)); exact BK682.out) hb)
            have n8_ := Aside0.mk (below_step (by repeat (first | (with_reducible first | exact HB.out | apply below_alloc | apply pw_below_drewN | apply below_drew1 | refine below_set ?_ GE664.out | refine below_set ?_ GE673.out | refine below_set ?_ GE677.out | refine below_set ?_ GE682.out) | exact HB.out)) hb)
            clear HO_674000
            clear HO_678000
            clear HO_683000
            clear BK664
            clear BK673
            clear BK677
            clear BK682
            clear HB
            have HO_674000 := n0_
            have HO_678000 := n1_
            have HO_683000 := n2_
            have HO686 := n3_
            have BK664 := n4_
            have BK673 := n5_
            have BK677 := n6_
            have BK682 := n7_
            have HB := n8_
            clear n0_ n1_ n2_ n3_ n4_ n5_ n6_ n7_ n8_
            (try clear hb)
            (try clear hb2)
            (try clear hk)
            (try clear hi)
            (try clear ho0)
            obtain ⟨Ao178, co178, eo178⟩ := Kd.R_slice HO686.out
            (first | subst eo178 | (injection eo178 with f1_ f2_ f3_; have f4_ := f1_.symm; have f5_ := f3_.symm; clear f1_ f2_ f3_; subst f4_; subst f5_))
            refine hK.out _ _ ⟨(blk_cell BK677.out 0).trans rfl, (blk_cell BK664.out 0).trans rfl⟩ (fun hHeld => ?_)
            clear hK K
            refine norm_ (a' := ?_) ?_ ?_
            rotate_left
            · show Act.put _ (some 47) _ = _
              simp only [Act.put, List.setIfInBounds_toArray, List.set_cons_zero, List.set_cons_succ, i64_w, i32_w]
              rfl
            refine one_ (i := 3) (N := some 48) #[true, true, true, true, false] rfl rfl (by kernel_rfl) (by decide) (fun K hK => ?_)
            refine goes_ Try.func22 (by kernel_rfl) rfl #[.agg #[.slice Ao27 t674.length co27], .agg #[.slice Ao178 t684.length co178]] (by rfl) rfl rfl (by (try simp only [List.map_toArray, List.map_cons, List.map_nil]); first | done | rfl | (simp only [List.length_drop, List.length_take]; rfl)) ?_
            with_reducible refine (laws_eqTasks.calls kj11 _ _ t674 _ _ t684 false _ ?side1 ?side2 ?side3 ?side4 A58.out).mono ?_
            (case side1 => repeat (first | exact (Kd.R_reads' HO_678000.out).2.2 | (with_reducible refine Kd.C_alloc ?_ _) | (with_reducible refine Kd.C_drewN ?_ _) | (with_reducible refine Kd.C_drew ?_)))
            (case side2 => exact (Kd.R_reads' HO_678000.out).2.1)
            (case side3 => repeat (first | exact (Kd.R_reads' HO686.out).2.2 | (with_reducible refine Kd.C_alloc ?_ _) | (with_reducible refine Kd.C_drewN ?_ _) | (with_reducible refine Kd.C_drew ?_)))
            (case side4 => exact (Kd.R_reads' HO686.out).2.1)
            rintro e w179 ⟨rfl, hb⟩
            refine ⟨_, rfl, ?_⟩
            have n0_ := Aside0.mk (Kd.R_below (by (with_reducible repeat (first | apply Kd.R_alloc | apply Kd.R_drewN | apply Kd.R_drew)); exact HO_674000.out) hb)
            have n1_ := Aside0.mk (Kd.R_below (by (with_reducible repeat (first | apply Kd.R_alloc | apply Kd.R_drewN | apply Kd.R_drew)); exact HO_678000.out) hb)
            have n2_ := Aside0.mk (Kd.R_below (by (with_reducible repeat (first | apply Kd.R_alloc | apply Kd.R_drewN | apply Kd.R_drew)); exact HO_683000.out) hb)
            have n3_ := Aside0.mk (Kd.R_below (by (with_reducible repeat (first | apply Kd.R_alloc | apply Kd.R_drewN | apply Kd.R_drew)); exact HO686.out) hb)
            have n4_ := Aside0.mk (blk_below (g := gb664) (o := .cells #[.slice A0_0 l0_0.length c0_0] 24 (0, 0)) (by (with_reducible repeat (first | refine blk_drewN ?_ _ | refine blk_drew ?_ | refine blk_alloc ?_ _)); exact BK664.out) hb)
            have n5_ := Aside0.mk (blk_below (g := gb673) (o := .cells #[.slice Ao21 t669.length co21] 28 (0, 0)) (by (with_reducible repeat (first | refine blk_drewN ?_ _ | refine blk_drew ?_ | refine blk_alloc ?_ _)); exact BK673.out) hb)
            have n6_ := Aside0.mk (blk_below (g := gb677) (o := .cells #[.slice Ao27 t674.length co27] 28 (0, 0)) (by (with_reducible repeat (first | refine blk_drewN ?_ _ | refine blk_drew ?_ | refine blk_alloc ?_ _)); exact BK677.out) hb)
            have n7_ := Aside0.mk (blk_below (g := gb682) (o := .cells #[.slice Ao33 t678.length co33] 28 (0, 0)) (by (with_reducible repeat (first | refine blk_drewN ?_ _ | refine blk_drew ?_ | refine blk_alloc ?_ _)); exact BK682.out) hb)
            have n8_ := Aside0.mk (below_step (by repeat (first | (with_reducible first | exact HB.out | apply below_alloc | apply pw_below_drewN | apply below_drew1 | refine below_set ?_ GE664.out | refine below_set ?_ GE673.out | refine below_set ?_ GE677.out | refine below_set ?_ GE682.out) | exact HB.out)) hb)
            clear HO_674000
            clear HO_678000
            clear HO_683000
            clear HO686
            clear BK664
            clear BK673
            clear BK677
            clear BK682
            clear HB
            have HO_674000 := n0_
            have HO_678000 := n1_
            have HO_683000 := n2_
            have HO686 := n3_
            have BK664 := n4_
            have BK673 := n5_
            have BK677 := n6_
            have BK682 := n7_
            have HB := n8_
            clear n0_ n1_ n2_ n3_ n4_ n5_ n6_ n7_ n8_
            (try clear hb)
            (try clear hb2)
            (try clear hk)
            (try clear hi)
            refine hK.out _ _ ⟨(blk_cell BK677.out 0).trans rfl, (blk_cell BK664.out 0).trans rfl⟩ (fun hHeld => ?_)
            clear hK K
            refine norm_ (a' := ?_) ?_ ?_
            rotate_left
            · show Act.put _ (some 48) _ = _
              simp only [Act.put, List.setIfInBounds_toArray, List.set_cons_zero, List.set_cons_succ, i64_w, i32_w]
              rfl
            refine pure_ (i := 4) (N := some 49) (v := ?_) (a' := ?_) #[true, true, true, true, true] rfl rfl (by kernel_rfl) (fun _ _ _ h => h) (Or.inl ⟨by rfl, ?_⟩) ?_ ?_
            rotate_left
            · intro w'
              go_simp
              with_reducible rfl
            rotate_left
            · simp only [Act.put, List.setIfInBounds_toArray, List.set_cons_zero, List.set_cons_succ, i64_w, i32_w]
              rfl
            refine done_ (by kernel_rfl) ?_
            try go_wp2
            go_ret
            exact ⟨by first | rfl | (simp [errW_none, errW_some] <;> rfl) | (simp [*, errW_none, errW_some] <;> rfl), by repeat (first | (with_reducible first | exact HB.out | apply below_alloc | apply pw_below_drewN | apply below_drew1 | refine below_set ?_ GE664.out | refine below_set ?_ GE673.out | refine below_set ?_ GE677.out | refine below_set ?_ GE682.out) | exact HB.out)⟩

/-- THE ONE PURE STATEMENT of laws_FnExactLessenGaps: yours. -/
def laws_FnExactLessenGaps.Pure : Prop := ∀ (l0_0 : List Int) (a1 : Int), l0_0.length ≤ maxLen → (∀ x ∈ l0_0, (Lit.int .i64 x).wf = true) → (Lit.int .i64 a1).wf = true → ∃ k, laws_FnExactLessenGaps.f k l0_0 a1 = some true
theorem laws_FnExactLessenGaps.walk (P : laws_FnExactLessenGaps.Pure) (a0_0 : Option Addr) (len0_0 cap0_0 : Nat) (z0_0 : List Int) (a1 : Int) (w : World) (w0_0 : (a0_0 = none ∧ len0_0 = 0 ∧ cap0_0 = 0 ∧ z0_0 = []) ∨ ∃ x, a0_0 = some x ∧ len0_0 ≤ cap0_0 ∧ cap0_0 ≤ maxLen ∧ z0_0.length = cap0_0 ∧ (∀ i, i < z0_0.length → w.cell? (x.add i) = some (.int .i64 (z0_0.getD i 0))) ∧ ∀ n ∈ z0_0, (Lit.int .i64 n).wf = true) (w1 : (Lit.int .i64 a1).wf = true) :
    Calls Try.prog 16 #[.agg #[.slice a0_0 len0_0 cap0_0], .int .i64 a1] w fun e w' => e = .returned (.bool true) ∧ Below w.heap.size w w' := by
  obtain ⟨l0_0, rfl, hr0_0, hm0_0, hw0_0, hc0_0⟩ := ReadsInt.ofRowC w0_0
  obtain ⟨k, h⟩ := P l0_0 a1 hm0_0 hw0_0 w1
  refine (laws_FnExactLessenGaps.calls k _ _ l0_0 a1 true w (Kd.C_of_reads (d := (0 : Int)) (h1 := fun _ => rfl) hr0_0) hc0_0 h).mono ?_
  rintro e w' ⟨rfl, hd⟩
  exact ⟨rfl, hd⟩

end Go.Proofs.Ytcjcocffhljggaa.X
