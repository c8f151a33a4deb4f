/- Written by wip/tool/xprint.py for this claim: functions as plain Lean functions, each with a proof that the Go code comes to its answers; no condition beside those stated. -/
import Derived.Test.YtfephoddgifapaaX0
import Derived.Test.YtfephoddgifapaaX5
import Derived.Test.YtfephoddgifapaaX7
import Derived.Test.YtfephoddgifapaaX24
import Derived.Test.YtfephoddgifapaaX30
import Derived.Test.YtfephoddgifapaaX36
import Derived.Test.YtfephoddgifapaaX39
import Derived.Test.YtfephoddgifapaaX41
namespace Go.Proofs.Ytfephoddgifapaa.X
open Go.RowKit Go.Proofs.YtfephoddgifapaaW.PrintWords Go.Proofs.YtfephoddgifapaaW.PrintLast Go.Proofs.YtfephoddgifapaaW.PrintMore
attribute [local go_sem] max2_int min2_int max_two min_two max_three min_three max_four min_four   -- for this text's walks alone
set_option linter.unusedVariables false
set_option linter.unusedSimpArgs false

/-! ### laws_FnExactTasksOfGarden: function 13 -/
mutual
def laws_FnExactTasksOfGarden.j0 : Nat → Int → Int → Int → Bool → List Int → List Int → List Int → List Int → Option (Bool)
  | 0, _, _, _, _, _, _, _, _ => none
  | k + 1, x1, x7, x10, x44, x720000, x729000, x733000, x738000 => if x44 = true then (some false) else ((laws_toGarden.f k x720000).bind fun t739 => ((laws_eqGarden.f k x733000 t739).bind fun t742 => (if t742 = true then ((laws_markGarden.f k x733000 1).bind fun bt743 => (if bt743.1 < 0 then (laws_FnExactTasksOfGarden.j1 k x1 x7 true x720000 x729000 x738000) else ((laws_eqTasks.f k x738000 x729000).bind fun t745 => (if t745 = true then (laws_FnExactTasksOfGarden.j1 k x1 x7 (x10 != x7) x720000 x729000 x738000) else (laws_FnExactTasksOfGarden.j1 k x1 x7 true x720000 x729000 x738000))))) else (some false))))
def laws_FnExactTasksOfGarden.j1 : Nat → Int → Int → Bool → List Int → List Int → List Int → Option (Bool)
  | 0, _, _, _, _, _, _ => none
  | k + 1, x1, x7, x65, x720000, x729000, x738000 => if x65 = true then (some false) else ((laws_markTasks.f k x738000 1).bind fun bt746 => ((laws_heldTasks.f k bt746.2 1).bind fun t748 => (if t748 < 0 then (some false) else (if t748 = bt746.1 then ((laws_toGarden.f k x720000).bind fun t749 => ((impl_TasksOfGarden.f k t749 x1).bind fun bt752 => ((laws_eqTasks.f k bt752.1 x729000).bind fun t757 => (if t757 = true then (laws_FnExactTasksOfGarden.j2 k bt746.1 (bt752.2 != x7) bt746.2) else (laws_FnExactTasksOfGarden.j2 k bt746.1 true bt746.2))))) else (some false)))))
def laws_FnExactTasksOfGarden.j2 : Nat → Int → Bool → List Int → Option (Bool)
  | 0, _, _, _ => none
  | k + 1, x12, x92, x738000 => if x92 = true then (some false) else ((laws_heldTasks.f k x738000 1).bind fun t758 => (if t758 < 0 then (some false) else (if t758 = x12 then (some true) else (some false))))
end
def laws_FnExactTasksOfGarden.f (k : Nat) (l0_0 : List Int) (a1 : Int) : Option (Bool) := (laws_szGarden.f l0_0 1048576).bind fun t720 => (if t720 < 0 then (some true) else ((laws_toGarden.f k l0_0).bind fun t721 => ((spec_TasksOfGarden.f k t721 a1).bind fun bt724 => ((laws_toGarden.f k l0_0).bind fun t729 => ((impl_TasksOfGarden.f k t729 a1).bind fun bt733 => ((laws_eqTasks.f k bt733.1 bt724.1).bind fun t738 => (if t738 = true then (laws_FnExactTasksOfGarden.j0 k a1 bt724.2 bt733.2 (bt733.2 != bt724.2) l0_0 bt724.1 t729 bt733.1) else (laws_FnExactTasksOfGarden.j0 k a1 bt724.2 bt733.2 true l0_0 bt724.1 t729 bt733.1))))))))
theorem laws_FnExactTasksOfGarden.mono_l : ∀ k, (∀ y0 y1 y2 y3 y4 y5 y6 y7, LeO (laws_FnExactTasksOfGarden.j0 k y0 y1 y2 y3 y4 y5 y6 y7) (laws_FnExactTasksOfGarden.j0 (k + 1) y0 y1 y2 y3 y4 y5 y6 y7)) ∧ (∀ y0 y1 y2 y3 y4 y5, LeO (laws_FnExactTasksOfGarden.j1 k y0 y1 y2 y3 y4 y5) (laws_FnExactTasksOfGarden.j1 (k + 1) y0 y1 y2 y3 y4 y5)) ∧ (∀ y0 y1 y2, LeO (laws_FnExactTasksOfGarden.j2 k y0 y1 y2) (laws_FnExactTasksOfGarden.j2 (k + 1) y0 y1 y2))
  | 0 => ⟨fun _ _ _ _ _ _ _ _ r h => by simp [laws_FnExactTasksOfGarden.j0] at h, fun _ _ _ _ _ _ r h => by simp [laws_FnExactTasksOfGarden.j1] at h, fun _ _ _ r h => by simp [laws_FnExactTasksOfGarden.j2] at h⟩
  | k + 1 => by
    obtain ⟨ih0, ih1, ih2⟩ := laws_FnExactTasksOfGarden.mono_l k
    refine ⟨?_, ?_, ?_⟩
    · intro y0 y1 y2 y3 y4 y5 y6 y7
      unfold laws_FnExactTasksOfGarden.j0
      repeat' first
      | (with_reducible exact ih0 _ _ _ _ _ _ _ _)
      | (with_reducible exact ih1 _ _ _ _ _ _)
      | (with_reducible exact ih2 _ _ _)
      | (with_reducible exact impl_TasksOfGarden.mono _ _ _)
      | (with_reducible exact laws_eqGarden.mono _ _ _)
      | (with_reducible exact laws_eqTasks.mono _ _ _)
      | (with_reducible exact laws_heldTasks.mono _ _ _)
      | (with_reducible exact laws_markGarden.mono _ _ _)
      | (with_reducible exact laws_markTasks.mono _ _ _)
      | (with_reducible exact laws_toGarden.mono _ _)
      | (with_reducible exact spec_TasksOfGarden.mono _ _ _)
      | (with_reducible exact LeO.refl _)
      | (with_reducible exact LeO.none _)
      | (with_reducible refine LeO.ite ?_ ?_)
      | (with_reducible refine LeO.bind ?_ (fun _ => ?_))
      | exact ih0 _ _ _ _ _ _ _ _
      | exact ih1 _ _ _ _ _ _
      | exact ih2 _ _ _
      | exact impl_TasksOfGarden.mono _ _ _
      | exact laws_eqGarden.mono _ _ _
      | exact laws_eqTasks.mono _ _ _
      | exact laws_heldTasks.mono _ _ _
      | exact laws_markGarden.mono _ _ _
      | exact laws_markTasks.mono _ _ _
      | exact laws_toGarden.mono _ _
      | exact spec_TasksOfGarden.mono _ _ _
      | exact LeO.none _
      | refine LeO.ite ?_ ?_
      | refine LeO.bind ?_ (fun _ => ?_)
    · intro y0 y1 y2 y3 y4 y5
      unfold laws_FnExactTasksOfGarden.j1
      repeat' first
      | (with_reducible exact ih0 _ _ _ _ _ _ _ _)
      | (with_reducible exact ih1 _ _ _ _ _ _)
      | (with_reducible exact ih2 _ _ _)
      | (with_reducible exact impl_TasksOfGarden.mono _ _ _)
      | (with_reducible exact laws_eqGarden.mono _ _ _)
      | (with_reducible exact laws_eqTasks.mono _ _ _)
      | (with_reducible exact laws_heldTasks.mono _ _ _)
      | (with_reducible exact laws_markGarden.mono _ _ _)
      | (with_reducible exact laws_markTasks.mono _ _ _)
      | (with_reducible exact laws_toGarden.mono _ _)
      | (with_reducible exact spec_TasksOfGarden.mono _ _ _)
      | (with_reducible exact LeO.refl _)
      | (with_reducible exact LeO.none _)
      | (with_reducible refine LeO.ite ?_ ?_)
      | (with_reducible refine LeO.bind ?_ (fun _ => ?_))
      | exact ih0 _ _ _ _ _ _ _ _
      | exact ih1 _ _ _ _ _ _
      | exact ih2 _ _ _
      | exact impl_TasksOfGarden.mono _ _ _
      | exact laws_eqGarden.mono _ _ _
      | exact laws_eqTasks.mono _ _ _
      | exact laws_heldTasks.mono _ _ _
      | exact laws_markGarden.mono _ _ _
      | exact laws_markTasks.mono _ _ _
      | exact laws_toGarden.mono _ _
      | exact spec_TasksOfGarden.mono _ _ _
      | exact LeO.none _
      | refine LeO.ite ?_ ?_
      | refine LeO.bind ?_ (fun _ => ?_)
    · intro y0 y1 y2
      unfold laws_FnExactTasksOfGarden.j2
      repeat' first
      | (with_reducible exact ih0 _ _ _ _ _ _ _ _)
      | (with_reducible exact ih1 _ _ _ _ _ _)
      | (with_reducible exact ih2 _ _ _)
      | (with_reducible exact impl_TasksOfGarden.mono _ _ _)
      | (with_reducible exact laws_eqGarden.mono _ _ _)
      | (with_reducible exact laws_eqTasks.mono _ _ _)
      | (with_reducible exact laws_heldTasks.mono _ _ _)
      | (with_reducible exact laws_markGarden.mono _ _ _)
      | (with_reducible exact laws_markTasks.mono _ _ _)
      | (with_reducible exact laws_toGarden.mono _ _)
      | (with_reducible exact spec_TasksOfGarden.mono _ _ _)
      | (with_reducible exact LeO.refl _)
      | (with_reducible exact LeO.none _)
      | (with_reducible refine LeO.ite ?_ ?_)
      | (with_reducible refine LeO.bind ?_ (fun _ => ?_))
      | exact ih0 _ _ _ _ _ _ _ _
      | exact ih1 _ _ _ _ _ _
      | exact ih2 _ _ _
      | exact impl_TasksOfGarden.mono _ _ _
      | exact laws_eqGarden.mono _ _ _
      | exact laws_eqTasks.mono _ _ _
      | exact laws_heldTasks.mono _ _ _
      | exact laws_markGarden.mono _ _ _
      | exact laws_markTasks.mono _ _ _
      | exact laws_toGarden.mono _ _
      | exact spec_TasksOfGarden.mono _ _ _
      | exact LeO.none _
      | refine LeO.ite ?_ ?_
      | refine LeO.bind ?_ (fun _ => ?_)
theorem laws_FnExactTasksOfGarden.mono : ∀ a0 a1 k, LeO (laws_FnExactTasksOfGarden.f k a0 a1) (laws_FnExactTasksOfGarden.f (k + 1) a0 a1) := by
  intro a0 a1 k
  obtain ⟨ih0, ih1, ih2⟩ := laws_FnExactTasksOfGarden.mono_l k
  unfold laws_FnExactTasksOfGarden.f
  repeat' first
      | (with_reducible exact ih0 _ _ _ _ _ _ _ _)
      | (with_reducible exact ih1 _ _ _ _ _ _)
      | (with_reducible exact ih2 _ _ _)
      | (with_reducible exact impl_TasksOfGarden.mono _ _ _)
      | (with_reducible exact laws_eqGarden.mono _ _ _)
      | (with_reducible exact laws_eqTasks.mono _ _ _)
      | (with_reducible exact laws_heldTasks.mono _ _ _)
      | (with_reducible exact laws_markGarden.mono _ _ _)
      | (with_reducible exact laws_markTasks.mono _ _ _)
      | (with_reducible exact laws_toGarden.mono _ _)
      | (with_reducible exact spec_TasksOfGarden.mono _ _ _)
      | (with_reducible exact LeO.refl _)
      | (with_reducible exact LeO.none _)
      | (with_reducible refine LeO.ite ?_ ?_)
      | (with_reducible refine LeO.bind ?_ (fun _ => ?_))
      | exact ih0 _ _ _ _ _ _ _ _
      | exact ih1 _ _ _ _ _ _
      | exact ih2 _ _ _
      | exact impl_TasksOfGarden.mono _ _ _
      | exact laws_eqGarden.mono _ _ _
      | exact laws_eqTasks.mono _ _ _
      | exact laws_heldTasks.mono _ _ _
      | exact laws_markGarden.mono _ _ _
      | exact laws_markTasks.mono _ _ _
      | exact laws_toGarden.mono _ _
      | exact spec_TasksOfGarden.mono _ _ _
      | exact LeO.none _
      | refine LeO.ite ?_ ?_
      | refine LeO.bind ?_ (fun _ => ?_)
set_option maxHeartbeats 8000000 in
set_option maxRecDepth 100000 in
theorem laws_FnExactTasksOfGarden.calls (k : Nat) (A0_0 : Option Addr) (c0_0 : Nat) (l0_0 : List Int) (a1 : Int) (r : Bool) (w : World) (hr0_0 : Kd.C (Kd.int .i64) w A0_0 l0_0.length l0_0) (hc0_0 : l0_0.length ≤ c0_0) (h : laws_FnExactTasksOfGarden.f k l0_0 a1 = some r) :
    Calls Try.prog 13 #[.agg #[.slice A0_0 l0_0.length c0_0], .int .i64 a1] w fun e w' => e = .returned (.bool r) ∧ Below w.heap.size w w' := by
  have hu24 := Try.underlying24
  have hu37 := Try.underlying37
  have hu28 := Try.underlying28
  have HR0_0 := Aside0.mk hr0_0
  have HC0_0 := Aside0.mk hc0_0
  clear hr0_0 hc0_0
  have HB := Aside0.mk (Below.refl w.heap.size w)
  have H : ((laws_szGarden.f l0_0 1048576).bind fun t720 => (if t720 < 0 then (some true) else ((laws_toGarden.f k l0_0).bind fun t721 => ((spec_TasksOfGarden.f k t721 a1).bind fun bt724 => ((laws_toGarden.f k l0_0).bind fun t729 => ((impl_TasksOfGarden.f k t729 a1).bind fun bt733 => ((laws_eqTasks.f k bt733.1 bt724.1).bind fun t738 => (if t738 = true then (laws_FnExactTasksOfGarden.j0 k a1 bt724.2 bt733.2 (bt733.2 != bt724.2) l0_0 bt724.1 t729 bt733.1) else (laws_FnExactTasksOfGarden.j0 k a1 bt724.2 bt733.2 true l0_0 bt724.1 t729 bt733.1))))))))) = some r := h
  clear h
  replace H := Option.bind_eq_some_iff.mp H
  obtain ⟨t720, A30, H⟩ := H
  replace H : (if t720 < 0 then (some true) else ((laws_toGarden.f k l0_0).bind fun t721 => ((spec_TasksOfGarden.f k t721 a1).bind fun bt724 => ((laws_toGarden.f k l0_0).bind fun t729 => ((impl_TasksOfGarden.f k t729 a1).bind fun bt733 => ((laws_eqTasks.f k bt733.1 bt724.1).bind fun t738 => (if t738 = true then (laws_FnExactTasksOfGarden.j0 k a1 bt724.2 bt733.2 (bt733.2 != bt724.2) l0_0 bt724.1 t729 bt733.1) else (laws_FnExactTasksOfGarden.j0 k a1 bt724.2 bt733.2 true l0_0 bt724.1 t729 bt733.1)))))))) = some r := H
  have A3 := Aside0.mk A30
  clear A30
  by_cases c4 : t720 < 0
  · rw [if_pos c4] at H
    have c4b0 : decide (t720 < 0) = true := decide_eq_true c4
    clear c4
    obtain rfl := Option.some.inj H
    go_enter Try.func13, Try.ntmps13
    go_wp2_with (first | ((with_reducible refine gate_dst (N := 2) rfl ?_); refine box_event ?hg (N := 2) ?hd (cs := #[.slice A0_0 l0_0.length c0_0]) (t := 24) ?hr ?_; (case hd => rfl); (case hg => rfl); (case hr => first | (go_simp; done) | (go_simp; rfl)); intro gb719 hg w5 hbox hb; have n0_ := Aside0.mk (below_step (by repeat (first | (with_reducible first | exact HB.out | apply below_alloc | apply pw_below_drewN | apply below_drew1) | exact HB.out)) hb); have n1_ := Aside0.mk (hbox); have n2_ := Aside0.mk ((by rw [hg]; exact (below_size (by repeat (first | (with_reducible first | exact HB.out | apply below_alloc | apply pw_below_drewN | apply below_drew1) | exact HB.out))) : w.heap.size ≤ gb719)); have n3_ := Aside0.mk ((by rw [hg]; exact (below_size (by repeat (first | (with_reducible first | exact HB.out | apply below_alloc | apply pw_below_drewN | apply below_drew1) | exact HB.out))) : w.heap.size ≤ gb719)); clear HB; have HB := n0_; have BK719 := n1_; have GW719 := n2_; have GE719 := n3_; clear n0_ n1_ n2_ n3_; clear hb hbox hg; have hcz6_0 : w5.cell? ⟨gb719, 0, none⟩ = some (.slice A0_0 l0_0.length c0_0) := (blk_cell BK719.out 0).trans rfl; have hfz6_0 := blk_frozen BK719.out 0) | ((with_reducible refine gate_callee (f := 16) rfl ?_); refine goesL_ (some 18) rfl rfl Try.func16 (by kernel_rfl) rfl #[.agg #[.slice A0_0 l0_0.length c0_0], .int .i64 1048576] rfl (by (try simp only [List.map_toArray, List.map_cons, List.map_nil]); first | done | rfl | (simp only [List.length_drop, List.length_take]; rfl)) ?_; (with_reducible refine (laws_szGarden.calls _ _ l0_0 1048576 t720 _ ?side1 ?side2 A3.out).mono ?_); (case side1 => repeat (first | exact (Kd.C_below HR0_0.out HB.out) | (with_reducible refine Kd.C_alloc ?_ _) | (with_reducible refine Kd.C_drewN ?_ _) | (with_reducible refine Kd.C_drew ?_))); (case side2 => exact HC0_0.out); rintro e w7 ⟨rfl, hb⟩; refine ⟨_, rfl, ?_⟩; have n0_ := Aside0.mk (blk_below (g := gb719) (o := .cells #[.slice A0_0 l0_0.length c0_0] 24 (0, 0)) (by (with_reducible repeat (first | refine blk_drewN ?_ _ | refine blk_drew ?_ | refine blk_alloc ?_ _)); exact BK719.out) hb); have n1_ := Aside0.mk (below_step (by repeat (first | (with_reducible first | exact HB.out | apply below_alloc | apply pw_below_drewN | apply below_drew1 | refine below_set ?_ GE719.out) | exact HB.out)) hb); clear BK719; clear HB; have BK719 := n0_; have HB := n1_; clear n0_ n1_; (try clear hb); (try clear hb2); (try clear hk); (try clear hi)))
    go_ret
    exact ⟨by first | rfl | (simp [errW_none, errW_some] <;> rfl) | (simp [*, errW_none, errW_some] <;> rfl), by repeat (first | (with_reducible first | exact HB.out | apply below_alloc | apply pw_below_drewN | apply below_drew1 | refine below_set ?_ GE719.out) | exact HB.out)⟩
  · rw [if_neg c4] at H
    have c4b0 : decide (t720 < 0) = false := decide_eq_false c4
    clear c4
    replace H := Option.bind_eq_some_iff.mp H
    obtain ⟨t721, A80, H⟩ := H
    replace H : ((spec_TasksOfGarden.f k t721 a1).bind fun bt724 => ((laws_toGarden.f k l0_0).bind fun t729 => ((impl_TasksOfGarden.f k t729 a1).bind fun bt733 => ((laws_eqTasks.f k bt733.1 bt724.1).bind fun t738 => (if t738 = true then (laws_FnExactTasksOfGarden.j0 k a1 bt724.2 bt733.2 (bt733.2 != bt724.2) l0_0 bt724.1 t729 bt733.1) else (laws_FnExactTasksOfGarden.j0 k a1 bt724.2 bt733.2 true l0_0 bt724.1 t729 bt733.1)))))) = some r := H
    have A8 := Aside0.mk A80
    clear A80
    replace H := Option.bind_eq_some_iff.mp H
    obtain ⟨⟨t724, t727⟩, A90, H⟩ := H
    replace H : ((laws_toGarden.f k l0_0).bind fun t729 => ((impl_TasksOfGarden.f k t729 a1).bind fun bt733 => ((laws_eqTasks.f k bt733.1 t724).bind fun t738 => (if t738 = true then (laws_FnExactTasksOfGarden.j0 k a1 t727 bt733.2 (bt733.2 != t727) l0_0 t724 t729 bt733.1) else (laws_FnExactTasksOfGarden.j0 k a1 t727 bt733.2 true l0_0 t724 t729 bt733.1))))) = some r := H
    have A9 := Aside0.mk A90
    clear A90
    replace H := Option.bind_eq_some_iff.mp H
    obtain ⟨t729, A100, H⟩ := H
    replace H : ((impl_TasksOfGarden.f k t729 a1).bind fun bt733 => ((laws_eqTasks.f k bt733.1 t724).bind fun t738 => (if t738 = true then (laws_FnExactTasksOfGarden.j0 k a1 t727 bt733.2 (bt733.2 != t727) l0_0 t724 t729 bt733.1) else (laws_FnExactTasksOfGarden.j0 k a1 t727 bt733.2 true l0_0 t724 t729 bt733.1)))) = some r := H
    have A10 := Aside0.mk A100
    clear A100
    replace H := Option.bind_eq_some_iff.mp H
    obtain ⟨⟨t733, t736⟩, A110, H⟩ := H
    replace H : ((laws_eqTasks.f k t733 t724).bind fun t738 => (if t738 = true then (laws_FnExactTasksOfGarden.j0 k a1 t727 t736 (t736 != t727) l0_0 t724 t729 t733) else (laws_FnExactTasksOfGarden.j0 k a1 t727 t736 true l0_0 t724 t729 t733))) = some r := H
    have A11 := Aside0.mk A110
    clear A110
    have HC12 := Aside0.mk H
    clear H
    go_enter Try.func13, Try.ntmps13
    go_upto_region 8 with (first | ((with_reducible refine gate_dst (N := 2) rfl ?_); refine box_event ?hg (N := 2) ?hd (cs := #[.slice A0_0 l0_0.length c0_0]) (t := 24) ?hr ?_; (case hd => rfl); (case hg => rfl); (case hr => first | (go_simp; done) | (go_simp; rfl)); intro gb719 hg w13 hbox hb; have n0_ := Aside0.mk (below_step (by repeat (first | (with_reducible first | exact HB.out | apply below_alloc | apply pw_below_drewN | apply below_drew1) | exact HB.out)) hb); have n1_ := Aside0.mk (hbox); have n2_ := Aside0.mk ((by rw [hg]; exact (below_size (by repeat (first | (with_reducible first | exact HB.out | apply below_alloc | apply pw_below_drewN | apply below_drew1) | exact HB.out))) : w.heap.size ≤ gb719)); have n3_ := Aside0.mk ((by rw [hg]; exact (below_size (by repeat (first | (with_reducible first | exact HB.out | apply below_alloc | apply pw_below_drewN | apply below_drew1) | exact HB.out))) : w.heap.size ≤ gb719)); clear HB; have HB := n0_; have BK719 := n1_; have GW719 := n2_; have GE719 := n3_; clear n0_ n1_ n2_ n3_; clear hb hbox hg; have hcz14_0 : w13.cell? ⟨gb719, 0, none⟩ = some (.slice A0_0 l0_0.length c0_0) := (blk_cell BK719.out 0).trans rfl; have hfz14_0 := blk_frozen BK719.out 0) | ((with_reducible refine gate_callee (f := 16) rfl ?_); refine goesL_ (some 18) rfl rfl Try.func16 (by kernel_rfl) rfl #[.agg #[.slice A0_0 l0_0.length c0_0], .int .i64 1048576] rfl (by (try simp only [List.map_toArray, List.map_cons, List.map_nil]); first | done | rfl | (simp only [List.length_drop, List.length_take]; rfl)) ?_; (with_reducible refine (laws_szGarden.calls _ _ l0_0 1048576 t720 _ ?side1 ?side2 A3.out).mono ?_); (case side1 => repeat (first | exact (Kd.C_below HR0_0.out HB.out) | (with_reducible refine Kd.C_alloc ?_ _) | (with_reducible refine Kd.C_drewN ?_ _) | (with_reducible refine Kd.C_drew ?_))); (case side2 => exact HC0_0.out); rintro e w15 ⟨rfl, hb⟩; refine ⟨_, rfl, ?_⟩; have n0_ := Aside0.mk (blk_below (g := gb719) (o := .cells #[.slice A0_0 l0_0.length c0_0] 24 (0, 0)) (by (with_reducible repeat (first | refine blk_drewN ?_ _ | refine blk_drew ?_ | refine blk_alloc ?_ _)); exact BK719.out) hb); have n1_ := Aside0.mk (below_step (by repeat (first | (with_reducible first | exact HB.out | apply below_alloc | apply pw_below_drewN | apply below_drew1 | refine below_set ?_ GE719.out) | exact HB.out)) hb); clear BK719; clear HB; have BK719 := n0_; have HB := n1_; clear n0_ n1_; (try clear hb); (try clear hb2); (try clear hk); (try clear hi); have hcz16_0 : w15.cell? ⟨gb719, 0, none⟩ = some (.slice A0_0 l0_0.length c0_0) := (blk_cell BK719.out 0).trans rfl; have hfz16_0 := blk_frozen BK719.out 0) | ((with_reducible refine gate_callee (f := 18) rfl ?_); refine goesL_ (some 23) rfl rfl Try.func18 (by kernel_rfl) rfl #[.agg #[.slice A0_0 l0_0.length c0_0]] rfl (by (try simp only [List.map_toArray, List.map_cons, List.map_nil]); first | done | rfl | (simp only [List.length_drop, List.length_take]; rfl)) ?_; (with_reducible refine (laws_toGarden.calls k _ _ l0_0 t721 _ ?side1 ?side2 A8.out).mono ?_); (case side1 => repeat (first | exact (Kd.C_below HR0_0.out HB.out) | (with_reducible refine Kd.C_alloc ?_ _) | (with_reducible refine Kd.C_drewN ?_ _) | (with_reducible refine Kd.C_drew ?_))); (case side2 => exact HC0_0.out); rintro e w17 ⟨v722, rfl, ho0, hb⟩; refine ⟨_, rfl, ?_⟩; have n0_ := Aside0.mk (Kd.R_lower ho0 (below_size (by repeat (first | (with_reducible first | exact HB.out | apply below_alloc | apply pw_below_drewN | apply below_drew1 | refine below_set ?_ GE719.out) | exact HB.out)))); have n1_ := Aside0.mk (blk_below (g := gb719) (o := .cells #[.slice A0_0 l0_0.length c0_0] 24 (0, 0)) (by (with_reducible repeat (first | refine blk_drewN ?_ _ | refine blk_drew ?_ | refine blk_alloc ?_ _)); exact BK719.out) hb); have n2_ := Aside0.mk (below_step (by repeat (first | (with_reducible first | exact HB.out | apply below_alloc | apply pw_below_drewN | apply below_drew1 | refine below_set ?_ GE719.out) | exact HB.out)) hb); clear BK719; clear HB; have HO723 := n0_; have BK719 := n1_; have HB := n2_; clear n0_ n1_ n2_; (try clear hb); (try clear hb2); (try clear hk); (try clear hi); (try clear ho0); obtain ⟨Ao18, co18, eo18⟩ := Kd.R_slice HO723.out; subst eo18) | ((with_reducible refine gate_callee (f := 52) rfl ?_); refine goesL_ (some 25) rfl rfl Try.func52 (by kernel_rfl) rfl #[.agg #[.slice Ao18 t721.length co18], .int .i64 a1] rfl (by (try simp only [List.map_toArray, List.map_cons, List.map_nil]); first | done | rfl | (simp only [List.length_drop, List.length_take]; rfl)) ?_; (with_reducible refine (spec_TasksOfGarden.calls k _ _ t721 a1 t724 t727 _ ?side1 ?side2 A9.out).mono ?_); (case side1 => repeat (first | exact (Kd.R_reads' HO723.out).2.2 | (with_reducible refine Kd.C_alloc ?_ _) | (with_reducible refine Kd.C_drewN ?_ _) | (with_reducible refine Kd.C_drew ?_))); (case side2 => exact (Kd.R_reads' HO723.out).2.1); rintro e w19 ⟨v725, rfl, ho0, hb⟩; refine ⟨_, rfl, ?_⟩; have n0_ := Aside0.mk (Kd.R_elder' (by (with_reducible repeat (first | apply Kd.R_alloc | apply Kd.R_drewN | apply Kd.R_drew)); exact HO723.out) (Kd.R_base ho0) hb); have n1_ := Aside0.mk (Kd.R_lower (Kd.R_new' ho0 (Kd.R_lt (by (with_reducible repeat (first | apply Kd.R_alloc | apply Kd.R_drewN | apply Kd.R_drew)); exact HO723.out))) (below_size (by repeat (first | (with_reducible first | exact HB.out | apply below_alloc | apply pw_below_drewN | apply below_drew1 | refine below_set ?_ GE719.out) | exact HB.out)))); have n2_ := Aside0.mk (blk_below (g := gb719) (o := .cells #[.slice A0_0 l0_0.length c0_0] 24 (0, 0)) (by (with_reducible repeat (first | refine blk_drewN ?_ _ | refine blk_drew ?_ | refine blk_alloc ?_ _)); exact BK719.out) hb); have n3_ := Aside0.mk (below_step (by repeat (first | (with_reducible first | exact HB.out | apply below_alloc | apply pw_below_drewN | apply below_drew1 | refine below_set ?_ GE719.out) | exact HB.out)) hb); clear HO723; clear BK719; clear HB; have HO723 := n0_; have HO726 := n1_; have BK719 := n2_; have HB := n3_; clear n0_ n1_ n2_ n3_; (try clear hb); (try clear hb2); (try clear hk); (try clear hi); (try clear ho0)) | ((with_reducible refine gate_dst (N := 6) rfl ?_); refine box_event ?hg (N := 6) ?hd (cs := #[.slice none 0 0]) (t := 37) ?hr ?_; (case hd => rfl); (case hg => rfl); (case hr => first | (go_simp; done) | (go_simp; rfl)); intro gb728 hg w20 hbox hb; have n0_ := Aside0.mk (Kd.R_below (by (with_reducible repeat (first | apply Kd.R_alloc | apply Kd.R_drewN | apply Kd.R_drew)); exact HO723.out) hb); have n1_ := Aside0.mk (Kd.R_below (by (with_reducible repeat (first | apply Kd.R_alloc | apply Kd.R_drewN | apply Kd.R_drew)); exact HO726.out) hb); have n2_ := Aside0.mk (blk_below (g := gb719) (o := .cells #[.slice A0_0 l0_0.length c0_0] 24 (0, 0)) (by (with_reducible repeat (first | refine blk_drewN ?_ _ | refine blk_drew ?_ | refine blk_alloc ?_ _)); exact BK719.out) hb); have n3_ := Aside0.mk (below_step (by repeat (first | (with_reducible first | exact HB.out | apply below_alloc | apply pw_below_drewN | apply below_drew1 | refine below_set ?_ GE719.out) | exact HB.out)) hb); have n4_ := Aside0.mk (hbox); have n5_ := Aside0.mk ((by rw [hg]; exact (below_size (by repeat (first | (with_reducible first | exact HB.out | apply below_alloc | apply pw_below_drewN | apply below_drew1 | refine below_set ?_ GE719.out) | exact HB.out))) : w.heap.size ≤ gb728)); have n6_ := Aside0.mk ((by rw [hg]; exact (below_size (by repeat (first | (with_reducible first | exact HB.out | apply below_alloc | apply pw_below_drewN | apply below_drew1 | refine below_set ?_ GE719.out) | exact HB.out))) : w.heap.size ≤ gb728)); have n7_ := Aside0.mk ((by rw [hg]; exact Nat.ne_of_lt (blk_lt (g := gb719) (o := .cells #[.slice A0_0 l0_0.length c0_0] 24 (0, 0)) (by (with_reducible repeat (first | refine blk_drewN ?_ _ | refine blk_drew ?_ | refine blk_alloc ?_ _)); exact BK719.out)) : gb719 ≠ gb728)); have n8_ := Aside0.mk ((by rw [hg]; exact Nat.ne_of_gt (blk_lt (g := gb719) (o := .cells #[.slice A0_0 l0_0.length c0_0] 24 (0, 0)) (by (with_reducible repeat (first | refine blk_drewN ?_ _ | refine blk_drew ?_ | refine blk_alloc ?_ _)); exact BK719.out)) : gb728 ≠ gb719)); clear HO723; clear HO726; clear BK719; clear HB; have HO723 := n0_; have HO726 := n1_; have BK719 := n2_; have HB := n3_; have BK728 := n4_; have GW728 := n5_; have GE728 := n6_; have NB719_728 := n7_; have NB728_719 := n8_; clear n0_ n1_ n2_ n3_ n4_ n5_ n6_ n7_ n8_; clear hb hbox hg; obtain ⟨Ao21, co21, eo21⟩ := Kd.R_slice HO726.out; subst eo21; have hnb22 := NB728_719.out; have hnc22 := NB719_728.out; have hcz23_0 : w20.cell? ⟨gb728, 0, none⟩ = some (.slice none 0 0) := (blk_cell BK728.out 0).trans rfl; have hfz23_0 := blk_frozen BK728.out 0; have hcz24_0 : w20.cell? ⟨gb719, 0, none⟩ = some (.slice A0_0 l0_0.length c0_0) := (blk_cell BK719.out 0).trans rfl; have hfz24_0 := blk_frozen BK719.out 0) | ((with_reducible refine gate_callee (f := 18) rfl ?_); refine goesL_ (some 29) rfl rfl Try.func18 (by kernel_rfl) rfl #[.agg #[.slice A0_0 l0_0.length c0_0]] rfl (by (try simp only [List.map_toArray, List.map_cons, List.map_nil]); first | done | rfl | (simp only [List.length_drop, List.length_take]; rfl)) ?_; (with_reducible refine (laws_toGarden.calls k _ _ l0_0 t729 _ ?side1 ?side2 A10.out).mono ?_); (case side1 => exact Kd.C_below HR0_0.out (by repeat (first | (with_reducible first | exact HB.out | apply below_alloc | apply pw_below_drewN | apply below_drew1 | refine below_set ?_ GE719.out | refine below_set ?_ GE728.out) | exact HB.out))); (case side2 => exact HC0_0.out); rintro e w25 ⟨v730, rfl, ho0, hb⟩; refine ⟨_, rfl, ?_⟩; have n0_ := Aside0.mk (Kd.R_elder' (by (with_reducible repeat (first | apply Kd.R_alloc | apply Kd.R_drewN | apply Kd.R_drew)); exact (Kd.R_mono (Kd.R_far (p := ⟨gb728, 0, none⟩) (Kd.R_types HO723.out BK728.out (by decide)) (fun _ hk => hk.2) (.slice Ao21 t724.length co21)) (fun _ h_ => h_.1))) (Kd.R_base ho0) hb); have n1_ := Aside0.mk (Kd.R_elder' (by (with_reducible repeat (first | apply Kd.R_alloc | apply Kd.R_drewN | apply Kd.R_drew)); exact (Kd.R_mono (Kd.R_far (p := ⟨gb728, 0, none⟩) (Kd.R_types HO726.out BK728.out (by decide)) (fun _ hk => hk.2) (.slice Ao21 t724.length co21)) (fun _ h_ => h_.1))) (Kd.R_base ho0) hb); have n2_ := Aside0.mk (Kd.R_lower (Kd.R_new' (Kd.R_new' ho0 (Kd.R_lt (by (with_reducible repeat (first | apply Kd.R_alloc | apply Kd.R_drewN | apply Kd.R_drew)); exact (Kd.R_mono (Kd.R_far (p := ⟨gb728, 0, none⟩) (Kd.R_types HO723.out BK728.out (by decide)) (fun _ hk => hk.2) (.slice Ao21 t724.length co21)) (fun _ h_ => h_.1))))) (Kd.R_lt (by (with_reducible repeat (first | apply Kd.R_alloc | apply Kd.R_drewN | apply Kd.R_drew)); exact (Kd.R_mono (Kd.R_far (p := ⟨gb728, 0, none⟩) (Kd.R_types HO726.out BK728.out (by decide)) (fun _ hk => hk.2) (.slice Ao21 t724.length co21)) (fun _ h_ => h_.1))))) (below_size (by repeat (first | (with_reducible first | exact HB.out | apply below_alloc | apply pw_below_drewN | apply below_drew1 | refine below_set ?_ GE719.out | refine below_set ?_ GE728.out) | exact HB.out)))); have n3_ := Aside0.mk (blk_below (g := gb719) (o := .cells #[.slice A0_0 l0_0.length c0_0] 24 (0, 0)) (by (with_reducible repeat (first | refine blk_drewN ?_ _ | refine blk_drew ?_ | refine blk_alloc ?_ _)); refine blk_far ?_ NB719_728.out _; (with_reducible repeat (first | refine blk_drewN ?_ _ | refine blk_drew ?_ | refine blk_alloc ?_ _)); exact BK719.out) hb); have n4_ := Aside0.mk (blk_below (g := gb728) (o := .cells #[.slice Ao21 t724.length co21] 37 (0, 0)) (by (with_reducible repeat (first | refine blk_drewN ?_ _ | refine blk_drew ?_ | refine blk_alloc ?_ _)); refine blk_put (cs := #[.slice none 0 0]) ?_ 0 _ rfl; (with_reducible repeat (first | refine blk_drewN ?_ _ | refine blk_drew ?_ | refine blk_alloc ?_ _)); exact BK728.out) hb); have n5_ := Aside0.mk (below_step (by repeat (first | (with_reducible first | exact HB.out | apply below_alloc | apply pw_below_drewN | apply below_drew1 | refine below_set ?_ GE719.out | refine below_set ?_ GE728.out) | exact HB.out)) hb); clear HO723; clear HO726; clear BK719; clear BK728; clear HB; have HO723 := n0_; have HO726 := n1_; have HO731 := n2_; have BK719 := n3_; have BK728 := n4_; have HB := n5_; clear n0_ n1_ n2_ n3_ n4_ n5_; (try clear hb); (try clear hb2); (try clear hk); (try clear hi); (try clear ho0)) | ((with_reducible refine gate_dst (N := 8) rfl ?_); refine box_event ?hg (N := 8) ?hd (cs := #[.slice none 0 0]) (t := 28) ?hr ?_; (case hd => rfl); (case hg => rfl); (case hr => first | (go_simp; done) | (go_simp; rfl)); intro gb732 hg w26 hbox hb; have n0_ := Aside0.mk (Kd.R_below (by (with_reducible repeat (first | apply Kd.R_alloc | apply Kd.R_drewN | apply Kd.R_drew)); exact HO723.out) hb); have n1_ := Aside0.mk (Kd.R_below (by (with_reducible repeat (first | apply Kd.R_alloc | apply Kd.R_drewN | apply Kd.R_drew)); exact HO726.out) hb); have n2_ := Aside0.mk (Kd.R_below (by (with_reducible repeat (first | apply Kd.R_alloc | apply Kd.R_drewN | apply Kd.R_drew)); exact HO731.out) hb); have n3_ := Aside0.mk (blk_below (g := gb719) (o := .cells #[.slice A0_0 l0_0.length c0_0] 24 (0, 0)) (by (with_reducible repeat (first | refine blk_drewN ?_ _ | refine blk_drew ?_ | refine blk_alloc ?_ _)); exact BK719.out) hb); have n4_ := Aside0.mk (blk_below (g := gb728) (o := .cells #[.slice Ao21 t724.length co21] 37 (0, 0)) (by (with_reducible repeat (first | refine blk_drewN ?_ _ | refine blk_drew ?_ | refine blk_alloc ?_ _)); exact BK728.out) hb); have n5_ := Aside0.mk (below_step (by repeat (first | (with_reducible first | exact HB.out | apply below_alloc | apply pw_below_drewN | apply below_drew1 | refine below_set ?_ GE719.out | refine below_set ?_ GE728.out) | exact HB.out)) hb); have n6_ := Aside0.mk (hbox); have n7_ := Aside0.mk ((by rw [hg]; exact (below_size (by repeat (first | (with_reducible first | exact HB.out | apply below_alloc | apply pw_below_drewN | apply below_drew1 | refine below_set ?_ GE719.out | refine below_set ?_ GE728.out) | exact HB.out))) : w.heap.size ≤ gb732)); have n8_ := Aside0.mk ((by rw [hg]; exact (below_size (by repeat (first | (with_reducible first | exact HB.out | apply below_alloc | apply pw_below_drewN | apply below_drew1 | refine below_set ?_ GE719.out | refine below_set ?_ GE728.out) | exact HB.out))) : w.heap.size ≤ gb732)); have n9_ := Aside0.mk ((by rw [hg]; exact Nat.ne_of_lt (blk_lt (g := gb719) (o := .cells #[.slice A0_0 l0_0.length c0_0] 24 (0, 0)) (by (with_reducible repeat (first | refine blk_drewN ?_ _ | refine blk_drew ?_ | refine blk_alloc ?_ _)); exact BK719.out)) : gb719 ≠ gb732)); have n10_ := Aside0.mk ((by rw [hg]; exact Nat.ne_of_gt (blk_lt (g := gb719) (o := .cells #[.slice A0_0 l0_0.length c0_0] 24 (0, 0)) (by (with_reducible repeat (first | refine blk_drewN ?_ _ | refine blk_drew ?_ | refine blk_alloc ?_ _)); exact BK719.out)) : gb732 ≠ gb719)); have n11_ := Aside0.mk ((by rw [hg]; exact Nat.ne_of_lt (blk_lt (g := gb728) (o := .cells #[.slice Ao21 t724.length co21] 37 (0, 0)) (by (with_reducible repeat (first | refine blk_drewN ?_ _ | refine blk_drew ?_ | refine blk_alloc ?_ _)); exact BK728.out)) : gb728 ≠ gb732)); have n12_ := Aside0.mk ((by rw [hg]; exact Nat.ne_of_gt (blk_lt (g := gb728) (o := .cells #[.slice Ao21 t724.length co21] 37 (0, 0)) (by (with_reducible repeat (first | refine blk_drewN ?_ _ | refine blk_drew ?_ | refine blk_alloc ?_ _)); exact BK728.out)) : gb732 ≠ gb728)); clear HO723; clear HO726; clear HO731; clear BK719; clear BK728; clear HB; have HO723 := n0_; have HO726 := n1_; have HO731 := n2_; have BK719 := n3_; have BK728 := n4_; have HB := n5_; have BK732 := n6_; have GW732 := n7_; have GE732 := n8_; have NB719_732 := n9_; have NB732_719 := n10_; have NB728_732 := n11_; have NB732_728 := n12_; clear n0_ n1_ n2_ n3_ n4_ n5_ n6_ n7_ n8_ n9_ n10_ n11_ n12_; clear hb hbox hg; obtain ⟨Ao27, co27, eo27⟩ := Kd.R_slice HO731.out; subst eo27; have hnb28 := NB732_719.out; have hnc28 := NB719_732.out; have hnb29 := NB732_728.out; have hnc29 := NB728_732.out; have hcz30_0 : w26.cell? ⟨gb732, 0, none⟩ = some (.slice none 0 0) := (blk_cell BK732.out 0).trans rfl; have hfz30_0 := blk_frozen BK732.out 0) | ((with_reducible refine gate_callee (f := 53) rfl ?_); refine goesL_ (some 33) rfl rfl Try.func53 (by kernel_rfl) rfl #[.agg #[.slice Ao27 t729.length co27], .int .i64 a1] rfl (by (try simp only [List.map_toArray, List.map_cons, List.map_nil]); first | done | rfl | (simp only [List.length_drop, List.length_take]; rfl)) ?_; (with_reducible refine (impl_TasksOfGarden.calls k _ _ t729 a1 t733 t736 _ ?side1 ?side2 A11.out).mono ?_); (case side1 => refine (Kd.R_reads' (e := 2) (base := w.heap.size) (ok := fun k_ => ((True ∧ some k_ ≠ (.slice Ao18 t721.length co18 : Value).ownBlock) ∧ some k_ ≠ (.slice Ao21 t724.length co21 : Value).ownBlock)) (n := t729.length) (c := co27) ?_).2.2; exact (by (with_reducible repeat (first | apply Kd.R_alloc | apply Kd.R_drewN | apply Kd.R_drew)); exact (Kd.R_mono (Kd.R_far (p := ⟨gb732, 0, none⟩) (Kd.R_types HO731.out BK732.out (by decide)) (fun _ hk => hk.2) (.slice Ao27 t729.length co27)) (fun _ h_ => h_.1)))); (case side2 => exact (Kd.R_reads' HO731.out).2.1); rintro e w31 ⟨v734, rfl, ho0, hb⟩; refine ⟨_, rfl, ?_⟩; have n0_ := Aside0.mk (Kd.R_elder' (by (with_reducible repeat (first | apply Kd.R_alloc | apply Kd.R_drewN | apply Kd.R_drew)); exact (Kd.R_mono (Kd.R_far (p := ⟨gb732, 0, none⟩) (Kd.R_types HO723.out BK732.out (by decide)) (fun _ hk => hk.2) (.slice Ao27 t729.length co27)) (fun _ h_ => h_.1))) (Kd.R_base ho0) hb); have n1_ := Aside0.mk (Kd.R_elder' (by (with_reducible repeat (first | apply Kd.R_alloc | apply Kd.R_drewN | apply Kd.R_drew)); exact (Kd.R_mono (Kd.R_far (p := ⟨gb732, 0, none⟩) (Kd.R_types HO726.out BK732.out (by decide)) (fun _ hk => hk.2) (.slice Ao27 t729.length co27)) (fun _ h_ => h_.1))) (Kd.R_base ho0) hb); have n2_ := Aside0.mk (Kd.R_elder' (by (with_reducible repeat (first | apply Kd.R_alloc | apply Kd.R_drewN | apply Kd.R_drew)); exact (Kd.R_mono (Kd.R_far (p := ⟨gb732, 0, none⟩) (Kd.R_types HO731.out BK732.out (by decide)) (fun _ hk => hk.2) (.slice Ao27 t729.length co27)) (fun _ h_ => h_.1))) (Kd.R_base ho0) hb); have n3_ := Aside0.mk (Kd.R_lower (Kd.R_new' (Kd.R_new' (Kd.R_new' ho0 (Kd.R_lt (by (with_reducible repeat (first | apply Kd.R_alloc | apply Kd.R_drewN | apply Kd.R_drew)); exact (Kd.R_mono (Kd.R_far (p := ⟨gb732, 0, none⟩) (Kd.R_types HO723.out BK732.out (by decide)) (fun _ hk => hk.2) (.slice Ao27 t729.length co27)) (fun _ h_ => h_.1))))) (Kd.R_lt (by (with_reducible repeat (first | apply Kd.R_alloc | apply Kd.R_drewN | apply Kd.R_drew)); exact (Kd.R_mono (Kd.R_far (p := ⟨gb732, 0, none⟩) (Kd.R_types HO726.out BK732.out (by decide)) (fun _ hk => hk.2) (.slice Ao27 t729.length co27)) (fun _ h_ => h_.1))))) (Kd.R_lt (by (with_reducible repeat (first | apply Kd.R_alloc | apply Kd.R_drewN | apply Kd.R_drew)); exact (Kd.R_mono (Kd.R_far (p := ⟨gb732, 0, none⟩) (Kd.R_types HO731.out BK732.out (by decide)) (fun _ hk => hk.2) (.slice Ao27 t729.length co27)) (fun _ h_ => h_.1))))) (below_size (by repeat (first | (with_reducible first | exact HB.out | apply below_alloc | apply pw_below_drewN | apply below_drew1 | refine below_set ?_ GE719.out | refine below_set ?_ GE728.out | refine below_set ?_ GE732.out) | exact HB.out)))); have n4_ := Aside0.mk (blk_below (g := gb719) (o := .cells #[.slice A0_0 l0_0.length c0_0] 24 (0, 0)) (by (with_reducible repeat (first | refine blk_drewN ?_ _ | refine blk_drew ?_ | refine blk_alloc ?_ _)); refine blk_far ?_ NB719_732.out _; (with_reducible repeat (first | refine blk_drewN ?_ _ | refine blk_drew ?_ | refine blk_alloc ?_ _)); exact BK719.out) hb); have n5_ := Aside0.mk (blk_below (g := gb728) (o := .cells #[.slice Ao21 t724.length co21] 37 (0, 0)) (by (with_reducible repeat (first | refine blk_drewN ?_ _ | refine blk_drew ?_ | refine blk_alloc ?_ _)); refine blk_far ?_ NB728_732.out _; (with_reducible repeat (first | refine blk_drewN ?_ _ | refine blk_drew ?_ | refine blk_alloc ?_ _)); exact BK728.out) hb); have n6_ := Aside0.mk (blk_below (g := gb732) (o := .cells #[.slice Ao27 t729.length co27] 28 (0, 0)) (by (with_reducible repeat (first | refine blk_drewN ?_ _ | refine blk_drew ?_ | refine blk_alloc ?_ _)); refine blk_put (cs := #[.slice none 0 0]) ?_ 0 _ rfl; (with_reducible repeat (first | refine blk_drewN ?_ _ | refine blk_drew ?_ | refine blk_alloc ?_ _)); exact BK732.out) hb); have n7_ := Aside0.mk (below_step (by repeat (first | (with_reducible first | exact HB.out | apply below_alloc | apply pw_below_drewN | apply below_drew1 | refine below_set ?_ GE719.out | refine below_set ?_ GE728.out | refine below_set ?_ GE732.out) | exact HB.out)) hb); clear HO723; clear HO726; clear HO731; clear BK719; clear BK728; clear BK732; clear HB; have HO723 := n0_; have HO726 := n1_; have HO731 := n2_; have HO735 := n3_; have BK719 := n4_; have BK728 := n5_; have BK732 := n6_; have HB := n7_; clear n0_ n1_ n2_ n3_ n4_ n5_ n6_ n7_; (try clear hb); (try clear hb2); (try clear hk); (try clear hi); (try clear ho0)) | ((with_reducible refine gate_dst (N := 9) rfl ?_); refine box_event ?hg (N := 9) ?hd (cs := #[.slice none 0 0]) (t := 37) ?hr ?_; (case hd => rfl); (case hg => rfl); (case hr => first | (go_simp; done) | (go_simp; rfl)); intro gb737 hg w32 hbox hb; have n0_ := Aside0.mk (Kd.R_below (by (with_reducible repeat (first | apply Kd.R_alloc | apply Kd.R_drewN | apply Kd.R_drew)); exact HO723.out) hb); have n1_ := Aside0.mk (Kd.R_below (by (with_reducible repeat (first | apply Kd.R_alloc | apply Kd.R_drewN | apply Kd.R_drew)); exact HO726.out) hb); have n2_ := Aside0.mk (Kd.R_below (by (with_reducible repeat (first | apply Kd.R_alloc | apply Kd.R_drewN | apply Kd.R_drew)); exact HO731.out) hb); have n3_ := Aside0.mk (Kd.R_below (by (with_reducible repeat (first | apply Kd.R_alloc | apply Kd.R_drewN | apply Kd.R_drew)); exact HO735.out) hb); have n4_ := Aside0.mk (blk_below (g := gb719) (o := .cells #[.slice A0_0 l0_0.length c0_0] 24 (0, 0)) (by (with_reducible repeat (first | refine blk_drewN ?_ _ | refine blk_drew ?_ | refine blk_alloc ?_ _)); exact BK719.out) hb); have n5_ := Aside0.mk (blk_below (g := gb728) (o := .cells #[.slice Ao21 t724.length co21] 37 (0, 0)) (by (with_reducible repeat (first | refine blk_drewN ?_ _ | refine blk_drew ?_ | refine blk_alloc ?_ _)); exact BK728.out) hb); have n6_ := Aside0.mk (blk_below (g := gb732) (o := .cells #[.slice Ao27 t729.length co27] 28 (0, 0)) (by (with_reducible repeat (first | refine blk_drewN ?_ _ | refine blk_drew ?_ | refine blk_alloc ?_ _)); exact BK732.out) hb); have n7_ := Aside0.mk (below_step (by repeat (first | (with_reducible first | exact HB.out | apply below_alloc | apply pw_below_drewN | apply below_drew1 | refine below_set ?_ GE719.out | refine below_set ?_ GE728.out | refine below_set ?_ GE732.out) | exact HB.out)) hb); have n8_ := Aside0.mk (hbox); have n9_ := Aside0.mk ((by rw [hg]; exact (below_size (by repeat (first | (with_reducible first | exact HB.out | apply below_alloc | apply pw_below_drewN | apply below_drew1 | refine below_set ?_ GE719.out | refine below_set ?_ GE728.out | refine below_set ?_ GE732.out) | exact HB.out))) : w.heap.size ≤ gb737)); have n10_ := Aside0.mk ((by rw [hg]; exact (below_size (by repeat (first | (with_reducible first | exact HB.out | apply below_alloc | apply pw_below_drewN | apply below_drew1 | refine below_set ?_ GE719.out | refine below_set ?_ GE728.out | refine below_set ?_ GE732.out) | exact HB.out))) : w.heap.size ≤ gb737)); have n11_ := Aside0.mk ((by rw [hg]; exact Nat.ne_of_lt (blk_lt (g := gb719) (o := .cells #[.slice A0_0 l0_0.length c0_0] 24 (0, 0)) (by (with_reducible repeat (first | refine blk_drewN ?_ _ | refine blk_drew ?_ | refine blk_alloc ?_ _)); exact BK719.out)) : gb719 ≠ gb737)); have n12_ := Aside0.mk ((by rw [hg]; exact Nat.ne_of_gt (blk_lt (g := gb719) (o := .cells #[.slice A0_0 l0_0.length c0_0] 24 (0, 0)) (by (with_reducible repeat (first | refine blk_drewN ?_ _ | refine blk_drew ?_ | refine blk_alloc ?_ _)); exact BK719.out)) : gb737 ≠ gb719)); have n13_ := Aside0.mk ((by rw [hg]; exact Nat.ne_of_lt (blk_lt (g := gb728) (o := .cells #[.slice Ao21 t724.length co21] 37 (0, 0)) (by (with_reducible repeat (first | refine blk_drewN ?_ _ | refine blk_drew ?_ | refine blk_alloc ?_ _)); exact BK728.out)) : gb728 ≠ gb737)); have n14_ := Aside0.mk ((by rw [hg]; exact Nat.ne_of_gt (blk_lt (g := gb728) (o := .cells #[.slice Ao21 t724.length co21] 37 (0, 0)) (by (with_reducible repeat (first | refine blk_drewN ?_ _ | refine blk_drew ?_ | refine blk_alloc ?_ _)); exact BK728.out)) : gb737 ≠ gb728)); have n15_ := Aside0.mk ((by rw [hg]; exact Nat.ne_of_lt (blk_lt (g := gb732) (o := .cells #[.slice Ao27 t729.length co27] 28 (0, 0)) (by (with_reducible repeat (first | refine blk_drewN ?_ _ | refine blk_drew ?_ | refine blk_alloc ?_ _)); exact BK732.out)) : gb732 ≠ gb737)); have n16_ := Aside0.mk ((by rw [hg]; exact Nat.ne_of_gt (blk_lt (g := gb732) (o := .cells #[.slice Ao27 t729.length co27] 28 (0, 0)) (by (with_reducible repeat (first | refine blk_drewN ?_ _ | refine blk_drew ?_ | refine blk_alloc ?_ _)); exact BK732.out)) : gb737 ≠ gb732)); clear HO723; clear HO726; clear HO731; clear HO735; clear BK719; clear BK728; clear BK732; clear HB; have HO723 := n0_; have HO726 := n1_; have HO731 := n2_; have HO735 := n3_; have BK719 := n4_; have BK728 := n5_; have BK732 := n6_; have HB := n7_; have BK737 := n8_; have GW737 := n9_; have GE737 := n10_; have NB719_737 := n11_; have NB737_719 := n12_; have NB728_737 := n13_; have NB737_728 := n14_; have NB732_737 := n15_; have NB737_732 := n16_; clear n0_ n1_ n2_ n3_ n4_ n5_ n6_ n7_ n8_ n9_ n10_ n11_ n12_ n13_ n14_ n15_ n16_; clear hb hbox hg; obtain ⟨Ao33, co33, eo33⟩ := Kd.R_slice HO735.out; subst eo33; have hnb34 := NB737_719.out; have hnc34 := NB719_737.out; have hnb35 := NB737_728.out; have hnc35 := NB728_737.out; have hnb36 := NB737_732.out; have hnc36 := NB732_737.out; have hcz37_0 : w32.cell? ⟨gb737, 0, none⟩ = some (.slice none 0 0) := (blk_cell BK737.out 0).trans rfl; have hfz37_0 := blk_frozen BK737.out 0))
    (try simp only [Act.put, List.setIfInBounds_toArray, List.set_cons_zero, List.set_cons_succ])
    go_cut [44] (fun v44 wc => ∃ (kq : Nat) (x44_11 : Bool), v44 = .bool x44_11 ∧ Aside0 (laws_FnExactTasksOfGarden.j0 kq a1 t727 t736 x44_11 l0_0 t724 t729 t733 = some r) ∧ Aside0 (kq ≤ k) ∧ Aside0 (Kd.R (Kd.int .i64) 2 wc w.heap.size (fun k_ => some k_ ≠ ((.slice Ao27 t729.length co27) : Value).ownBlock ∧ some k_ ≠ ((.slice Ao33 t733.length co33) : Value).ownBlock) (.slice Ao21 t724.length co21) t724) ∧ Aside0 (Kd.R (Kd.int .i64) 2 wc w.heap.size (fun k_ => some k_ ≠ ((.slice Ao21 t724.length co21) : Value).ownBlock ∧ some k_ ≠ ((.slice Ao33 t733.length co33) : Value).ownBlock) (.slice Ao27 t729.length co27) t729) ∧ Aside0 (Kd.R (Kd.int .i64) 2 wc w.heap.size (fun k_ => some k_ ≠ ((.slice Ao21 t724.length co21) : Value).ownBlock ∧ some k_ ≠ ((.slice Ao27 t729.length co27) : Value).ownBlock) (.slice Ao33 t733.length co33) t733) ∧ Aside0 (wc.heap[gb719]? = some (.cells #[(.slice A0_0 l0_0.length c0_0)] 24 (0, 0))) ∧ Aside0 (wc.heap[gb728]? = some (.cells #[(.slice Ao21 t724.length co21)] 37 (0, 0))) ∧ Aside0 (wc.heap[gb732]? = some (.cells #[(.slice Ao27 t729.length co27)] 28 (0, 0))) ∧ Aside0 (wc.heap[gb737]? = some (.cells #[(.slice Ao33 t733.length co33)] 37 (0, 0))) ∧ Aside0 (Below w.heap.size w wc))
    case first =>
      have H := HC12.out
      clear HC12
      replace H := Option.bind_eq_some_iff.mp H
      obtain ⟨t738, A380, H⟩ := H
      replace H : (if t738 = true then (laws_FnExactTasksOfGarden.j0 k a1 t727 t736 (t736 != t727) l0_0 t724 t729 t733) else (laws_FnExactTasksOfGarden.j0 k a1 t727 t736 true l0_0 t724 t729 t733)) = some r := H
      have A38 := Aside0.mk A380
      clear A380
      by_cases c39 : t738 = true
      · subst c39
        have H1 : (laws_FnExactTasksOfGarden.j0 k a1 t727 t736 (t736 != t727) l0_0 t724 t729 t733) = some r := by rw [if_pos rfl] at H; exact H
        clear H
        have H := H1
        clear H1
        have H' := Aside0.mk H
        clear H
        have hnb40 := NB737_719.out
        have hnc40 := NB719_737.out
        have hnb41 := NB737_728.out
        have hnc41 := NB728_737.out
        have hnb42 := NB737_732.out
        have hnc42 := NB732_737.out
        have hcz43_0 : w32.cell? ⟨gb737, 0, none⟩ = some (.slice none 0 0) := (blk_cell BK737.out 0).trans rfl
        have hfz43_0 := blk_frozen BK737.out 0
        have hnb44 := NB728_719.out
        have hnc44 := NB719_728.out
        have hnb45 := NB728_732.out
        have hnc45 := NB732_728.out
        have hcz46_0 : w32.cell? ⟨gb728, 0, none⟩ = some (.slice Ao21 t724.length co21) := (blk_cell BK728.out 0).trans rfl
        have hfz46_0 := blk_frozen BK728.out 0
        go_wp2_with (first | ((with_reducible refine gate_callee (f := 25) rfl ?_); refine goesL_ (some 38) rfl rfl Try.func25 (by kernel_rfl) rfl #[.agg #[.slice Ao33 t733.length co33], .agg #[.slice Ao21 t724.length co21]] rfl (by (try simp only [List.map_toArray, List.map_cons, List.map_nil]); first | done | rfl | (simp only [List.length_drop, List.length_take]; rfl)) ?_; (with_reducible refine (laws_eqTasks.calls k _ _ t733 _ _ t724 true _ ?side1 ?side2 ?side3 ?side4 A38.out).mono ?_); (case side1 => refine (Kd.R_reads' (e := 2) (base := w.heap.size) (ok := fun k_ => (((True ∧ some k_ ≠ (.slice Ao18 t721.length co18 : Value).ownBlock) ∧ some k_ ≠ (.slice Ao21 t724.length co21 : Value).ownBlock) ∧ some k_ ≠ (.slice Ao27 t729.length co27 : Value).ownBlock)) (n := t733.length) (c := co33) ?_).2.2; exact (by (with_reducible repeat (first | apply Kd.R_alloc | apply Kd.R_drewN | apply Kd.R_drew)); exact (Kd.R_mono (Kd.R_far (p := ⟨gb737, 0, none⟩) (Kd.R_types HO735.out BK737.out (by decide)) (fun _ hk => hk.2) (.slice Ao33 t733.length co33)) (fun _ h_ => h_.1)))); (case side2 => exact (Kd.R_reads' HO735.out).2.1); (case side3 => refine (Kd.R_reads' (e := 2) (base := w.heap.size) (ok := fun k_ => (((True ∧ some k_ ≠ (.slice Ao18 t721.length co18 : Value).ownBlock) ∧ some k_ ≠ (.slice Ao27 t729.length co27 : Value).ownBlock) ∧ some k_ ≠ (.slice Ao33 t733.length co33 : Value).ownBlock)) (n := t724.length) (c := co21) ?_).2.2; exact (by (with_reducible repeat (first | apply Kd.R_alloc | apply Kd.R_drewN | apply Kd.R_drew)); exact (Kd.R_mono (Kd.R_far (p := ⟨gb737, 0, none⟩) (Kd.R_types HO726.out BK737.out (by decide)) (fun _ hk => hk.2) (.slice Ao33 t733.length co33)) (fun _ h_ => h_.1)))); (case side4 => exact (Kd.R_reads' HO726.out).2.1); rintro e w47 ⟨rfl, hb⟩; refine ⟨_, rfl, ?_⟩; have n0_ := Aside0.mk (Kd.R_below (by (with_reducible repeat (first | apply Kd.R_alloc | apply Kd.R_drewN | apply Kd.R_drew)); exact (Kd.R_mono (Kd.R_far (p := ⟨gb737, 0, none⟩) (Kd.R_types HO723.out BK737.out (by decide)) (fun _ hk => hk.2) (.slice Ao33 t733.length co33)) (fun _ h_ => h_.1))) hb); have n1_ := Aside0.mk (Kd.R_below (by (with_reducible repeat (first | apply Kd.R_alloc | apply Kd.R_drewN | apply Kd.R_drew)); exact (Kd.R_mono (Kd.R_far (p := ⟨gb737, 0, none⟩) (Kd.R_types HO726.out BK737.out (by decide)) (fun _ hk => hk.2) (.slice Ao33 t733.length co33)) (fun _ h_ => h_.1))) hb); have n2_ := Aside0.mk (Kd.R_below (by (with_reducible repeat (first | apply Kd.R_alloc | apply Kd.R_drewN | apply Kd.R_drew)); exact (Kd.R_mono (Kd.R_far (p := ⟨gb737, 0, none⟩) (Kd.R_types HO731.out BK737.out (by decide)) (fun _ hk => hk.2) (.slice Ao33 t733.length co33)) (fun _ h_ => h_.1))) hb); have n3_ := Aside0.mk (Kd.R_below (by (with_reducible repeat (first | apply Kd.R_alloc | apply Kd.R_drewN | apply Kd.R_drew)); exact (Kd.R_mono (Kd.R_far (p := ⟨gb737, 0, none⟩) (Kd.R_types HO735.out BK737.out (by decide)) (fun _ hk => hk.2) (.slice Ao33 t733.length co33)) (fun _ h_ => h_.1))) hb); have n4_ := Aside0.mk (blk_below (g := gb719) (o := .cells #[.slice A0_0 l0_0.length c0_0] 24 (0, 0)) (by (with_reducible repeat (first | refine blk_drewN ?_ _ | refine blk_drew ?_ | refine blk_alloc ?_ _)); refine blk_far ?_ NB719_737.out _; (with_reducible repeat (first | refine blk_drewN ?_ _ | refine blk_drew ?_ | refine blk_alloc ?_ _)); exact BK719.out) hb); have n5_ := Aside0.mk (blk_below (g := gb728) (o := .cells #[.slice Ao21 t724.length co21] 37 (0, 0)) (by (with_reducible repeat (first | refine blk_drewN ?_ _ | refine blk_drew ?_ | refine blk_alloc ?_ _)); refine blk_far ?_ NB728_737.out _; (with_reducible repeat (first | refine blk_drewN ?_ _ | refine blk_drew ?_ | refine blk_alloc ?_ _)); exact BK728.out) hb); have n6_ := Aside0.mk (blk_below (g := gb732) (o := .cells #[.slice Ao27 t729.length co27] 28 (0, 0)) (by (with_reducible repeat (first | refine blk_drewN ?_ _ | refine blk_drew ?_ | refine blk_alloc ?_ _)); refine blk_far ?_ NB732_737.out _; (with_reducible repeat (first | refine blk_drewN ?_ _ | refine blk_drew ?_ | refine blk_alloc ?_ _)); exact BK732.out) hb); have n7_ := Aside0.mk (blk_below (g := gb737) (o := .cells #[.slice Ao33 t733.length co33] 37 (0, 0)) (by (with_reducible repeat (first | refine blk_drewN ?_ _ | refine blk_drew ?_ | refine blk_alloc ?_ _)); refine blk_put (cs := #[.slice none 0 0]) ?_ 0 _ rfl; (with_reducible repeat (first | refine blk_drewN ?_ _ | refine blk_drew ?_ | refine blk_alloc ?_ _)); exact BK737.out) hb); have n8_ := Aside0.mk (below_step (by repeat (first | (with_reducible first | exact HB.out | apply below_alloc | apply pw_below_drewN | apply below_drew1 | refine below_set ?_ GE719.out | refine below_set ?_ GE728.out | refine below_set ?_ GE732.out | refine below_set ?_ GE737.out) | exact HB.out)) hb); clear HO723; clear HO726; clear HO731; clear HO735; clear BK719; clear BK728; clear BK732; clear BK737; clear HB; have HO723 := n0_; have HO726 := n1_; have HO731 := n2_; have HO735 := n3_; have BK719 := n4_; have BK728 := n5_; have BK732 := n6_; have BK737 := n7_; have HB := n8_; clear n0_ n1_ n2_ n3_ n4_ n5_ n6_ n7_ n8_; (try clear hb); (try clear hb2); (try clear hk); (try clear hi)))
        go_meet
        case rel => exact ⟨_, ((t736 != t727)), (by first | rfl | (simp; done) | (simp [*]; done)), H', ⟨by first | omega | exact Nat.le_refl _⟩, ⟨by (with_reducible repeat (first | apply Kd.R_alloc | apply Kd.R_drewN | apply Kd.R_drew)); exact Kd.R_mono HO726.out (fun _ hk => ⟨hk.1.2, hk.2⟩)⟩, ⟨by (with_reducible repeat (first | apply Kd.R_alloc | apply Kd.R_drewN | apply Kd.R_drew)); exact Kd.R_mono HO731.out (fun _ hk => ⟨hk.1.2, hk.2⟩)⟩, ⟨by (with_reducible repeat (first | apply Kd.R_alloc | apply Kd.R_drewN | apply Kd.R_drew)); exact Kd.R_mono HO735.out (fun _ hk => ⟨hk.1.2, hk.2⟩)⟩, ⟨by (with_reducible repeat (first | refine blk_drewN ?_ _ | refine blk_drew ?_ | refine blk_alloc ?_ _)); exact BK719.out⟩, ⟨by (with_reducible repeat (first | refine blk_drewN ?_ _ | refine blk_drew ?_ | refine blk_alloc ?_ _)); exact BK728.out⟩, ⟨by (with_reducible repeat (first | refine blk_drewN ?_ _ | refine blk_drew ?_ | refine blk_alloc ?_ _)); exact BK732.out⟩, ⟨by (with_reducible repeat (first | refine blk_drewN ?_ _ | refine blk_drew ?_ | refine blk_alloc ?_ _)); exact BK737.out⟩, ⟨by repeat (first | (with_reducible first | exact HB.out | apply below_alloc | apply pw_below_drewN | apply below_drew1 | refine below_set ?_ GE719.out | refine below_set ?_ GE728.out | refine below_set ?_ GE732.out | refine below_set ?_ GE737.out) | exact HB.out)⟩⟩
      · replace c39 := Bool.eq_false_iff.mpr c39
        subst c39
        have H1 : (laws_FnExactTasksOfGarden.j0 k a1 t727 t736 true l0_0 t724 t729 t733) = some r := by rw [if_neg (show ¬ (false = true) by decide)] at H; exact H
        clear H
        have H := H1
        clear H1
        have H' := Aside0.mk H
        clear H
        have hnb48 := NB737_719.out
        have hnc48 := NB719_737.out
        have hnb49 := NB737_728.out
        have hnc49 := NB728_737.out
        have hnb50 := NB737_732.out
        have hnc50 := NB732_737.out
        have hcz51_0 : w32.cell? ⟨gb737, 0, none⟩ = some (.slice none 0 0) := (blk_cell BK737.out 0).trans rfl
        have hfz51_0 := blk_frozen BK737.out 0
        have hnb52 := NB728_719.out
        have hnc52 := NB719_728.out
        have hnb53 := NB728_732.out
        have hnc53 := NB732_728.out
        have hcz54_0 : w32.cell? ⟨gb728, 0, none⟩ = some (.slice Ao21 t724.length co21) := (blk_cell BK728.out 0).trans rfl
        have hfz54_0 := blk_frozen BK728.out 0
        go_wp2_with (first | ((with_reducible refine gate_callee (f := 25) rfl ?_); refine goesL_ (some 38) rfl rfl Try.func25 (by kernel_rfl) rfl #[.agg #[.slice Ao33 t733.length co33], .agg #[.slice Ao21 t724.length co21]] rfl (by (try simp only [List.map_toArray, List.map_cons, List.map_nil]); first | done | rfl | (simp only [List.length_drop, List.length_take]; rfl)) ?_; (with_reducible refine (laws_eqTasks.calls k _ _ t733 _ _ t724 false _ ?side1 ?side2 ?side3 ?side4 A38.out).mono ?_); (case side1 => refine (Kd.R_reads' (e := 2) (base := w.heap.size) (ok := fun k_ => (((True ∧ some k_ ≠ (.slice Ao18 t721.length co18 : Value).ownBlock) ∧ some k_ ≠ (.slice Ao21 t724.length co21 : Value).ownBlock) ∧ some k_ ≠ (.slice Ao27 t729.length co27 : Value).ownBlock)) (n := t733.length) (c := co33) ?_).2.2; exact (by (with_reducible repeat (first | apply Kd.R_alloc | apply Kd.R_drewN | apply Kd.R_drew)); exact (Kd.R_mono (Kd.R_far (p := ⟨gb737, 0, none⟩) (Kd.R_types HO735.out BK737.out (by decide)) (fun _ hk => hk.2) (.slice Ao33 t733.length co33)) (fun _ h_ => h_.1)))); (case side2 => exact (Kd.R_reads' HO735.out).2.1); (case side3 => refine (Kd.R_reads' (e := 2) (base := w.heap.size) (ok := fun k_ => (((True ∧ some k_ ≠ (.slice Ao18 t721.length co18 : Value).ownBlock) ∧ some k_ ≠ (.slice Ao27 t729.length co27 : Value).ownBlock) ∧ some k_ ≠ (.slice Ao33 t733.length co33 : Value).ownBlock)) (n := t724.length) (c := co21) ?_).2.2; exact (by (with_reducible repeat (first | apply Kd.R_alloc | apply Kd.R_drewN | apply Kd.R_drew)); exact (Kd.R_mono (Kd.R_far (p := ⟨gb737, 0, none⟩) (Kd.R_types HO726.out BK737.out (by decide)) (fun _ hk => hk.2) (.slice Ao33 t733.length co33)) (fun _ h_ => h_.1)))); (case side4 => exact (Kd.R_reads' HO726.out).2.1); rintro e w55 ⟨rfl, hb⟩; refine ⟨_, rfl, ?_⟩; have n0_ := Aside0.mk (Kd.R_below (by (with_reducible repeat (first | apply Kd.R_alloc | apply Kd.R_drewN | apply Kd.R_drew)); exact (Kd.R_mono (Kd.R_far (p := ⟨gb737, 0, none⟩) (Kd.R_types HO723.out BK737.out (by decide)) (fun _ hk => hk.2) (.slice Ao33 t733.length co33)) (fun _ h_ => h_.1))) hb); have n1_ := Aside0.mk (Kd.R_below (by (with_reducible repeat (first | apply Kd.R_alloc | apply Kd.R_drewN | apply Kd.R_drew)); exact (Kd.R_mono (Kd.R_far (p := ⟨gb737, 0, none⟩) (Kd.R_types HO726.out BK737.out (by decide)) (fun _ hk => hk.2) (.slice Ao33 t733.length co33)) (fun _ h_ => h_.1))) hb); have n2_ := Aside0.mk (Kd.R_below (by (with_reducible repeat (first | apply Kd.R_alloc | apply Kd.R_drewN | apply Kd.R_drew)); exact (Kd.R_mono (Kd.R_far (p := ⟨gb737, 0, none⟩) (Kd.R_types HO731.out BK737.out (by decide)) (fun _ hk => hk.2) (.slice Ao33 t733.length co33)) (fun _ h_ => h_.1))) hb); have n3_ := Aside0.mk (Kd.R_below (by (with_reducible repeat (first | apply Kd.R_alloc | apply Kd.R_drewN | apply Kd.R_drew)); exact (Kd.R_mono (Kd.R_far (p := ⟨gb737, 0, none⟩) (Kd.R_types HO735.out BK737.out (by decide)) (fun _ hk => hk.2) (.slice Ao33 t733.length co33)) (fun _ h_ => h_.1))) hb); have n4_ := Aside0.mk (blk_below (g := gb719) (o := .cells #[.slice A0_0 l0_0.length c0_0] 24 (0, 0)) (by (with_reducible repeat (first | refine blk_drewN ?_ _ | refine blk_drew ?_ | refine blk_alloc ?_ _)); refine blk_far ?_ NB719_737.out _; (with_reducible repeat (first | refine blk_drewN ?_ _ | refine blk_drew ?_ | refine blk_alloc ?_ _)); exact BK719.out) hb); have n5_ := Aside0.mk (blk_below (g := gb728) (o := .cells #[.slice Ao21 t724.length co21] 37 (0, 0)) (by (with_reducible repeat (first | refine blk_drewN ?_ _ | refine blk_drew ?_ | refine blk_alloc ?_ _)); refine blk_far ?_ NB728_737.out _; (with_reducible repeat (first | refine blk_drewN ?_ _ | refine blk_drew ?_ | refine blk_alloc ?_ _)); exact BK728.out) hb); have n6_ := Aside0.mk (blk_below (g := gb732) (o := .cells #[.slice Ao27 t729.length co27] 28 (0, 0)) (by (with_reducible repeat (first | refine blk_drewN ?_ _ | refine blk_drew ?_ | refine blk_alloc ?_ _)); refine blk_far ?_ NB732_737.out _; (with_reducible repeat (first | refine blk_drewN ?_ _ | refine blk_drew ?_ | refine blk_alloc ?_ _)); exact BK732.out) hb); have n7_ := Aside0.mk (blk_below (g := gb737) (o := .cells #[.slice Ao33 t733.length co33] 37 (0, 0)) (by (with_reducible repeat (first | refine blk_drewN ?_ _ | refine blk_drew ?_ | refine blk_alloc ?_ _)); refine blk_put (cs := #[.slice none 0 0]) ?_ 0 _ rfl; (with_reducible repeat (first | refine blk_drewN ?_ _ | refine blk_drew ?_ | refine blk_alloc ?_ _)); exact BK737.out) hb); have n8_ := Aside0.mk (below_step (by repeat (first | (with_reducible first | exact HB.out | apply below_alloc | apply pw_below_drewN | apply below_drew1 | refine below_set ?_ GE719.out | refine below_set ?_ GE728.out | refine below_set ?_ GE732.out | refine below_set ?_ GE737.out) | exact HB.out)) hb); clear HO723; clear HO726; clear HO731; clear HO735; clear BK719; clear BK728; clear BK732; clear BK737; clear HB; have HO723 := n0_; have HO726 := n1_; have HO731 := n2_; have HO735 := n3_; have BK719 := n4_; have BK728 := n5_; have BK732 := n6_; have BK737 := n7_; have HB := n8_; clear n0_ n1_ n2_ n3_ n4_ n5_ n6_ n7_ n8_; (try clear hb); (try clear hb2); (try clear hk); (try clear hi)))
        go_meet
        case rel => exact ⟨_, (true), (by first | rfl | (simp; done) | (simp [*]; done)), H', ⟨by first | omega | exact Nat.le_refl _⟩, ⟨by (with_reducible repeat (first | apply Kd.R_alloc | apply Kd.R_drewN | apply Kd.R_drew)); exact Kd.R_mono HO726.out (fun _ hk => ⟨hk.1.2, hk.2⟩)⟩, ⟨by (with_reducible repeat (first | apply Kd.R_alloc | apply Kd.R_drewN | apply Kd.R_drew)); exact Kd.R_mono HO731.out (fun _ hk => ⟨hk.1.2, hk.2⟩)⟩, ⟨by (with_reducible repeat (first | apply Kd.R_alloc | apply Kd.R_drewN | apply Kd.R_drew)); exact Kd.R_mono HO735.out (fun _ hk => ⟨hk.1.2, hk.2⟩)⟩, ⟨by (with_reducible repeat (first | refine blk_drewN ?_ _ | refine blk_drew ?_ | refine blk_alloc ?_ _)); exact BK719.out⟩, ⟨by (with_reducible repeat (first | refine blk_drewN ?_ _ | refine blk_drew ?_ | refine blk_alloc ?_ _)); exact BK728.out⟩, ⟨by (with_reducible repeat (first | refine blk_drewN ?_ _ | refine blk_drew ?_ | refine blk_alloc ?_ _)); exact BK732.out⟩, ⟨by (with_reducible repeat (first | refine blk_drewN ?_ _ | refine blk_drew ?_ | refine blk_alloc ?_ _)); exact BK737.out⟩, ⟨by repeat (first | (with_reducible first | exact HB.out | apply below_alloc | apply pw_below_drewN | apply below_drew1 | refine below_set ?_ GE719.out | refine below_set ?_ GE728.out | refine below_set ?_ GE732.out | refine below_set ?_ GE737.out) | exact HB.out)⟩⟩
    case rest =>
      clear HC12
      try clear c1
      try clear c2
      try clear p2
      try clear c3
      try clear c4
      try clear c4b0
      try clear c5
      try clear c13
      try clear c16
      try clear c18
      try clear c22
      try clear c25
      try clear c28
      try clear c29
      try clear c34
      try clear c35
      try clear c36
      try clear c39
      try clear c40
      try clear c41
      try clear c42
      try clear c44
      try clear c45
      try clear c48
      try clear c49
      try clear c50
      try clear c52
      try clear c53
      try clear hcz14_0
      try clear hcz16_0
      try clear hcz23_0
      try clear hcz24_0
      try clear hcz30_0
      try clear hcz37_0
      try clear hcz43_0
      try clear hcz46_0
      try clear hcz51_0
      try clear hcz54_0
      try clear hcz6_0
      try clear hfz14_0
      try clear hfz16_0
      try clear hfz23_0
      try clear hfz24_0
      try clear hfz30_0
      try clear hfz37_0
      try clear hfz43_0
      try clear hfz46_0
      try clear hfz51_0
      try clear hfz54_0
      try clear hfz6_0
      obtain ⟨kq, x44_11, rfl, HA, HJ11, HO_729000, HO_733000, HO_738000, BK719, BK728, BK732, BK737, HB⟩ := hcut
      cases kq with
      | zero => exact absurd HA.out (by simp [laws_FnExactTasksOfGarden.j0])
      | succ kj11 =>
        have H := HA.out
        clear HA
        simp only [laws_FnExactTasksOfGarden.j0] at H
        by_cases c56 : x44_11 = true
        · subst c56
          have H1 : (some false) = some r := by rw [if_pos rfl] at H; exact H
          clear H
          have H := H1
          clear H1
          obtain rfl := Option.some.inj H
          go_wp2
          go_ret
          exact ⟨by first | rfl | (simp [errW_none, errW_some] <;> rfl) | (simp [*, errW_none, errW_some] <;> rfl), by repeat (first | (with_reducible first | exact HB.out | apply below_alloc | apply pw_below_drewN | apply below_drew1 | refine below_set ?_ GE719.out | refine below_set ?_ GE728.out | refine below_set ?_ GE732.out | refine below_set ?_ GE737.out) | exact HB.out)⟩
        · replace c56 := Bool.eq_false_iff.mpr c56
          subst c56
          have H1 : ((laws_toGarden.f kj11 l0_0).bind fun t739 => ((laws_eqGarden.f kj11 t729 t739).bind fun t742 => (if t742 = true then ((laws_markGarden.f kj11 t729 1).bind fun bt743 => (if bt743.1 < 0 then (laws_FnExactTasksOfGarden.j1 kj11 a1 t727 true l0_0 t724 t733) else ((laws_eqTasks.f kj11 t733 t724).bind fun t745 => (if t745 = true then (laws_FnExactTasksOfGarden.j1 kj11 a1 t727 (t736 != t727) l0_0 t724 t733) else (laws_FnExactTasksOfGarden.j1 kj11 a1 t727 true l0_0 t724 t733))))) else (some false)))) = some r := by rw [if_neg (show ¬ (false = true) by decide)] at H; exact H
          clear H
          have H := H1
          clear H1
          replace H := Option.bind_eq_some_iff.mp H
          obtain ⟨t739, A570, H⟩ := H
          replace H : ((laws_eqGarden.f kj11 t729 t739).bind fun t742 => (if t742 = true then ((laws_markGarden.f kj11 t729 1).bind fun bt743 => (if bt743.1 < 0 then (laws_FnExactTasksOfGarden.j1 kj11 a1 t727 true l0_0 t724 t733) else ((laws_eqTasks.f kj11 t733 t724).bind fun t745 => (if t745 = true then (laws_FnExactTasksOfGarden.j1 kj11 a1 t727 (t736 != t727) l0_0 t724 t733) else (laws_FnExactTasksOfGarden.j1 kj11 a1 t727 true l0_0 t724 t733))))) else (some false))) = some r := H
          have A57 := Aside0.mk A570
          clear A570
          replace H := Option.bind_eq_some_iff.mp H
          obtain ⟨t742, A580, H⟩ := H
          replace H : (if t742 = true then ((laws_markGarden.f kj11 t729 1).bind fun bt743 => (if bt743.1 < 0 then (laws_FnExactTasksOfGarden.j1 kj11 a1 t727 true l0_0 t724 t733) else ((laws_eqTasks.f kj11 t733 t724).bind fun t745 => (if t745 = true then (laws_FnExactTasksOfGarden.j1 kj11 a1 t727 (t736 != t727) l0_0 t724 t733) else (laws_FnExactTasksOfGarden.j1 kj11 a1 t727 true l0_0 t724 t733))))) else (some false)) = some r := H
          have A58 := Aside0.mk A580
          clear A580
          by_cases c59 : t742 = true
          · subst c59
            have H1 : ((laws_markGarden.f kj11 t729 1).bind fun bt743 => (if bt743.1 < 0 then (laws_FnExactTasksOfGarden.j1 kj11 a1 t727 true l0_0 t724 t733) else ((laws_eqTasks.f kj11 t733 t724).bind fun t745 => (if t745 = true then (laws_FnExactTasksOfGarden.j1 kj11 a1 t727 (t736 != t727) l0_0 t724 t733) else (laws_FnExactTasksOfGarden.j1 kj11 a1 t727 true l0_0 t724 t733))))) = some r := by rw [if_pos rfl] at H; exact H
            clear H
            have H := H1
            clear H1
            replace H := Option.bind_eq_some_iff.mp H
            obtain ⟨⟨t743, t744⟩, A600, H⟩ := H
            replace H : (if t743 < 0 then (laws_FnExactTasksOfGarden.j1 kj11 a1 t727 true l0_0 t724 t733) else ((laws_eqTasks.f kj11 t733 t724).bind fun t745 => (if t745 = true then (laws_FnExactTasksOfGarden.j1 kj11 a1 t727 (t736 != t727) l0_0 t724 t733) else (laws_FnExactTasksOfGarden.j1 kj11 a1 t727 true l0_0 t724 t733)))) = some r := H
            have A60 := Aside0.mk A600
            clear A600
            have HC61 := Aside0.mk H
            clear H
            try go_wp2
            have n0_ := Aside0.mk (Kd.R_drew HO_729000.out)
            have n1_ := Aside0.mk (Kd.R_drew HO_733000.out)
            have n2_ := Aside0.mk (Kd.R_drew HO_738000.out)
            have n3_ := Aside0.mk (blk_drew BK719.out)
            have n4_ := Aside0.mk (blk_drew BK728.out)
            have n5_ := Aside0.mk (blk_drew BK732.out)
            have n6_ := Aside0.mk (blk_drew BK737.out)
            have n7_ := Aside0.mk (below_drew1 HB.out)
            clear HO_729000
            clear HO_733000
            clear HO_738000
            clear BK719
            clear BK728
            clear BK732
            clear BK737
            clear HB
            have HO_729000 := n0_
            have HO_733000 := n1_
            have HO_738000 := n2_
            have BK719 := n3_
            have BK728 := n4_
            have BK732 := n5_
            have BK737 := n6_
            have HB := n7_
            clear n0_ n1_ n2_ n3_ n4_ n5_ n6_ n7_
            refine start_ (n := 5) (S := fun w' => w'.cell? ⟨gb732, 0, none⟩ = some (.slice Ao27 t729.length co27) ∧ w'.cell? ⟨gb719, 0, none⟩ = some (.slice A0_0 l0_0.length c0_0)) (ds := []) #[false, false, false, false, false] (by kernel_rfl) rfl rfl ⟨(blk_cell BK732.out 0).trans rfl, (blk_cell BK719.out 0).trans rfl⟩ (fun hHeld => ?_)
            generalize wc.drew = w62 at HO_729000 HO_733000 HO_738000 BK719 BK728 BK732 BK737 HB hHeld ⊢
            refine take_ (i := 0) (N := some 45) (v := ?_) (a' := ?_) #[true, false, false, false, false] rfl rfl (by kernel_rfl) (fun _ _ _ h => h) (Or.inl ⟨by rfl, ?_⟩) hHeld ?_ ?_
            rotate_left
            · rintro w' ⟨s0, s1⟩
              go_simp
              with_reducible rfl
            rotate_left
            · simp only [Act.put, List.setIfInBounds_toArray, List.set_cons_zero, List.set_cons_succ, i64_w, i32_w]
              rfl
            refine take_ (i := 1) (N := some 46) (v := ?_) (a' := ?_) #[true, true, false, false, false] rfl rfl (by kernel_rfl) (fun _ _ _ h => h) (Or.inl ⟨by rfl, ?_⟩) hHeld ?_ ?_
            rotate_left
            · rintro w' ⟨s0, s1⟩
              go_simp
              with_reducible rfl
            rotate_left
            · simp only [Act.put, List.setIfInBounds_toArray, List.set_cons_zero, List.set_cons_succ, i64_w, i32_w]
              rfl
            refine one_ (i := 2) (N := some 47) #[true, true, true, false, false] rfl rfl (by kernel_rfl) (by decide) (fun K hK => ?_)
            refine goes_ Try.func18 (by kernel_rfl) rfl #[.agg #[.slice A0_0 l0_0.length c0_0]] (by rfl) rfl rfl (by (try simp only [List.map_toArray, List.map_cons, List.map_nil]); first | done | rfl | (simp only [List.length_drop, List.length_take]; rfl)) ?_
            with_reducible refine (laws_toGarden.calls kj11 _ _ l0_0 t739 _ ?side1 ?side2 A57.out).mono ?_
            (case side1 => repeat (first | exact (Kd.C_below HR0_0.out HB.out) | (with_reducible refine Kd.C_alloc ?_ _) | (with_reducible refine Kd.C_drewN ?_ _) | (with_reducible refine Kd.C_drew ?_)))
            (case side2 => exact HC0_0.out)
            rintro e w63 ⟨v740, rfl, ho0, hb⟩
            refine ⟨_, rfl, ?_⟩
            have n0_ := Aside0.mk (Kd.R_elder' (by (with_reducible repeat (first | apply Kd.R_alloc | apply Kd.R_drewN | apply Kd.R_drew)); exact HO_729000.out) (Kd.R_base ho0) hb)
            have n1_ := Aside0.mk (Kd.R_elder' (by (with_reducible repeat (first | apply Kd.R_alloc | apply Kd.R_drewN | apply Kd.R_drew)); exact HO_733000.out) (Kd.R_base ho0) hb)
            have n2_ := Aside0.mk (Kd.R_elder' (by (with_reducible repeat (first | apply Kd.R_alloc | apply Kd.R_drewN | apply Kd.R_drew)); exact HO_738000.out) (Kd.R_base ho0) hb)
            have n3_ := Aside0.mk (Kd.R_lower (Kd.R_new' (Kd.R_new' (Kd.R_new' ho0 (Kd.R_lt (by (with_reducible repeat (first | apply Kd.R_alloc | apply Kd.R_drewN | apply Kd.R_drew)); exact HO_729000.out))) (Kd.R_lt (by (with_reducible repeat (first | apply Kd.R_alloc | apply Kd.R_drewN | apply Kd.R_drew)); exact HO_733000.out))) (Kd.R_lt (by (with_reducible repeat (first | apply Kd.R_alloc | apply Kd.R_drewN | apply Kd.R_drew)); exact HO_738000.out))) (below_size (by repeat (first | (with_reducible first | exact HB.out | apply below_alloc | apply pw_below_drewN | apply below_drew1 | refine below_set ?_ GE719.out | refine below_set ?_ GE728.out | refine below_set ?_ GE732.out | refine below_set ?_ GE737.out) | exact HB.out))))
            have n4_ := Aside0.mk (blk_below (g := gb719) (o := .cells #[.slice A0_0 l0_0.length c0_0] 24 (0, 0)) (by (with_reducible repeat (first | refine blk_drewN ?_ _ | refine blk_drew ?_ | refine blk_alloc ?_ _)); exact BK719.out) hb)
            have n5_ := Aside0.mk (blk_below (g := gb728) (o := .cells #[.slice Ao21 t724.length co21] 37 (0, 0)) (by (with_reducible repeat (first | refine blk_drewN ?_ _ | refine blk_drew ?_ | refine blk_alloc ?_ _)); exact BK728.out) hb)
            have n6_ := Aside0.mk (blk_below (g := gb732) (o := .cells #[.slice Ao27 t729.length co27] 28 (0, 0)) (by (with_reducible repeat (first | refine blk_drewN ?_ _ | refine blk_drew ?_ | refine blk_alloc ?_ _)); exact BK732.out) hb)
            have n7_ := Aside0.mk (blk_below (g := gb737) (o := .cells #[.slice Ao33 t733.length co33] 37 (0, 0)) (by (with_reducible repeat (first | refine blk_drewN ?_ _ | refine blk_drew ?_ | refine blk_alloc ?_ _)); exact BK737.out) hb)
            have n8_ := Aside0.mk (below_step (by repeat (first | (with_reducible first | exact HB.out | apply below_alloc | apply pw_below_drewN | apply below_drew1 | refine below_set ?_ GE719.out | refine below_set ?_ GE728.out | refine below_set ?_ GE732.out | refine below_set ?_ GE737.out) | exact HB.out)) hb)
            clear HO_729000
            clear HO_733000
            clear HO_738000
            clear BK719
            clear BK728
            clear BK732
            clear BK737
            clear HB
            have HO_729000 := n0_
            have HO_733000 := n1_
            have HO_738000 := n2_
            have HO741 := n3_
            have BK719 := n4_
            have BK728 := n5_
            have BK732 := n6_
            have BK737 := n7_
            have HB := n8_
            clear n0_ n1_ n2_ n3_ n4_ n5_ n6_ n7_ n8_
            (try clear hb)
            (try clear hb2)
            (try clear hk)
            (try clear hi)
            (try clear ho0)
            obtain ⟨Ao64, co64, eo64⟩ := Kd.R_slice HO741.out
            (first | subst eo64 | (injection eo64 with f1_ f2_ f3_; have f4_ := f1_.symm; have f5_ := f3_.symm; clear f1_ f2_ f3_; subst f4_; subst f5_))
            refine hK.out _ _ ⟨(blk_cell BK732.out 0).trans rfl, (blk_cell BK719.out 0).trans rfl⟩ (fun hHeld => ?_)
            clear hK K
            refine norm_ (a' := ?_) ?_ ?_
            rotate_left
            · show Act.put _ (some 47) _ = _
              simp only [Act.put, List.setIfInBounds_toArray, List.set_cons_zero, List.set_cons_succ, i64_w, i32_w]
              rfl
            refine one_ (i := 3) (N := some 48) #[true, true, true, true, false] rfl rfl (by kernel_rfl) (by decide) (fun K hK => ?_)
            refine goes_ Try.func20 (by kernel_rfl) rfl #[.agg #[.slice Ao27 t729.length co27], .agg #[.slice Ao64 t739.length co64]] (by rfl) rfl rfl (by (try simp only [List.map_toArray, List.map_cons, List.map_nil]); first | done | rfl | (simp only [List.length_drop, List.length_take]; rfl)) ?_
            with_reducible refine (laws_eqGarden.calls kj11 _ _ t729 _ _ t739 true _ ?side1 ?side2 ?side3 ?side4 A58.out).mono ?_
            (case side1 => repeat (first | exact (Kd.R_reads' HO_733000.out).2.2 | (with_reducible refine Kd.C_alloc ?_ _) | (with_reducible refine Kd.C_drewN ?_ _) | (with_reducible refine Kd.C_drew ?_)))
            (case side2 => exact (Kd.R_reads' HO_733000.out).2.1)
            (case side3 => repeat (first | exact (Kd.R_reads' HO741.out).2.2 | (with_reducible refine Kd.C_alloc ?_ _) | (with_reducible refine Kd.C_drewN ?_ _) | (with_reducible refine Kd.C_drew ?_)))
            (case side4 => exact (Kd.R_reads' HO741.out).2.1)
            rintro e w65 ⟨rfl, hb⟩
            refine ⟨_, rfl, ?_⟩
            have n0_ := Aside0.mk (Kd.R_below (by (with_reducible repeat (first | apply Kd.R_alloc | apply Kd.R_drewN | apply Kd.R_drew)); exact HO_729000.out) hb)
            have n1_ := Aside0.mk (Kd.R_below (by (with_reducible repeat (first | apply Kd.R_alloc | apply Kd.R_drewN | apply Kd.R_drew)); exact HO_733000.out) hb)
            have n2_ := Aside0.mk (Kd.R_below (by (with_reducible repeat (first | apply Kd.R_alloc | apply Kd.R_drewN | apply Kd.R_drew)); exact HO_738000.out) hb)
            have n3_ := Aside0.mk (Kd.R_below (by (with_reducible repeat (first | apply Kd.R_alloc | apply Kd.R_drewN | apply Kd.R_drew)); exact HO741.out) hb)
            have n4_ := Aside0.mk (blk_below (g := gb719) (o := .cells #[.slice A0_0 l0_0.length c0_0] 24 (0, 0)) (by (with_reducible repeat (first | refine blk_drewN ?_ _ | refine blk_drew ?_ | refine blk_alloc ?_ _)); exact BK719.out) hb)
            have n5_ := Aside0.mk (blk_below (g := gb728) (o := .cells #[.slice Ao21 t724.length co21] 37 (0, 0)) (by (with_reducible repeat (first | refine blk_drewN ?_ _ | refine blk_drew ?_ | refine blk_alloc ?_ _)); exact BK728.out) hb)
            have n6_ := Aside0.mk (blk_below (g := gb732) (o := .cells #[.slice Ao27 t729.length co27] 28 (0, 0)) (by (with_reducible repeat (first | refine blk_drewN ?_ _ | refine blk_drew ?_ | refine blk_alloc ?_ _)); exact BK732.out) hb)
            have n7_ := Aside0.mk (blk_below (g := gb737) (o := .cells #[.slice Ao33 t733.length co33] 37 (0, 0)) (by (with_reducible repeat (first | refine blk_drewN ?_ _ | refine blk_drew ?_ | refine blk_alloc ?_ _)); exact BK737.out) hb)
            have n8_ := Aside0.mk (below_step (by repeat (first | (with_reducible first | exact HB.out | apply below_alloc | apply pw_below_drewN | apply below_drew1 | refine below_set ?_ GE719.out | refine below_set ?_ GE728.out | refine below_set ?_ GE732.out | refine below_set ?_ GE737.out) | exact HB.out)) hb)
            clear HO_729000
            clear HO_733000
            clear HO_738000
            clear HO741
            clear BK719
            clear BK728
            clear BK732
            clear BK737
            clear HB
            have HO_729000 := n0_
            have HO_733000 := n1_
            have HO_738000 := n2_
            have HO741 := n3_
            have BK719 := n4_
            have BK728 := n5_
            have BK732 := n6_
            have BK737 := n7_
            have HB := n8_
            clear n0_ n1_ n2_ n3_ n4_ n5_ n6_ n7_ n8_
            (try clear hb)
            (try clear hb2)
            (try clear hk)
            (try clear hi)
            refine hK.out _ _ ⟨(blk_cell BK732.out 0).trans rfl, (blk_cell BK719.out 0).trans rfl⟩ (fun hHeld => ?_)
            clear hK K
            refine norm_ (a' := ?_) ?_ ?_
            rotate_left
            · show Act.put _ (some 48) _ = _
              simp only [Act.put, List.setIfInBounds_toArray, List.set_cons_zero, List.set_cons_succ, i64_w, i32_w]
              rfl
            refine pure_ (i := 4) (N := some 49) (v := ?_) (a' := ?_) #[true, true, true, true, true] rfl rfl (by kernel_rfl) (fun _ _ _ h => h) (Or.inl ⟨by rfl, ?_⟩) ?_ ?_
            rotate_left
            · intro w'
              go_simp
              with_reducible rfl
            rotate_left
            · simp only [Act.put, List.setIfInBounds_toArray, List.set_cons_zero, List.set_cons_succ, i64_w, i32_w]
              rfl
            refine done_ (by kernel_rfl) ?_
            have hnb66 := NB732_719.out
            have hnc66 := NB719_732.out
            have hnb67 := NB732_728.out
            have hnc67 := NB728_732.out
            have hnb68 := NB732_737.out
            have hnc68 := NB737_732.out
            have hcz69_0 : w65.cell? ⟨gb732, 0, none⟩ = some (.slice Ao27 t729.length co27) := (blk_cell BK732.out 0).trans rfl
            have hfz69_0 := blk_frozen BK732.out 0
            go_upto_region 14 with (first | ((with_reducible refine gate_callee (f := 50) rfl ?_); refine goesL_ (some 52) rfl rfl Try.func50 (by kernel_rfl) rfl #[.agg #[.slice Ao27 t729.length co27], .int .i64 1] rfl (by (try simp only [List.map_toArray, List.map_cons, List.map_nil]); first | done | rfl | (simp only [List.length_drop, List.length_take]; rfl)) ?_; (with_reducible refine (laws_markGarden.calls kj11 (fun k_ => some k_ = (.slice Ao27 t729.length co27 : Value).ownBlock) (.slice Ao27 t729.length co27) t729 1 t743 t744 w _ ?side1 ?side2 A60.out).mono ?_); (case side1 => repeat (first | (with_reducible first | exact HB.out | apply below_alloc | apply pw_below_drewN | apply below_drew1 | refine below_set ?_ GE719.out | refine below_set ?_ GE728.out | refine below_set ?_ GE732.out | refine below_set ?_ GE737.out) | exact HB.out)); (case side2 => exact Kd.R_tight rfl HO_733000.out); rintro e w70 ⟨rfl, hy0, hb, hkp⟩; refine ⟨_, rfl, ?_⟩; have n0_ := Aside0.mk (Kd.R_mono (ok' := fun k_ => some k_ ≠ (.slice Ao27 t729.length co27 : Value).ownBlock ∧ some k_ ≠ (.slice Ao33 t733.length co33 : Value).ownBlock ∧ some k_ ≠ (.slice Ao64 t739.length co64 : Value).ownBlock) (Kd.R_keptB (HO_729000.out) hkp (fun k_ hk_ hs_ => (hk_.1.1) hs_)) (fun k_ hk_ => ⟨hk_.1.1.1, hk_.1.1.2, hk_.1.2⟩)); have n1_ := Aside0.mk (Kd.R_reok rfl hy0 (fun k_ e_ => HO_733000.out.1 k_ e_)); have n2_ := Aside0.mk (Kd.R_mono (ok' := fun k_ => some k_ ≠ (.slice Ao21 t724.length co21 : Value).ownBlock ∧ some k_ ≠ (.slice Ao27 t729.length co27 : Value).ownBlock ∧ some k_ ≠ (.slice Ao64 t739.length co64 : Value).ownBlock) (Kd.R_keptB (HO_738000.out) hkp (fun k_ hk_ hs_ => (hk_.1.2) hs_)) (fun k_ hk_ => ⟨hk_.1.1.1, hk_.1.1.2, hk_.1.2⟩)); have n3_ := Aside0.mk (blk_kept (by (with_reducible repeat (first | refine blk_drewN ?_ _ | refine blk_drew ?_ | refine blk_alloc ?_ _)); exact BK719.out) hkp (fun hs_ => (fun e_ => (Kd.R_ne HO_733000.out BK719.out (by decide)) e_) hs_)); have n4_ := Aside0.mk (blk_kept (by (with_reducible repeat (first | refine blk_drewN ?_ _ | refine blk_drew ?_ | refine blk_alloc ?_ _)); exact BK728.out) hkp (fun hs_ => (fun e_ => (Kd.R_ne HO_733000.out BK728.out (by decide)) e_) hs_)); have n5_ := Aside0.mk (blk_kept (by (with_reducible repeat (first | refine blk_drewN ?_ _ | refine blk_drew ?_ | refine blk_alloc ?_ _)); exact BK732.out) hkp (fun hs_ => (fun e_ => (Kd.R_ne HO_733000.out BK732.out (by decide)) e_) hs_)); have n6_ := Aside0.mk (blk_kept (by (with_reducible repeat (first | refine blk_drewN ?_ _ | refine blk_drew ?_ | refine blk_alloc ?_ _)); exact BK737.out) hkp (fun hs_ => (fun e_ => (Kd.R_ne HO_733000.out BK737.out (by decide)) e_) hs_)); have n7_ := Aside0.mk (Kd.R_mono (ok' := fun k_ => some k_ ≠ (.slice Ao21 t724.length co21 : Value).ownBlock ∧ some k_ ≠ (.slice Ao27 t729.length co27 : Value).ownBlock ∧ some k_ ≠ (.slice Ao33 t733.length co33 : Value).ownBlock) (Kd.R_keptB (HO741.out) hkp (fun k_ hk_ hs_ => (hk_.1.2) hs_)) (fun k_ hk_ => ⟨hk_.1.1.1.2, hk_.1.1.2, hk_.1.2⟩)); have n8_ := Aside0.mk (hb); clear HO_729000; clear HO_733000; clear HO_738000; clear BK719; clear BK728; clear BK732; clear BK737; clear HO741; clear HB; have HO_729000 := n0_; have HO_733000 := n1_; have HO_738000 := n2_; have BK719 := n3_; have BK728 := n4_; have BK732 := n5_; have BK737 := n6_; have HO741 := n7_; have HB := n8_; clear n0_ n1_ n2_ n3_ n4_ n5_ n6_ n7_ n8_; (try clear hb); (try clear hkp); (try clear hy0)))
            (try simp only [Act.put, List.setIfInBounds_toArray, List.set_cons_zero, List.set_cons_succ])
            go_cut [65] (fun v65 wc => ∃ (kq : Nat) (x65_60 : Bool), v65 = .bool x65_60 ∧ Aside0 (laws_FnExactTasksOfGarden.j1 kq a1 t727 x65_60 l0_0 t724 t733 = some r) ∧ Aside0 (kq ≤ kj11) ∧ Aside0 (Kd.R (Kd.int .i64) 2 wc w.heap.size (fun k_ => some k_ ≠ ((.slice Ao27 t729.length co27) : Value).ownBlock ∧ some k_ ≠ ((.slice Ao33 t733.length co33) : Value).ownBlock) (.slice Ao21 t724.length co21) t724) ∧ Aside0 (Kd.R (Kd.int .i64) 2 wc w.heap.size (fun k_ => some k_ ≠ ((.slice Ao21 t724.length co21) : Value).ownBlock ∧ some k_ ≠ ((.slice Ao33 t733.length co33) : Value).ownBlock) (.slice Ao27 t729.length co27) t744) ∧ Aside0 (Kd.R (Kd.int .i64) 2 wc w.heap.size (fun k_ => some k_ ≠ ((.slice Ao21 t724.length co21) : Value).ownBlock ∧ some k_ ≠ ((.slice Ao27 t729.length co27) : Value).ownBlock) (.slice Ao33 t733.length co33) t733) ∧ Aside0 (wc.heap[gb719]? = some (.cells #[(.slice A0_0 l0_0.length c0_0)] 24 (0, 0))) ∧ Aside0 (wc.heap[gb728]? = some (.cells #[(.slice Ao21 t724.length co21)] 37 (0, 0))) ∧ Aside0 (wc.heap[gb732]? = some (.cells #[(.slice Ao27 t729.length co27)] 28 (0, 0))) ∧ Aside0 (wc.heap[gb737]? = some (.cells #[(.slice Ao33 t733.length co33)] 37 (0, 0))) ∧ Aside0 (Below w.heap.size w wc))
            case first =>
              have H := HC61.out
              clear HC61
              by_cases c71 : t743 < 0
              · rw [if_pos c71] at H
                have c71b0 : decide (t743 < 0) = true := decide_eq_true c71
                clear c71
                (first | rw [c71b0] | (simp only [i64_w, i32_w]; rw [c71b0]) | skip)
                have H' := Aside0.mk H
                clear H
                go_wp2
                go_meet
                case rel => exact ⟨_, (true), (by first | rfl | (simp; done) | (simp [*]; done)), H', ⟨by have := HJ11.out; first | omega | exact Nat.le_refl _⟩, ⟨by (with_reducible repeat (first | apply Kd.R_alloc | apply Kd.R_drewN | apply Kd.R_drew)); exact Kd.R_mono HO_729000.out (fun _ hk => ⟨hk.1, hk.2.1⟩)⟩, ⟨by (with_reducible repeat (first | apply Kd.R_alloc | apply Kd.R_drewN | apply Kd.R_drew)); exact Kd.R_mono HO_733000.out (fun _ hk => ⟨hk.1.1, hk.1.2⟩)⟩, ⟨by (with_reducible repeat (first | apply Kd.R_alloc | apply Kd.R_drewN | apply Kd.R_drew)); exact Kd.R_mono HO_738000.out (fun _ hk => ⟨hk.1, hk.2.1⟩)⟩, ⟨by (with_reducible repeat (first | refine blk_drewN ?_ _ | refine blk_drew ?_ | refine blk_alloc ?_ _)); exact BK719.out⟩, ⟨by (with_reducible repeat (first | refine blk_drewN ?_ _ | refine blk_drew ?_ | refine blk_alloc ?_ _)); exact BK728.out⟩, ⟨by (with_reducible repeat (first | refine blk_drewN ?_ _ | refine blk_drew ?_ | refine blk_alloc ?_ _)); exact BK732.out⟩, ⟨by (with_reducible repeat (first | refine blk_drewN ?_ _ | refine blk_drew ?_ | refine blk_alloc ?_ _)); exact BK737.out⟩, ⟨by repeat (first | (with_reducible first | exact HB.out | apply below_alloc | apply pw_below_drewN | apply below_drew1 | refine below_set ?_ GE719.out | refine below_set ?_ GE728.out | refine below_set ?_ GE732.out | refine below_set ?_ GE737.out) | exact HB.out)⟩⟩
              · rw [if_neg c71] at H
                have c71b0 : decide (t743 < 0) = false := decide_eq_false c71
                clear c71
                (first | rw [c71b0] | (simp only [i64_w, i32_w]; rw [c71b0]) | skip)
                replace H := Option.bind_eq_some_iff.mp H
                obtain ⟨t745, A720, H⟩ := H
                replace H : (if t745 = true then (laws_FnExactTasksOfGarden.j1 kj11 a1 t727 (t736 != t727) l0_0 t724 t733) else (laws_FnExactTasksOfGarden.j1 kj11 a1 t727 true l0_0 t724 t733)) = some r := H
                have A72 := Aside0.mk A720
                clear A720
                by_cases c73 : t745 = true
                · subst c73
                  have H1 : (laws_FnExactTasksOfGarden.j1 kj11 a1 t727 (t736 != t727) l0_0 t724 t733) = some r := by rw [if_pos rfl] at H; exact H
                  clear H
                  have H := H1
                  clear H1
                  have H' := Aside0.mk H
                  clear H
                  have hnb74 := NB737_719.out
                  have hnc74 := NB719_737.out
                  have hnb75 := NB737_728.out
                  have hnc75 := NB728_737.out
                  have hnb76 := NB737_732.out
                  have hnc76 := NB732_737.out
                  have hcz77_0 : w70.cell? ⟨gb737, 0, none⟩ = some (.slice Ao33 t733.length co33) := (blk_cell BK737.out 0).trans rfl
                  have hfz77_0 := blk_frozen BK737.out 0
                  have hnb78 := NB728_719.out
                  have hnc78 := NB719_728.out
                  have hnb79 := NB728_732.out
                  have hnc79 := NB732_728.out
                  have hcz80_0 : w70.cell? ⟨gb728, 0, none⟩ = some (.slice Ao21 t724.length co21) := (blk_cell BK728.out 0).trans rfl
                  have hfz80_0 := blk_frozen BK728.out 0
                  go_wp2_with (first | (go_at_call 25; (with_reducible refine (laws_eqTasks.calls kj11 _ _ t733 _ _ t724 true _ ?side1 ?side2 ?side3 ?side4 A72.out).mono ?_); (case side1 => repeat (first | exact (Kd.R_reads' HO_738000.out).2.2 | (with_reducible refine Kd.C_alloc ?_ _) | (with_reducible refine Kd.C_drewN ?_ _) | (with_reducible refine Kd.C_drew ?_))); (case side2 => exact (Kd.R_reads' HO_738000.out).2.1); (case side3 => repeat (first | exact (Kd.R_reads' HO_729000.out).2.2 | (with_reducible refine Kd.C_alloc ?_ _) | (with_reducible refine Kd.C_drewN ?_ _) | (with_reducible refine Kd.C_drew ?_))); (case side4 => exact (Kd.R_reads' HO_729000.out).2.1); rintro e w81 ⟨rfl, hb⟩; have n0_ := Aside0.mk (Kd.R_below (by (with_reducible repeat (first | apply Kd.R_alloc | apply Kd.R_drewN | apply Kd.R_drew)); exact HO_729000.out) hb); have n1_ := Aside0.mk (Kd.R_below (by (with_reducible repeat (first | apply Kd.R_alloc | apply Kd.R_drewN | apply Kd.R_drew)); exact HO_733000.out) hb); have n2_ := Aside0.mk (Kd.R_below (by (with_reducible repeat (first | apply Kd.R_alloc | apply Kd.R_drewN | apply Kd.R_drew)); exact HO_738000.out) hb); have n3_ := Aside0.mk (Kd.R_below (by (with_reducible repeat (first | apply Kd.R_alloc | apply Kd.R_drewN | apply Kd.R_drew)); exact HO741.out) hb); have n4_ := Aside0.mk (blk_below (g := gb719) (o := .cells #[.slice A0_0 l0_0.length c0_0] 24 (0, 0)) (by (with_reducible repeat (first | refine blk_drewN ?_ _ | refine blk_drew ?_ | refine blk_alloc ?_ _)); exact BK719.out) hb); have n5_ := Aside0.mk (blk_below (g := gb728) (o := .cells #[.slice Ao21 t724.length co21] 37 (0, 0)) (by (with_reducible repeat (first | refine blk_drewN ?_ _ | refine blk_drew ?_ | refine blk_alloc ?_ _)); exact BK728.out) hb); have n6_ := Aside0.mk (blk_below (g := gb732) (o := .cells #[.slice Ao27 t729.length co27] 28 (0, 0)) (by (with_reducible repeat (first | refine blk_drewN ?_ _ | refine blk_drew ?_ | refine blk_alloc ?_ _)); exact BK732.out) hb); have n7_ := Aside0.mk (blk_below (g := gb737) (o := .cells #[.slice Ao33 t733.length co33] 37 (0, 0)) (by (with_reducible repeat (first | refine blk_drewN ?_ _ | refine blk_drew ?_ | refine blk_alloc ?_ _)); exact BK737.out) hb); have n8_ := Aside0.mk (below_step (by repeat (first | (with_reducible first | exact HB.out | apply below_alloc | apply pw_below_drewN | apply below_drew1 | refine below_set ?_ GE719.out | refine below_set ?_ GE728.out | refine below_set ?_ GE732.out | refine below_set ?_ GE737.out) | exact HB.out)) hb); clear HO_729000; clear HO_733000; clear HO_738000; clear HO741; clear BK719; clear BK728; clear BK732; clear BK737; clear HB; have HO_729000 := n0_; have HO_733000 := n1_; have HO_738000 := n2_; have HO741 := n3_; have BK719 := n4_; have BK728 := n5_; have BK732 := n6_; have BK737 := n7_; have HB := n8_; clear n0_ n1_ n2_ n3_ n4_ n5_ n6_ n7_ n8_; (try clear hb); (try clear hb2); (try clear hk); (try clear hi)))
                  go_meet
                  case rel => exact ⟨_, ((t736 != t727)), (by first | rfl | (simp; done) | (simp [*]; done)), H', ⟨by have := HJ11.out; first | omega | exact Nat.le_refl _⟩, ⟨by (with_reducible repeat (first | apply Kd.R_alloc | apply Kd.R_drewN | apply Kd.R_drew)); exact Kd.R_mono HO_729000.out (fun _ hk => ⟨hk.1, hk.2.1⟩)⟩, ⟨by (with_reducible repeat (first | apply Kd.R_alloc | apply Kd.R_drewN | apply Kd.R_drew)); exact Kd.R_mono HO_733000.out (fun _ hk => ⟨hk.1.1, hk.1.2⟩)⟩, ⟨by (with_reducible repeat (first | apply Kd.R_alloc | apply Kd.R_drewN | apply Kd.R_drew)); exact Kd.R_mono HO_738000.out (fun _ hk => ⟨hk.1, hk.2.1⟩)⟩, ⟨by (with_reducible repeat (first | refine blk_drewN ?_ _ | refine blk_drew ?_ | refine blk_alloc ?_ _)); exact BK719.out⟩, ⟨by (with_reducible repeat (first | refine blk_drewN ?_ _ | refine blk_drew ?_ | refine blk_alloc ?_ _)); exact BK728.out⟩, ⟨by (with_reducible repeat (first | refine blk_drewN ?_ _ | refine blk_drew ?_ | refine blk_alloc ?_ _)); exact BK732.out⟩, ⟨by (with_reducible repeat (first | refine blk_drewN ?_ _ | refine blk_drew ?_ | refine blk_alloc ?_ _)); exact BK737.out⟩, ⟨by repeat (first | (with_reducible first | exact HB.out | apply below_alloc | apply pw_below_drewN | apply below_drew1 | refine below_set ?_ GE719.out | refine below_set ?_ GE728.out | refine below_set ?_ GE732.out | refine below_set ?_ GE737.out) | exact HB.out)⟩⟩
                · replace c73 := Bool.eq_false_iff.mpr c73
                  subst c73
                  have H1 : (laws_FnExactTasksOfGarden.j1 kj11 a1 t727 true l0_0 t724 t733) = some r := by rw [if_neg (show ¬ (false = true) by decide)] at H; exact H
                  clear H
                  have H := H1
                  clear H1
                  have H' := Aside0.mk H
                  clear H
                  have hnb82 := NB737_719.out
                  have hnc82 := NB719_737.out
                  have hnb83 := NB737_728.out
                  have hnc83 := NB728_737.out
                  have hnb84 := NB737_732.out
                  have hnc84 := NB732_737.out
                  have hcz85_0 : w70.cell? ⟨gb737, 0, none⟩ = some (.slice Ao33 t733.length co33) := (blk_cell BK737.out 0).trans rfl
                  have hfz85_0 := blk_frozen BK737.out 0
                  have hnb86 := NB728_719.out
                  have hnc86 := NB719_728.out
                  have hnb87 := NB728_732.out
                  have hnc87 := NB732_728.out
                  have hcz88_0 : w70.cell? ⟨gb728, 0, none⟩ = some (.slice Ao21 t724.length co21) := (blk_cell BK728.out 0).trans rfl
                  have hfz88_0 := blk_frozen BK728.out 0
                  go_wp2_with (first | (go_at_call 25; (with_reducible refine (laws_eqTasks.calls kj11 _ _ t733 _ _ t724 false _ ?side1 ?side2 ?side3 ?side4 A72.out).mono ?_); (case side1 => repeat (first | exact (Kd.R_reads' HO_738000.out).2.2 | (with_reducible refine Kd.C_alloc ?_ _) | (with_reducible refine Kd.C_drewN ?_ _) | (with_reducible refine Kd.C_drew ?_))); (case side2 => exact (Kd.R_reads' HO_738000.out).2.1); (case side3 => repeat (first | exact (Kd.R_reads' HO_729000.out).2.2 | (with_reducible refine Kd.C_alloc ?_ _) | (with_reducible refine Kd.C_drewN ?_ _) | (with_reducible refine Kd.C_drew ?_))); (case side4 => exact (Kd.R_reads' HO_729000.out).2.1); rintro e w89 ⟨rfl, hb⟩; have n0_ := Aside0.mk (Kd.R_below (by (with_reducible repeat (first | apply Kd.R_alloc | apply Kd.R_drewN | apply Kd.R_drew)); exact HO_729000.out) hb); have n1_ := Aside0.mk (Kd.R_below (by (with_reducible repeat (first | apply Kd.R_alloc | apply Kd.R_drewN | apply Kd.R_drew)); exact HO_733000.out) hb); have n2_ := Aside0.mk (Kd.R_below (by (with_reducible repeat (first | apply Kd.R_alloc | apply Kd.R_drewN | apply Kd.R_drew)); exact HO_738000.out) hb); have n3_ := Aside0.mk (Kd.R_below (by (with_reducible repeat (first | apply Kd.R_alloc | apply Kd.R_drewN | apply Kd.R_drew)); exact HO741.out) hb); have n4_ := Aside0.mk (blk_below (g := gb719) (o := .cells #[.slice A0_0 l0_0.length c0_0] 24 (0, 0)) (by (with_reducible repeat (first | refine blk_drewN ?_ _ | refine blk_drew ?_ | refine blk_alloc ?_ _)); exact BK719.out) hb); have n5_ := Aside0.mk (blk_below (g := gb728) (o := .cells #[.slice Ao21 t724.length co21] 37 (0, 0)) (by (with_reducible repeat (first | refine blk_drewN ?_ _ | refine blk_drew ?_ | refine blk_alloc ?_ _)); exact BK728.out) hb); have n6_ := Aside0.mk (blk_below (g := gb732) (o := .cells #[.slice Ao27 t729.length co27] 28 (0, 0)) (by (with_reducible repeat (first | refine blk_drewN ?_ _ | refine blk_drew ?_ | refine blk_alloc ?_ _)); exact BK732.out) hb); have n7_ := Aside0.mk (blk_below (g := gb737) (o := .cells #[.slice Ao33 t733.length co33] 37 (0, 0)) (by (with_reducible repeat (first | refine blk_drewN ?_ _ | refine blk_drew ?_ | refine blk_alloc ?_ _)); exact BK737.out) hb); have n8_ := Aside0.mk (below_step (by repeat (first | (with_reducible first | exact HB.out | apply below_alloc | apply pw_below_drewN | apply below_drew1 | refine below_set ?_ GE719.out | refine below_set ?_ GE728.out | refine below_set ?_ GE732.out | refine below_set ?_ GE737.out) | exact HB.out)) hb); clear HO_729000; clear HO_733000; clear HO_738000; clear HO741; clear BK719; clear BK728; clear BK732; clear BK737; clear HB; have HO_729000 := n0_; have HO_733000 := n1_; have HO_738000 := n2_; have HO741 := n3_; have BK719 := n4_; have BK728 := n5_; have BK732 := n6_; have BK737 := n7_; have HB := n8_; clear n0_ n1_ n2_ n3_ n4_ n5_ n6_ n7_ n8_; (try clear hb); (try clear hb2); (try clear hk); (try clear hi)))
                  go_meet
                  case rel => exact ⟨_, (true), (by first | rfl | (simp; done) | (simp [*]; done)), H', ⟨by have := HJ11.out; first | omega | exact Nat.le_refl _⟩, ⟨by (with_reducible repeat (first | apply Kd.R_alloc | apply Kd.R_drewN | apply Kd.R_drew)); exact Kd.R_mono HO_729000.out (fun _ hk => ⟨hk.1, hk.2.1⟩)⟩, ⟨by (with_reducible repeat (first | apply Kd.R_alloc | apply Kd.R_drewN | apply Kd.R_drew)); exact Kd.R_mono HO_733000.out (fun _ hk => ⟨hk.1.1, hk.1.2⟩)⟩, ⟨by (with_reducible repeat (first | apply Kd.R_alloc | apply Kd.R_drewN | apply Kd.R_drew)); exact Kd.R_mono HO_738000.out (fun _ hk => ⟨hk.1, hk.2.1⟩)⟩, ⟨by (with_reducible repeat (first | refine blk_drewN ?_ _ | refine blk_drew ?_ | refine blk_alloc ?_ _)); exact BK719.out⟩, ⟨by (with_reducible repeat (first | refine blk_drewN ?_ _ | refine blk_drew ?_ | refine blk_alloc ?_ _)); exact BK728.out⟩, ⟨by (with_reducible repeat (first | refine blk_drewN ?_ _ | refine blk_drew ?_ | refine blk_alloc ?_ _)); exact BK732.out⟩, ⟨by (with_reducible repeat (first | refine blk_drewN ?_ _ | refine blk_drew ?_ | refine blk_alloc ?_ _)); exact BK737.out⟩, ⟨by repeat (first | (with_reducible first | exact HB.out | apply below_alloc | apply pw_below_drewN | apply below_drew1 | refine below_set ?_ GE719.out | refine below_set ?_ GE728.out | refine below_set ?_ GE732.out | refine below_set ?_ GE737.out) | exact HB.out)⟩⟩
            case rest =>
              clear HC61
              try clear c1
              try clear c2
              try clear p2
              try clear c3
              try clear c4
              try clear c4b0
              try clear c5
              try clear c6
              try clear c7
              try clear c8
              try clear c13
              try clear c16
              try clear c18
              try clear c20
              try clear c22
              try clear c25
              try clear c28
              try clear c29
              try clear c34
              try clear c35
              try clear c36
              try clear c39
              try clear c40
              try clear c41
              try clear c42
              try clear c44
              try clear c45
              try clear c48
              try clear c49
              try clear c50
              try clear c52
              try clear c53
              try clear c56
              try clear c59
              try clear c66
              try clear c67
              try clear c68
              try clear c71
              try clear c71b0
              try clear c73
              try clear c74
              try clear c75
              try clear c76
              try clear c78
              try clear c79
              try clear c82
              try clear c83
              try clear c84
              try clear c86
              try clear c87
              try clear hcz14_0
              try clear hcz16_0
              try clear hcz23_0
              try clear hcz24_0
              try clear hcz30_0
              try clear hcz37_0
              try clear hcz43_0
              try clear hcz46_0
              try clear hcz51_0
              try clear hcz54_0
              try clear hcz69_0
              try clear hcz6_0
              try clear hcz77_0
              try clear hcz80_0
              try clear hcz85_0
              try clear hcz88_0
              try clear hfz14_0
              try clear hfz16_0
              try clear hfz23_0
              try clear hfz24_0
              try clear hfz30_0
              try clear hfz37_0
              try clear hfz43_0
              try clear hfz46_0
              try clear hfz51_0
              try clear hfz54_0
              try clear hfz69_0
              try clear hfz6_0
              try clear hfz77_0
              try clear hfz80_0
              try clear hfz85_0
              try clear hfz88_0
              try clear p2
              obtain ⟨kq, x65_60, rfl, HA, HJ60, HO_729000, HO_733000, HO_738000, BK719, BK728, BK732, BK737, HB⟩ := hcut
              have hl733000_60 := (Kd.R_reads' HO_733000.out).1
              rw [hl733000_60] at HO_733000
              (try simp only [hl733000_60])
              (try simp only [hl733000_60] at BK719)
              (try simp only [hl733000_60] at BK728)
              (try simp only [hl733000_60] at BK732)
              (try simp only [hl733000_60] at BK737)
              (try simp only [hl733000_60] at HO_729000)
              (try simp only [hl733000_60] at HO_738000)
              cases kq with
              | zero => exact absurd HA.out (by simp [laws_FnExactTasksOfGarden.j1])
              | succ kj60 =>
                have H := HA.out
                clear HA
                simp only [laws_FnExactTasksOfGarden.j1] at H
                by_cases c90 : x65_60 = true
                · subst c90
                  have H1 : (some false) = some r := by rw [if_pos rfl] at H; exact H
                  clear H
                  have H := H1
                  clear H1
                  obtain rfl := Option.some.inj H
                  go_wp2
                  go_ret
                  exact ⟨by first | rfl | (simp [errW_none, errW_some] <;> rfl) | (simp [*, errW_none, errW_some] <;> rfl), by repeat (first | (with_reducible first | exact HB.out | apply below_alloc | apply pw_below_drewN | apply below_drew1 | refine below_set ?_ GE719.out | refine below_set ?_ GE728.out | refine below_set ?_ GE732.out | refine below_set ?_ GE737.out) | exact HB.out)⟩
                · replace c90 := Bool.eq_false_iff.mpr c90
                  subst c90
                  have H1 : ((laws_markTasks.f kj60 t733 1).bind fun bt746 => ((laws_heldTasks.f kj60 bt746.2 1).bind fun t748 => (if t748 < 0 then (some false) else (if t748 = bt746.1 then ((laws_toGarden.f kj60 l0_0).bind fun t749 => ((impl_TasksOfGarden.f kj60 t749 a1).bind fun bt752 => ((laws_eqTasks.f kj60 bt752.1 t724).bind fun t757 => (if t757 = true then (laws_FnExactTasksOfGarden.j2 kj60 bt746.1 (bt752.2 != t727) bt746.2) else (laws_FnExactTasksOfGarden.j2 kj60 bt746.1 true bt746.2))))) else (some false))))) = some r := by rw [if_neg (show ¬ (false = true) by decide)] at H; exact H
                  clear H
                  have H := H1
                  clear H1
                  replace H := Option.bind_eq_some_iff.mp H
                  obtain ⟨⟨t746, t747⟩, A910, H⟩ := H
                  replace H : ((laws_heldTasks.f kj60 t747 1).bind fun t748 => (if t748 < 0 then (some false) else (if t748 = t746 then ((laws_toGarden.f kj60 l0_0).bind fun t749 => ((impl_TasksOfGarden.f kj60 t749 a1).bind fun bt752 => ((laws_eqTasks.f kj60 bt752.1 t724).bind fun t757 => (if t757 = true then (laws_FnExactTasksOfGarden.j2 kj60 t746 (bt752.2 != t727) t747) else (laws_FnExactTasksOfGarden.j2 kj60 t746 true t747))))) else (some false)))) = some r := H
                  have A91 := Aside0.mk A910
                  clear A910
                  replace H := Option.bind_eq_some_iff.mp H
                  obtain ⟨t748, A920, H⟩ := H
                  replace H : (if t748 < 0 then (some false) else (if t748 = t746 then ((laws_toGarden.f kj60 l0_0).bind fun t749 => ((impl_TasksOfGarden.f kj60 t749 a1).bind fun bt752 => ((laws_eqTasks.f kj60 bt752.1 t724).bind fun t757 => (if t757 = true then (laws_FnExactTasksOfGarden.j2 kj60 t746 (bt752.2 != t727) t747) else (laws_FnExactTasksOfGarden.j2 kj60 t746 true t747))))) else (some false))) = some r := H
                  have A92 := Aside0.mk A920
                  clear A920
                  by_cases c93 : t748 < 0
                  · rw [if_pos c93] at H
                    have c93b0 : decide (t748 < 0) = true := decide_eq_true c93
                    (try (have c93h_hl733000_60 := c93b0; rw [hl733000_60] at c93h_hl733000_60))
                    clear c93
                    obtain rfl := Option.some.inj H
                    have hnb94 := NB737_719.out
                    have hnc94 := NB719_737.out
                    have hnb95 := NB737_728.out
                    have hnc95 := NB728_737.out
                    have hnb96 := NB737_732.out
                    have hnc96 := NB732_737.out
                    have hcz97_0 : wc.cell? ⟨gb737, 0, none⟩ = some (.slice Ao33 t733.length co33) := (blk_cell BK737.out 0).trans rfl
                    have hfz97_0 := blk_frozen BK737.out 0
                    go_wp2_with (first | ((with_reducible refine gate_callee (f := 41) rfl ?_); refine goesL_ (some 68) rfl rfl Try.func41 (by kernel_rfl) rfl #[.agg #[.slice Ao33 t733.length co33], .int .i64 1] rfl (by (try simp only [List.map_toArray, List.map_cons, List.map_nil]); first | done | rfl | (simp only [List.length_drop, List.length_take]; rfl)) ?_; (with_reducible refine (laws_markTasks.calls kj60 (fun k_ => some k_ = (.slice Ao33 t733.length co33 : Value).ownBlock) (.slice Ao33 t733.length co33) t733 1 t746 t747 w _ ?side1 ?side2 A91.out).mono ?_); (case side1 => repeat (first | (with_reducible first | exact HB.out | apply below_alloc | apply pw_below_drewN | apply below_drew1 | refine below_set ?_ GE719.out | refine below_set ?_ GE728.out | refine below_set ?_ GE732.out | refine below_set ?_ GE737.out) | exact HB.out)); (case side2 => exact Kd.R_tight rfl HO_738000.out); rintro e w98 ⟨rfl, hy0, hb, hkp⟩; refine ⟨_, rfl, ?_⟩; have n0_ := Aside0.mk (Kd.R_mono (ok' := fun k_ => some k_ ≠ (.slice Ao27 t744.length co27 : Value).ownBlock ∧ some k_ ≠ (.slice Ao33 t733.length co33 : Value).ownBlock) (Kd.R_keptB (HO_729000.out) hkp (fun k_ hk_ hs_ => (hk_.2) hs_)) (fun k_ hk_ => ⟨hk_.1.1, hk_.1.2⟩)); have n1_ := Aside0.mk (Kd.R_mono (ok' := fun k_ => some k_ ≠ (.slice Ao21 t724.length co21 : Value).ownBlock ∧ some k_ ≠ (.slice Ao33 t733.length co33 : Value).ownBlock) (Kd.R_keptB (HO_733000.out) hkp (fun k_ hk_ hs_ => (hk_.2) hs_)) (fun k_ hk_ => ⟨hk_.1.1, hk_.1.2⟩)); have n2_ := Aside0.mk (Kd.R_reok rfl hy0 (fun k_ e_ => HO_738000.out.1 k_ e_)); have n3_ := Aside0.mk (blk_kept (by (with_reducible repeat (first | refine blk_drewN ?_ _ | refine blk_drew ?_ | refine blk_alloc ?_ _)); exact BK719.out) hkp (fun hs_ => (fun e_ => (Kd.R_ne HO_738000.out BK719.out (by decide)) e_) hs_)); have n4_ := Aside0.mk (blk_kept (by (with_reducible repeat (first | refine blk_drewN ?_ _ | refine blk_drew ?_ | refine blk_alloc ?_ _)); exact BK728.out) hkp (fun hs_ => (fun e_ => (Kd.R_ne HO_738000.out BK728.out (by decide)) e_) hs_)); have n5_ := Aside0.mk (blk_kept (by (with_reducible repeat (first | refine blk_drewN ?_ _ | refine blk_drew ?_ | refine blk_alloc ?_ _)); exact BK732.out) hkp (fun hs_ => (fun e_ => (Kd.R_ne HO_738000.out BK732.out (by decide)) e_) hs_)); have n6_ := Aside0.mk (blk_kept (by (with_reducible repeat (first | refine blk_drewN ?_ _ | refine blk_drew ?_ | refine blk_alloc ?_ _)); exact BK737.out) hkp (fun hs_ => (fun e_ => (Kd.R_ne HO_738000.out BK737.out (by decide)) e_) hs_)); have n7_ := Aside0.mk (hb); clear HO_729000; clear HO_733000; clear HO_738000; clear BK719; clear BK728; clear BK732; clear BK737; clear HB; have HO_729000 := n0_; have HO_733000 := n1_; have HO_738000 := n2_; have BK719 := n3_; have BK728 := n4_; have BK732 := n5_; have BK737 := n6_; have HB := n7_; clear n0_ n1_ n2_ n3_ n4_ n5_ n6_ n7_; (try clear hb); (try clear hkp); (try clear hy0); have hcz99_0 : w98.cell? ⟨gb737, 0, none⟩ = some (.slice Ao33 t733.length co33) := (blk_cell BK737.out 0).trans rfl; have hfz99_0 := blk_frozen BK737.out 0) | ((with_reducible refine gate_callee (f := 47) rfl ?_); refine goesL_ (some 71) rfl rfl Try.func47 (by kernel_rfl) rfl #[.agg #[.slice Ao33 t747.length co33], .int .i64 1] rfl (by (try simp only [List.map_toArray, List.map_cons, List.map_nil]); first | done | (rw [show t747.length = t733.length from (Kd.R_reads' HO_738000.out).1.symm] <;> rfl) | rfl | (simp only [List.length_drop, List.length_take]; rfl)) ?_; (with_reducible refine (laws_heldTasks.calls kj60 _ _ t747 1 t748 _ ?side1 ?side2 A92.out).mono ?_); (case side1 => repeat (first | exact (Kd.R_reads' HO_738000.out).2.2 | (with_reducible refine Kd.C_alloc ?_ _) | (with_reducible refine Kd.C_drewN ?_ _) | (with_reducible refine Kd.C_drew ?_))); (case side2 => rw [show t747.length = t733.length from (Kd.R_reads' HO_738000.out).1.symm]; exact (Kd.R_reads' HO_738000.out).2.1); rintro e w100 ⟨rfl, hb⟩; refine ⟨_, rfl, ?_⟩; have n0_ := Aside0.mk (Kd.R_below (by (with_reducible repeat (first | apply Kd.R_alloc | apply Kd.R_drewN | apply Kd.R_drew)); exact HO_729000.out) hb); have n1_ := Aside0.mk (Kd.R_below (by (with_reducible repeat (first | apply Kd.R_alloc | apply Kd.R_drewN | apply Kd.R_drew)); exact HO_733000.out) hb); have n2_ := Aside0.mk (Kd.R_below (by (with_reducible repeat (first | apply Kd.R_alloc | apply Kd.R_drewN | apply Kd.R_drew)); exact HO_738000.out) hb); have n3_ := Aside0.mk (blk_below (g := gb719) (o := .cells #[.slice A0_0 l0_0.length c0_0] 24 (0, 0)) (by (with_reducible repeat (first | refine blk_drewN ?_ _ | refine blk_drew ?_ | refine blk_alloc ?_ _)); exact BK719.out) hb); have n4_ := Aside0.mk (blk_below (g := gb728) (o := .cells #[.slice Ao21 t724.length co21] 37 (0, 0)) (by (with_reducible repeat (first | refine blk_drewN ?_ _ | refine blk_drew ?_ | refine blk_alloc ?_ _)); exact BK728.out) hb); have n5_ := Aside0.mk (blk_below (g := gb732) (o := .cells #[.slice Ao27 t744.length co27] 28 (0, 0)) (by (with_reducible repeat (first | refine blk_drewN ?_ _ | refine blk_drew ?_ | refine blk_alloc ?_ _)); exact BK732.out) hb); have n6_ := Aside0.mk (blk_below (g := gb737) (o := .cells #[.slice Ao33 t733.length co33] 37 (0, 0)) (by (with_reducible repeat (first | refine blk_drewN ?_ _ | refine blk_drew ?_ | refine blk_alloc ?_ _)); exact BK737.out) hb); have n7_ := Aside0.mk (below_step (by repeat (first | (with_reducible first | exact HB.out | apply below_alloc | apply pw_below_drewN | apply below_drew1 | refine below_set ?_ GE719.out | refine below_set ?_ GE728.out | refine below_set ?_ GE732.out | refine below_set ?_ GE737.out) | exact HB.out)) hb); clear HO_729000; clear HO_733000; clear HO_738000; clear BK719; clear BK728; clear BK732; clear BK737; clear HB; have HO_729000 := n0_; have HO_733000 := n1_; have HO_738000 := n2_; have BK719 := n3_; have BK728 := n4_; have BK732 := n5_; have BK737 := n6_; have HB := n7_; clear n0_ n1_ n2_ n3_ n4_ n5_ n6_ n7_; (try clear hb); (try clear hb2); (try clear hk); (try clear hi)))
                    go_ret
                    exact ⟨by first | rfl | (simp [errW_none, errW_some] <;> rfl) | (simp [*, errW_none, errW_some] <;> rfl), by repeat (first | (with_reducible first | exact HB.out | apply below_alloc | apply pw_below_drewN | apply below_drew1 | refine below_set ?_ GE719.out | refine below_set ?_ GE728.out | refine below_set ?_ GE732.out | refine below_set ?_ GE737.out) | exact HB.out)⟩
                  · rw [if_neg c93] at H
                    have c93b0 : decide (t748 < 0) = false := decide_eq_false c93
                    (try (have c93h_hl733000_60 := c93b0; rw [hl733000_60] at c93h_hl733000_60))
                    clear c93
                    by_cases c101 : t748 = t746
                    · rw [if_pos c101] at H
                      have c101b0 : (t748 == t746) = true := beq_iff_eq.mpr c101
                      have c101b1 : (t748 != t746) = false := bne_eq_false_iff_eq.mpr c101
                      (try (have c101h_hl733000_60 := c101b0; rw [hl733000_60] at c101h_hl733000_60))
                      clear c101
                      replace H := Option.bind_eq_some_iff.mp H
                      obtain ⟨t749, A1020, H⟩ := H
                      replace H : ((impl_TasksOfGarden.f kj60 t749 a1).bind fun bt752 => ((laws_eqTasks.f kj60 bt752.1 t724).bind fun t757 => (if t757 = true then (laws_FnExactTasksOfGarden.j2 kj60 t746 (bt752.2 != t727) t747) else (laws_FnExactTasksOfGarden.j2 kj60 t746 true t747)))) = some r := H
                      have A102 := Aside0.mk A1020
                      clear A1020
                      replace H := Option.bind_eq_some_iff.mp H
                      obtain ⟨⟨t752, t755⟩, A1030, H⟩ := H
                      replace H : ((laws_eqTasks.f kj60 t752 t724).bind fun t757 => (if t757 = true then (laws_FnExactTasksOfGarden.j2 kj60 t746 (t755 != t727) t747) else (laws_FnExactTasksOfGarden.j2 kj60 t746 true t747))) = some r := H
                      have A103 := Aside0.mk A1030
                      clear A1030
                      have HC104 := Aside0.mk H
                      clear H
                      have hnb105 := NB737_719.out
                      have hnc105 := NB719_737.out
                      have hnb106 := NB737_728.out
                      have hnc106 := NB728_737.out
                      have hnb107 := NB737_732.out
                      have hnc107 := NB732_737.out
                      have hcz108_0 : wc.cell? ⟨gb737, 0, none⟩ = some (.slice Ao33 t733.length co33) := (blk_cell BK737.out 0).trans rfl
                      have hfz108_0 := blk_frozen BK737.out 0
                      go_upto_region 25 with (first | ((with_reducible refine gate_callee (f := 41) rfl ?_); refine goesL_ (some 68) rfl rfl Try.func41 (by kernel_rfl) rfl #[.agg #[.slice Ao33 t733.length co33], .int .i64 1] rfl (by (try simp only [List.map_toArray, List.map_cons, List.map_nil]); first | done | rfl | (simp only [List.length_drop, List.length_take]; rfl)) ?_; (with_reducible refine (laws_markTasks.calls kj60 (fun k_ => some k_ = (.slice Ao33 t733.length co33 : Value).ownBlock) (.slice Ao33 t733.length co33) t733 1 t746 t747 w _ ?side1 ?side2 A91.out).mono ?_); (case side1 => repeat (first | (with_reducible first | exact HB.out | apply below_alloc | apply pw_below_drewN | apply below_drew1 | refine below_set ?_ GE719.out | refine below_set ?_ GE728.out | refine below_set ?_ GE732.out | refine below_set ?_ GE737.out) | exact HB.out)); (case side2 => exact Kd.R_tight rfl HO_738000.out); rintro e w109 ⟨rfl, hy0, hb, hkp⟩; refine ⟨_, rfl, ?_⟩; have n0_ := Aside0.mk (Kd.R_mono (ok' := fun k_ => some k_ ≠ (.slice Ao27 t744.length co27 : Value).ownBlock ∧ some k_ ≠ (.slice Ao33 t733.length co33 : Value).ownBlock) (Kd.R_keptB (HO_729000.out) hkp (fun k_ hk_ hs_ => (hk_.2) hs_)) (fun k_ hk_ => ⟨hk_.1.1, hk_.1.2⟩)); have n1_ := Aside0.mk (Kd.R_mono (ok' := fun k_ => some k_ ≠ (.slice Ao21 t724.length co21 : Value).ownBlock ∧ some k_ ≠ (.slice Ao33 t733.length co33 : Value).ownBlock) (Kd.R_keptB (HO_733000.out) hkp (fun k_ hk_ hs_ => (hk_.2) hs_)) (fun k_ hk_ => ⟨hk_.1.1, hk_.1.2⟩)); have n2_ := Aside0.mk (Kd.R_reok rfl hy0 (fun k_ e_ => HO_738000.out.1 k_ e_)); have n3_ := Aside0.mk (blk_kept (by (with_reducible repeat (first | refine blk_drewN ?_ _ | refine blk_drew ?_ | refine blk_alloc ?_ _)); exact BK719.out) hkp (fun hs_ => (fun e_ => (Kd.R_ne HO_738000.out BK719.out (by decide)) e_) hs_)); have n4_ := Aside0.mk (blk_kept (by (with_reducible repeat (first | refine blk_drewN ?_ _ | refine blk_drew ?_ | refine blk_alloc ?_ _)); exact BK728.out) hkp (fun hs_ => (fun e_ => (Kd.R_ne HO_738000.out BK728.out (by decide)) e_) hs_)); have n5_ := Aside0.mk (blk_kept (by (with_reducible repeat (first | refine blk_drewN ?_ _ | refine blk_drew ?_ | refine blk_alloc ?_ _)); exact BK732.out) hkp (fun hs_ => (fun e_ => (Kd.R_ne HO_738000.out BK732.out (by decide)) e_) hs_)); have n6_ := Aside0.mk (blk_kept (by (with_reducible repeat (first | refine blk_drewN ?_ _ | refine blk_drew ?_ | refine blk_alloc ?_ _)); exact BK737.out) hkp (fun hs_ => (fun e_ => (Kd.R_ne HO_738000.out BK737.out (by decide)) e_) hs_)); have n7_ := Aside0.mk (hb); clear HO_729000; clear HO_733000; clear HO_738000; clear BK719; clear BK728; clear BK732; clear BK737; clear HB; have HO_729000 := n0_; have HO_733000 := n1_; have HO_738000 := n2_; have BK719 := n3_; have BK728 := n4_; have BK732 := n5_; have BK737 := n6_; have HB := n7_; clear n0_ n1_ n2_ n3_ n4_ n5_ n6_ n7_; (try clear hb); (try clear hkp); (try clear hy0); have hcz110_0 : w109.cell? ⟨gb737, 0, none⟩ = some (.slice Ao33 t733.length co33) := (blk_cell BK737.out 0).trans rfl; have hfz110_0 := blk_frozen BK737.out 0) | ((with_reducible refine gate_callee (f := 47) rfl ?_); refine goesL_ (some 71) rfl rfl Try.func47 (by kernel_rfl) rfl #[.agg #[.slice Ao33 t747.length co33], .int .i64 1] rfl (by (try simp only [List.map_toArray, List.map_cons, List.map_nil]); first | done | (rw [show t747.length = t733.length from (Kd.R_reads' HO_738000.out).1.symm] <;> rfl) | rfl | (simp only [List.length_drop, List.length_take]; rfl)) ?_; (with_reducible refine (laws_heldTasks.calls kj60 _ _ t747 1 t748 _ ?side1 ?side2 A92.out).mono ?_); (case side1 => repeat (first | exact (Kd.R_reads' HO_738000.out).2.2 | (with_reducible refine Kd.C_alloc ?_ _) | (with_reducible refine Kd.C_drewN ?_ _) | (with_reducible refine Kd.C_drew ?_))); (case side2 => rw [show t747.length = t733.length from (Kd.R_reads' HO_738000.out).1.symm]; exact (Kd.R_reads' HO_738000.out).2.1); rintro e w111 ⟨rfl, hb⟩; refine ⟨_, rfl, ?_⟩; have n0_ := Aside0.mk (Kd.R_below (by (with_reducible repeat (first | apply Kd.R_alloc | apply Kd.R_drewN | apply Kd.R_drew)); exact HO_729000.out) hb); have n1_ := Aside0.mk (Kd.R_below (by (with_reducible repeat (first | apply Kd.R_alloc | apply Kd.R_drewN | apply Kd.R_drew)); exact HO_733000.out) hb); have n2_ := Aside0.mk (Kd.R_below (by (with_reducible repeat (first | apply Kd.R_alloc | apply Kd.R_drewN | apply Kd.R_drew)); exact HO_738000.out) hb); have n3_ := Aside0.mk (blk_below (g := gb719) (o := .cells #[.slice A0_0 l0_0.length c0_0] 24 (0, 0)) (by (with_reducible repeat (first | refine blk_drewN ?_ _ | refine blk_drew ?_ | refine blk_alloc ?_ _)); exact BK719.out) hb); have n4_ := Aside0.mk (blk_below (g := gb728) (o := .cells #[.slice Ao21 t724.length co21] 37 (0, 0)) (by (with_reducible repeat (first | refine blk_drewN ?_ _ | refine blk_drew ?_ | refine blk_alloc ?_ _)); exact BK728.out) hb); have n5_ := Aside0.mk (blk_below (g := gb732) (o := .cells #[.slice Ao27 t744.length co27] 28 (0, 0)) (by (with_reducible repeat (first | refine blk_drewN ?_ _ | refine blk_drew ?_ | refine blk_alloc ?_ _)); exact BK732.out) hb); have n6_ := Aside0.mk (blk_below (g := gb737) (o := .cells #[.slice Ao33 t733.length co33] 37 (0, 0)) (by (with_reducible repeat (first | refine blk_drewN ?_ _ | refine blk_drew ?_ | refine blk_alloc ?_ _)); exact BK737.out) hb); have n7_ := Aside0.mk (below_step (by repeat (first | (with_reducible first | exact HB.out | apply below_alloc | apply pw_below_drewN | apply below_drew1 | refine below_set ?_ GE719.out | refine below_set ?_ GE728.out | refine below_set ?_ GE732.out | refine below_set ?_ GE737.out) | exact HB.out)) hb); clear HO_729000; clear HO_733000; clear HO_738000; clear BK719; clear BK728; clear BK732; clear BK737; clear HB; have HO_729000 := n0_; have HO_733000 := n1_; have HO_738000 := n2_; have BK719 := n3_; have BK728 := n4_; have BK732 := n5_; have BK737 := n6_; have HB := n7_; clear n0_ n1_ n2_ n3_ n4_ n5_ n6_ n7_; (try clear hb); (try clear hb2); (try clear hk); (try clear hi); have hnb112 := NB719_728.out; have hnc112 := NB728_719.out; have hnb113 := NB719_732.out; have hnc113 := NB732_719.out; have hcz114_0 : w111.cell? ⟨gb719, 0, none⟩ = some (.slice A0_0 l0_0.length c0_0) := (blk_cell BK719.out 0).trans rfl; have hfz114_0 := blk_frozen BK719.out 0) | ((with_reducible refine gate_callee (f := 18) rfl ?_); refine goesL_ (some 79) rfl rfl Try.func18 (by kernel_rfl) rfl #[.agg #[.slice A0_0 l0_0.length c0_0]] rfl (by (try simp only [List.map_toArray, List.map_cons, List.map_nil]); first | done | rfl | (simp only [List.length_drop, List.length_take]; rfl)) ?_; (with_reducible refine (laws_toGarden.calls kj60 _ _ l0_0 t749 _ ?side1 ?side2 A102.out).mono ?_); (case side1 => repeat (first | exact (Kd.C_below HR0_0.out HB.out) | (with_reducible refine Kd.C_alloc ?_ _) | (with_reducible refine Kd.C_drewN ?_ _) | (with_reducible refine Kd.C_drew ?_))); (case side2 => exact HC0_0.out); rintro e w115 ⟨v750, rfl, ho0, hb⟩; refine ⟨_, rfl, ?_⟩; have n0_ := Aside0.mk (Kd.R_elder' (by (with_reducible repeat (first | apply Kd.R_alloc | apply Kd.R_drewN | apply Kd.R_drew)); exact HO_729000.out) (Kd.R_base ho0) hb); have n1_ := Aside0.mk (Kd.R_elder' (by (with_reducible repeat (first | apply Kd.R_alloc | apply Kd.R_drewN | apply Kd.R_drew)); exact HO_733000.out) (Kd.R_base ho0) hb); have n2_ := Aside0.mk (Kd.R_elder' (by (with_reducible repeat (first | apply Kd.R_alloc | apply Kd.R_drewN | apply Kd.R_drew)); exact HO_738000.out) (Kd.R_base ho0) hb); have n3_ := Aside0.mk (Kd.R_lower (Kd.R_new' (Kd.R_new' (Kd.R_new' ho0 (Kd.R_lt (by (with_reducible repeat (first | apply Kd.R_alloc | apply Kd.R_drewN | apply Kd.R_drew)); exact HO_729000.out))) (Kd.R_lt (by (with_reducible repeat (first | apply Kd.R_alloc | apply Kd.R_drewN | apply Kd.R_drew)); exact HO_733000.out))) (Kd.R_lt (by (with_reducible repeat (first | apply Kd.R_alloc | apply Kd.R_drewN | apply Kd.R_drew)); exact HO_738000.out))) (below_size (by repeat (first | (with_reducible first | exact HB.out | apply below_alloc | apply pw_below_drewN | apply below_drew1 | refine below_set ?_ GE719.out | refine below_set ?_ GE728.out | refine below_set ?_ GE732.out | refine below_set ?_ GE737.out) | exact HB.out)))); have n4_ := Aside0.mk (blk_below (g := gb719) (o := .cells #[.slice A0_0 l0_0.length c0_0] 24 (0, 0)) (by (with_reducible repeat (first | refine blk_drewN ?_ _ | refine blk_drew ?_ | refine blk_alloc ?_ _)); exact BK719.out) hb); have n5_ := Aside0.mk (blk_below (g := gb728) (o := .cells #[.slice Ao21 t724.length co21] 37 (0, 0)) (by (with_reducible repeat (first | refine blk_drewN ?_ _ | refine blk_drew ?_ | refine blk_alloc ?_ _)); exact BK728.out) hb); have n6_ := Aside0.mk (blk_below (g := gb732) (o := .cells #[.slice Ao27 t744.length co27] 28 (0, 0)) (by (with_reducible repeat (first | refine blk_drewN ?_ _ | refine blk_drew ?_ | refine blk_alloc ?_ _)); exact BK732.out) hb); have n7_ := Aside0.mk (blk_below (g := gb737) (o := .cells #[.slice Ao33 t733.length co33] 37 (0, 0)) (by (with_reducible repeat (first | refine blk_drewN ?_ _ | refine blk_drew ?_ | refine blk_alloc ?_ _)); exact BK737.out) hb); have n8_ := Aside0.mk (below_step (by repeat (first | (with_reducible first | exact HB.out | apply below_alloc | apply pw_below_drewN | apply below_drew1 | refine below_set ?_ GE719.out | refine below_set ?_ GE728.out | refine below_set ?_ GE732.out | refine below_set ?_ GE737.out) | exact HB.out)) hb); clear HO_729000; clear HO_733000; clear HO_738000; clear BK719; clear BK728; clear BK732; clear BK737; clear HB; have HO_729000 := n0_; have HO_733000 := n1_; have HO_738000 := n2_; have HO751 := n3_; have BK719 := n4_; have BK728 := n5_; have BK732 := n6_; have BK737 := n7_; have HB := n8_; clear n0_ n1_ n2_ n3_ n4_ n5_ n6_ n7_ n8_; (try clear hb); (try clear hb2); (try clear hk); (try clear hi); (try clear ho0); obtain ⟨Ao116, co116, eo116⟩ := Kd.R_slice HO751.out; subst eo116) | ((with_reducible refine gate_callee (f := 53) rfl ?_); refine goesL_ (some 81) rfl rfl Try.func53 (by kernel_rfl) rfl #[.agg #[.slice Ao116 t749.length co116], .int .i64 a1] rfl (by (try simp only [List.map_toArray, List.map_cons, List.map_nil]); first | done | rfl | (simp only [List.length_drop, List.length_take]; rfl)) ?_; (with_reducible refine (impl_TasksOfGarden.calls kj60 _ _ t749 a1 t752 t755 _ ?side1 ?side2 A103.out).mono ?_); (case side1 => repeat (first | exact (Kd.R_reads' HO751.out).2.2 | (with_reducible refine Kd.C_alloc ?_ _) | (with_reducible refine Kd.C_drewN ?_ _) | (with_reducible refine Kd.C_drew ?_))); (case side2 => exact (Kd.R_reads' HO751.out).2.1); rintro e w117 ⟨v753, rfl, ho0, hb⟩; refine ⟨_, rfl, ?_⟩; have n0_ := Aside0.mk (Kd.R_elder' (by (with_reducible repeat (first | apply Kd.R_alloc | apply Kd.R_drewN | apply Kd.R_drew)); exact HO_729000.out) (Kd.R_base ho0) hb); have n1_ := Aside0.mk (Kd.R_elder' (by (with_reducible repeat (first | apply Kd.R_alloc | apply Kd.R_drewN | apply Kd.R_drew)); exact HO_733000.out) (Kd.R_base ho0) hb); have n2_ := Aside0.mk (Kd.R_elder' (by (with_reducible repeat (first | apply Kd.R_alloc | apply Kd.R_drewN | apply Kd.R_drew)); exact HO_738000.out) (Kd.R_base ho0) hb); have n3_ := Aside0.mk (Kd.R_elder' (by (with_reducible repeat (first | apply Kd.R_alloc | apply Kd.R_drewN | apply Kd.R_drew)); exact HO751.out) (Kd.R_base ho0) hb); have n4_ := Aside0.mk (Kd.R_lower (Kd.R_new' (Kd.R_new' (Kd.R_new' (Kd.R_new' ho0 (Kd.R_lt (by (with_reducible repeat (first | apply Kd.R_alloc | apply Kd.R_drewN | apply Kd.R_drew)); exact HO_729000.out))) (Kd.R_lt (by (with_reducible repeat (first | apply Kd.R_alloc | apply Kd.R_drewN | apply Kd.R_drew)); exact HO_733000.out))) (Kd.R_lt (by (with_reducible repeat (first | apply Kd.R_alloc | apply Kd.R_drewN | apply Kd.R_drew)); exact HO_738000.out))) (Kd.R_lt (by (with_reducible repeat (first | apply Kd.R_alloc | apply Kd.R_drewN | apply Kd.R_drew)); exact HO751.out))) (below_size (by repeat (first | (with_reducible first | exact HB.out | apply below_alloc | apply pw_below_drewN | apply below_drew1 | refine below_set ?_ GE719.out | refine below_set ?_ GE728.out | refine below_set ?_ GE732.out | refine below_set ?_ GE737.out) | exact HB.out)))); have n5_ := Aside0.mk (blk_below (g := gb719) (o := .cells #[.slice A0_0 l0_0.length c0_0] 24 (0, 0)) (by (with_reducible repeat (first | refine blk_drewN ?_ _ | refine blk_drew ?_ | refine blk_alloc ?_ _)); exact BK719.out) hb); have n6_ := Aside0.mk (blk_below (g := gb728) (o := .cells #[.slice Ao21 t724.length co21] 37 (0, 0)) (by (with_reducible repeat (first | refine blk_drewN ?_ _ | refine blk_drew ?_ | refine blk_alloc ?_ _)); exact BK728.out) hb); have n7_ := Aside0.mk (blk_below (g := gb732) (o := .cells #[.slice Ao27 t744.length co27] 28 (0, 0)) (by (with_reducible repeat (first | refine blk_drewN ?_ _ | refine blk_drew ?_ | refine blk_alloc ?_ _)); exact BK732.out) hb); have n8_ := Aside0.mk (blk_below (g := gb737) (o := .cells #[.slice Ao33 t733.length co33] 37 (0, 0)) (by (with_reducible repeat (first | refine blk_drewN ?_ _ | refine blk_drew ?_ | refine blk_alloc ?_ _)); exact BK737.out) hb); have n9_ := Aside0.mk (below_step (by repeat (first | (with_reducible first | exact HB.out | apply below_alloc | apply pw_below_drewN | apply below_drew1 | refine below_set ?_ GE719.out | refine below_set ?_ GE728.out | refine below_set ?_ GE732.out | refine below_set ?_ GE737.out) | exact HB.out)) hb); clear HO_729000; clear HO_733000; clear HO_738000; clear HO751; clear BK719; clear BK728; clear BK732; clear BK737; clear HB; have HO_729000 := n0_; have HO_733000 := n1_; have HO_738000 := n2_; have HO751 := n3_; have HO754 := n4_; have BK719 := n5_; have BK728 := n6_; have BK732 := n7_; have BK737 := n8_; have HB := n9_; clear n0_ n1_ n2_ n3_ n4_ n5_ n6_ n7_ n8_ n9_; (try clear hb); (try clear hb2); (try clear hk); (try clear hi); (try clear ho0)) | ((with_reducible refine gate_dst (N := 14) rfl ?_); refine box_event ?hg (N := 14) ?hd (cs := #[.slice none 0 0]) (t := 37) ?hr ?_; (case hd => rfl); (case hg => rfl); (case hr => first | (go_simp; done) | (go_simp; rfl)); intro gb756 hg w118 hbox hb; have n0_ := Aside0.mk (Kd.R_below (by (with_reducible repeat (first | apply Kd.R_alloc | apply Kd.R_drewN | apply Kd.R_drew)); exact HO_729000.out) hb); have n1_ := Aside0.mk (Kd.R_below (by (with_reducible repeat (first | apply Kd.R_alloc | apply Kd.R_drewN | apply Kd.R_drew)); exact HO_733000.out) hb); have n2_ := Aside0.mk (Kd.R_below (by (with_reducible repeat (first | apply Kd.R_alloc | apply Kd.R_drewN | apply Kd.R_drew)); exact HO_738000.out) hb); have n3_ := Aside0.mk (Kd.R_below (by (with_reducible repeat (first | apply Kd.R_alloc | apply Kd.R_drewN | apply Kd.R_drew)); exact HO751.out) hb); have n4_ := Aside0.mk (Kd.R_below (by (with_reducible repeat (first | apply Kd.R_alloc | apply Kd.R_drewN | apply Kd.R_drew)); exact HO754.out) hb); have n5_ := Aside0.mk (blk_below (g := gb719) (o := .cells #[.slice A0_0 l0_0.length c0_0] 24 (0, 0)) (by (with_reducible repeat (first | refine blk_drewN ?_ _ | refine blk_drew ?_ | refine blk_alloc ?_ _)); exact BK719.out) hb); have n6_ := Aside0.mk (blk_below (g := gb728) (o := .cells #[.slice Ao21 t724.length co21] 37 (0, 0)) (by (with_reducible repeat (first | refine blk_drewN ?_ _ | refine blk_drew ?_ | refine blk_alloc ?_ _)); exact BK728.out) hb); have n7_ := Aside0.mk (blk_below (g := gb732) (o := .cells #[.slice Ao27 t744.length co27] 28 (0, 0)) (by (with_reducible repeat (first | refine blk_drewN ?_ _ | refine blk_drew ?_ | refine blk_alloc ?_ _)); exact BK732.out) hb); have n8_ := Aside0.mk (blk_below (g := gb737) (o := .cells #[.slice Ao33 t733.length co33] 37 (0, 0)) (by (with_reducible repeat (first | refine blk_drewN ?_ _ | refine blk_drew ?_ | refine blk_alloc ?_ _)); exact BK737.out) hb); have n9_ := Aside0.mk (below_step (by repeat (first | (with_reducible first | exact HB.out | apply below_alloc | apply pw_below_drewN | apply below_drew1 | refine below_set ?_ GE719.out | refine below_set ?_ GE728.out | refine below_set ?_ GE732.out | refine below_set ?_ GE737.out) | exact HB.out)) hb); have n10_ := Aside0.mk (hbox); have n11_ := Aside0.mk ((by rw [hg]; exact (below_size (by repeat (first | (with_reducible first | exact HB.out | apply below_alloc | apply pw_below_drewN | apply below_drew1 | refine below_set ?_ GE719.out | refine below_set ?_ GE728.out | refine below_set ?_ GE732.out | refine below_set ?_ GE737.out) | exact HB.out))) : w.heap.size ≤ gb756)); have n12_ := Aside0.mk ((by rw [hg]; exact (below_size (by repeat (first | (with_reducible first | exact HB.out | apply below_alloc | apply pw_below_drewN | apply below_drew1 | refine below_set ?_ GE719.out | refine below_set ?_ GE728.out | refine below_set ?_ GE732.out | refine below_set ?_ GE737.out) | exact HB.out))) : w.heap.size ≤ gb756)); have n13_ := Aside0.mk ((by rw [hg]; exact Nat.ne_of_lt (blk_lt (g := gb719) (o := .cells #[.slice A0_0 l0_0.length c0_0] 24 (0, 0)) (by (with_reducible repeat (first | refine blk_drewN ?_ _ | refine blk_drew ?_ | refine blk_alloc ?_ _)); exact BK719.out)) : gb719 ≠ gb756)); have n14_ := Aside0.mk ((by rw [hg]; exact Nat.ne_of_gt (blk_lt (g := gb719) (o := .cells #[.slice A0_0 l0_0.length c0_0] 24 (0, 0)) (by (with_reducible repeat (first | refine blk_drewN ?_ _ | refine blk_drew ?_ | refine blk_alloc ?_ _)); exact BK719.out)) : gb756 ≠ gb719)); have n15_ := Aside0.mk ((by rw [hg]; exact Nat.ne_of_lt (blk_lt (g := gb728) (o := .cells #[.slice Ao21 t724.length co21] 37 (0, 0)) (by (with_reducible repeat (first | refine blk_drewN ?_ _ | refine blk_drew ?_ | refine blk_alloc ?_ _)); exact BK728.out)) : gb728 ≠ gb756)); have n16_ := Aside0.mk ((by rw [hg]; exact Nat.ne_of_gt (blk_lt (g := gb728) (o := .cells #[.slice Ao21 t724.length co21] 37 (0, 0)) (by (with_reducible repeat (first | refine blk_drewN ?_ _ | refine blk_drew ?_ | refine blk_alloc ?_ _)); exact BK728.out)) : gb756 ≠ gb728)); have n17_ := Aside0.mk ((by rw [hg]; exact Nat.ne_of_lt (blk_lt (g := gb732) (o := .cells #[.slice Ao27 t744.length co27] 28 (0, 0)) (by (with_reducible repeat (first | refine blk_drewN ?_ _ | refine blk_drew ?_ | refine blk_alloc ?_ _)); exact BK732.out)) : gb732 ≠ gb756)); have n18_ := Aside0.mk ((by rw [hg]; exact Nat.ne_of_gt (blk_lt (g := gb732) (o := .cells #[.slice Ao27 t744.length co27] 28 (0, 0)) (by (with_reducible repeat (first | refine blk_drewN ?_ _ | refine blk_drew ?_ | refine blk_alloc ?_ _)); exact BK732.out)) : gb756 ≠ gb732)); have n19_ := Aside0.mk ((by rw [hg]; exact Nat.ne_of_lt (blk_lt (g := gb737) (o := .cells #[.slice Ao33 t733.length co33] 37 (0, 0)) (by (with_reducible repeat (first | refine blk_drewN ?_ _ | refine blk_drew ?_ | refine blk_alloc ?_ _)); exact BK737.out)) : gb737 ≠ gb756)); have n20_ := Aside0.mk ((by rw [hg]; exact Nat.ne_of_gt (blk_lt (g := gb737) (o := .cells #[.slice Ao33 t733.length co33] 37 (0, 0)) (by (with_reducible repeat (first | refine blk_drewN ?_ _ | refine blk_drew ?_ | refine blk_alloc ?_ _)); exact BK737.out)) : gb756 ≠ gb737)); clear HO_729000; clear HO_733000; clear HO_738000; clear HO751; clear HO754; clear BK719; clear BK728; clear BK732; clear BK737; clear HB; have HO_729000 := n0_; have HO_733000 := n1_; have HO_738000 := n2_; have HO751 := n3_; have HO754 := n4_; have BK719 := n5_; have BK728 := n6_; have BK732 := n7_; have BK737 := n8_; have HB := n9_; have BK756 := n10_; have GW756 := n11_; have GE756 := n12_; have NB719_756 := n13_; have NB756_719 := n14_; have NB728_756 := n15_; have NB756_728 := n16_; have NB732_756 := n17_; have NB756_732 := n18_; have NB737_756 := n19_; have NB756_737 := n20_; clear n0_ n1_ n2_ n3_ n4_ n5_ n6_ n7_ n8_ n9_ n10_ n11_ n12_ n13_ n14_ n15_ n16_ n17_ n18_ n19_ n20_; clear hb hbox hg; obtain ⟨Ao119, co119, eo119⟩ := Kd.R_slice HO754.out; subst eo119; have hnb120 := NB756_719.out; have hnc120 := NB719_756.out; have hnb121 := NB756_728.out; have hnc121 := NB728_756.out; have hnb122 := NB756_732.out; have hnc122 := NB732_756.out; have hnb123 := NB756_737.out; have hnc123 := NB737_756.out; have hcz124_0 : w118.cell? ⟨gb756, 0, none⟩ = some (.slice none 0 0) := (blk_cell BK756.out 0).trans rfl; have hfz124_0 := blk_frozen BK756.out 0))
                      (try simp only [Act.put, List.setIfInBounds_toArray, List.set_cons_zero, List.set_cons_succ])
                      go_cut [92] (fun v92 wc => ∃ (kq : Nat) (x92_103 : Bool), v92 = .bool x92_103 ∧ Aside0 (laws_FnExactTasksOfGarden.j2 kq t746 x92_103 t747 = some r) ∧ Aside0 (kq ≤ kj60) ∧ Aside0 (Kd.R (Kd.int .i64) 2 wc w.heap.size (fun k_ => some k_ ≠ ((.slice Ao27 t744.length co27) : Value).ownBlock ∧ some k_ ≠ ((.slice Ao33 t733.length co33) : Value).ownBlock ∧ some k_ ≠ ((.slice Ao119 t752.length co119) : Value).ownBlock) (.slice Ao21 t724.length co21) t724) ∧ Aside0 (Kd.R (Kd.int .i64) 2 wc w.heap.size (fun k_ => some k_ ≠ ((.slice Ao21 t724.length co21) : Value).ownBlock ∧ some k_ ≠ ((.slice Ao33 t733.length co33) : Value).ownBlock ∧ some k_ ≠ ((.slice Ao119 t752.length co119) : Value).ownBlock) (.slice Ao27 t744.length co27) t744) ∧ Aside0 (Kd.R (Kd.int .i64) 2 wc w.heap.size (fun k_ => some k_ ≠ ((.slice Ao21 t724.length co21) : Value).ownBlock ∧ some k_ ≠ ((.slice Ao27 t744.length co27) : Value).ownBlock ∧ some k_ ≠ ((.slice Ao119 t752.length co119) : Value).ownBlock) (.slice Ao33 t733.length co33) t747) ∧ Aside0 (Kd.R (Kd.int .i64) 2 wc w.heap.size (fun k_ => some k_ ≠ ((.slice Ao21 t724.length co21) : Value).ownBlock ∧ some k_ ≠ ((.slice Ao27 t744.length co27) : Value).ownBlock ∧ some k_ ≠ ((.slice Ao33 t733.length co33) : Value).ownBlock) (.slice Ao119 t752.length co119) t752) ∧ Aside0 (wc.heap[gb719]? = some (.cells #[(.slice A0_0 l0_0.length c0_0)] 24 (0, 0))) ∧ Aside0 (wc.heap[gb728]? = some (.cells #[(.slice Ao21 t724.length co21)] 37 (0, 0))) ∧ Aside0 (wc.heap[gb732]? = some (.cells #[(.slice Ao27 t744.length co27)] 28 (0, 0))) ∧ Aside0 (wc.heap[gb737]? = some (.cells #[(.slice Ao33 t733.length co33)] 37 (0, 0))) ∧ Aside0 (wc.heap[gb756]? = some (.cells #[(.slice Ao119 t752.length co119)] 37 (0, 0))) ∧ Aside0 (Below w.heap.size w wc))
                      case first =>
                        have H := HC104.out
                        clear HC104
                        replace H := Option.bind_eq_some_iff.mp H
                        obtain ⟨t757, A1250, H⟩ := H
                        replace H : (if t757 = true then (laws_FnExactTasksOfGarden.j2 kj60 t746 (t755 != t727) t747) else (laws_FnExactTasksOfGarden.j2 kj60 t746 true t747)) = some r := H
                        have A125 := Aside0.mk A1250
                        clear A1250
                        by_cases c126 : t757 = true
                        · subst c126
                          have H1 : (laws_FnExactTasksOfGarden.j2 kj60 t746 (t755 != t727) t747) = some r := by rw [if_pos rfl] at H; exact H
                          clear H
                          have H := H1
                          clear H1
                          have H' := Aside0.mk H
                          clear H
                          have hnb127 := NB756_719.out
                          have hnc127 := NB719_756.out
                          have hnb128 := NB756_728.out
                          have hnc128 := NB728_756.out
                          have hnb129 := NB756_732.out
                          have hnc129 := NB732_756.out
                          have hnb130 := NB756_737.out
                          have hnc130 := NB737_756.out
                          have hcz131_0 : w118.cell? ⟨gb756, 0, none⟩ = some (.slice none 0 0) := (blk_cell BK756.out 0).trans rfl
                          have hfz131_0 := blk_frozen BK756.out 0
                          have hnb132 := NB728_719.out
                          have hnc132 := NB719_728.out
                          have hnb133 := NB728_732.out
                          have hnc133 := NB732_728.out
                          have hnb134 := NB728_737.out
                          have hnc134 := NB737_728.out
                          have hcz135_0 : w118.cell? ⟨gb728, 0, none⟩ = some (.slice Ao21 t724.length co21) := (blk_cell BK728.out 0).trans rfl
                          have hfz135_0 := blk_frozen BK728.out 0
                          go_wp2_with (first | ((with_reducible refine gate_callee (f := 25) rfl ?_); refine goesL_ (some 86) rfl rfl Try.func25 (by kernel_rfl) rfl #[.agg #[.slice Ao119 t752.length co119], .agg #[.slice Ao21 t724.length co21]] rfl (by (try simp only [List.map_toArray, List.map_cons, List.map_nil]); first | done | rfl | (simp only [List.length_drop, List.length_take]; rfl)) ?_; (with_reducible refine (laws_eqTasks.calls kj60 _ _ t752 _ _ t724 true _ ?side1 ?side2 ?side3 ?side4 A125.out).mono ?_); (case side1 => refine (Kd.R_reads' (e := 2) (base := w.heap.size) (ok := fun k_ => ((((True ∧ some k_ ≠ (.slice Ao21 t724.length co21 : Value).ownBlock) ∧ some k_ ≠ (.slice Ao27 t744.length co27 : Value).ownBlock) ∧ some k_ ≠ (.slice Ao33 t733.length co33 : Value).ownBlock) ∧ some k_ ≠ (.slice Ao116 t749.length co116 : Value).ownBlock)) (n := t752.length) (c := co119) ?_).2.2; exact (by (with_reducible repeat (first | apply Kd.R_alloc | apply Kd.R_drewN | apply Kd.R_drew)); exact (Kd.R_mono (Kd.R_far (p := ⟨gb756, 0, none⟩) (Kd.R_types HO754.out BK756.out (by decide)) (fun _ hk => hk.2) (.slice Ao119 t752.length co119)) (fun _ h_ => h_.1)))); (case side2 => exact (Kd.R_reads' HO754.out).2.1); (case side3 => refine (Kd.R_reads' (e := 2) (base := w.heap.size) (ok := fun k_ => (((some k_ ≠ (.slice Ao27 t744.length co27 : Value).ownBlock ∧ some k_ ≠ (.slice Ao33 t733.length co33 : Value).ownBlock) ∧ some k_ ≠ (.slice Ao116 t749.length co116 : Value).ownBlock) ∧ some k_ ≠ (.slice Ao119 t752.length co119 : Value).ownBlock)) (n := t724.length) (c := co21) ?_).2.2; exact (by (with_reducible repeat (first | apply Kd.R_alloc | apply Kd.R_drewN | apply Kd.R_drew)); exact (Kd.R_mono (Kd.R_far (p := ⟨gb756, 0, none⟩) (Kd.R_types HO_729000.out BK756.out (by decide)) (fun _ hk => hk.2) (.slice Ao119 t752.length co119)) (fun _ h_ => h_.1)))); (case side4 => exact (Kd.R_reads' HO_729000.out).2.1); rintro e w136 ⟨rfl, hb⟩; refine ⟨_, rfl, ?_⟩; have n0_ := Aside0.mk (Kd.R_below (by (with_reducible repeat (first | apply Kd.R_alloc | apply Kd.R_drewN | apply Kd.R_drew)); exact (Kd.R_mono (Kd.R_far (p := ⟨gb756, 0, none⟩) (Kd.R_types HO_729000.out BK756.out (by decide)) (fun _ hk => hk.2) (.slice Ao119 t752.length co119)) (fun _ h_ => h_.1))) hb); have n1_ := Aside0.mk (Kd.R_below (by (with_reducible repeat (first | apply Kd.R_alloc | apply Kd.R_drewN | apply Kd.R_drew)); exact (Kd.R_mono (Kd.R_far (p := ⟨gb756, 0, none⟩) (Kd.R_types HO_733000.out BK756.out (by decide)) (fun _ hk => hk.2) (.slice Ao119 t752.length co119)) (fun _ h_ => h_.1))) hb); have n2_ := Aside0.mk (Kd.R_below (by (with_reducible repeat (first | apply Kd.R_alloc | apply Kd.R_drewN | apply Kd.R_drew)); exact (Kd.R_mono (Kd.R_far (p := ⟨gb756, 0, none⟩) (Kd.R_types HO_738000.out BK756.out (by decide)) (fun _ hk => hk.2) (.slice Ao119 t752.length co119)) (fun _ h_ => h_.1))) hb); have n3_ := Aside0.mk (Kd.R_below (by (with_reducible repeat (first | apply Kd.R_alloc | apply Kd.R_drewN | apply Kd.R_drew)); exact (Kd.R_mono (Kd.R_far (p := ⟨gb756, 0, none⟩) (Kd.R_types HO751.out BK756.out (by decide)) (fun _ hk => hk.2) (.slice Ao119 t752.length co119)) (fun _ h_ => h_.1))) hb); have n4_ := Aside0.mk (Kd.R_below (by (with_reducible repeat (first | apply Kd.R_alloc | apply Kd.R_drewN | apply Kd.R_drew)); exact (Kd.R_mono (Kd.R_far (p := ⟨gb756, 0, none⟩) (Kd.R_types HO754.out BK756.out (by decide)) (fun _ hk => hk.2) (.slice Ao119 t752.length co119)) (fun _ h_ => h_.1))) hb); have n5_ := Aside0.mk (blk_below (g := gb719) (o := .cells #[.slice A0_0 l0_0.length c0_0] 24 (0, 0)) (by (with_reducible repeat (first | refine blk_drewN ?_ _ | refine blk_drew ?_ | refine blk_alloc ?_ _)); refine blk_far ?_ NB719_756.out _; (with_reducible repeat (first | refine blk_drewN ?_ _ | refine blk_drew ?_ | refine blk_alloc ?_ _)); exact BK719.out) hb); have n6_ := Aside0.mk (blk_below (g := gb728) (o := .cells #[.slice Ao21 t724.length co21] 37 (0, 0)) (by (with_reducible repeat (first | refine blk_drewN ?_ _ | refine blk_drew ?_ | refine blk_alloc ?_ _)); refine blk_far ?_ NB728_756.out _; (with_reducible repeat (first | refine blk_drewN ?_ _ | refine blk_drew ?_ | refine blk_alloc ?_ _)); exact BK728.out) hb); have n7_ := Aside0.mk (blk_below (g := gb732) (o := .cells #[.slice Ao27 t744.length co27] 28 (0, 0)) (by (with_reducible repeat (first | refine blk_drewN ?_ _ | refine blk_drew ?_ | refine blk_alloc ?_ _)); refine blk_far ?_ NB732_756.out _; (with_reducible repeat (first | refine blk_drewN ?_ _ | refine blk_drew ?_ | refine blk_alloc ?_ _)); exact BK732.out) hb); have n8_ := Aside0.mk (blk_below (g := gb737) (o := .cells #[.slice Ao33 t733.length co33] 37 (0, 0)) (by (with_reducible repeat (first | refine blk_drewN ?_ _ | refine blk_drew ?_ | refine blk_alloc ?_ _)); refine blk_far ?_ NB737_756.out _; (with_reducible repeat (first | refine blk_drewN ?_ _ | refine blk_drew ?_ | refine blk_alloc ?_ _)); exact BK737.out) hb); have n9_ := Aside0.mk (blk_below (g := gb756) (o := .cells #[.slice Ao119 t752.length co119] 37 (0, 0)) (by (with_reducible repeat (first | refine blk_drewN ?_ _ | refine blk_drew ?_ | refine blk_alloc ?_ _)); refine blk_put (cs := #[.slice none 0 0]) ?_ 0 _ rfl; (with_reducible repeat (first | refine blk_drewN ?_ _ | refine blk_drew ?_ | refine blk_alloc ?_ _)); exact BK756.out) hb); have n10_ := Aside0.mk (below_step (by repeat (first | (with_reducible first | exact HB.out | apply below_alloc | apply pw_below_drewN | apply below_drew1 | refine below_set ?_ GE719.out | refine below_set ?_ GE728.out | refine below_set ?_ GE732.out | refine below_set ?_ GE737.out | refine below_set ?_ GE756.out) | exact HB.out)) hb); clear HO_729000; clear HO_733000; clear HO_738000; clear HO751; clear HO754; clear BK719; clear BK728; clear BK732; clear BK737; clear BK756; clear HB; have HO_729000 := n0_; have HO_733000 := n1_; have HO_738000 := n2_; have HO751 := n3_; have HO754 := n4_; have BK719 := n5_; have BK728 := n6_; have BK732 := n7_; have BK737 := n8_; have BK756 := n9_; have HB := n10_; clear n0_ n1_ n2_ n3_ n4_ n5_ n6_ n7_ n8_ n9_ n10_; (try clear hb); (try clear hb2); (try clear hk); (try clear hi)))
                          go_meet
                          case rel => exact ⟨_, ((t755 != t727)), (by first | rfl | (simp; done) | (simp [*]; done)), H', ⟨by have := HJ11.out; have := HJ60.out; first | omega | exact Nat.le_refl _⟩, ⟨by (try simp only [hl733000_60]); (with_reducible repeat (first | apply Kd.R_alloc | apply Kd.R_drewN | apply Kd.R_drew)); exact Kd.R_mono HO_729000.out (fun _ hk => ⟨hk.1.1.1, ⟨hk.1.1.2, hk.2⟩⟩)⟩, ⟨by (try simp only [hl733000_60]); (with_reducible repeat (first | apply Kd.R_alloc | apply Kd.R_drewN | apply Kd.R_drew)); exact Kd.R_mono HO_733000.out (fun _ hk => ⟨hk.1.1.1, ⟨hk.1.1.2, hk.2⟩⟩)⟩, ⟨by (try simp only [hl733000_60]); (with_reducible repeat (first | apply Kd.R_alloc | apply Kd.R_drewN | apply Kd.R_drew)); exact Kd.R_mono HO_738000.out (fun _ hk => ⟨hk.1.1.1, ⟨hk.1.1.2, hk.2⟩⟩)⟩, ⟨by (try simp only [hl733000_60]); (with_reducible repeat (first | apply Kd.R_alloc | apply Kd.R_drewN | apply Kd.R_drew)); exact Kd.R_mono HO754.out (fun _ hk => ⟨hk.1.1.1.2, ⟨hk.1.1.2, hk.1.2⟩⟩)⟩, ⟨by (try simp only [hl733000_60]); (with_reducible repeat (first | refine blk_drewN ?_ _ | refine blk_drew ?_ | refine blk_alloc ?_ _)); exact BK719.out⟩, ⟨by (try simp only [hl733000_60]); (with_reducible repeat (first | refine blk_drewN ?_ _ | refine blk_drew ?_ | refine blk_alloc ?_ _)); exact BK728.out⟩, ⟨by (try simp only [hl733000_60]); (with_reducible repeat (first | refine blk_drewN ?_ _ | refine blk_drew ?_ | refine blk_alloc ?_ _)); exact BK732.out⟩, ⟨by (try simp only [hl733000_60]); (with_reducible repeat (first | refine blk_drewN ?_ _ | refine blk_drew ?_ | refine blk_alloc ?_ _)); exact BK737.out⟩, ⟨by (try simp only [hl733000_60]); (with_reducible repeat (first | refine blk_drewN ?_ _ | refine blk_drew ?_ | refine blk_alloc ?_ _)); exact BK756.out⟩, ⟨by repeat (first | (with_reducible first | exact HB.out | apply below_alloc | apply pw_below_drewN | apply below_drew1 | refine below_set ?_ GE719.out | refine below_set ?_ GE728.out | refine below_set ?_ GE732.out | refine below_set ?_ GE737.out | refine below_set ?_ GE756.out) | exact HB.out)⟩⟩
                        · replace c126 := Bool.eq_false_iff.mpr c126
                          subst c126
                          have H1 : (laws_FnExactTasksOfGarden.j2 kj60 t746 true t747) = some r := by rw [if_neg (show ¬ (false = true) by decide)] at H; exact H
                          clear H
                          have H := H1
                          clear H1
                          have H' := Aside0.mk H
                          clear H
                          have hnb137 := NB756_719.out
                          have hnc137 := NB719_756.out
                          have hnb138 := NB756_728.out
                          have hnc138 := NB728_756.out
                          have hnb139 := NB756_732.out
                          have hnc139 := NB732_756.out
                          have hnb140 := NB756_737.out
                          have hnc140 := NB737_756.out
                          have hcz141_0 : w118.cell? ⟨gb756, 0, none⟩ = some (.slice none 0 0) := (blk_cell BK756.out 0).trans rfl
                          have hfz141_0 := blk_frozen BK756.out 0
                          have hnb142 := NB728_719.out
                          have hnc142 := NB719_728.out
                          have hnb143 := NB728_732.out
                          have hnc143 := NB732_728.out
                          have hnb144 := NB728_737.out
                          have hnc144 := NB737_728.out
                          have hcz145_0 : w118.cell? ⟨gb728, 0, none⟩ = some (.slice Ao21 t724.length co21) := (blk_cell BK728.out 0).trans rfl
                          have hfz145_0 := blk_frozen BK728.out 0
                          go_wp2_with (first | ((with_reducible refine gate_callee (f := 25) rfl ?_); refine goesL_ (some 86) rfl rfl Try.func25 (by kernel_rfl) rfl #[.agg #[.slice Ao119 t752.length co119], .agg #[.slice Ao21 t724.length co21]] rfl (by (try simp only [List.map_toArray, List.map_cons, List.map_nil]); first | done | rfl | (simp only [List.length_drop, List.length_take]; rfl)) ?_; (with_reducible refine (laws_eqTasks.calls kj60 _ _ t752 _ _ t724 false _ ?side1 ?side2 ?side3 ?side4 A125.out).mono ?_); (case side1 => refine (Kd.R_reads' (e := 2) (base := w.heap.size) (ok := fun k_ => ((((True ∧ some k_ ≠ (.slice Ao21 t724.length co21 : Value).ownBlock) ∧ some k_ ≠ (.slice Ao27 t744.length co27 : Value).ownBlock) ∧ some k_ ≠ (.slice Ao33 t733.length co33 : Value).ownBlock) ∧ some k_ ≠ (.slice Ao116 t749.length co116 : Value).ownBlock)) (n := t752.length) (c := co119) ?_).2.2; exact (by (with_reducible repeat (first | apply Kd.R_alloc | apply Kd.R_drewN | apply Kd.R_drew)); exact (Kd.R_mono (Kd.R_far (p := ⟨gb756, 0, none⟩) (Kd.R_types HO754.out BK756.out (by decide)) (fun _ hk => hk.2) (.slice Ao119 t752.length co119)) (fun _ h_ => h_.1)))); (case side2 => exact (Kd.R_reads' HO754.out).2.1); (case side3 => refine (Kd.R_reads' (e := 2) (base := w.heap.size) (ok := fun k_ => (((some k_ ≠ (.slice Ao27 t744.length co27 : Value).ownBlock ∧ some k_ ≠ (.slice Ao33 t733.length co33 : Value).ownBlock) ∧ some k_ ≠ (.slice Ao116 t749.length co116 : Value).ownBlock) ∧ some k_ ≠ (.slice Ao119 t752.length co119 : Value).ownBlock)) (n := t724.length) (c := co21) ?_).2.2; exact (by (with_reducible repeat (first | apply Kd.R_alloc | apply Kd.R_drewN | apply Kd.R_drew)); exact (Kd.R_mono (Kd.R_far (p := ⟨gb756, 0, none⟩) (Kd.R_types HO_729000.out BK756.out (by decide)) (fun _ hk => hk.2) (.slice Ao119 t752.length co119)) (fun _ h_ => h_.1)))); (case side4 => exact (Kd.R_reads' HO_729000.out).2.1); rintro e w146 ⟨rfl, hb⟩; refine ⟨_, rfl, ?_⟩; have n0_ := Aside0.mk (Kd.R_below (by (with_reducible repeat (first | apply Kd.R_alloc | apply Kd.R_drewN | apply Kd.R_drew)); exact (Kd.R_mono (Kd.R_far (p := ⟨gb756, 0, none⟩) (Kd.R_types HO_729000.out BK756.out (by decide)) (fun _ hk => hk.2) (.slice Ao119 t752.length co119)) (fun _ h_ => h_.1))) hb); have n1_ := Aside0.mk (Kd.R_below (by (with_reducible repeat (first | apply Kd.R_alloc | apply Kd.R_drewN | apply Kd.R_drew)); exact (Kd.R_mono (Kd.R_far (p := ⟨gb756, 0, none⟩) (Kd.R_types HO_733000.out BK756.out (by decide)) (fun _ hk => hk.2) (.slice Ao119 t752.length co119)) (fun _ h_ => h_.1))) hb); have n2_ := Aside0.mk (Kd.R_below (by (with_reducible repeat (first | apply Kd.R_alloc | apply Kd.R_drewN | apply Kd.R_drew)); exact (Kd.R_mono (Kd.R_far (p := ⟨gb756, 0, none⟩) (Kd.R_types HO_738000.out BK756.out (by decide)) (fun _ hk => hk.2) (.slice Ao119 t752.length co119)) (fun _ h_ => h_.1))) hb); have n3_ := Aside0.mk (Kd.R_below (by (with_reducible repeat (first | apply Kd.R_alloc | apply Kd.R_drewN | apply Kd.R_drew)); exact (Kd.R_mono (Kd.R_far (p := ⟨gb756, 0, none⟩) (Kd.R_types HO751.out BK756.out (by decide)) (fun _ hk => hk.2) (.slice Ao119 t752.length co119)) (fun _ h_ => h_.1))) hb); have n4_ := Aside0.mk (Kd.R_below (by (with_reducible repeat (first | apply Kd.R_alloc | apply Kd.R_drewN | apply Kd.R_drew)); exact (Kd.R_mono (Kd.R_far (p := ⟨gb756, 0, none⟩) (Kd.R_types HO754.out BK756.out (by decide)) (fun _ hk => hk.2) (.slice Ao119 t752.length co119)) (fun _ h_ => h_.1))) hb); have n5_ := Aside0.mk (blk_below (g := gb719) (o := .cells #[.slice A0_0 l0_0.length c0_0] 24 (0, 0)) (by (with_reducible repeat (first | refine blk_drewN ?_ _ | refine blk_drew ?_ | refine blk_alloc ?_ _)); refine blk_far ?_ NB719_756.out _; (with_reducible repeat (first | refine blk_drewN ?_ _ | refine blk_drew ?_ | refine blk_alloc ?_ _)); exact BK719.out) hb); have n6_ := Aside0.mk (blk_below (g := gb728) (o := .cells #[.slice Ao21 t724.length co21] 37 (0, 0)) (by (with_reducible repeat (first | refine blk_drewN ?_ _ | refine blk_drew ?_ | refine blk_alloc ?_ _)); refine blk_far ?_ NB728_756.out _; (with_reducible repeat (first | refine blk_drewN ?_ _ | refine blk_drew ?_ | refine blk_alloc ?_ _)); exact BK728.out) hb); have n7_ := Aside0.mk (blk_below (g := gb732) (o := .cells #[.slice Ao27 t744.length co27] 28 (0, 0)) (by (with_reducible repeat (first | refine blk_drewN ?_ _ | refine blk_drew ?_ | refine blk_alloc ?_ _)); refine blk_far ?_ NB732_756.out _; (with_reducible repeat (first | refine blk_drewN ?_ _ | refine blk_drew ?_ | refine blk_alloc ?_ _)); exact BK732.out) hb); have n8_ := Aside0.mk (blk_below (g := gb737) (o := .cells #[.slice Ao33 t733.length co33] 37 (0, 0)) (by (with_reducible repeat (first | refine blk_drewN ?_ _ | refine blk_drew ?_ | refine blk_alloc ?_ _)); refine blk_far ?_ NB737_756.out _; (with_reducible repeat (first | refine blk_drewN ?_ _ | refine blk_drew ?_ | refine blk_alloc ?_ _)); exact BK737.out) hb); have n9_ := Aside0.mk (blk_below (g := gb756) (o := .cells #[.slice Ao119 t752.length co119] 37 (0, 0)) (by (with_reducible repeat (first | refine blk_drewN ?_ _ | refine blk_drew ?_ | refine blk_alloc ?_ _)); refine blk_put (cs := #[.slice none 0 0]) ?_ 0 _ rfl; (with_reducible repeat (first | refine blk_drewN ?_ _ | refine blk_drew ?_ | refine blk_alloc ?_ _)); exact BK756.out) hb); have n10_ := Aside0.mk (below_step (by repeat (first | (with_reducible first | exact HB.out | apply below_alloc | apply pw_below_drewN | apply below_drew1 | refine below_set ?_ GE719.out | refine below_set ?_ GE728.out | refine below_set ?_ GE732.out | refine below_set ?_ GE737.out | refine below_set ?_ GE756.out) | exact HB.out)) hb); clear HO_729000; clear HO_733000; clear HO_738000; clear HO751; clear HO754; clear BK719; clear BK728; clear BK732; clear BK737; clear BK756; clear HB; have HO_729000 := n0_; have HO_733000 := n1_; have HO_738000 := n2_; have HO751 := n3_; have HO754 := n4_; have BK719 := n5_; have BK728 := n6_; have BK732 := n7_; have BK737 := n8_; have BK756 := n9_; have HB := n10_; clear n0_ n1_ n2_ n3_ n4_ n5_ n6_ n7_ n8_ n9_ n10_; (try clear hb); (try clear hb2); (try clear hk); (try clear hi)))
                          go_meet
                          case rel => exact ⟨_, (true), (by first | rfl | (simp; done) | (simp [*]; done)), H', ⟨by have := HJ11.out; have := HJ60.out; first | omega | exact Nat.le_refl _⟩, ⟨by (try simp only [hl733000_60]); (with_reducible repeat (first | apply Kd.R_alloc | apply Kd.R_drewN | apply Kd.R_drew)); exact Kd.R_mono HO_729000.out (fun _ hk => ⟨hk.1.1.1, ⟨hk.1.1.2, hk.2⟩⟩)⟩, ⟨by (try simp only [hl733000_60]); (with_reducible repeat (first | apply Kd.R_alloc | apply Kd.R_drewN | apply Kd.R_drew)); exact Kd.R_mono HO_733000.out (fun _ hk => ⟨hk.1.1.1, ⟨hk.1.1.2, hk.2⟩⟩)⟩, ⟨by (try simp only [hl733000_60]); (with_reducible repeat (first | apply Kd.R_alloc | apply Kd.R_drewN | apply Kd.R_drew)); exact Kd.R_mono HO_738000.out (fun _ hk => ⟨hk.1.1.1, ⟨hk.1.1.2, hk.2⟩⟩)⟩, ⟨by (try simp only [hl733000_60]); (with_reducible repeat (first | apply Kd.R_alloc | apply Kd.R_drewN | apply Kd.R_drew)); exact Kd.R_mono HO754.out (fun _ hk => ⟨hk.1.1.1.2, ⟨hk.1.1.2, hk.1.2⟩⟩)⟩, ⟨by (try simp only [hl733000_60]); (with_reducible repeat (first | refine blk_drewN ?_ _ | refine blk_drew ?_ | refine blk_alloc ?_ _)); exact BK719.out⟩, ⟨by (try simp only [hl733000_60]); (with_reducible repeat (first | refine blk_drewN ?_ _ | refine blk_drew ?_ | refine blk_alloc ?_ _)); exact BK728.out⟩, ⟨by (try simp only [hl733000_60]); (with_reducible repeat (first | refine blk_drewN ?_ _ | refine blk_drew ?_ | refine blk_alloc ?_ _)); exact BK732.out⟩, ⟨by (try simp only [hl733000_60]); (with_reducible repeat (first | refine blk_drewN ?_ _ | refine blk_drew ?_ | refine blk_alloc ?_ _)); exact BK737.out⟩, ⟨by (try simp only [hl733000_60]); (with_reducible repeat (first | refine blk_drewN ?_ _ | refine blk_drew ?_ | refine blk_alloc ?_ _)); exact BK756.out⟩, ⟨by repeat (first | (with_reducible first | exact HB.out | apply below_alloc | apply pw_below_drewN | apply below_drew1 | refine below_set ?_ GE719.out | refine below_set ?_ GE728.out | refine below_set ?_ GE732.out | refine below_set ?_ GE737.out | refine below_set ?_ GE756.out) | exact HB.out)⟩⟩
                      case rest =>
                        clear HC104
                        try clear c1
                        try clear c2
                        try clear p2
                        try clear c3
                        try clear c4
                        try clear c4b0
                        try clear c5
                        try clear c6
                        try clear c7
                        try clear c8
                        try clear c9
                        try clear c10
                        try clear c11
                        try clear c12
                        try clear c13
                        try clear c14
                        try clear c16
                        try clear c18
                        try clear c20
                        try clear c22
                        try clear c25
                        try clear c28
                        try clear c29
                        try clear c34
                        try clear c35
                        try clear c36
                        try clear c39
                        try clear c40
                        try clear c41
                        try clear c42
                        try clear c44
                        try clear c45
                        try clear c47
                        try clear c48
                        try clear c49
                        try clear c50
                        try clear c52
                        try clear c53
                        try clear c56
                        try clear c59
                        try clear c66
                        try clear c67
                        try clear c68
                        try clear c71
                        try clear c71b0
                        try clear c73
                        try clear c74
                        try clear c75
                        try clear c76
                        try clear c78
                        try clear c79
                        try clear c82
                        try clear c83
                        try clear c84
                        try clear c86
                        try clear c87
                        try clear c90
                        try clear c93
                        try clear c93b0
                        try clear c94
                        try clear c95
                        try clear c96
                        try clear c101
                        try clear c101b0
                        try clear c101b1
                        try clear c105
                        try clear c106
                        try clear c107
                        try clear c112
                        try clear c113
                        try clear c120
                        try clear c121
                        try clear c122
                        try clear c123
                        try clear c126
                        try clear c127
                        try clear c128
                        try clear c129
                        try clear c130
                        try clear c132
                        try clear c133
                        try clear c134
                        try clear c137
                        try clear c138
                        try clear c139
                        try clear c140
                        try clear c142
                        try clear c143
                        try clear c144
                        try clear hcz108_0
                        try clear hcz110_0
                        try clear hcz114_0
                        try clear hcz124_0
                        try clear hcz131_0
                        try clear hcz135_0
                        try clear hcz141_0
                        try clear hcz145_0
                        try clear hcz14_0
                        try clear hcz16_0
                        try clear hcz23_0
                        try clear hcz24_0
                        try clear hcz30_0
                        try clear hcz37_0
                        try clear hcz43_0
                        try clear hcz46_0
                        try clear hcz51_0
                        try clear hcz54_0
                        try clear hcz69_0
                        try clear hcz6_0
                        try clear hcz77_0
                        try clear hcz80_0
                        try clear hcz85_0
                        try clear hcz88_0
                        try clear hcz97_0
                        try clear hcz99_0
                        try clear hfz108_0
                        try clear hfz110_0
                        try clear hfz114_0
                        try clear hfz124_0
                        try clear hfz131_0
                        try clear hfz135_0
                        try clear hfz141_0
                        try clear hfz145_0
                        try clear hfz14_0
                        try clear hfz16_0
                        try clear hfz23_0
                        try clear hfz24_0
                        try clear hfz30_0
                        try clear hfz37_0
                        try clear hfz43_0
                        try clear hfz46_0
                        try clear hfz51_0
                        try clear hfz54_0
                        try clear hfz69_0
                        try clear hfz6_0
                        try clear hfz77_0
                        try clear hfz80_0
                        try clear hfz85_0
                        try clear hfz88_0
                        try clear hfz97_0
                        try clear hfz99_0
                        try clear p2
                        obtain ⟨kq, x92_103, rfl, HA, HJ103, HO_729000, HO_733000, HO_738000, HO_757000, BK719, BK728, BK732, BK737, BK756, HB⟩ := hcut
                        have hl738000_103 := (Kd.R_reads' HO_738000.out).1
                        rw [hl738000_103] at HO_738000
                        (try simp only [hl738000_103])
                        (try simp only [hl738000_103] at BK719)
                        (try simp only [hl738000_103] at BK728)
                        (try simp only [hl738000_103] at BK732)
                        (try simp only [hl738000_103] at BK737)
                        (try simp only [hl738000_103] at BK756)
                        (try simp only [hl738000_103] at HO_729000)
                        (try simp only [hl738000_103] at HO_733000)
                        (try simp only [hl738000_103] at HO_757000)
                        cases kq with
                        | zero => exact absurd HA.out (by simp [laws_FnExactTasksOfGarden.j2])
                        | succ kj103 =>
                          have H := HA.out
                          clear HA
                          simp only [laws_FnExactTasksOfGarden.j2] at H
                          by_cases c147 : x92_103 = true
                          · subst c147
                            have H1 : (some false) = some r := by rw [if_pos rfl] at H; exact H
                            clear H
                            have H := H1
                            clear H1
                            obtain rfl := Option.some.inj H
                            go_wp2
                            go_ret
                            exact ⟨by first | rfl | (simp [errW_none, errW_some] <;> rfl) | (simp [*, errW_none, errW_some] <;> rfl), by repeat (first | (with_reducible first | exact HB.out | apply below_alloc | apply pw_below_drewN | apply below_drew1 | refine below_set ?_ GE719.out | refine below_set ?_ GE728.out | refine below_set ?_ GE732.out | refine below_set ?_ GE737.out | refine below_set ?_ GE756.out) | exact HB.out)⟩
                          · replace c147 := Bool.eq_false_iff.mpr c147
                            subst c147
                            have H1 : ((laws_heldTasks.f kj103 t747 1).bind fun t758 => (if t758 < 0 then (some false) else (if t758 = t746 then (some true) else (some false)))) = some r := by rw [if_neg (show ¬ (false = true) by decide)] at H; exact H
                            clear H
                            have H := H1
                            clear H1
                            replace H := Option.bind_eq_some_iff.mp H
                            obtain ⟨t758, A1480, H⟩ := H
                            replace H : (if t758 < 0 then (some false) else (if t758 = t746 then (some true) else (some false))) = some r := H
                            have A148 := Aside0.mk A1480
                            clear A1480
                            by_cases c149 : t758 < 0
                            · rw [if_pos c149] at H
                              have c149b0 : decide (t758 < 0) = true := decide_eq_true c149
                              (try (have c149h_hl733000_60 := c149b0; rw [hl733000_60] at c149h_hl733000_60))
                              (try (have c149h_hl738000_103 := c149b0; rw [hl738000_103] at c149h_hl738000_103))
                              clear c149
                              obtain rfl := Option.some.inj H
                              have hnb150 := NB737_719.out
                              have hnc150 := NB719_737.out
                              have hnb151 := NB737_728.out
                              have hnc151 := NB728_737.out
                              have hnb152 := NB737_732.out
                              have hnc152 := NB732_737.out
                              have hnb153 := NB737_756.out
                              have hnc153 := NB756_737.out
                              have hcz154_0 : wc.cell? ⟨gb737, 0, none⟩ = some (.slice Ao33 t747.length co33) := (blk_cell BK737.out 0).trans rfl
                              have hfz154_0 := blk_frozen BK737.out 0
                              go_wp2_with (first | ((with_reducible refine gate_callee (f := 47) rfl ?_); refine goesL_ (some 95) rfl rfl Try.func47 (by kernel_rfl) rfl #[.agg #[.slice Ao33 t747.length co33], .int .i64 1] rfl (by (try simp only [List.map_toArray, List.map_cons, List.map_nil]); first | done | rfl | (simp only [List.length_drop, List.length_take]; rfl)) ?_; (with_reducible refine (laws_heldTasks.calls kj103 _ _ t747 1 t758 _ ?side1 ?side2 A148.out).mono ?_); (case side1 => repeat (first | exact (Kd.R_reads' HO_738000.out).2.2 | (with_reducible refine Kd.C_alloc ?_ _) | (with_reducible refine Kd.C_drewN ?_ _) | (with_reducible refine Kd.C_drew ?_))); (case side2 => exact (Kd.R_reads' HO_738000.out).2.1); rintro e w155 ⟨rfl, hb⟩; refine ⟨_, rfl, ?_⟩; have n0_ := Aside0.mk (Kd.R_below (by (with_reducible repeat (first | apply Kd.R_alloc | apply Kd.R_drewN | apply Kd.R_drew)); exact HO_729000.out) hb); have n1_ := Aside0.mk (Kd.R_below (by (with_reducible repeat (first | apply Kd.R_alloc | apply Kd.R_drewN | apply Kd.R_drew)); exact HO_733000.out) hb); have n2_ := Aside0.mk (Kd.R_below (by (with_reducible repeat (first | apply Kd.R_alloc | apply Kd.R_drewN | apply Kd.R_drew)); exact HO_738000.out) hb); have n3_ := Aside0.mk (Kd.R_below (by (with_reducible repeat (first | apply Kd.R_alloc | apply Kd.R_drewN | apply Kd.R_drew)); exact HO_757000.out) hb); have n4_ := Aside0.mk (blk_below (g := gb719) (o := .cells #[.slice A0_0 l0_0.length c0_0] 24 (0, 0)) (by (with_reducible repeat (first | refine blk_drewN ?_ _ | refine blk_drew ?_ | refine blk_alloc ?_ _)); exact BK719.out) hb); have n5_ := Aside0.mk (blk_below (g := gb728) (o := .cells #[.slice Ao21 t724.length co21] 37 (0, 0)) (by (with_reducible repeat (first | refine blk_drewN ?_ _ | refine blk_drew ?_ | refine blk_alloc ?_ _)); exact BK728.out) hb); have n6_ := Aside0.mk (blk_below (g := gb732) (o := .cells #[.slice Ao27 t744.length co27] 28 (0, 0)) (by (with_reducible repeat (first | refine blk_drewN ?_ _ | refine blk_drew ?_ | refine blk_alloc ?_ _)); exact BK732.out) hb); have n7_ := Aside0.mk (blk_below (g := gb737) (o := .cells #[.slice Ao33 t747.length co33] 37 (0, 0)) (by (with_reducible repeat (first | refine blk_drewN ?_ _ | refine blk_drew ?_ | refine blk_alloc ?_ _)); exact BK737.out) hb); have n8_ := Aside0.mk (blk_below (g := gb756) (o := .cells #[.slice Ao119 t752.length co119] 37 (0, 0)) (by (with_reducible repeat (first | refine blk_drewN ?_ _ | refine blk_drew ?_ | refine blk_alloc ?_ _)); exact BK756.out) hb); have n9_ := Aside0.mk (below_step (by repeat (first | (with_reducible first | exact HB.out | apply below_alloc | apply pw_below_drewN | apply below_drew1 | refine below_set ?_ GE719.out | refine below_set ?_ GE728.out | refine below_set ?_ GE732.out | refine below_set ?_ GE737.out | refine below_set ?_ GE756.out) | exact HB.out)) hb); clear HO_729000; clear HO_733000; clear HO_738000; clear HO_757000; clear BK719; clear BK728; clear BK732; clear BK737; clear BK756; clear HB; have HO_729000 := n0_; have HO_733000 := n1_; have HO_738000 := n2_; have HO_757000 := n3_; have BK719 := n4_; have BK728 := n5_; have BK732 := n6_; have BK737 := n7_; have BK756 := n8_; have HB := n9_; clear n0_ n1_ n2_ n3_ n4_ n5_ n6_ n7_ n8_ n9_; (try clear hb); (try clear hb2); (try clear hk); (try clear hi)))
                              go_ret
                              exact ⟨by first | rfl | (simp [errW_none, errW_some] <;> rfl) | (simp [*, errW_none, errW_some] <;> rfl), by repeat (first | (with_reducible first | exact HB.out | apply below_alloc | apply pw_below_drewN | apply below_drew1 | refine below_set ?_ GE719.out | refine below_set ?_ GE728.out | refine below_set ?_ GE732.out | refine below_set ?_ GE737.out | refine below_set ?_ GE756.out) | exact HB.out)⟩
                            · rw [if_neg c149] at H
                              have c149b0 : decide (t758 < 0) = false := decide_eq_false c149
                              (try (have c149h_hl733000_60 := c149b0; rw [hl733000_60] at c149h_hl733000_60))
                              (try (have c149h_hl738000_103 := c149b0; rw [hl738000_103] at c149h_hl738000_103))
                              clear c149
                              by_cases c156 : t758 = t746
                              · rw [if_pos c156] at H
                                have c156b0 : (t758 == t746) = true := beq_iff_eq.mpr c156
                                have c156b1 : (t758 != t746) = false := bne_eq_false_iff_eq.mpr c156
                                (try (have c156h_hl733000_60 := c156b0; rw [hl733000_60] at c156h_hl733000_60))
                                (try (have c156h_hl738000_103 := c156b0; rw [hl738000_103] at c156h_hl738000_103))
                                clear c156
                                obtain rfl := Option.some.inj H
                                have hnb157 := NB737_719.out
                                have hnc157 := NB719_737.out
                                have hnb158 := NB737_728.out
                                have hnc158 := NB728_737.out
                                have hnb159 := NB737_732.out
                                have hnc159 := NB732_737.out
                                have hnb160 := NB737_756.out
                                have hnc160 := NB756_737.out
                                have hcz161_0 : wc.cell? ⟨gb737, 0, none⟩ = some (.slice Ao33 t747.length co33) := (blk_cell BK737.out 0).trans rfl
                                have hfz161_0 := blk_frozen BK737.out 0
                                go_wp2_with (first | ((with_reducible refine gate_callee (f := 47) rfl ?_); refine goesL_ (some 95) rfl rfl Try.func47 (by kernel_rfl) rfl #[.agg #[.slice Ao33 t747.length co33], .int .i64 1] rfl (by (try simp only [List.map_toArray, List.map_cons, List.map_nil]); first | done | rfl | (simp only [List.length_drop, List.length_take]; rfl)) ?_; (with_reducible refine (laws_heldTasks.calls kj103 _ _ t747 1 t758 _ ?side1 ?side2 A148.out).mono ?_); (case side1 => repeat (first | exact (Kd.R_reads' HO_738000.out).2.2 | (with_reducible refine Kd.C_alloc ?_ _) | (with_reducible refine Kd.C_drewN ?_ _) | (with_reducible refine Kd.C_drew ?_))); (case side2 => exact (Kd.R_reads' HO_738000.out).2.1); rintro e w162 ⟨rfl, hb⟩; refine ⟨_, rfl, ?_⟩; have n0_ := Aside0.mk (Kd.R_below (by (with_reducible repeat (first | apply Kd.R_alloc | apply Kd.R_drewN | apply Kd.R_drew)); exact HO_729000.out) hb); have n1_ := Aside0.mk (Kd.R_below (by (with_reducible repeat (first | apply Kd.R_alloc | apply Kd.R_drewN | apply Kd.R_drew)); exact HO_733000.out) hb); have n2_ := Aside0.mk (Kd.R_below (by (with_reducible repeat (first | apply Kd.R_alloc | apply Kd.R_drewN | apply Kd.R_drew)); exact HO_738000.out) hb); have n3_ := Aside0.mk (Kd.R_below (by (with_reducible repeat (first | apply Kd.R_alloc | apply Kd.R_drewN | apply Kd.R_drew)); exact HO_757000.out) hb); have n4_ := Aside0.mk (blk_below (g := gb719) (o := .cells #[.slice A0_0 l0_0.length c0_0] 24 (0, 0)) (by (with_reducible repeat (first | refine blk_drewN ?_ _ | refine blk_drew ?_ | refine blk_alloc ?_ _)); exact BK719.out) hb); have n5_ := Aside0.mk (blk_below (g := gb728) (o := .cells #[.slice Ao21 t724.length co21] 37 (0, 0)) (by (with_reducible repeat (first | refine blk_drewN ?_ _ | refine blk_drew ?_ | refine blk_alloc ?_ _)); exact BK728.out) hb); have n6_ := Aside0.mk (blk_below (g := gb732) (o := .cells #[.slice Ao27 t744.length co27] 28 (0, 0)) (by (with_reducible repeat (first | refine blk_drewN ?_ _ | refine blk_drew ?_ | refine blk_alloc ?_ _)); exact BK732.out) hb); have n7_ := Aside0.mk (blk_below (g := gb737) (o := .cells #[.slice Ao33 t747.length co33] 37 (0, 0)) (by (with_reducible repeat (first | refine blk_drewN ?_ _ | refine blk_drew ?_ | refine blk_alloc ?_ _)); exact BK737.out) hb); have n8_ := Aside0.mk (blk_below (g := gb756) (o := .cells #[.slice Ao119 t752.length co119] 37 (0, 0)) (by (with_reducible repeat (first | refine blk_drewN ?_ _ | refine blk_drew ?_ | refine blk_alloc ?_ _)); exact BK756.out) hb); have n9_ := Aside0.mk (below_step (by repeat (first | (with_reducible first | exact HB.out | apply below_alloc | apply pw_below_drewN | apply below_drew1 | refine below_set ?_ GE719.out | refine below_set ?_ GE728.out | refine below_set ?_ GE732.out | refine below_set ?_ GE737.out | refine below_set ?_ GE756.out) | exact HB.out)) hb); clear HO_729000; clear HO_733000; clear HO_738000; clear HO_757000; clear BK719; clear BK728; clear BK732; clear BK737; clear BK756; clear HB; have HO_729000 := n0_; have HO_733000 := n1_; have HO_738000 := n2_; have HO_757000 := n3_; have BK719 := n4_; have BK728 := n5_; have BK732 := n6_; have BK737 := n7_; have BK756 := n8_; have HB := n9_; clear n0_ n1_ n2_ n3_ n4_ n5_ n6_ n7_ n8_ n9_; (try clear hb); (try clear hb2); (try clear hk); (try clear hi)))
                                go_ret
                                exact ⟨by first | rfl | (simp [errW_none, errW_some] <;> rfl) | (simp [*, errW_none, errW_some] <;> rfl), by repeat (first | (with_reducible first | exact HB.out | apply below_alloc | apply pw_below_drewN | apply below_drew1 | refine below_set ?_ GE719.out | refine below_set ?_ GE728.out | refine below_set ?_ GE732.out | refine below_set ?_ GE737.out | refine below_set ?_ GE756.out) | exact HB.out)⟩
                              · rw [if_neg c156] at H
                                have c156b0 : (t758 == t746) = false := beq_eq_false_iff_ne.mpr c156
                                have c156b1 : (t758 != t746) = true := bne_iff_ne.mpr c156
                                (try (have c156h_hl733000_60 := c156b0; rw [hl733000_60] at c156h_hl733000_60))
                                (try (have c156h_hl738000_103 := c156b0; rw [hl738000_103] at c156h_hl738000_103))
                                obtain rfl := Option.some.inj H
                                have hnb163 := NB737_719.out
                                have hnc163 := NB719_737.out
                                have hnb164 := NB737_728.out
                                have hnc164 := NB728_737.out
                                have hnb165 := NB737_732.out
                                have hnc165 := NB732_737.out
                                have hnb166 := NB737_756.out
                                have hnc166 := NB756_737.out
                                have hcz167_0 : wc.cell? ⟨gb737, 0, none⟩ = some (.slice Ao33 t747.length co33) := (blk_cell BK737.out 0).trans rfl
                                have hfz167_0 := blk_frozen BK737.out 0
                                go_wp2_with (first | ((with_reducible refine gate_callee (f := 47) rfl ?_); refine goesL_ (some 95) rfl rfl Try.func47 (by kernel_rfl) rfl #[.agg #[.slice Ao33 t747.length co33], .int .i64 1] rfl (by (try simp only [List.map_toArray, List.map_cons, List.map_nil]); first | done | rfl | (simp only [List.length_drop, List.length_take]; rfl)) ?_; (with_reducible refine (laws_heldTasks.calls kj103 _ _ t747 1 t758 _ ?side1 ?side2 A148.out).mono ?_); (case side1 => repeat (first | exact (Kd.R_reads' HO_738000.out).2.2 | (with_reducible refine Kd.C_alloc ?_ _) | (with_reducible refine Kd.C_drewN ?_ _) | (with_reducible refine Kd.C_drew ?_))); (case side2 => exact (Kd.R_reads' HO_738000.out).2.1); rintro e w168 ⟨rfl, hb⟩; refine ⟨_, rfl, ?_⟩; have n0_ := Aside0.mk (Kd.R_below (by (with_reducible repeat (first | apply Kd.R_alloc | apply Kd.R_drewN | apply Kd.R_drew)); exact HO_729000.out) hb); have n1_ := Aside0.mk (Kd.R_below (by (with_reducible repeat (first | apply Kd.R_alloc | apply Kd.R_drewN | apply Kd.R_drew)); exact HO_733000.out) hb); have n2_ := Aside0.mk (Kd.R_below (by (with_reducible repeat (first | apply Kd.R_alloc | apply Kd.R_drewN | apply Kd.R_drew)); exact HO_738000.out) hb); have n3_ := Aside0.mk (Kd.R_below (by (with_reducible repeat (first | apply Kd.R_alloc | apply Kd.R_drewN | apply Kd.R_drew)); exact HO_757000.out) hb); have n4_ := Aside0.mk (blk_below (g := gb719) (o := .cells #[.slice A0_0 l0_0.length c0_0] 24 (0, 0)) (by (with_reducible repeat (first | refine blk_drewN ?_ _ | refine blk_drew ?_ | refine blk_alloc ?_ _)); exact BK719.out) hb); have n5_ := Aside0.mk (blk_below (g := gb728) (o := .cells #[.slice Ao21 t724.length co21] 37 (0, 0)) (by (with_reducible repeat (first | refine blk_drewN ?_ _ | refine blk_drew ?_ | refine blk_alloc ?_ _)); exact BK728.out) hb); have n6_ := Aside0.mk (blk_below (g := gb732) (o := .cells #[.slice Ao27 t744.length co27] 28 (0, 0)) (by (with_reducible repeat (first | refine blk_drewN ?_ _ | refine blk_drew ?_ | refine blk_alloc ?_ _)); exact BK732.out) hb); have n7_ := Aside0.mk (blk_below (g := gb737) (o := .cells #[.slice Ao33 t747.length co33] 37 (0, 0)) (by (with_reducible repeat (first | refine blk_drewN ?_ _ | refine blk_drew ?_ | refine blk_alloc ?_ _)); exact BK737.out) hb); have n8_ := Aside0.mk (blk_below (g := gb756) (o := .cells #[.slice Ao119 t752.length co119] 37 (0, 0)) (by (with_reducible repeat (first | refine blk_drewN ?_ _ | refine blk_drew ?_ | refine blk_alloc ?_ _)); exact BK756.out) hb); have n9_ := Aside0.mk (below_step (by repeat (first | (with_reducible first | exact HB.out | apply below_alloc | apply pw_below_drewN | apply below_drew1 | refine below_set ?_ GE719.out | refine below_set ?_ GE728.out | refine below_set ?_ GE732.out | refine below_set ?_ GE737.out | refine below_set ?_ GE756.out) | exact HB.out)) hb); clear HO_729000; clear HO_733000; clear HO_738000; clear HO_757000; clear BK719; clear BK728; clear BK732; clear BK737; clear BK756; clear HB; have HO_729000 := n0_; have HO_733000 := n1_; have HO_738000 := n2_; have HO_757000 := n3_; have BK719 := n4_; have BK728 := n5_; have BK732 := n6_; have BK737 := n7_; have BK756 := n8_; have HB := n9_; clear n0_ n1_ n2_ n3_ n4_ n5_ n6_ n7_ n8_ n9_; (try clear hb); (try clear hb2); (try clear hk); (try clear hi)))
                                go_ret
                                exact ⟨by first | rfl | (simp [errW_none, errW_some] <;> rfl) | (simp [*, errW_none, errW_some] <;> rfl), by repeat (first | (with_reducible first | exact HB.out | apply below_alloc | apply pw_below_drewN | apply below_drew1 | refine below_set ?_ GE719.out | refine below_set ?_ GE728.out | refine below_set ?_ GE732.out | refine below_set ?_ GE737.out | refine below_set ?_ GE756.out) | exact HB.out)⟩
                    · rw [if_neg c101] at H
                      have c101b0 : (t748 == t746) = false := beq_eq_false_iff_ne.mpr c101
                      have c101b1 : (t748 != t746) = true := bne_iff_ne.mpr c101
                      (try (have c101h_hl733000_60 := c101b0; rw [hl733000_60] at c101h_hl733000_60))
                      obtain rfl := Option.some.inj H
                      have hnb169 := NB737_719.out
                      have hnc169 := NB719_737.out
                      have hnb170 := NB737_728.out
                      have hnc170 := NB728_737.out
                      have hnb171 := NB737_732.out
                      have hnc171 := NB732_737.out
                      have hcz172_0 : wc.cell? ⟨gb737, 0, none⟩ = some (.slice Ao33 t733.length co33) := (blk_cell BK737.out 0).trans rfl
                      have hfz172_0 := blk_frozen BK737.out 0
                      go_wp2_with (first | ((with_reducible refine gate_callee (f := 41) rfl ?_); refine goesL_ (some 68) rfl rfl Try.func41 (by kernel_rfl) rfl #[.agg #[.slice Ao33 t733.length co33], .int .i64 1] rfl (by (try simp only [List.map_toArray, List.map_cons, List.map_nil]); first | done | rfl | (simp only [List.length_drop, List.length_take]; rfl)) ?_; (with_reducible refine (laws_markTasks.calls kj60 (fun k_ => some k_ = (.slice Ao33 t733.length co33 : Value).ownBlock) (.slice Ao33 t733.length co33) t733 1 t746 t747 w _ ?side1 ?side2 A91.out).mono ?_); (case side1 => repeat (first | (with_reducible first | exact HB.out | apply below_alloc | apply pw_below_drewN | apply below_drew1 | refine below_set ?_ GE719.out | refine below_set ?_ GE728.out | refine below_set ?_ GE732.out | refine below_set ?_ GE737.out) | exact HB.out)); (case side2 => exact Kd.R_tight rfl HO_738000.out); rintro e w173 ⟨rfl, hy0, hb, hkp⟩; refine ⟨_, rfl, ?_⟩; have n0_ := Aside0.mk (Kd.R_mono (ok' := fun k_ => some k_ ≠ (.slice Ao27 t744.length co27 : Value).ownBlock ∧ some k_ ≠ (.slice Ao33 t733.length co33 : Value).ownBlock) (Kd.R_keptB (HO_729000.out) hkp (fun k_ hk_ hs_ => (hk_.2) hs_)) (fun k_ hk_ => ⟨hk_.1.1, hk_.1.2⟩)); have n1_ := Aside0.mk (Kd.R_mono (ok' := fun k_ => some k_ ≠ (.slice Ao21 t724.length co21 : Value).ownBlock ∧ some k_ ≠ (.slice Ao33 t733.length co33 : Value).ownBlock) (Kd.R_keptB (HO_733000.out) hkp (fun k_ hk_ hs_ => (hk_.2) hs_)) (fun k_ hk_ => ⟨hk_.1.1, hk_.1.2⟩)); have n2_ := Aside0.mk (Kd.R_reok rfl hy0 (fun k_ e_ => HO_738000.out.1 k_ e_)); have n3_ := Aside0.mk (blk_kept (by (with_reducible repeat (first | refine blk_drewN ?_ _ | refine blk_drew ?_ | refine blk_alloc ?_ _)); exact BK719.out) hkp (fun hs_ => (fun e_ => (Kd.R_ne HO_738000.out BK719.out (by decide)) e_) hs_)); have n4_ := Aside0.mk (blk_kept (by (with_reducible repeat (first | refine blk_drewN ?_ _ | refine blk_drew ?_ | refine blk_alloc ?_ _)); exact BK728.out) hkp (fun hs_ => (fun e_ => (Kd.R_ne HO_738000.out BK728.out (by decide)) e_) hs_)); have n5_ := Aside0.mk (blk_kept (by (with_reducible repeat (first | refine blk_drewN ?_ _ | refine blk_drew ?_ | refine blk_alloc ?_ _)); exact BK732.out) hkp (fun hs_ => (fun e_ => (Kd.R_ne HO_738000.out BK732.out (by decide)) e_) hs_)); have n6_ := Aside0.mk (blk_kept (by (with_reducible repeat (first | refine blk_drewN ?_ _ | refine blk_drew ?_ | refine blk_alloc ?_ _)); exact BK737.out) hkp (fun hs_ => (fun e_ => (Kd.R_ne HO_738000.out BK737.out (by decide)) e_) hs_)); have n7_ := Aside0.mk (hb); clear HO_729000; clear HO_733000; clear HO_738000; clear BK719; clear BK728; clear BK732; clear BK737; clear HB; have HO_729000 := n0_; have HO_733000 := n1_; have HO_738000 := n2_; have BK719 := n3_; have BK728 := n4_; have BK732 := n5_; have BK737 := n6_; have HB := n7_; clear n0_ n1_ n2_ n3_ n4_ n5_ n6_ n7_; (try clear hb); (try clear hkp); (try clear hy0); have hcz174_0 : w173.cell? ⟨gb737, 0, none⟩ = some (.slice Ao33 t733.length co33) := (blk_cell BK737.out 0).trans rfl; have hfz174_0 := blk_frozen BK737.out 0) | ((with_reducible refine gate_callee (f := 47) rfl ?_); refine goesL_ (some 71) rfl rfl Try.func47 (by kernel_rfl) rfl #[.agg #[.slice Ao33 t747.length co33], .int .i64 1] rfl (by (try simp only [List.map_toArray, List.map_cons, List.map_nil]); first | done | (rw [show t747.length = t733.length from (Kd.R_reads' HO_738000.out).1.symm] <;> rfl) | rfl | (simp only [List.length_drop, List.length_take]; rfl)) ?_; (with_reducible refine (laws_heldTasks.calls kj60 _ _ t747 1 t748 _ ?side1 ?side2 A92.out).mono ?_); (case side1 => repeat (first | exact (Kd.R_reads' HO_738000.out).2.2 | (with_reducible refine Kd.C_alloc ?_ _) | (with_reducible refine Kd.C_drewN ?_ _) | (with_reducible refine Kd.C_drew ?_))); (case side2 => rw [show t747.length = t733.length from (Kd.R_reads' HO_738000.out).1.symm]; exact (Kd.R_reads' HO_738000.out).2.1); rintro e w175 ⟨rfl, hb⟩; refine ⟨_, rfl, ?_⟩; have n0_ := Aside0.mk (Kd.R_below (by (with_reducible repeat (first | apply Kd.R_alloc | apply Kd.R_drewN | apply Kd.R_drew)); exact HO_729000.out) hb); have n1_ := Aside0.mk (Kd.R_below (by (with_reducible repeat (first | apply Kd.R_alloc | apply Kd.R_drewN | apply Kd.R_drew)); exact HO_733000.out) hb); have n2_ := Aside0.mk (Kd.R_below (by (with_reducible repeat (first | apply Kd.R_alloc | apply Kd.R_drewN | apply Kd.R_drew)); exact HO_738000.out) hb); have n3_ := Aside0.mk (blk_below (g := gb719) (o := .cells #[.slice A0_0 l0_0.length c0_0] 24 (0, 0)) (by (with_reducible repeat (first | refine blk_drewN ?_ _ | refine blk_drew ?_ | refine blk_alloc ?_ _)); exact BK719.out) hb); have n4_ := Aside0.mk (blk_below (g := gb728) (o := .cells #[.slice Ao21 t724.length co21] 37 (0, 0)) (by (with_reducible repeat (first | refine blk_drewN ?_ _ | refine blk_drew ?_ | refine blk_alloc ?_ _)); exact BK728.out) hb); have n5_ := Aside0.mk (blk_below (g := gb732) (o := .cells #[.slice Ao27 t744.length co27] 28 (0, 0)) (by (with_reducible repeat (first | refine blk_drewN ?_ _ | refine blk_drew ?_ | refine blk_alloc ?_ _)); exact BK732.out) hb); have n6_ := Aside0.mk (blk_below (g := gb737) (o := .cells #[.slice Ao33 t733.length co33] 37 (0, 0)) (by (with_reducible repeat (first | refine blk_drewN ?_ _ | refine blk_drew ?_ | refine blk_alloc ?_ _)); exact BK737.out) hb); have n7_ := Aside0.mk (below_step (by repeat (first | (with_reducible first | exact HB.out | apply below_alloc | apply pw_below_drewN | apply below_drew1 | refine below_set ?_ GE719.out | refine below_set ?_ GE728.out | refine below_set ?_ GE732.out | refine below_set ?_ GE737.out) | exact HB.out)) hb); clear HO_729000; clear HO_733000; clear HO_738000; clear BK719; clear BK728; clear BK732; clear BK737; clear HB; have HO_729000 := n0_; have HO_733000 := n1_; have HO_738000 := n2_; have BK719 := n3_; have BK728 := n4_; have BK732 := n5_; have BK737 := n6_; have HB := n7_; clear n0_ n1_ n2_ n3_ n4_ n5_ n6_ n7_; (try clear hb); (try clear hb2); (try clear hk); (try clear hi)))
                      go_ret
                      exact ⟨by first | rfl | (simp [errW_none, errW_some] <;> rfl) | (simp [*, errW_none, errW_some] <;> rfl), by repeat (first | (with_reducible first | exact HB.out | apply below_alloc | apply pw_below_drewN | apply below_drew1 | refine below_set ?_ GE719.out | refine below_set ?_ GE728.out | refine below_set ?_ GE732.out | refine below_set ?_ GE737.out) | exact HB.out)⟩
          · replace c59 := Bool.eq_false_iff.mpr c59
            subst c59
            have H1 : (some false) = some r := by rw [if_neg (show ¬ (false = true) by decide)] at H; exact H
            clear H
            have H := H1
            clear H1
            obtain rfl := Option.some.inj H
            try go_wp2
            have n0_ := Aside0.mk (Kd.R_drew HO_729000.out)
            have n1_ := Aside0.mk (Kd.R_drew HO_733000.out)
            have n2_ := Aside0.mk (Kd.R_drew HO_738000.out)
            have n3_ := Aside0.mk (blk_drew BK719.out)
            have n4_ := Aside0.mk (blk_drew BK728.out)
            have n5_ := Aside0.mk (blk_drew BK732.out)
            have n6_ := Aside0.mk (blk_drew BK737.out)
            have n7_ := Aside0.mk (below_drew1 HB.out)
            clear HO_729000
            clear HO_733000
            clear HO_738000
            clear BK719
            clear BK728
            clear BK732
            clear BK737
            clear HB
            have HO_729000 := n0_
            have HO_733000 := n1_
            have HO_738000 := n2_
            have BK719 := n3_
            have BK728 := n4_
            have BK732 := n5_
            have BK737 := n6_
            have HB := n7_
            clear n0_ n1_ n2_ n3_ n4_ n5_ n6_ n7_
            refine start_ (n := 5) (S := fun w' => w'.cell? ⟨gb732, 0, none⟩ = some (.slice Ao27 t729.length co27) ∧ w'.cell? ⟨gb719, 0, none⟩ = some (.slice A0_0 l0_0.length c0_0)) (ds := []) #[false, false, false, false, false] (by kernel_rfl) rfl rfl ⟨(blk_cell BK732.out 0).trans rfl, (blk_cell BK719.out 0).trans rfl⟩ (fun hHeld => ?_)
            generalize wc.drew = w176 at HO_729000 HO_733000 HO_738000 BK719 BK728 BK732 BK737 HB hHeld ⊢
            refine take_ (i := 0) (N := some 45) (v := ?_) (a' := ?_) #[true, false, false, false, false] rfl rfl (by kernel_rfl) (fun _ _ _ h => h) (Or.inl ⟨by rfl, ?_⟩) hHeld ?_ ?_
            rotate_left
            · rintro w' ⟨s0, s1⟩
              go_simp
              with_reducible rfl
            rotate_left
            · simp only [Act.put, List.setIfInBounds_toArray, List.set_cons_zero, List.set_cons_succ, i64_w, i32_w]
              rfl
            refine take_ (i := 1) (N := some 46) (v := ?_) (a' := ?_) #[true, true, false, false, false] rfl rfl (by kernel_rfl) (fun _ _ _ h => h) (Or.inl ⟨by rfl, ?_⟩) hHeld ?_ ?_
            rotate_left
            · rintro w' ⟨s0, s1⟩
              go_simp
              with_reducible rfl
            rotate_left
            · simp only [Act.put, List.setIfInBounds_toArray, List.set_cons_zero, List.set_cons_succ, i64_w, i32_w]
              rfl
            refine one_ (i := 2) (N := some 47) #[true, true, true, false, false] rfl rfl (by kernel_rfl) (by decide) (fun K hK => ?_)
            refine goes_ Try.func18 (by kernel_rfl) rfl #[.agg #[.slice A0_0 l0_0.length c0_0]] (by rfl) rfl rfl (by (try simp only [List.map_toArray, List.map_cons, List.map_nil]); first | done | rfl | (simp only [List.length_drop, List.length_take]; rfl)) ?_
            with_reducible refine (laws_toGarden.calls kj11 _ _ l0_0 t739 _ ?side1 ?side2 A57.out).mono ?_
            (case side1 => repeat (first | exact (Kd.C_below HR0_0.out HB.out) | (with_reducible refine Kd.C_alloc ?_ _) | (with_reducible refine Kd.C_drewN ?_ _) | (with_reducible refine Kd.C_drew ?_)))
            (case side2 => exact HC0_0.out)
            rintro e w177 ⟨v740, rfl, ho0, hb⟩
            refine ⟨_, rfl, ?_⟩
            have n0_ := Aside0.mk (Kd.R_elder' (by (with_reducible repeat (first | apply Kd.R_alloc | apply Kd.R_drewN | apply Kd.R_drew)); exact HO_729000.out) (Kd.R_base ho0) hb)
            have n1_ := Aside0.mk (Kd.R_elder' (by (with_reducible repeat (first | apply Kd.R_alloc | apply Kd.R_drewN | apply Kd.R_drew)); exact HO_733000.out) (Kd.R_base ho0) hb)
            have n2_ := Aside0.mk (Kd.R_elder' (by (with_reducible repeat (first | apply Kd.R_alloc | apply Kd.R_drewN | apply Kd.R_drew)); exact HO_738000.out) (Kd.R_base ho0) hb)
            have n3_ := Aside0.mk (Kd.R_lower (Kd.R_new' (Kd.R_new' (Kd.R_new' ho0 (Kd.R_lt (by (with_reducible repeat (first | apply Kd.R_alloc | apply Kd.R_drewN | apply Kd.R_drew)); exact HO_729000.out))) (Kd.R_lt (by (with_reducible repeat (first | apply Kd.R_alloc | apply Kd.R_drewN | apply Kd.R_drew)); exact HO_733000.out))) (Kd.R_lt (by (with_reducible repeat (first | apply Kd.R_alloc | apply Kd.R_drewN | apply Kd.R_drew)); exact HO_738000.out))) (below_size (by repeat (first | (with_reducible first | exact HB.out | apply below_alloc | apply pw_below_drewN | apply below_drew1 | refine below_set ?_ GE719.out | refine below_set ?_ GE728.out | refine below_set ?_ GE732.out | refine below_set ?_ GE737.out) | exact HB.out))))
            have n4_ := Aside0.mk (blk_below (g := gb719) (o := .cells #[.slice A0_0 l0_0.length c0_0] 24 (0, 0)) (by (with_reducible repeat (first | refine blk_drewN ?_ _ | refine blk_drew ?_ | refine blk_alloc ?_ _)); exact BK719.out) hb)
            have n5_ := Aside0.mk (blk_below (g := gb728) (o := .cells #[.slice Ao21 t724.length co21] 37 (0, 0)) (by (with_reducible repeat (first | refine blk_drewN ?_ _ | refine blk_drew ?_ | refine blk_alloc ?_ _)); exact BK728.out) hb)
            have n6_ := Aside0.mk (blk_below (g := gb732) (o := .cells #[.slice Ao27 t729.length co27] 28 (0, 0)) (by (with_reducible repeat (first | refine blk_drewN ?_ _ | refine blk_drew ?_ | refine blk_alloc ?_ _)); exact BK732.out) hb)
            have n7_ := Aside0.mk (blk_below (g := gb737) (o := .cells #[.slice Ao33 t733.length co33] 37 (0, 0)) (by (with_reducible repeat (first | refine blk_drewN ?_ _ | refine blk_drew ?_ | refine blk_alloc ?_ _)); exact BK737.out) hb)
            have n8_ := Aside0.mk (below_step (by repeat (first | (with_reducible first | exact HB.out | apply below_alloc | apply pw_below_drewN | apply below_drew1 | refine below_set ?_ GE719.out | refine below_set ?_ GE728.out | refine below_set ?_ GE732.out | refine below_set ?_ GE737.out) | exact HB.out)) hb)
            clear HO_729000
            clear HO_733000
            clear HO_738000
            clear BK719
            clear BK728
            clear BK732
            clear BK737
            clear HB
            have HO_729000 := n0_
            have HO_733000 := n1_
            have HO_738000 := n2_
            have HO741 := n3_
            have BK719 := n4_
            have BK728 := n5_
            have BK732 := n6_
            have BK737 := n7_
            have HB := n8_
            clear n0_ n1_ n2_ n3_ n4_ n5_ n6_ n7_ n8_
            (try clear hb)
            (try clear hb2)
            (try clear hk)
            (try clear hi)
            (try clear ho0)
            obtain ⟨Ao178, co178, eo178⟩ := Kd.R_slice HO741.out
            (first | subst eo178 | (injection eo178 with f1_ f2_ f3_; have f4_ := f1_.symm; have f5_ := f3_.symm; clear f1_ f2_ f3_; subst f4_; subst f5_))
            refine hK.out _ _ ⟨(blk_cell BK732.out 0).trans rfl, (blk_cell BK719.out 0).trans rfl⟩ (fun hHeld => ?_)
            clear hK K
            refine norm_ (a' := ?_) ?_ ?_
            rotate_left
            · show Act.put _ (some 47) _ = _
              simp only [Act.put, List.setIfInBounds_toArray, List.set_cons_zero, List.set_cons_succ, i64_w, i32_w]
              rfl
            refine one_ (i := 3) (N := some 48) #[true, true, true, true, false] rfl rfl (by kernel_rfl) (by decide) (fun K hK => ?_)
            refine goes_ Try.func20 (by kernel_rfl) rfl #[.agg #[.slice Ao27 t729.length co27], .agg #[.slice Ao178 t739.length co178]] (by rfl) rfl rfl (by (try simp only [List.map_toArray, List.map_cons, List.map_nil]); first | done | rfl | (simp only [List.length_drop, List.length_take]; rfl)) ?_
            with_reducible refine (laws_eqGarden.calls kj11 _ _ t729 _ _ t739 false _ ?side1 ?side2 ?side3 ?side4 A58.out).mono ?_
            (case side1 => repeat (first | exact (Kd.R_reads' HO_733000.out).2.2 | (with_reducible refine Kd.C_alloc ?_ _) | (with_reducible refine Kd.C_drewN ?_ _) | (with_reducible refine Kd.C_drew ?_)))
            (case side2 => exact (Kd.R_reads' HO_733000.out).2.1)
            (case side3 => repeat (first | exact (Kd.R_reads' HO741.out).2.2 | (with_reducible refine Kd.C_alloc ?_ _) | (with_reducible refine Kd.C_drewN ?_ _) | (with_reducible refine Kd.C_drew ?_)))
            (case side4 => exact (Kd.R_reads' HO741.out).2.1)
            rintro e w179 ⟨rfl, hb⟩
            refine ⟨_, rfl, ?_⟩
            have n0_ := Aside0.mk (Kd.R_below (by (with_reducible repeat (first | apply Kd.R_alloc | apply Kd.R_drewN | apply Kd.R_drew)); exact HO_729000.out) hb)
            have n1_ := Aside0.mk (Kd.R_below (by (with_reducible repeat (first | apply Kd.R_alloc | apply Kd.R_drewN | apply Kd.R_drew)); exact HO_733000.out) hb)
            have n2_ := Aside0.mk (Kd.R_below (by (with_reducible repeat (first | apply Kd.R_alloc | apply Kd.R_drewN | apply Kd.R_drew)); exact HO_738000.out) hb)
            have n3_ := Aside0.mk (Kd.R_below (by (with_reducible repeat (first | apply Kd.R_alloc | apply Kd.R_drewN | apply Kd.R_drew)); exact HO741.out) hb)
            have n4_ := Aside0.mk (blk_below (g := gb719) (o := .cells #[.slice A0_0 l0_0.length c0_0] 24 (0, 0)) (by (with_reducible repeat (first | refine blk_drewN ?_ _ | refine blk_drew ?_ | refine blk_alloc ?_ _)); exact BK719.out) hb)
            have n5_ := Aside0.mk (blk_below (g := gb728) (o := .cells #[.slice Ao21 t724.length co21] 37 (0, 0)) (by (with_reducible repeat (first | refine blk_drewN ?_ _ | refine blk_drew ?_ | refine blk_alloc ?_ _)); exact BK728.out) hb)
            have n6_ := Aside0.mk (blk_below (g := gb732) (o := .cells #[.slice Ao27 t729.length co27] 28 (0, 0)) (by (with_reducible repeat (first | refine blk_drewN ?_ _ | refine blk_drew ?_ | refine blk_alloc ?_ _)); exact BK732.out) hb)
            have n7_ := Aside0.mk (blk_below (g := gb737) (o := .cells #[.slice Ao33 t733.length co33] 37 (0, 0)) (by (with_reducible repeat (first | refine blk_drewN ?_ _ | refine blk_drew ?_ | refine blk_alloc ?_ _)); exact BK737.out) hb)
            have n8_ := Aside0.mk (below_step (by repeat (first | (with_reducible first | exact HB.out | apply below_alloc | apply pw_below_drewN | apply below_drew1 | refine below_set ?_ GE719.out | refine below_set ?_ GE728.out | refine below_set ?_ GE732.out | refine below_set ?_ GE737.out) | exact HB.out)) hb)
            clear HO_729000
            clear HO_733000
            clear HO_738000
            clear HO741
            clear BK719
            clear BK728
            clear BK732
            clear BK737
            clear HB
            have HO_729000 := n0_
            have HO_733000 := n1_
            have HO_738000 := n2_
            have HO741 := n3_
            have BK719 := n4_
            have BK728 := n5_
            have BK732 := n6_
            have BK737 := n7_
            have HB := n8_
            clear n0_ n1_ n2_ n3_ n4_ n5_ n6_ n7_ n8_
            (try clear hb)
            (try clear hb2)
            (try clear hk)
            (try clear hi)
            refine hK.out _ _ ⟨(blk_cell BK732.out 0).trans rfl, (blk_cell BK719.out 0).trans rfl⟩ (fun hHeld => ?_)
            clear hK K
            refine norm_ (a' := ?_) ?_ ?_
            rotate_left
            · show Act.put _ (some 48) _ = _
              simp only [Act.put, List.setIfInBounds_toArray, List.set_cons_zero, List.set_cons_succ, i64_w, i32_w]
              rfl
            refine pure_ (i := 4) (N := some 49) (v := ?_) (a' := ?_) #[true, true, true, true, true] rfl rfl (by kernel_rfl) (fun _ _ _ h => h) (Or.inl ⟨by rfl, ?_⟩) ?_ ?_
            rotate_left
            · intro w'
              go_simp
              with_reducible rfl
            rotate_left
            · simp only [Act.put, List.setIfInBounds_toArray, List.set_cons_zero, List.set_cons_succ, i64_w, i32_w]
              rfl
            refine done_ (by kernel_rfl) ?_
            try go_wp2
            go_ret
            exact ⟨by first | rfl | (simp [errW_none, errW_some] <;> rfl) | (simp [*, errW_none, errW_some] <;> rfl), by repeat (first | (with_reducible first | exact HB.out | apply below_alloc | apply pw_below_drewN | apply below_drew1 | refine below_set ?_ GE719.out | refine below_set ?_ GE728.out | refine below_set ?_ GE732.out | refine below_set ?_ GE737.out) | exact HB.out)⟩

/-- THE ONE PURE STATEMENT of laws_FnExactTasksOfGarden: yours. -/
def laws_FnExactTasksOfGarden.Pure : Prop := ∀ (l0_0 : List Int) (a1 : Int), l0_0.length ≤ maxLen → (∀ x ∈ l0_0, (Lit.int .i64 x).wf = true) → (Lit.int .i64 a1).wf = true → ∃ k, laws_FnExactTasksOfGarden.f k l0_0 a1 = some true
theorem laws_FnExactTasksOfGarden.walk (P : laws_FnExactTasksOfGarden.Pure) (a0_0 : Option Addr) (len0_0 cap0_0 : Nat) (z0_0 : List Int) (a1 : Int) (w : World) (w0_0 : (a0_0 = none ∧ len0_0 = 0 ∧ cap0_0 = 0 ∧ z0_0 = []) ∨ ∃ x, a0_0 = some x ∧ len0_0 ≤ cap0_0 ∧ cap0_0 ≤ maxLen ∧ z0_0.length = cap0_0 ∧ (∀ i, i < z0_0.length → w.cell? (x.add i) = some (.int .i64 (z0_0.getD i 0))) ∧ ∀ n ∈ z0_0, (Lit.int .i64 n).wf = true) (w1 : (Lit.int .i64 a1).wf = true) :
    Calls Try.prog 13 #[.agg #[.slice a0_0 len0_0 cap0_0], .int .i64 a1] w fun e w' => e = .returned (.bool true) ∧ Below w.heap.size w w' := by
  obtain ⟨l0_0, rfl, hr0_0, hm0_0, hw0_0, hc0_0⟩ := ReadsInt.ofRowC w0_0
  obtain ⟨k, h⟩ := P l0_0 a1 hm0_0 hw0_0 w1
  refine (laws_FnExactTasksOfGarden.calls k _ _ l0_0 a1 true w (Kd.C_of_reads (d := (0 : Int)) (h1 := fun _ => rfl) hr0_0) hc0_0 h).mono ?_
  rintro e w' ⟨rfl, hd⟩
  exact ⟨rfl, hd⟩

end Go.Proofs.Ytfephoddgifapaa.X
