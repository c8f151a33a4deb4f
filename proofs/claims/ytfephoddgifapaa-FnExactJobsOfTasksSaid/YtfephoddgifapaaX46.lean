/- Written by wip/tool/xprint.py for this claim: functions as plain Lean functions, each with a proof that the Go code comes to its answers; no condition beside those stated. -/
import Derived.Test.YtfephoddgifapaaX0
import Derived.Test.YtfephoddgifapaaX1
import Derived.Test.YtfephoddgifapaaX3
import Derived.Test.YtfephoddgifapaaX5
import Derived.Test.YtfephoddgifapaaX29
import Derived.Test.YtfephoddgifapaaX43
import Derived.Test.YtfephoddgifapaaX44
import Derived.Test.YtfephoddgifapaaX45
namespace Go.Proofs.Ytfephoddgifapaa.X
open Go.RowKit Go.Proofs.YtfephoddgifapaaW.PrintWords Go.Proofs.YtfephoddgifapaaW.PrintLast Go.Proofs.YtfephoddgifapaaW.PrintMore
attribute [local go_sem] max2_int min2_int max_two min_two max_three min_three max_four min_four   -- for this text's walks alone
set_option linter.unusedVariables false
set_option linter.unusedSimpArgs false

set_option linter.defProp false
def kra := @Kd.R_alloc
def krn := @Kd.R_drewN
def krd := @Kd.R_drew
def bkn := @blk_drewN
def bkd := @blk_drew
def bka := @blk_alloc
def bse := @below_set
def amk := @Aside0.mk
/-! ### laws_FnExactJobsOfTasks: function 10 -/
mutual
def laws_FnExactJobsOfTasks.j0 : Nat → Int → Int → Bool → List Int → List Int → List Int → List Int → List Int → List Int → List Int → List Int → Option (Bool)
 | 0, _, _, _, _, _, _, _, _, _, _, _ => none
 | k + 1, x5, x8, x40, cL, cM, cN, cO, dD, cB, cC, cD => if x40 = true then (some false) else ((laws_toTasks.f k cL).bind fun ch => ((laws_eqTasks.f k dD ch).bind fun t737 => (if t737 = true then ((laws_markTasks.f k dD 1).bind fun cK => (if cK.1 < 0 then (laws_FnExactJobsOfTasks.j1 k x5 true cL cM cN cO cB cC cD) else ((laws_eqJobs.f k cB cC cD cM cN cO).bind fun cE => (if cE = true then (laws_FnExactJobsOfTasks.j1 k x5 (x8 != x5) cL cM cN cO cB cC cD) else (laws_FnExactJobsOfTasks.j1 k x5 true cL cM cN cO cB cC cD))))) else (some false))))
def laws_FnExactJobsOfTasks.j1 : Nat → Int → Bool → List Int → List Int → List Int → List Int → List Int → List Int → List Int → Option (Bool)
 | 0, _, _, _, _, _, _, _, _, _ => none
 | k + 1, x5, x61, cL, cM, cN, cO, cB, cC, cD => if x61 = true then (some false) else ((laws_markJobs.f k cB cC cD 1).bind fun bD => ((laws_heldJobs.f k bD.2.1 bD.2.2.1 bD.2.2.2 1).bind fun bS => (if bS < 0 then (some false) else (if bS = bD.1 then ((laws_toTasks.f k cL).bind fun bO => ((impl_JobsOfTasks.f k bO).bind fun bF => ((laws_eqJobs.f k bF.1 bF.2.1 bF.2.2.1 cM cN cO).bind fun cF => (if cF = true then (laws_FnExactJobsOfTasks.j2 k bD.1 (bF.2.2.2 != x5) bD.2.1 bD.2.2.1 bD.2.2.2) else (laws_FnExactJobsOfTasks.j2 k bD.1 true bD.2.1 bD.2.2.1 bD.2.2.2))))) else (some false)))))
def laws_FnExactJobsOfTasks.j2 : Nat → Int → Bool → List Int → List Int → List Int → Option (Bool)
 | 0, _, _, _, _, _ => none
 | k + 1, x10, x87, cB, cC, cD => if x87 = true then (some false) else ((laws_heldJobs.f k cB cC cD 1).bind fun cf => (if cf < 0 then (some false) else (if cf = x10 then (some true) else (some false))))
end
def laws_FnExactJobsOfTasks.f (k : Nat) (l0_0 : List Int) : Option (Bool) := (laws_szTasks.f l0_0 1048576).bind fun t703 => (if t703 < 0 then (some true) else ((laws_toTasks.f k l0_0).bind fun bR => ((spec_JobsOfTasks.f k bR).bind fun be => ((laws_toTasks.f k l0_0).bind fun aE => ((impl_JobsOfTasks.f k aE).bind fun aM => ((laws_eqJobs.f k aM.1 aM.2.1 aM.2.2.1 be.1 be.2.1 be.2.2.1).bind fun cr => (if cr = true then (laws_FnExactJobsOfTasks.j0 k be.2.2.2 aM.2.2.2 (aM.2.2.2 != be.2.2.2) l0_0 be.1 be.2.1 be.2.2.1 aE aM.1 aM.2.1 aM.2.2.1) else (laws_FnExactJobsOfTasks.j0 k be.2.2.2 aM.2.2.2 true l0_0 be.1 be.2.1 be.2.2.1 aE aM.1 aM.2.1 aM.2.2.1))))))))
theorem laws_FnExactJobsOfTasks.mono_l : ∀ k, (∀ y0 y1 y2 y3 y4 y5 y6 y7 y8 y9 y10, LeO (laws_FnExactJobsOfTasks.j0 k y0 y1 y2 y3 y4 y5 y6 y7 y8 y9 y10) (laws_FnExactJobsOfTasks.j0 (k + 1) y0 y1 y2 y3 y4 y5 y6 y7 y8 y9 y10)) ∧ (∀ y0 y1 y2 y3 y4 y5 y6 y7 y8, LeO (laws_FnExactJobsOfTasks.j1 k y0 y1 y2 y3 y4 y5 y6 y7 y8) (laws_FnExactJobsOfTasks.j1 (k + 1) y0 y1 y2 y3 y4 y5 y6 y7 y8)) ∧ (∀ y0 y1 y2 y3 y4, LeO (laws_FnExactJobsOfTasks.j2 k y0 y1 y2 y3 y4) (laws_FnExactJobsOfTasks.j2 (k + 1) y0 y1 y2 y3 y4))
 | 0 => ⟨fun _ _ _ _ _ _ _ _ _ _ _ r h => by simp [laws_FnExactJobsOfTasks.j0] at h, fun _ _ _ _ _ _ _ _ _ r h => by simp [laws_FnExactJobsOfTasks.j1] at h, fun _ _ _ _ _ r h => by simp [laws_FnExactJobsOfTasks.j2] at h⟩
 | k + 1 => by
  obtain ⟨ih0, ih1, ih2⟩ := laws_FnExactJobsOfTasks.mono_l k
  refine ⟨?_, ?_, ?_⟩
  ·
   intro y0 y1 y2 y3 y4 y5 y6 y7 y8 y9 y10
   unfold laws_FnExactJobsOfTasks.j0
   repeat' first
   | (with_reducible exact ih0 _ _ _ _ _ _ _ _ _ _ _)
   | (with_reducible exact ih1 _ _ _ _ _ _ _ _ _)
   | (with_reducible exact ih2 _ _ _ _ _)
   | (with_reducible exact impl_JobsOfTasks.mono _ _)
   | (with_reducible exact laws_eqJobs.mono _ _ _ _ _ _ _)
   | (with_reducible exact laws_eqTasks.mono _ _ _)
   | (with_reducible exact laws_heldJobs.mono _ _ _ _ _)
   | (with_reducible exact laws_markJobs.mono _ _ _ _ _)
   | (with_reducible exact laws_markTasks.mono _ _ _)
   | (with_reducible exact laws_toTasks.mono _ _)
   | (with_reducible exact spec_JobsOfTasks.mono _ _)
   | (with_reducible exact LeO.refl _)
   | (with_reducible exact LeO.none _)
   | (with_reducible refine LeO.ite ?_ ?_)
   | (with_reducible refine LeO.bind ?_ (fun _ => ?_))
   | exact ih0 _ _ _ _ _ _ _ _ _ _ _
   | exact ih1 _ _ _ _ _ _ _ _ _
   | exact ih2 _ _ _ _ _
   | exact impl_JobsOfTasks.mono _ _
   | exact laws_eqJobs.mono _ _ _ _ _ _ _
   | exact laws_eqTasks.mono _ _ _
   | exact laws_heldJobs.mono _ _ _ _ _
   | exact laws_markJobs.mono _ _ _ _ _
   | exact laws_markTasks.mono _ _ _
   | exact laws_toTasks.mono _ _
   | exact spec_JobsOfTasks.mono _ _
   | exact LeO.none _
   | refine LeO.ite ?_ ?_
   | refine LeO.bind ?_ (fun _ => ?_)
  ·
   intro y0 y1 y2 y3 y4 y5 y6 y7 y8
   unfold laws_FnExactJobsOfTasks.j1
   repeat' first
   | (with_reducible exact ih0 _ _ _ _ _ _ _ _ _ _ _)
   | (with_reducible exact ih1 _ _ _ _ _ _ _ _ _)
   | (with_reducible exact ih2 _ _ _ _ _)
   | (with_reducible exact impl_JobsOfTasks.mono _ _)
   | (with_reducible exact laws_eqJobs.mono _ _ _ _ _ _ _)
   | (with_reducible exact laws_eqTasks.mono _ _ _)
   | (with_reducible exact laws_heldJobs.mono _ _ _ _ _)
   | (with_reducible exact laws_markJobs.mono _ _ _ _ _)
   | (with_reducible exact laws_markTasks.mono _ _ _)
   | (with_reducible exact laws_toTasks.mono _ _)
   | (with_reducible exact spec_JobsOfTasks.mono _ _)
   | (with_reducible exact LeO.refl _)
   | (with_reducible exact LeO.none _)
   | (with_reducible refine LeO.ite ?_ ?_)
   | (with_reducible refine LeO.bind ?_ (fun _ => ?_))
   | exact ih0 _ _ _ _ _ _ _ _ _ _ _
   | exact ih1 _ _ _ _ _ _ _ _ _
   | exact ih2 _ _ _ _ _
   | exact impl_JobsOfTasks.mono _ _
   | exact laws_eqJobs.mono _ _ _ _ _ _ _
   | exact laws_eqTasks.mono _ _ _
   | exact laws_heldJobs.mono _ _ _ _ _
   | exact laws_markJobs.mono _ _ _ _ _
   | exact laws_markTasks.mono _ _ _
   | exact laws_toTasks.mono _ _
   | exact spec_JobsOfTasks.mono _ _
   | exact LeO.none _
   | refine LeO.ite ?_ ?_
   | refine LeO.bind ?_ (fun _ => ?_)
  ·
   intro y0 y1 y2 y3 y4
   unfold laws_FnExactJobsOfTasks.j2
   repeat' first
   | (with_reducible exact ih0 _ _ _ _ _ _ _ _ _ _ _)
   | (with_reducible exact ih1 _ _ _ _ _ _ _ _ _)
   | (with_reducible exact ih2 _ _ _ _ _)
   | (with_reducible exact impl_JobsOfTasks.mono _ _)
   | (with_reducible exact laws_eqJobs.mono _ _ _ _ _ _ _)
   | (with_reducible exact laws_eqTasks.mono _ _ _)
   | (with_reducible exact laws_heldJobs.mono _ _ _ _ _)
   | (with_reducible exact laws_markJobs.mono _ _ _ _ _)
   | (with_reducible exact laws_markTasks.mono _ _ _)
   | (with_reducible exact laws_toTasks.mono _ _)
   | (with_reducible exact spec_JobsOfTasks.mono _ _)
   | (with_reducible exact LeO.refl _)
   | (with_reducible exact LeO.none _)
   | (with_reducible refine LeO.ite ?_ ?_)
   | (with_reducible refine LeO.bind ?_ (fun _ => ?_))
   | exact ih0 _ _ _ _ _ _ _ _ _ _ _
   | exact ih1 _ _ _ _ _ _ _ _ _
   | exact ih2 _ _ _ _ _
   | exact impl_JobsOfTasks.mono _ _
   | exact laws_eqJobs.mono _ _ _ _ _ _ _
   | exact laws_eqTasks.mono _ _ _
   | exact laws_heldJobs.mono _ _ _ _ _
   | exact laws_markJobs.mono _ _ _ _ _
   | exact laws_markTasks.mono _ _ _
   | exact laws_toTasks.mono _ _
   | exact spec_JobsOfTasks.mono _ _
   | exact LeO.none _
   | refine LeO.ite ?_ ?_
   | refine LeO.bind ?_ (fun _ => ?_)
theorem laws_FnExactJobsOfTasks.mono : ∀ a0 k, LeO (laws_FnExactJobsOfTasks.f k a0) (laws_FnExactJobsOfTasks.f (k + 1) a0) := by
 intro a0 k
 obtain ⟨ih0, ih1, ih2⟩ := laws_FnExactJobsOfTasks.mono_l k
 unfold laws_FnExactJobsOfTasks.f
 repeat' first
   | (with_reducible exact ih0 _ _ _ _ _ _ _ _ _ _ _)
   | (with_reducible exact ih1 _ _ _ _ _ _ _ _ _)
   | (with_reducible exact ih2 _ _ _ _ _)
   | (with_reducible exact impl_JobsOfTasks.mono _ _)
   | (with_reducible exact laws_eqJobs.mono _ _ _ _ _ _ _)
   | (with_reducible exact laws_eqTasks.mono _ _ _)
   | (with_reducible exact laws_heldJobs.mono _ _ _ _ _)
   | (with_reducible exact laws_markJobs.mono _ _ _ _ _)
   | (with_reducible exact laws_markTasks.mono _ _ _)
   | (with_reducible exact laws_toTasks.mono _ _)
   | (with_reducible exact spec_JobsOfTasks.mono _ _)
   | (with_reducible exact LeO.refl _)
   | (with_reducible exact LeO.none _)
   | (with_reducible refine LeO.ite ?_ ?_)
   | (with_reducible refine LeO.bind ?_ (fun _ => ?_))
   | exact ih0 _ _ _ _ _ _ _ _ _ _ _
   | exact ih1 _ _ _ _ _ _ _ _ _
   | exact ih2 _ _ _ _ _
   | exact impl_JobsOfTasks.mono _ _
   | exact laws_eqJobs.mono _ _ _ _ _ _ _
   | exact laws_eqTasks.mono _ _ _
   | exact laws_heldJobs.mono _ _ _ _ _
   | exact laws_markJobs.mono _ _ _ _ _
   | exact laws_markTasks.mono _ _ _
   | exact laws_toTasks.mono _ _
   | exact spec_JobsOfTasks.mono _ _
   | exact LeO.none _
   | refine LeO.ite ?_ ?_
   | refine LeO.bind ?_ (fun _ => ?_)
set_option maxHeartbeats 8000000 in
set_option maxRecDepth 100000 in
theorem laws_FnExactJobsOfTasks.calls (k : Nat) (bj : Option Addr) (bk : Nat) (l0_0 : List Int) (r : Bool) (w : World) (dy : Kd.C (Kd.int .i64) w bj l0_0.length l0_0) (dz : l0_0.length ≤ bk) (h : laws_FnExactJobsOfTasks.f k l0_0 = some r) :
  Calls Try.prog 10 #[.agg #[.slice bj l0_0.length bk]] w fun e w' => e = .returned (.bool r) ∧ Below w.heap.size w w' := by
 have hu33 := Try.underlying33
 have hu50 := Try.underlying50
 have hu37 := Try.underlying37
 have cR := amk dy
 have cS := amk dz
 clear dy dz
 have HB := amk (Below.refl w.heap.size w)
 have H : ((laws_szTasks.f l0_0 1048576).bind fun t703 => (if t703 < 0 then (some true) else ((laws_toTasks.f k l0_0).bind fun bR => ((spec_JobsOfTasks.f k bR).bind fun be => ((laws_toTasks.f k l0_0).bind fun aE => ((impl_JobsOfTasks.f k aE).bind fun aM => ((laws_eqJobs.f k aM.1 aM.2.1 aM.2.2.1 be.1 be.2.1 be.2.2.1).bind fun cr => (if cr = true then (laws_FnExactJobsOfTasks.j0 k be.2.2.2 aM.2.2.2 (aM.2.2.2 != be.2.2.2) l0_0 be.1 be.2.1 be.2.2.1 aE aM.1 aM.2.1 aM.2.2.1) else (laws_FnExactJobsOfTasks.j0 k be.2.2.2 aM.2.2.2 true l0_0 be.1 be.2.1 be.2.2.1 aE aM.1 aM.2.1 aM.2.2.1))))))))) = some r := h
 clear h
 replace H := Option.bind_eq_some_iff.mp H
 obtain ⟨t703, A20, H⟩ := H
 replace H : (if t703 < 0 then (some true) else ((laws_toTasks.f k l0_0).bind fun bR => ((spec_JobsOfTasks.f k bR).bind fun be => ((laws_toTasks.f k l0_0).bind fun aE => ((impl_JobsOfTasks.f k aE).bind fun aM => ((laws_eqJobs.f k aM.1 aM.2.1 aM.2.2.1 be.1 be.2.1 be.2.2.1).bind fun cr => (if cr = true then (laws_FnExactJobsOfTasks.j0 k be.2.2.2 aM.2.2.2 (aM.2.2.2 != be.2.2.2) l0_0 be.1 be.2.1 be.2.2.1 aE aM.1 aM.2.1 aM.2.2.1) else (laws_FnExactJobsOfTasks.j0 k be.2.2.2 aM.2.2.2 true l0_0 be.1 be.2.1 be.2.2.1 aE aM.1 aM.2.1 aM.2.2.1)))))))) = some r := H
 have A2 := amk A20
 clear A20
 by_cases c3 : t703 < 0
 ·
  rw [if_pos c3] at H
  have c3b0 : decide (t703 < 0) = true := decide_eq_true c3
  clear c3
  obtain rfl := Option.some.inj H
  go_enter Try.func10, Try.ntmps10
  go_wp2_with (first | ((with_reducible refine gate_dst (N := 1) rfl ?_); refine box_event ?hg (N := 1) ?hd (cs := #[.slice bj l0_0.length bk]) (t := 33) ?hr ?_; (case hd => rfl); (case hg => rfl); (case hr => first | (go_simp; done) | (go_simp; rfl)); intro aW hg w4 hbox hb; have n0_ := amk (below_step (by repeat (first | (with_reducible first | exact HB.out | apply below_alloc | apply pw_below_drewN | apply below_drew1) | exact HB.out)) hb); have n1_ := amk (hbox); have n2_ := amk ((by rw [hg]; exact (below_size (by repeat (first | (with_reducible first | exact HB.out | apply below_alloc | apply pw_below_drewN | apply below_drew1) | exact HB.out))) : w.heap.size ≤ aW)); have n3_ := amk ((by rw [hg]; exact (below_size (by repeat (first | (with_reducible first | exact HB.out | apply below_alloc | apply pw_below_drewN | apply below_drew1) | exact HB.out))) : w.heap.size ≤ aW)); clear HB; have HB := n0_; have aw := n1_; have GW702 := n2_; have aN := n3_; clear n0_ n1_ n2_ n3_; clear hb hbox hg; have dB : w4.cell? ⟨aW, 0, none⟩ = some (.slice bj l0_0.length bk) := (blk_cell aw.out 0).trans rfl; have en := blk_frozen aw.out 0) | ((with_reducible refine gate_callee (f := 21) rfl ?_); refine goesL_ (some 16) rfl rfl Try.func21 (by kernel_rfl) rfl #[.agg #[.slice bj l0_0.length bk], .int .i64 1048576] rfl (by (try simp only [List.map_toArray, List.map_cons, List.map_nil]); first | done | rfl | (simp only [List.length_drop, List.length_take]; rfl)) ?_; (with_reducible refine (laws_szTasks.calls _ _ l0_0 1048576 t703 _ ?ba ?bb A2.out).mono ?_); (case ba => repeat (first | exact (Kd.C_below cR.out HB.out) | (with_reducible refine Kd.C_alloc ?_ _) | (with_reducible refine Kd.C_drewN ?_ _) | (with_reducible refine Kd.C_drew ?_))); (case bb => exact cS.out); rintro e w6 ⟨rfl, hb⟩; refine ⟨_, rfl, ?_⟩; have n0_ := amk (blk_below (g := aW) (o := .cells #[.slice bj l0_0.length bk] 33 (0, 0)) (by (with_reducible repeat (first | refine bkn ?_ _ | refine bkd ?_ | refine bka ?_ _)); exact aw.out) hb); have n1_ := amk (below_step (by repeat (first | (with_reducible first | exact HB.out | apply below_alloc | apply pw_below_drewN | apply below_drew1 | refine bse ?_ aN.out) | exact HB.out)) hb); clear aw; clear HB; have aw := n0_; have HB := n1_; clear n0_ n1_; (try clear hb); (try clear hb2); (try clear hk); (try clear hi)))
  go_ret
  exact ⟨by first | rfl | (simp [errW_none, errW_some] <;> rfl) | (simp [*, errW_none, errW_some] <;> rfl), by repeat (first | (with_reducible first | exact HB.out | apply below_alloc | apply pw_below_drewN | apply below_drew1 | refine bse ?_ aN.out) | exact HB.out)⟩
 ·
  rw [if_neg c3] at H
  have c3b0 : decide (t703 < 0) = false := decide_eq_false c3
  clear c3
  replace H := Option.bind_eq_some_iff.mp H
  obtain ⟨bR, A70, H⟩ := H
  replace H : ((spec_JobsOfTasks.f k bR).bind fun be => ((laws_toTasks.f k l0_0).bind fun aE => ((impl_JobsOfTasks.f k aE).bind fun aM => ((laws_eqJobs.f k aM.1 aM.2.1 aM.2.2.1 be.1 be.2.1 be.2.2.1).bind fun cr => (if cr = true then (laws_FnExactJobsOfTasks.j0 k be.2.2.2 aM.2.2.2 (aM.2.2.2 != be.2.2.2) l0_0 be.1 be.2.1 be.2.2.1 aE aM.1 aM.2.1 aM.2.2.1) else (laws_FnExactJobsOfTasks.j0 k be.2.2.2 aM.2.2.2 true l0_0 be.1 be.2.1 be.2.2.1 aE aM.1 aM.2.1 aM.2.2.1)))))) = some r := H
  have A7 := amk A70
  clear A70
  replace H := Option.bind_eq_some_iff.mp H
  obtain ⟨⟨aj, al, am, bn⟩, A80, H⟩ := H
  replace H : ((laws_toTasks.f k l0_0).bind fun aE => ((impl_JobsOfTasks.f k aE).bind fun aM => ((laws_eqJobs.f k aM.1 aM.2.1 aM.2.2.1 aj al am).bind fun cr => (if cr = true then (laws_FnExactJobsOfTasks.j0 k bn aM.2.2.2 (aM.2.2.2 != bn) l0_0 aj al am aE aM.1 aM.2.1 aM.2.2.1) else (laws_FnExactJobsOfTasks.j0 k bn aM.2.2.2 true l0_0 aj al am aE aM.1 aM.2.1 aM.2.2.1))))) = some r := H
  have A8 := amk A80
  clear A80
  replace H := Option.bind_eq_some_iff.mp H
  obtain ⟨aE, A90, H⟩ := H
  replace H : ((impl_JobsOfTasks.f k aE).bind fun aM => ((laws_eqJobs.f k aM.1 aM.2.1 aM.2.2.1 aj al am).bind fun cr => (if cr = true then (laws_FnExactJobsOfTasks.j0 k bn aM.2.2.2 (aM.2.2.2 != bn) l0_0 aj al am aE aM.1 aM.2.1 aM.2.2.1) else (laws_FnExactJobsOfTasks.j0 k bn aM.2.2.2 true l0_0 aj al am aE aM.1 aM.2.1 aM.2.2.1)))) = some r := H
  have A9 := amk A90
  clear A90
  replace H := Option.bind_eq_some_iff.mp H
  obtain ⟨⟨af, ag, ah, ca⟩, A100, H⟩ := H
  replace H : ((laws_eqJobs.f k af ag ah aj al am).bind fun cr => (if cr = true then (laws_FnExactJobsOfTasks.j0 k bn ca (ca != bn) l0_0 aj al am aE af ag ah) else (laws_FnExactJobsOfTasks.j0 k bn ca true l0_0 aj al am aE af ag ah))) = some r := H
  have A10 := amk A100
  clear A100
  have HC11 := amk H
  clear H
  go_enter Try.func10, Try.ntmps10
  go_upto_region 8 with (first | ((with_reducible refine gate_dst (N := 1) rfl ?_); refine box_event ?hg (N := 1) ?hd (cs := #[.slice bj l0_0.length bk]) (t := 33) ?hr ?_; (case hd => rfl); (case hg => rfl); (case hr => first | (go_simp; done) | (go_simp; rfl)); intro aW hg w12 hbox hb; have n0_ := amk (below_step (by repeat (first | (with_reducible first | exact HB.out | apply below_alloc | apply pw_below_drewN | apply below_drew1) | exact HB.out)) hb); have n1_ := amk (hbox); have n2_ := amk ((by rw [hg]; exact (below_size (by repeat (first | (with_reducible first | exact HB.out | apply below_alloc | apply pw_below_drewN | apply below_drew1) | exact HB.out))) : w.heap.size ≤ aW)); have n3_ := amk ((by rw [hg]; exact (below_size (by repeat (first | (with_reducible first | exact HB.out | apply below_alloc | apply pw_below_drewN | apply below_drew1) | exact HB.out))) : w.heap.size ≤ aW)); clear HB; have HB := n0_; have aw := n1_; have GW702 := n2_; have aN := n3_; clear n0_ n1_ n2_ n3_; clear hb hbox hg; have cW : w12.cell? ⟨aW, 0, none⟩ = some (.slice bj l0_0.length bk) := (blk_cell aw.out 0).trans rfl; have dE := blk_frozen aw.out 0) | ((with_reducible refine gate_callee (f := 21) rfl ?_); refine goesL_ (some 16) rfl rfl Try.func21 (by kernel_rfl) rfl #[.agg #[.slice bj l0_0.length bk], .int .i64 1048576] rfl (by (try simp only [List.map_toArray, List.map_cons, List.map_nil]); first | done | rfl | (simp only [List.length_drop, List.length_take]; rfl)) ?_; (with_reducible refine (laws_szTasks.calls _ _ l0_0 1048576 t703 _ ?ba ?bb A2.out).mono ?_); (case ba => repeat (first | exact (Kd.C_below cR.out HB.out) | (with_reducible refine Kd.C_alloc ?_ _) | (with_reducible refine Kd.C_drewN ?_ _) | (with_reducible refine Kd.C_drew ?_))); (case bb => exact cS.out); rintro e w14 ⟨rfl, hb⟩; refine ⟨_, rfl, ?_⟩; have n0_ := amk (blk_below (g := aW) (o := .cells #[.slice bj l0_0.length bk] 33 (0, 0)) (by (with_reducible repeat (first | refine bkn ?_ _ | refine bkd ?_ | refine bka ?_ _)); exact aw.out) hb); have n1_ := amk (below_step (by repeat (first | (with_reducible first | exact HB.out | apply below_alloc | apply pw_below_drewN | apply below_drew1 | refine bse ?_ aN.out) | exact HB.out)) hb); clear aw; clear HB; have aw := n0_; have HB := n1_; clear n0_ n1_; (try clear hb); (try clear hb2); (try clear hk); (try clear hi); have cX : w14.cell? ⟨aW, 0, none⟩ = some (.slice bj l0_0.length bk) := (blk_cell aw.out 0).trans rfl; have dF := blk_frozen aw.out 0) | ((with_reducible refine gate_callee (f := 23) rfl ?_); refine goesL_ (some 21) rfl rfl Try.func23 (by kernel_rfl) rfl #[.agg #[.slice bj l0_0.length bk]] rfl (by (try simp only [List.map_toArray, List.map_cons, List.map_nil]); first | done | rfl | (simp only [List.length_drop, List.length_take]; rfl)) ?_; (with_reducible refine (laws_toTasks.calls k _ _ l0_0 bR _ ?ba ?bb A7.out).mono ?_); (case ba => repeat (first | exact (Kd.C_below cR.out HB.out) | (with_reducible refine Kd.C_alloc ?_ _) | (with_reducible refine Kd.C_drewN ?_ _) | (with_reducible refine Kd.C_drew ?_))); (case bb => exact cS.out); rintro e w16 ⟨v705, rfl, ho0, hb⟩; refine ⟨_, rfl, ?_⟩; have n0_ := amk (Kd.R_lower ho0 (below_size (by repeat (first | (with_reducible first | exact HB.out | apply below_alloc | apply pw_below_drewN | apply below_drew1 | refine bse ?_ aN.out) | exact HB.out)))); have n1_ := amk (blk_below (g := aW) (o := .cells #[.slice bj l0_0.length bk] 33 (0, 0)) (by (with_reducible repeat (first | refine bkn ?_ _ | refine bkd ?_ | refine bka ?_ _)); exact aw.out) hb); have n2_ := amk (below_step (by repeat (first | (with_reducible first | exact HB.out | apply below_alloc | apply pw_below_drewN | apply below_drew1 | refine bse ?_ aN.out) | exact HB.out)) hb); clear aw; clear HB; have bE := n0_; have aw := n1_; have HB := n2_; clear n0_ n1_ n2_; (try clear hb); (try clear hb2); (try clear hk); (try clear hi); (try clear ho0); obtain ⟨cG, cH, eo17⟩ := Kd.R_slice bE.out; subst eo17) | ((with_reducible refine gate_callee (f := 38) rfl ?_); refine goesL_ (some 22) rfl rfl Try.func38 (by kernel_rfl) rfl #[.agg #[.slice cG bR.length cH]] rfl (by (try simp only [List.map_toArray, List.map_cons, List.map_nil]); first | done | rfl | (simp only [List.length_drop, List.length_take]; rfl)) ?_; (with_reducible refine (spec_JobsOfTasks.calls k _ _ bR aj al am bn _ ?ba ?bb A8.out).mono ?_); (case ba => repeat (first | exact (Kd.R_reads' bE.out).2.2 | (with_reducible refine Kd.C_alloc ?_ _) | (with_reducible refine Kd.C_drewN ?_ _) | (with_reducible refine Kd.C_drew ?_))); (case bb => exact (Kd.R_reads' bE.out).2.1); rintro e w18 ⟨v708, v711, v714, rfl, ho0, ho1, ho2, hb⟩; refine ⟨_, rfl, ?_⟩; have n0_ := amk (Kd.R_mono (Kd.R_told (Kd.R_told (Kd.R_told (Kd.R_old (by (with_reducible repeat (first | apply kra | apply krn | apply krd)); exact bE.out) hb) (Kd.R_base ho0)) (Kd.R_base ho1)) (Kd.R_base ho2)) (fun _ h_ => h_.1)); have n1_ := amk (Kd.R_lower (Kd.R_new' ho0 (Kd.R_lt (by (with_reducible repeat (first | apply kra | apply krn | apply krd)); exact bE.out))) (below_size (by repeat (first | (with_reducible first | exact HB.out | apply below_alloc | apply pw_below_drewN | apply below_drew1 | refine bse ?_ aN.out) | exact HB.out)))); have n2_ := amk (Kd.R_lower (Kd.R_new' ho1 (Kd.R_lt (by (with_reducible repeat (first | apply kra | apply krn | apply krd)); exact bE.out))) (below_size (by repeat (first | (with_reducible first | exact HB.out | apply below_alloc | apply pw_below_drewN | apply below_drew1 | refine bse ?_ aN.out) | exact HB.out)))); have n3_ := amk (Kd.R_lower (Kd.R_new' ho2 (Kd.R_lt (by (with_reducible repeat (first | apply kra | apply krn | apply krd)); exact bE.out))) (below_size (by repeat (first | (with_reducible first | exact HB.out | apply below_alloc | apply pw_below_drewN | apply below_drew1 | refine bse ?_ aN.out) | exact HB.out)))); have n4_ := amk (blk_below (g := aW) (o := .cells #[.slice bj l0_0.length bk] 33 (0, 0)) (by (with_reducible repeat (first | refine bkn ?_ _ | refine bkd ?_ | refine bka ?_ _)); exact aw.out) hb); have n5_ := amk (below_step (by repeat (first | (with_reducible first | exact HB.out | apply below_alloc | apply pw_below_drewN | apply below_drew1 | refine bse ?_ aN.out) | exact HB.out)) hb); clear bE; clear aw; clear HB; have bE := n0_; have bG := n1_; have bH := n2_; have bI := n3_; have aw := n4_; have HB := n5_; clear n0_ n1_ n2_ n3_ n4_ n5_; (try clear hb); (try clear hb2); (try clear hk); (try clear hi); (try clear ho0); (try clear ho1); (try clear ho2)) | ((with_reducible refine gate_dst (N := 4) rfl ?_); refine box_event ?hg (N := 4) ?hd (cs := #[.slice none 0 0, .slice none 0 0, .slice none 0 0]) (t := 50) ?hr ?_; (case hd => rfl); (case hg => rfl); (case hr => first | (go_simp; done) | (go_simp; rfl)); intro aL hg w19 hbox hb; have n0_ := amk (Kd.R_below (by (with_reducible repeat (first | apply kra | apply krn | apply krd)); exact bE.out) hb); have n1_ := amk (Kd.R_below (by (with_reducible repeat (first | apply kra | apply krn | apply krd)); exact bG.out) hb); have n2_ := amk (Kd.R_below (by (with_reducible repeat (first | apply kra | apply krn | apply krd)); exact bH.out) hb); have n3_ := amk (Kd.R_below (by (with_reducible repeat (first | apply kra | apply krn | apply krd)); exact bI.out) hb); have n4_ := amk (blk_below (g := aW) (o := .cells #[.slice bj l0_0.length bk] 33 (0, 0)) (by (with_reducible repeat (first | refine bkn ?_ _ | refine bkd ?_ | refine bka ?_ _)); exact aw.out) hb); have n5_ := amk (below_step (by repeat (first | (with_reducible first | exact HB.out | apply below_alloc | apply pw_below_drewN | apply below_drew1 | refine bse ?_ aN.out) | exact HB.out)) hb); have n6_ := amk (hbox); have n7_ := amk ((by rw [hg]; exact (below_size (by repeat (first | (with_reducible first | exact HB.out | apply below_alloc | apply pw_below_drewN | apply below_drew1 | refine bse ?_ aN.out) | exact HB.out))) : w.heap.size ≤ aL)); have n8_ := amk ((by rw [hg]; exact (below_size (by repeat (first | (with_reducible first | exact HB.out | apply below_alloc | apply pw_below_drewN | apply below_drew1 | refine bse ?_ aN.out) | exact HB.out))) : w.heap.size ≤ aL)); have n9_ := amk ((by rw [hg]; exact Nat.ne_of_lt (blk_lt (g := aW) (o := .cells #[.slice bj l0_0.length bk] 33 (0, 0)) (by (with_reducible repeat (first | refine bkn ?_ _ | refine bkd ?_ | refine bka ?_ _)); exact aw.out)) : aW ≠ aL)); have bl := amk ((by rw [hg]; exact Nat.ne_of_gt (blk_lt (g := aW) (o := .cells #[.slice bj l0_0.length bk] 33 (0, 0)) (by (with_reducible repeat (first | refine bkn ?_ _ | refine bkd ?_ | refine bka ?_ _)); exact aw.out)) : aL ≠ aW)); clear bE; clear bG; clear bH; clear bI; clear aw; clear HB; have bE := n0_; have bG := n1_; have bH := n2_; have bI := n3_; have aw := n4_; have HB := n5_; have ai := n6_; have GW717 := n7_; have aX := n8_; have bP := n9_; have ci := bl; clear n0_ n1_ n2_ n3_ n4_ n5_ n6_ n7_ n8_ n9_ bl; clear hb hbox hg; obtain ⟨aI, aF, eo20⟩ := Kd.R_slice bG.out; subst eo20; have hnb21 := ci.out; have hnc21 := bP.out; have cY : w19.cell? ⟨aL, 0, none⟩ = some (.slice none 0 0) := (blk_cell ai.out 0).trans rfl; have cZ : w19.cell? ⟨aL, 1, none⟩ = some (.slice none 0 0) := (blk_cell ai.out 1).trans rfl; have da : w19.cell? ⟨aL, 2, none⟩ = some (.slice none 0 0) := (blk_cell ai.out 2).trans rfl; have dG := blk_frozen ai.out 0; have dH := blk_frozen ai.out 1; have dI := blk_frozen ai.out 2; obtain ⟨aJ, aG, eo23⟩ := Kd.R_slice bH.out; subst eo23; obtain ⟨aK, aH, eo24⟩ := Kd.R_slice bI.out; subst eo24; have db : w19.cell? ⟨aW, 0, none⟩ = some (.slice bj l0_0.length bk) := (blk_cell aw.out 0).trans rfl; have dJ := blk_frozen aw.out 0) | ((with_reducible refine gate_callee (f := 23) rfl ?_); refine goesL_ (some 26) rfl rfl Try.func23 (by kernel_rfl) rfl #[.agg #[.slice bj l0_0.length bk]] rfl (by (try simp only [List.map_toArray, List.map_cons, List.map_nil]); first | done | rfl | (simp only [List.length_drop, List.length_take]; rfl)) ?_; (with_reducible refine (laws_toTasks.calls k _ _ l0_0 aE _ ?ba ?bb A9.out).mono ?_); (case ba => exact Kd.C_below cR.out (by repeat (first | (with_reducible first | exact HB.out | apply below_alloc | apply pw_below_drewN | apply below_drew1 | refine bse ?_ aN.out | refine bse ?_ aX.out) | exact HB.out))); (case bb => exact cS.out); rintro e w26 ⟨v719, rfl, ho0, hb⟩; refine ⟨_, rfl, ?_⟩; have n0_ := amk (Kd.R_elder' (by (with_reducible repeat (first | apply kra | apply krn | apply krd)); exact (Kd.R_mono (Kd.R_far (p := ⟨aL, 2, none⟩) (Kd.R_far (p := ⟨aL, 1, none⟩) (Kd.R_far (p := ⟨aL, 0, none⟩) (Kd.R_types bE.out ai.out (by decide)) (fun _ hk => hk.2) (.slice aI aj.length aF)) (fun _ hk => hk.2) (.slice aJ al.length aG)) (fun _ hk => hk.2) (.slice aK am.length aH)) (fun _ h_ => h_.1))) (Kd.R_base ho0) hb); have n1_ := amk (Kd.R_elder' (by (with_reducible repeat (first | apply kra | apply krn | apply krd)); exact (Kd.R_mono (Kd.R_far (p := ⟨aL, 2, none⟩) (Kd.R_far (p := ⟨aL, 1, none⟩) (Kd.R_far (p := ⟨aL, 0, none⟩) (Kd.R_types bG.out ai.out (by decide)) (fun _ hk => hk.2) (.slice aI aj.length aF)) (fun _ hk => hk.2) (.slice aJ al.length aG)) (fun _ hk => hk.2) (.slice aK am.length aH)) (fun _ h_ => h_.1))) (Kd.R_base ho0) hb); have n2_ := amk (Kd.R_elder' (by (with_reducible repeat (first | apply kra | apply krn | apply krd)); exact (Kd.R_mono (Kd.R_far (p := ⟨aL, 2, none⟩) (Kd.R_far (p := ⟨aL, 1, none⟩) (Kd.R_far (p := ⟨aL, 0, none⟩) (Kd.R_types bH.out ai.out (by decide)) (fun _ hk => hk.2) (.slice aI aj.length aF)) (fun _ hk => hk.2) (.slice aJ al.length aG)) (fun _ hk => hk.2) (.slice aK am.length aH)) (fun _ h_ => h_.1))) (Kd.R_base ho0) hb); have n3_ := amk (Kd.R_elder' (by (with_reducible repeat (first | apply kra | apply krn | apply krd)); exact (Kd.R_mono (Kd.R_far (p := ⟨aL, 2, none⟩) (Kd.R_far (p := ⟨aL, 1, none⟩) (Kd.R_far (p := ⟨aL, 0, none⟩) (Kd.R_types bI.out ai.out (by decide)) (fun _ hk => hk.2) (.slice aI aj.length aF)) (fun _ hk => hk.2) (.slice aJ al.length aG)) (fun _ hk => hk.2) (.slice aK am.length aH)) (fun _ h_ => h_.1))) (Kd.R_base ho0) hb); have n4_ := amk (Kd.R_lower (Kd.R_new' (Kd.R_new' (Kd.R_new' (Kd.R_new' ho0 (Kd.R_lt (by (with_reducible repeat (first | apply kra | apply krn | apply krd)); exact (Kd.R_mono (Kd.R_far (p := ⟨aL, 2, none⟩) (Kd.R_far (p := ⟨aL, 1, none⟩) (Kd.R_far (p := ⟨aL, 0, none⟩) (Kd.R_types bE.out ai.out (by decide)) (fun _ hk => hk.2) (.slice aI aj.length aF)) (fun _ hk => hk.2) (.slice aJ al.length aG)) (fun _ hk => hk.2) (.slice aK am.length aH)) (fun _ h_ => h_.1))))) (Kd.R_lt (by (with_reducible repeat (first | apply kra | apply krn | apply krd)); exact (Kd.R_mono (Kd.R_far (p := ⟨aL, 2, none⟩) (Kd.R_far (p := ⟨aL, 1, none⟩) (Kd.R_far (p := ⟨aL, 0, none⟩) (Kd.R_types bG.out ai.out (by decide)) (fun _ hk => hk.2) (.slice aI aj.length aF)) (fun _ hk => hk.2) (.slice aJ al.length aG)) (fun _ hk => hk.2) (.slice aK am.length aH)) (fun _ h_ => h_.1))))) (Kd.R_lt (by (with_reducible repeat (first | apply kra | apply krn | apply krd)); exact (Kd.R_mono (Kd.R_far (p := ⟨aL, 2, none⟩) (Kd.R_far (p := ⟨aL, 1, none⟩) (Kd.R_far (p := ⟨aL, 0, none⟩) (Kd.R_types bH.out ai.out (by decide)) (fun _ hk => hk.2) (.slice aI aj.length aF)) (fun _ hk => hk.2) (.slice aJ al.length aG)) (fun _ hk => hk.2) (.slice aK am.length aH)) (fun _ h_ => h_.1))))) (Kd.R_lt (by (with_reducible repeat (first | apply kra | apply krn | apply krd)); exact (Kd.R_mono (Kd.R_far (p := ⟨aL, 2, none⟩) (Kd.R_far (p := ⟨aL, 1, none⟩) (Kd.R_far (p := ⟨aL, 0, none⟩) (Kd.R_types bI.out ai.out (by decide)) (fun _ hk => hk.2) (.slice aI aj.length aF)) (fun _ hk => hk.2) (.slice aJ al.length aG)) (fun _ hk => hk.2) (.slice aK am.length aH)) (fun _ h_ => h_.1))))) (below_size (by repeat (first | (with_reducible first | exact HB.out | apply below_alloc | apply pw_below_drewN | apply below_drew1 | refine bse ?_ aN.out | refine bse ?_ aX.out) | exact HB.out)))); have n5_ := amk (blk_below (g := aW) (o := .cells #[.slice bj l0_0.length bk] 33 (0, 0)) (by (with_reducible repeat (first | refine bkn ?_ _ | refine bkd ?_ | refine bka ?_ _)); refine blk_far ?_ bP.out _; (with_reducible repeat (first | refine bkn ?_ _ | refine bkd ?_ | refine bka ?_ _)); refine blk_far ?_ bP.out _; (with_reducible repeat (first | refine bkn ?_ _ | refine bkd ?_ | refine bka ?_ _)); refine blk_far ?_ bP.out _; (with_reducible repeat (first | refine bkn ?_ _ | refine bkd ?_ | refine bka ?_ _)); exact aw.out) hb); have n6_ := amk (blk_below (g := aL) (o := .cells #[.slice aI aj.length aF, .slice aJ al.length aG, .slice aK am.length aH] 50 (0, 0)) (by (with_reducible repeat (first | refine bkn ?_ _ | refine bkd ?_ | refine bka ?_ _)); refine blk_put (cs := #[.slice aI aj.length aF, .slice aJ al.length aG, .slice none 0 0]) ?_ 2 _ rfl; (with_reducible repeat (first | refine bkn ?_ _ | refine bkd ?_ | refine bka ?_ _)); refine blk_put (cs := #[.slice aI aj.length aF, .slice none 0 0, .slice none 0 0]) ?_ 1 _ rfl; (with_reducible repeat (first | refine bkn ?_ _ | refine bkd ?_ | refine bka ?_ _)); refine blk_put (cs := #[.slice none 0 0, .slice none 0 0, .slice none 0 0]) ?_ 0 _ rfl; (with_reducible repeat (first | refine bkn ?_ _ | refine bkd ?_ | refine bka ?_ _)); exact ai.out) hb); have n7_ := amk (below_step (by repeat (first | (with_reducible first | exact HB.out | apply below_alloc | apply pw_below_drewN | apply below_drew1 | refine bse ?_ aN.out | refine bse ?_ aX.out) | exact HB.out)) hb); clear bE; clear bG; clear bH; clear bI; clear aw; clear ai; clear HB; have bE := n0_; have bG := n1_; have bH := n2_; have bI := n3_; have bT := n4_; have aw := n5_; have ai := n6_; have HB := n7_; clear n0_ n1_ n2_ n3_ n4_ n5_ n6_ n7_; (try clear hb); (try clear hb2); (try clear hk); (try clear hi); (try clear ho0)) | ((with_reducible refine gate_dst (N := 6) rfl ?_); refine box_event ?hg (N := 6) ?hd (cs := #[.slice none 0 0]) (t := 37) ?hr ?_; (case hd => rfl); (case hg => rfl); (case hr => first | (go_simp; done) | (go_simp; rfl)); intro aU hg w27 hbox hb; have n0_ := amk (Kd.R_below (by (with_reducible repeat (first | apply kra | apply krn | apply krd)); exact bE.out) hb); have n1_ := amk (Kd.R_below (by (with_reducible repeat (first | apply kra | apply krn | apply krd)); exact bG.out) hb); have n2_ := amk (Kd.R_below (by (with_reducible repeat (first | apply kra | apply krn | apply krd)); exact bH.out) hb); have n3_ := amk (Kd.R_below (by (with_reducible repeat (first | apply kra | apply krn | apply krd)); exact bI.out) hb); have n4_ := amk (Kd.R_below (by (with_reducible repeat (first | apply kra | apply krn | apply krd)); exact bT.out) hb); have n5_ := amk (blk_below (g := aW) (o := .cells #[.slice bj l0_0.length bk] 33 (0, 0)) (by (with_reducible repeat (first | refine bkn ?_ _ | refine bkd ?_ | refine bka ?_ _)); exact aw.out) hb); have n6_ := amk (blk_below (g := aL) (o := .cells #[.slice aI aj.length aF, .slice aJ al.length aG, .slice aK am.length aH] 50 (0, 0)) (by (with_reducible repeat (first | refine bkn ?_ _ | refine bkd ?_ | refine bka ?_ _)); exact ai.out) hb); have n7_ := amk (below_step (by repeat (first | (with_reducible first | exact HB.out | apply below_alloc | apply pw_below_drewN | apply below_drew1 | refine bse ?_ aN.out | refine bse ?_ aX.out) | exact HB.out)) hb); have n8_ := amk (hbox); have n9_ := amk ((by rw [hg]; exact (below_size (by repeat (first | (with_reducible first | exact HB.out | apply below_alloc | apply pw_below_drewN | apply below_drew1 | refine bse ?_ aN.out | refine bse ?_ aX.out) | exact HB.out))) : w.heap.size ≤ aU)); have bl := amk ((by rw [hg]; exact (below_size (by repeat (first | (with_reducible first | exact HB.out | apply below_alloc | apply pw_below_drewN | apply below_drew1 | refine bse ?_ aN.out | refine bse ?_ aX.out) | exact HB.out))) : w.heap.size ≤ aU)); have bm := amk ((by rw [hg]; exact Nat.ne_of_lt (blk_lt (g := aW) (o := .cells #[.slice bj l0_0.length bk] 33 (0, 0)) (by (with_reducible repeat (first | refine bkn ?_ _ | refine bkd ?_ | refine bka ?_ _)); exact aw.out)) : aW ≠ aU)); have bA := amk ((by rw [hg]; exact Nat.ne_of_gt (blk_lt (g := aW) (o := .cells #[.slice bj l0_0.length bk] 33 (0, 0)) (by (with_reducible repeat (first | refine bkn ?_ _ | refine bkd ?_ | refine bka ?_ _)); exact aw.out)) : aU ≠ aW)); have cj := amk ((by rw [hg]; exact Nat.ne_of_lt (blk_lt (g := aL) (o := .cells #[.slice aI aj.length aF, .slice aJ al.length aG, .slice aK am.length aH] 50 (0, 0)) (by (with_reducible repeat (first | refine bkn ?_ _ | refine bkd ?_ | refine bka ?_ _)); exact ai.out)) : aL ≠ aU)); have ck := amk ((by rw [hg]; exact Nat.ne_of_gt (blk_lt (g := aL) (o := .cells #[.slice aI aj.length aF, .slice aJ al.length aG, .slice aK am.length aH] 50 (0, 0)) (by (with_reducible repeat (first | refine bkn ?_ _ | refine bkd ?_ | refine bka ?_ _)); exact ai.out)) : aU ≠ aL)); clear bE; clear bG; clear bH; clear bI; clear bT; clear aw; clear ai; clear HB; have bE := n0_; have bG := n1_; have bH := n2_; have bI := n3_; have bT := n4_; have aw := n5_; have ai := n6_; have HB := n7_; have aA := n8_; have GW721 := n9_; have bd := bl; have cP := bm; have du := bA; have cb := cj; have cl := ck; clear n0_ n1_ n2_ n3_ n4_ n5_ n6_ n7_ n8_ n9_ bl bm bA cj ck; clear hb hbox hg; obtain ⟨aD, aC, eo28⟩ := Kd.R_slice bT.out; subst eo28; have hnb29 := du.out; have hnc29 := cP.out; have hnb30 := cl.out; have hnc30 := cb.out; have dc : w27.cell? ⟨aU, 0, none⟩ = some (.slice none 0 0) := (blk_cell aA.out 0).trans rfl; have dK := blk_frozen aA.out 0) | ((with_reducible refine gate_callee (f := 39) rfl ?_); refine goesL_ (some 29) rfl rfl Try.func39 (by kernel_rfl) rfl #[.agg #[.slice aD aE.length aC]] rfl (by (try simp only [List.map_toArray, List.map_cons, List.map_nil]); first | done | rfl | (simp only [List.length_drop, List.length_take]; rfl)) ?_; (with_reducible refine (impl_JobsOfTasks.calls k _ _ aE af ag ah ca _ ?ba ?bb A10.out).mono ?_); (case ba => refine (Kd.R_reads' (e := 2) (base := w.heap.size) (ok := fun k_ => ((((True ∧ some k_ ≠ (.slice cG bR.length cH : Value).ownBlock) ∧ some k_ ≠ (.slice aI aj.length aF : Value).ownBlock) ∧ some k_ ≠ (.slice aJ al.length aG : Value).ownBlock) ∧ some k_ ≠ (.slice aK am.length aH : Value).ownBlock)) (n := aE.length) (c := aC) ?_).2.2; exact (by (with_reducible repeat (first | apply kra | apply krn | apply krd)); exact (Kd.R_mono (Kd.R_far (p := ⟨aU, 0, none⟩) (Kd.R_types bT.out aA.out (by decide)) (fun _ hk => hk.2) (.slice aD aE.length aC)) (fun _ h_ => h_.1)))); (case bb => exact (Kd.R_reads' bT.out).2.1); rintro e w32 ⟨v723, v726, v729, rfl, ho0, ho1, ho2, hb⟩; refine ⟨_, rfl, ?_⟩; have n0_ := amk (Kd.R_mono (Kd.R_told (Kd.R_told (Kd.R_told (Kd.R_old (by (with_reducible repeat (first | apply kra | apply krn | apply krd)); exact (Kd.R_mono (Kd.R_far (p := ⟨aU, 0, none⟩) (Kd.R_types bE.out aA.out (by decide)) (fun _ hk => hk.2) (.slice aD aE.length aC)) (fun _ h_ => h_.1))) hb) (Kd.R_base ho0)) (Kd.R_base ho1)) (Kd.R_base ho2)) (fun _ h_ => h_.1)); have n1_ := amk (Kd.R_mono (Kd.R_told (Kd.R_told (Kd.R_told (Kd.R_old (by (with_reducible repeat (first | apply kra | apply krn | apply krd)); exact (Kd.R_mono (Kd.R_far (p := ⟨aU, 0, none⟩) (Kd.R_types bG.out aA.out (by decide)) (fun _ hk => hk.2) (.slice aD aE.length aC)) (fun _ h_ => h_.1))) hb) (Kd.R_base ho0)) (Kd.R_base ho1)) (Kd.R_base ho2)) (fun _ h_ => h_.1)); have n2_ := amk (Kd.R_mono (Kd.R_told (Kd.R_told (Kd.R_told (Kd.R_old (by (with_reducible repeat (first | apply kra | apply krn | apply krd)); exact (Kd.R_mono (Kd.R_far (p := ⟨aU, 0, none⟩) (Kd.R_types bH.out aA.out (by decide)) (fun _ hk => hk.2) (.slice aD aE.length aC)) (fun _ h_ => h_.1))) hb) (Kd.R_base ho0)) (Kd.R_base ho1)) (Kd.R_base ho2)) (fun _ h_ => h_.1)); have n3_ := amk (Kd.R_mono (Kd.R_told (Kd.R_told (Kd.R_told (Kd.R_old (by (with_reducible repeat (first | apply kra | apply krn | apply krd)); exact (Kd.R_mono (Kd.R_far (p := ⟨aU, 0, none⟩) (Kd.R_types bI.out aA.out (by decide)) (fun _ hk => hk.2) (.slice aD aE.length aC)) (fun _ h_ => h_.1))) hb) (Kd.R_base ho0)) (Kd.R_base ho1)) (Kd.R_base ho2)) (fun _ h_ => h_.1)); have n4_ := amk (Kd.R_mono (Kd.R_told (Kd.R_told (Kd.R_told (Kd.R_old (by (with_reducible repeat (first | apply kra | apply krn | apply krd)); exact (Kd.R_mono (Kd.R_far (p := ⟨aU, 0, none⟩) (Kd.R_types bT.out aA.out (by decide)) (fun _ hk => hk.2) (.slice aD aE.length aC)) (fun _ h_ => h_.1))) hb) (Kd.R_base ho0)) (Kd.R_base ho1)) (Kd.R_base ho2)) (fun _ h_ => h_.1)); have n5_ := amk (Kd.R_lower (Kd.R_new' (Kd.R_new' (Kd.R_new' (Kd.R_new' (Kd.R_new' ho0 (Kd.R_lt (by (with_reducible repeat (first | apply kra | apply krn | apply krd)); exact (Kd.R_mono (Kd.R_far (p := ⟨aU, 0, none⟩) (Kd.R_types bE.out aA.out (by decide)) (fun _ hk => hk.2) (.slice aD aE.length aC)) (fun _ h_ => h_.1))))) (Kd.R_lt (by (with_reducible repeat (first | apply kra | apply krn | apply krd)); exact (Kd.R_mono (Kd.R_far (p := ⟨aU, 0, none⟩) (Kd.R_types bG.out aA.out (by decide)) (fun _ hk => hk.2) (.slice aD aE.length aC)) (fun _ h_ => h_.1))))) (Kd.R_lt (by (with_reducible repeat (first | apply kra | apply krn | apply krd)); exact (Kd.R_mono (Kd.R_far (p := ⟨aU, 0, none⟩) (Kd.R_types bH.out aA.out (by decide)) (fun _ hk => hk.2) (.slice aD aE.length aC)) (fun _ h_ => h_.1))))) (Kd.R_lt (by (with_reducible repeat (first | apply kra | apply krn | apply krd)); exact (Kd.R_mono (Kd.R_far (p := ⟨aU, 0, none⟩) (Kd.R_types bI.out aA.out (by decide)) (fun _ hk => hk.2) (.slice aD aE.length aC)) (fun _ h_ => h_.1))))) (Kd.R_lt (by (with_reducible repeat (first | apply kra | apply krn | apply krd)); exact (Kd.R_mono (Kd.R_far (p := ⟨aU, 0, none⟩) (Kd.R_types bT.out aA.out (by decide)) (fun _ hk => hk.2) (.slice aD aE.length aC)) (fun _ h_ => h_.1))))) (below_size (by repeat (first | (with_reducible first | exact HB.out | apply below_alloc | apply pw_below_drewN | apply below_drew1 | refine bse ?_ aN.out | refine bse ?_ aX.out | refine bse ?_ bd.out) | exact HB.out)))); have n6_ := amk (Kd.R_lower (Kd.R_new' (Kd.R_new' (Kd.R_new' (Kd.R_new' (Kd.R_new' ho1 (Kd.R_lt (by (with_reducible repeat (first | apply kra | apply krn | apply krd)); exact (Kd.R_mono (Kd.R_far (p := ⟨aU, 0, none⟩) (Kd.R_types bE.out aA.out (by decide)) (fun _ hk => hk.2) (.slice aD aE.length aC)) (fun _ h_ => h_.1))))) (Kd.R_lt (by (with_reducible repeat (first | apply kra | apply krn | apply krd)); exact (Kd.R_mono (Kd.R_far (p := ⟨aU, 0, none⟩) (Kd.R_types bG.out aA.out (by decide)) (fun _ hk => hk.2) (.slice aD aE.length aC)) (fun _ h_ => h_.1))))) (Kd.R_lt (by (with_reducible repeat (first | apply kra | apply krn | apply krd)); exact (Kd.R_mono (Kd.R_far (p := ⟨aU, 0, none⟩) (Kd.R_types bH.out aA.out (by decide)) (fun _ hk => hk.2) (.slice aD aE.length aC)) (fun _ h_ => h_.1))))) (Kd.R_lt (by (with_reducible repeat (first | apply kra | apply krn | apply krd)); exact (Kd.R_mono (Kd.R_far (p := ⟨aU, 0, none⟩) (Kd.R_types bI.out aA.out (by decide)) (fun _ hk => hk.2) (.slice aD aE.length aC)) (fun _ h_ => h_.1))))) (Kd.R_lt (by (with_reducible repeat (first | apply kra | apply krn | apply krd)); exact (Kd.R_mono (Kd.R_far (p := ⟨aU, 0, none⟩) (Kd.R_types bT.out aA.out (by decide)) (fun _ hk => hk.2) (.slice aD aE.length aC)) (fun _ h_ => h_.1))))) (below_size (by repeat (first | (with_reducible first | exact HB.out | apply below_alloc | apply pw_below_drewN | apply below_drew1 | refine bse ?_ aN.out | refine bse ?_ aX.out | refine bse ?_ bd.out) | exact HB.out)))); have n7_ := amk (Kd.R_lower (Kd.R_new' (Kd.R_new' (Kd.R_new' (Kd.R_new' (Kd.R_new' ho2 (Kd.R_lt (by (with_reducible repeat (first | apply kra | apply krn | apply krd)); exact (Kd.R_mono (Kd.R_far (p := ⟨aU, 0, none⟩) (Kd.R_types bE.out aA.out (by decide)) (fun _ hk => hk.2) (.slice aD aE.length aC)) (fun _ h_ => h_.1))))) (Kd.R_lt (by (with_reducible repeat (first | apply kra | apply krn | apply krd)); exact (Kd.R_mono (Kd.R_far (p := ⟨aU, 0, none⟩) (Kd.R_types bG.out aA.out (by decide)) (fun _ hk => hk.2) (.slice aD aE.length aC)) (fun _ h_ => h_.1))))) (Kd.R_lt (by (with_reducible repeat (first | apply kra | apply krn | apply krd)); exact (Kd.R_mono (Kd.R_far (p := ⟨aU, 0, none⟩) (Kd.R_types bH.out aA.out (by decide)) (fun _ hk => hk.2) (.slice aD aE.length aC)) (fun _ h_ => h_.1))))) (Kd.R_lt (by (with_reducible repeat (first | apply kra | apply krn | apply krd)); exact (Kd.R_mono (Kd.R_far (p := ⟨aU, 0, none⟩) (Kd.R_types bI.out aA.out (by decide)) (fun _ hk => hk.2) (.slice aD aE.length aC)) (fun _ h_ => h_.1))))) (Kd.R_lt (by (with_reducible repeat (first | apply kra | apply krn | apply krd)); exact (Kd.R_mono (Kd.R_far (p := ⟨aU, 0, none⟩) (Kd.R_types bT.out aA.out (by decide)) (fun _ hk => hk.2) (.slice aD aE.length aC)) (fun _ h_ => h_.1))))) (below_size (by repeat (first | (with_reducible first | exact HB.out | apply below_alloc | apply pw_below_drewN | apply below_drew1 | refine bse ?_ aN.out | refine bse ?_ aX.out | refine bse ?_ bd.out) | exact HB.out)))); have n8_ := amk (blk_below (g := aW) (o := .cells #[.slice bj l0_0.length bk] 33 (0, 0)) (by (with_reducible repeat (first | refine bkn ?_ _ | refine bkd ?_ | refine bka ?_ _)); refine blk_far ?_ cP.out _; (with_reducible repeat (first | refine bkn ?_ _ | refine bkd ?_ | refine bka ?_ _)); exact aw.out) hb); have n9_ := amk (blk_below (g := aL) (o := .cells #[.slice aI aj.length aF, .slice aJ al.length aG, .slice aK am.length aH] 50 (0, 0)) (by (with_reducible repeat (first | refine bkn ?_ _ | refine bkd ?_ | refine bka ?_ _)); refine blk_far ?_ cb.out _; (with_reducible repeat (first | refine bkn ?_ _ | refine bkd ?_ | refine bka ?_ _)); exact ai.out) hb); have bl := amk (blk_below (g := aU) (o := .cells #[.slice aD aE.length aC] 37 (0, 0)) (by (with_reducible repeat (first | refine bkn ?_ _ | refine bkd ?_ | refine bka ?_ _)); refine blk_put (cs := #[.slice none 0 0]) ?_ 0 _ rfl; (with_reducible repeat (first | refine bkn ?_ _ | refine bkd ?_ | refine bka ?_ _)); exact aA.out) hb); have bm := amk (below_step (by repeat (first | (with_reducible first | exact HB.out | apply below_alloc | apply pw_below_drewN | apply below_drew1 | refine bse ?_ aN.out | refine bse ?_ aX.out | refine bse ?_ bd.out) | exact HB.out)) hb); clear bE; clear bG; clear bH; clear bI; clear bT; clear aw; clear ai; clear aA; clear HB; have bE := n0_; have bG := n1_; have bH := n2_; have bI := n3_; have bT := n4_; have ct := n5_; have cu := n6_; have cv := n7_; have aw := n8_; have ai := n9_; have aA := bl; have HB := bm; clear n0_ n1_ n2_ n3_ n4_ n5_ n6_ n7_ n8_ n9_ bl bm; (try clear hb); (try clear hb2); (try clear hk); (try clear hi); (try clear ho0); (try clear ho1); (try clear ho2)) | ((with_reducible refine gate_dst (N := 7) rfl ?_); refine box_event ?hg (N := 7) ?hd (cs := #[.slice none 0 0, .slice none 0 0, .slice none 0 0]) (t := 50) ?hr ?_; (case hd => rfl); (case hg => rfl); (case hr => first | (go_simp; done) | (go_simp; rfl)); intro ae hg w33 hbox hb; have n0_ := amk (Kd.R_below (by (with_reducible repeat (first | apply kra | apply krn | apply krd)); exact bE.out) hb); have n1_ := amk (Kd.R_below (by (with_reducible repeat (first | apply kra | apply krn | apply krd)); exact bG.out) hb); have n2_ := amk (Kd.R_below (by (with_reducible repeat (first | apply kra | apply krn | apply krd)); exact bH.out) hb); have n3_ := amk (Kd.R_below (by (with_reducible repeat (first | apply kra | apply krn | apply krd)); exact bI.out) hb); have n4_ := amk (Kd.R_below (by (with_reducible repeat (first | apply kra | apply krn | apply krd)); exact bT.out) hb); have n5_ := amk (Kd.R_below (by (with_reducible repeat (first | apply kra | apply krn | apply krd)); exact ct.out) hb); have n6_ := amk (Kd.R_below (by (with_reducible repeat (first | apply kra | apply krn | apply krd)); exact cu.out) hb); have n7_ := amk (Kd.R_below (by (with_reducible repeat (first | apply kra | apply krn | apply krd)); exact cv.out) hb); have n8_ := amk (blk_below (g := aW) (o := .cells #[.slice bj l0_0.length bk] 33 (0, 0)) (by (with_reducible repeat (first | refine bkn ?_ _ | refine bkd ?_ | refine bka ?_ _)); exact aw.out) hb); have n9_ := amk (blk_below (g := aL) (o := .cells #[.slice aI aj.length aF, .slice aJ al.length aG, .slice aK am.length aH] 50 (0, 0)) (by (with_reducible repeat (first | refine bkn ?_ _ | refine bkd ?_ | refine bka ?_ _)); exact ai.out) hb); have bl := amk (blk_below (g := aU) (o := .cells #[.slice aD aE.length aC] 37 (0, 0)) (by (with_reducible repeat (first | refine bkn ?_ _ | refine bkd ?_ | refine bka ?_ _)); exact aA.out) hb); have bm := amk (below_step (by repeat (first | (with_reducible first | exact HB.out | apply below_alloc | apply pw_below_drewN | apply below_drew1 | refine bse ?_ aN.out | refine bse ?_ aX.out | refine bse ?_ bd.out) | exact HB.out)) hb); have bA := amk (hbox); have cj := amk ((by rw [hg]; exact (below_size (by repeat (first | (with_reducible first | exact HB.out | apply below_alloc | apply pw_below_drewN | apply below_drew1 | refine bse ?_ aN.out | refine bse ?_ aX.out | refine bse ?_ bd.out) | exact HB.out))) : w.heap.size ≤ ae)); have ck := amk ((by rw [hg]; exact (below_size (by repeat (first | (with_reducible first | exact HB.out | apply below_alloc | apply pw_below_drewN | apply below_drew1 | refine bse ?_ aN.out | refine bse ?_ aX.out | refine bse ?_ bd.out) | exact HB.out))) : w.heap.size ≤ ae)); have cz := amk ((by rw [hg]; exact Nat.ne_of_lt (blk_lt (g := aW) (o := .cells #[.slice bj l0_0.length bk] 33 (0, 0)) (by (with_reducible repeat (first | refine bkn ?_ _ | refine bkd ?_ | refine bka ?_ _)); exact aw.out)) : aW ≠ ae)); have n16_ := amk ((by rw [hg]; exact Nat.ne_of_gt (blk_lt (g := aW) (o := .cells #[.slice bj l0_0.length bk] 33 (0, 0)) (by (with_reducible repeat (first | refine bkn ?_ _ | refine bkd ?_ | refine bka ?_ _)); exact aw.out)) : ae ≠ aW)); have n17_ := amk ((by rw [hg]; exact Nat.ne_of_lt (blk_lt (g := aL) (o := .cells #[.slice aI aj.length aF, .slice aJ al.length aG, .slice aK am.length aH] 50 (0, 0)) (by (with_reducible repeat (first | refine bkn ?_ _ | refine bkd ?_ | refine bka ?_ _)); exact ai.out)) : aL ≠ ae)); have n18_ := amk ((by rw [hg]; exact Nat.ne_of_gt (blk_lt (g := aL) (o := .cells #[.slice aI aj.length aF, .slice aJ al.length aG, .slice aK am.length aH] 50 (0, 0)) (by (with_reducible repeat (first | refine bkn ?_ _ | refine bkd ?_ | refine bka ?_ _)); exact ai.out)) : ae ≠ aL)); have n19_ := amk ((by rw [hg]; exact Nat.ne_of_lt (blk_lt (g := aU) (o := .cells #[.slice aD aE.length aC] 37 (0, 0)) (by (with_reducible repeat (first | refine bkn ?_ _ | refine bkd ?_ | refine bka ?_ _)); exact aA.out)) : aU ≠ ae)); have n20_ := amk ((by rw [hg]; exact Nat.ne_of_gt (blk_lt (g := aU) (o := .cells #[.slice aD aE.length aC] 37 (0, 0)) (by (with_reducible repeat (first | refine bkn ?_ _ | refine bkd ?_ | refine bka ?_ _)); exact aA.out)) : ae ≠ aU)); clear bE; clear bG; clear bH; clear bI; clear bT; clear ct; clear cu; clear cv; clear aw; clear ai; clear aA; clear HB; have bE := n0_; have bG := n1_; have bH := n2_; have bI := n3_; have bT := n4_; have ct := n5_; have cu := n6_; have cv := n7_; have aw := n8_; have ai := n9_; have aA := bl; have HB := bm; have ad := bA; have GW732 := cj; have bi := ck; have bz := cz; have bQ := n16_; have bs := n17_; have bK := n18_; have bw := n19_; have bL := n20_; clear n0_ n1_ n2_ n3_ n4_ n5_ n6_ n7_ n8_ n9_ bl bm bA cj ck cz n16_ n17_ n18_ n19_ n20_; clear hb hbox hg; obtain ⟨au, ar, eo34⟩ := Kd.R_slice ct.out; subst eo34; have hnb35 := bQ.out; have hnc35 := bz.out; have hnb36 := bK.out; have hnc36 := bs.out; have hnb37 := bL.out; have hnc37 := bw.out; have dd : w33.cell? ⟨ae, 0, none⟩ = some (.slice none 0 0) := (blk_cell ad.out 0).trans rfl; have de : w33.cell? ⟨ae, 1, none⟩ = some (.slice none 0 0) := (blk_cell ad.out 1).trans rfl; have df : w33.cell? ⟨ae, 2, none⟩ = some (.slice none 0 0) := (blk_cell ad.out 2).trans rfl; have dL := blk_frozen ad.out 0; have dM := blk_frozen ad.out 1; have dN := blk_frozen ad.out 2; obtain ⟨ax, av, eo39⟩ := Kd.R_slice cu.out; subst eo39; obtain ⟨az, ay, eo40⟩ := Kd.R_slice cv.out; subst eo40))
  (try simp only [Act.put, List.setIfInBounds_toArray, List.set_cons_zero, List.set_cons_succ])
  go_cut [40] (fun v40 wc => ∃ (kq : Nat) (cU : Bool), v40 = .bool cU ∧ Aside0 (laws_FnExactJobsOfTasks.j0 kq bn ca cU l0_0 aj al am aE af ag ah = some r) ∧ Aside0 (kq ≤ k) ∧ Aside0 (Kd.R (Kd.int .i64) 2 wc w.heap.size (fun k_ => some k_ ≠ ((.slice aJ al.length aG) : Value).ownBlock ∧ some k_ ≠ ((.slice aK am.length aH) : Value).ownBlock ∧ some k_ ≠ ((.slice aD aE.length aC) : Value).ownBlock ∧ some k_ ≠ ((.slice au af.length ar) : Value).ownBlock ∧ some k_ ≠ ((.slice ax ag.length av) : Value).ownBlock ∧ some k_ ≠ ((.slice az ah.length ay) : Value).ownBlock) (.slice aI aj.length aF) aj) ∧ Aside0 (Kd.R (Kd.int .i64) 2 wc w.heap.size (fun k_ => some k_ ≠ ((.slice aI aj.length aF) : Value).ownBlock ∧ some k_ ≠ ((.slice aK am.length aH) : Value).ownBlock ∧ some k_ ≠ ((.slice aD aE.length aC) : Value).ownBlock ∧ some k_ ≠ ((.slice au af.length ar) : Value).ownBlock ∧ some k_ ≠ ((.slice ax ag.length av) : Value).ownBlock ∧ some k_ ≠ ((.slice az ah.length ay) : Value).ownBlock) (.slice aJ al.length aG) al) ∧ Aside0 (Kd.R (Kd.int .i64) 2 wc w.heap.size (fun k_ => some k_ ≠ ((.slice aI aj.length aF) : Value).ownBlock ∧ some k_ ≠ ((.slice aJ al.length aG) : Value).ownBlock ∧ some k_ ≠ ((.slice aD aE.length aC) : Value).ownBlock ∧ some k_ ≠ ((.slice au af.length ar) : Value).ownBlock ∧ some k_ ≠ ((.slice ax ag.length av) : Value).ownBlock ∧ some k_ ≠ ((.slice az ah.length ay) : Value).ownBlock) (.slice aK am.length aH) am) ∧ Aside0 (Kd.R (Kd.int .i64) 2 wc w.heap.size (fun k_ => some k_ ≠ ((.slice aI aj.length aF) : Value).ownBlock ∧ some k_ ≠ ((.slice aJ al.length aG) : Value).ownBlock ∧ some k_ ≠ ((.slice aK am.length aH) : Value).ownBlock ∧ some k_ ≠ ((.slice au af.length ar) : Value).ownBlock ∧ some k_ ≠ ((.slice ax ag.length av) : Value).ownBlock ∧ some k_ ≠ ((.slice az ah.length ay) : Value).ownBlock) (.slice aD aE.length aC) aE) ∧ Aside0 (Kd.R (Kd.int .i64) 2 wc w.heap.size (fun k_ => some k_ ≠ ((.slice aI aj.length aF) : Value).ownBlock ∧ some k_ ≠ ((.slice aJ al.length aG) : Value).ownBlock ∧ some k_ ≠ ((.slice aK am.length aH) : Value).ownBlock ∧ some k_ ≠ ((.slice aD aE.length aC) : Value).ownBlock ∧ some k_ ≠ ((.slice ax ag.length av) : Value).ownBlock ∧ some k_ ≠ ((.slice az ah.length ay) : Value).ownBlock) (.slice au af.length ar) af) ∧ Aside0 (Kd.R (Kd.int .i64) 2 wc w.heap.size (fun k_ => some k_ ≠ ((.slice aI aj.length aF) : Value).ownBlock ∧ some k_ ≠ ((.slice aJ al.length aG) : Value).ownBlock ∧ some k_ ≠ ((.slice aK am.length aH) : Value).ownBlock ∧ some k_ ≠ ((.slice aD aE.length aC) : Value).ownBlock ∧ some k_ ≠ ((.slice au af.length ar) : Value).ownBlock ∧ some k_ ≠ ((.slice az ah.length ay) : Value).ownBlock) (.slice ax ag.length av) ag) ∧ Aside0 (Kd.R (Kd.int .i64) 2 wc w.heap.size (fun k_ => some k_ ≠ ((.slice aI aj.length aF) : Value).ownBlock ∧ some k_ ≠ ((.slice aJ al.length aG) : Value).ownBlock ∧ some k_ ≠ ((.slice aK am.length aH) : Value).ownBlock ∧ some k_ ≠ ((.slice aD aE.length aC) : Value).ownBlock ∧ some k_ ≠ ((.slice au af.length ar) : Value).ownBlock ∧ some k_ ≠ ((.slice ax ag.length av) : Value).ownBlock) (.slice az ah.length ay) ah) ∧ Aside0 (wc.heap[aW]? = some (.cells #[(.slice bj l0_0.length bk)] 33 (0, 0))) ∧ Aside0 (wc.heap[aL]? = some (.cells #[(.slice aI aj.length aF), (.slice aJ al.length aG), (.slice aK am.length aH)] 50 (0, 0))) ∧ Aside0 (wc.heap[aU]? = some (.cells #[(.slice aD aE.length aC)] 37 (0, 0))) ∧ Aside0 (wc.heap[ae]? = some (.cells #[(.slice au af.length ar), (.slice ax ag.length av), (.slice az ah.length ay)] 50 (0, 0))) ∧ Aside0 (Below w.heap.size w wc))
  case first =>
   have H := HC11.out
   clear HC11
   replace H := Option.bind_eq_some_iff.mp H
   obtain ⟨cr, A410, H⟩ := H
   replace H : (if cr = true then (laws_FnExactJobsOfTasks.j0 k bn ca (ca != bn) l0_0 aj al am aE af ag ah) else (laws_FnExactJobsOfTasks.j0 k bn ca true l0_0 aj al am aE af ag ah)) = some r := H
   have A41 := amk A410
   clear A410
   by_cases c42 : cr = true
   ·
    subst c42
    have H1 : (laws_FnExactJobsOfTasks.j0 k bn ca (ca != bn) l0_0 aj al am aE af ag ah) = some r := by rw [if_pos rfl] at H; exact H
    clear H
    have H := H1
    clear H1
    have H' := amk H
    clear H
    have hnb43 := bQ.out
    have hnc43 := bz.out
    have hnb44 := bK.out
    have hnc44 := bs.out
    have hnb45 := bL.out
    have hnc45 := bw.out
    have dg : w33.cell? ⟨ae, 0, none⟩ = some (.slice none 0 0) := (blk_cell ad.out 0).trans rfl
    have dh : w33.cell? ⟨ae, 1, none⟩ = some (.slice none 0 0) := (blk_cell ad.out 1).trans rfl
    have di : w33.cell? ⟨ae, 2, none⟩ = some (.slice none 0 0) := (blk_cell ad.out 2).trans rfl
    have dO := blk_frozen ad.out 0
    have dP := blk_frozen ad.out 1
    have dQ := blk_frozen ad.out 2
    have hnb47 := ci.out
    have hnc47 := bP.out
    have hnb48 := cb.out
    have hnc48 := cl.out
    have dj : w33.cell? ⟨aL, 0, none⟩ = some (.slice aI aj.length aF) := (blk_cell ai.out 0).trans rfl
    have dk : w33.cell? ⟨aL, 1, none⟩ = some (.slice aJ al.length aG) := (blk_cell ai.out 1).trans rfl
    have dl : w33.cell? ⟨aL, 2, none⟩ = some (.slice aK am.length aH) := (blk_cell ai.out 2).trans rfl
    have dR := blk_frozen ai.out 0
    have dS := blk_frozen ai.out 1
    have dT := blk_frozen ai.out 2
    go_wp2_with (first | ((with_reducible refine gate_callee (f := 40) rfl ?_); refine goesL_ (some 34) rfl rfl Try.func40 (by kernel_rfl) rfl #[.agg #[.slice au af.length ar, .slice ax ag.length av, .slice az ah.length ay], .agg #[.slice aI aj.length aF, .slice aJ al.length aG, .slice aK am.length aH]] rfl (by (try simp only [List.map_toArray, List.map_cons, List.map_nil]); first | done | rfl | (simp only [List.length_drop, List.length_take]; rfl)) ?_; (with_reducible refine (laws_eqJobs.calls k _ _ af _ _ ag _ _ ah _ _ aj _ _ al _ _ am true _ ?ba ?bb ?bt ?bu ?bB ?bC ?bU ?bV ?bW ?bM ?cm ?cn A41.out).mono ?_); (case ba => refine (Kd.R_reads' (e := 2) (base := w.heap.size) (ok := fun k_ => ((((((some k_ ≠ (.slice ax ag.length av : Value).ownBlock ∧ some k_ ≠ (.slice az ah.length ay : Value).ownBlock) ∧ some k_ ≠ (.slice cG bR.length cH : Value).ownBlock) ∧ some k_ ≠ (.slice aI aj.length aF : Value).ownBlock) ∧ some k_ ≠ (.slice aJ al.length aG : Value).ownBlock) ∧ some k_ ≠ (.slice aK am.length aH : Value).ownBlock) ∧ some k_ ≠ (.slice aD aE.length aC : Value).ownBlock)) (n := af.length) (c := ar) ?_).2.2; exact (by (with_reducible repeat (first | apply kra | apply krn | apply krd)); exact (Kd.R_mono (Kd.R_far (p := ⟨ae, 2, none⟩) (Kd.R_far (p := ⟨ae, 1, none⟩) (Kd.R_far (p := ⟨ae, 0, none⟩) (Kd.R_types ct.out ad.out (by decide)) (fun _ hk => hk.2) (.slice au af.length ar)) (fun _ hk => hk.2) (.slice ax ag.length av)) (fun _ hk => hk.2) (.slice az ah.length ay)) (fun _ h_ => h_.1)))); (case bb => exact (Kd.R_reads' ct.out).2.1); (case bt => refine (Kd.R_reads' (e := 2) (base := w.heap.size) (ok := fun k_ => ((((((some k_ ≠ (.slice au af.length ar : Value).ownBlock ∧ some k_ ≠ (.slice az ah.length ay : Value).ownBlock) ∧ some k_ ≠ (.slice cG bR.length cH : Value).ownBlock) ∧ some k_ ≠ (.slice aI aj.length aF : Value).ownBlock) ∧ some k_ ≠ (.slice aJ al.length aG : Value).ownBlock) ∧ some k_ ≠ (.slice aK am.length aH : Value).ownBlock) ∧ some k_ ≠ (.slice aD aE.length aC : Value).ownBlock)) (n := ag.length) (c := av) ?_).2.2; exact (by (with_reducible repeat (first | apply kra | apply krn | apply krd)); exact (Kd.R_mono (Kd.R_far (p := ⟨ae, 2, none⟩) (Kd.R_far (p := ⟨ae, 1, none⟩) (Kd.R_far (p := ⟨ae, 0, none⟩) (Kd.R_types cu.out ad.out (by decide)) (fun _ hk => hk.2) (.slice au af.length ar)) (fun _ hk => hk.2) (.slice ax ag.length av)) (fun _ hk => hk.2) (.slice az ah.length ay)) (fun _ h_ => h_.1)))); (case bu => exact (Kd.R_reads' cu.out).2.1); (case bB => refine (Kd.R_reads' (e := 2) (base := w.heap.size) (ok := fun k_ => ((((((some k_ ≠ (.slice au af.length ar : Value).ownBlock ∧ some k_ ≠ (.slice ax ag.length av : Value).ownBlock) ∧ some k_ ≠ (.slice cG bR.length cH : Value).ownBlock) ∧ some k_ ≠ (.slice aI aj.length aF : Value).ownBlock) ∧ some k_ ≠ (.slice aJ al.length aG : Value).ownBlock) ∧ some k_ ≠ (.slice aK am.length aH : Value).ownBlock) ∧ some k_ ≠ (.slice aD aE.length aC : Value).ownBlock)) (n := ah.length) (c := ay) ?_).2.2; exact (by (with_reducible repeat (first | apply kra | apply krn | apply krd)); exact (Kd.R_mono (Kd.R_far (p := ⟨ae, 2, none⟩) (Kd.R_far (p := ⟨ae, 1, none⟩) (Kd.R_far (p := ⟨ae, 0, none⟩) (Kd.R_types cv.out ad.out (by decide)) (fun _ hk => hk.2) (.slice au af.length ar)) (fun _ hk => hk.2) (.slice ax ag.length av)) (fun _ hk => hk.2) (.slice az ah.length ay)) (fun _ h_ => h_.1)))); (case bC => exact (Kd.R_reads' cv.out).2.1); (case bU => refine (Kd.R_reads' (e := 2) (base := w.heap.size) (ok := fun k_ => ((((((some k_ ≠ (.slice aJ al.length aG : Value).ownBlock ∧ some k_ ≠ (.slice aK am.length aH : Value).ownBlock) ∧ some k_ ≠ (.slice cG bR.length cH : Value).ownBlock) ∧ some k_ ≠ (.slice aD aE.length aC : Value).ownBlock) ∧ some k_ ≠ (.slice au af.length ar : Value).ownBlock) ∧ some k_ ≠ (.slice ax ag.length av : Value).ownBlock) ∧ some k_ ≠ (.slice az ah.length ay : Value).ownBlock)) (n := aj.length) (c := aF) ?_).2.2; exact (by (with_reducible repeat (first | apply kra | apply krn | apply krd)); exact (Kd.R_mono (Kd.R_far (p := ⟨ae, 2, none⟩) (Kd.R_far (p := ⟨ae, 1, none⟩) (Kd.R_far (p := ⟨ae, 0, none⟩) (Kd.R_types bG.out ad.out (by decide)) (fun _ hk => hk.2) (.slice au af.length ar)) (fun _ hk => hk.2) (.slice ax ag.length av)) (fun _ hk => hk.2) (.slice az ah.length ay)) (fun _ h_ => h_.1)))); (case bV => exact (Kd.R_reads' bG.out).2.1); (case bW => refine (Kd.R_reads' (e := 2) (base := w.heap.size) (ok := fun k_ => ((((((some k_ ≠ (.slice aI aj.length aF : Value).ownBlock ∧ some k_ ≠ (.slice aK am.length aH : Value).ownBlock) ∧ some k_ ≠ (.slice cG bR.length cH : Value).ownBlock) ∧ some k_ ≠ (.slice aD aE.length aC : Value).ownBlock) ∧ some k_ ≠ (.slice au af.length ar : Value).ownBlock) ∧ some k_ ≠ (.slice ax ag.length av : Value).ownBlock) ∧ some k_ ≠ (.slice az ah.length ay : Value).ownBlock)) (n := al.length) (c := aG) ?_).2.2; exact (by (with_reducible repeat (first | apply kra | apply krn | apply krd)); exact (Kd.R_mono (Kd.R_far (p := ⟨ae, 2, none⟩) (Kd.R_far (p := ⟨ae, 1, none⟩) (Kd.R_far (p := ⟨ae, 0, none⟩) (Kd.R_types bH.out ad.out (by decide)) (fun _ hk => hk.2) (.slice au af.length ar)) (fun _ hk => hk.2) (.slice ax ag.length av)) (fun _ hk => hk.2) (.slice az ah.length ay)) (fun _ h_ => h_.1)))); (case bM => exact (Kd.R_reads' bH.out).2.1); (case cm => refine (Kd.R_reads' (e := 2) (base := w.heap.size) (ok := fun k_ => ((((((some k_ ≠ (.slice aI aj.length aF : Value).ownBlock ∧ some k_ ≠ (.slice aJ al.length aG : Value).ownBlock) ∧ some k_ ≠ (.slice cG bR.length cH : Value).ownBlock) ∧ some k_ ≠ (.slice aD aE.length aC : Value).ownBlock) ∧ some k_ ≠ (.slice au af.length ar : Value).ownBlock) ∧ some k_ ≠ (.slice ax ag.length av : Value).ownBlock) ∧ some k_ ≠ (.slice az ah.length ay : Value).ownBlock)) (n := am.length) (c := aH) ?_).2.2; exact (by (with_reducible repeat (first | apply kra | apply krn | apply krd)); exact (Kd.R_mono (Kd.R_far (p := ⟨ae, 2, none⟩) (Kd.R_far (p := ⟨ae, 1, none⟩) (Kd.R_far (p := ⟨ae, 0, none⟩) (Kd.R_types bI.out ad.out (by decide)) (fun _ hk => hk.2) (.slice au af.length ar)) (fun _ hk => hk.2) (.slice ax ag.length av)) (fun _ hk => hk.2) (.slice az ah.length ay)) (fun _ h_ => h_.1)))); (case cn => exact (Kd.R_reads' bI.out).2.1); rintro e w50 ⟨rfl, hb⟩; refine ⟨_, rfl, ?_⟩; have n0_ := amk (Kd.R_below (by (with_reducible repeat (first | apply kra | apply krn | apply krd)); exact (Kd.R_mono (Kd.R_far (p := ⟨ae, 2, none⟩) (Kd.R_far (p := ⟨ae, 1, none⟩) (Kd.R_far (p := ⟨ae, 0, none⟩) (Kd.R_types bE.out ad.out (by decide)) (fun _ hk => hk.2) (.slice au af.length ar)) (fun _ hk => hk.2) (.slice ax ag.length av)) (fun _ hk => hk.2) (.slice az ah.length ay)) (fun _ h_ => h_.1))) hb); have n1_ := amk (Kd.R_below (by (with_reducible repeat (first | apply kra | apply krn | apply krd)); exact (Kd.R_mono (Kd.R_far (p := ⟨ae, 2, none⟩) (Kd.R_far (p := ⟨ae, 1, none⟩) (Kd.R_far (p := ⟨ae, 0, none⟩) (Kd.R_types bG.out ad.out (by decide)) (fun _ hk => hk.2) (.slice au af.length ar)) (fun _ hk => hk.2) (.slice ax ag.length av)) (fun _ hk => hk.2) (.slice az ah.length ay)) (fun _ h_ => h_.1))) hb); have n2_ := amk (Kd.R_below (by (with_reducible repeat (first | apply kra | apply krn | apply krd)); exact (Kd.R_mono (Kd.R_far (p := ⟨ae, 2, none⟩) (Kd.R_far (p := ⟨ae, 1, none⟩) (Kd.R_far (p := ⟨ae, 0, none⟩) (Kd.R_types bH.out ad.out (by decide)) (fun _ hk => hk.2) (.slice au af.length ar)) (fun _ hk => hk.2) (.slice ax ag.length av)) (fun _ hk => hk.2) (.slice az ah.length ay)) (fun _ h_ => h_.1))) hb); have n3_ := amk (Kd.R_below (by (with_reducible repeat (first | apply kra | apply krn | apply krd)); exact (Kd.R_mono (Kd.R_far (p := ⟨ae, 2, none⟩) (Kd.R_far (p := ⟨ae, 1, none⟩) (Kd.R_far (p := ⟨ae, 0, none⟩) (Kd.R_types bI.out ad.out (by decide)) (fun _ hk => hk.2) (.slice au af.length ar)) (fun _ hk => hk.2) (.slice ax ag.length av)) (fun _ hk => hk.2) (.slice az ah.length ay)) (fun _ h_ => h_.1))) hb); have n4_ := amk (Kd.R_below (by (with_reducible repeat (first | apply kra | apply krn | apply krd)); exact (Kd.R_mono (Kd.R_far (p := ⟨ae, 2, none⟩) (Kd.R_far (p := ⟨ae, 1, none⟩) (Kd.R_far (p := ⟨ae, 0, none⟩) (Kd.R_types bT.out ad.out (by decide)) (fun _ hk => hk.2) (.slice au af.length ar)) (fun _ hk => hk.2) (.slice ax ag.length av)) (fun _ hk => hk.2) (.slice az ah.length ay)) (fun _ h_ => h_.1))) hb); have n5_ := amk (Kd.R_below (by (with_reducible repeat (first | apply kra | apply krn | apply krd)); exact (Kd.R_mono (Kd.R_far (p := ⟨ae, 2, none⟩) (Kd.R_far (p := ⟨ae, 1, none⟩) (Kd.R_far (p := ⟨ae, 0, none⟩) (Kd.R_types ct.out ad.out (by decide)) (fun _ hk => hk.2) (.slice au af.length ar)) (fun _ hk => hk.2) (.slice ax ag.length av)) (fun _ hk => hk.2) (.slice az ah.length ay)) (fun _ h_ => h_.1))) hb); have n6_ := amk (Kd.R_below (by (with_reducible repeat (first | apply kra | apply krn | apply krd)); exact (Kd.R_mono (Kd.R_far (p := ⟨ae, 2, none⟩) (Kd.R_far (p := ⟨ae, 1, none⟩) (Kd.R_far (p := ⟨ae, 0, none⟩) (Kd.R_types cu.out ad.out (by decide)) (fun _ hk => hk.2) (.slice au af.length ar)) (fun _ hk => hk.2) (.slice ax ag.length av)) (fun _ hk => hk.2) (.slice az ah.length ay)) (fun _ h_ => h_.1))) hb); have n7_ := amk (Kd.R_below (by (with_reducible repeat (first | apply kra | apply krn | apply krd)); exact (Kd.R_mono (Kd.R_far (p := ⟨ae, 2, none⟩) (Kd.R_far (p := ⟨ae, 1, none⟩) (Kd.R_far (p := ⟨ae, 0, none⟩) (Kd.R_types cv.out ad.out (by decide)) (fun _ hk => hk.2) (.slice au af.length ar)) (fun _ hk => hk.2) (.slice ax ag.length av)) (fun _ hk => hk.2) (.slice az ah.length ay)) (fun _ h_ => h_.1))) hb); have n8_ := amk (blk_below (g := aW) (o := .cells #[.slice bj l0_0.length bk] 33 (0, 0)) (by (with_reducible repeat (first | refine bkn ?_ _ | refine bkd ?_ | refine bka ?_ _)); refine blk_far ?_ bz.out _; (with_reducible repeat (first | refine bkn ?_ _ | refine bkd ?_ | refine bka ?_ _)); refine blk_far ?_ bz.out _; (with_reducible repeat (first | refine bkn ?_ _ | refine bkd ?_ | refine bka ?_ _)); refine blk_far ?_ bz.out _; (with_reducible repeat (first | refine bkn ?_ _ | refine bkd ?_ | refine bka ?_ _)); exact aw.out) hb); have n9_ := amk (blk_below (g := aL) (o := .cells #[.slice aI aj.length aF, .slice aJ al.length aG, .slice aK am.length aH] 50 (0, 0)) (by (with_reducible repeat (first | refine bkn ?_ _ | refine bkd ?_ | refine bka ?_ _)); refine blk_far ?_ bs.out _; (with_reducible repeat (first | refine bkn ?_ _ | refine bkd ?_ | refine bka ?_ _)); refine blk_far ?_ bs.out _; (with_reducible repeat (first | refine bkn ?_ _ | refine bkd ?_ | refine bka ?_ _)); refine blk_far ?_ bs.out _; (with_reducible repeat (first | refine bkn ?_ _ | refine bkd ?_ | refine bka ?_ _)); exact ai.out) hb); have bl := amk (blk_below (g := aU) (o := .cells #[.slice aD aE.length aC] 37 (0, 0)) (by (with_reducible repeat (first | refine bkn ?_ _ | refine bkd ?_ | refine bka ?_ _)); refine blk_far ?_ bw.out _; (with_reducible repeat (first | refine bkn ?_ _ | refine bkd ?_ | refine bka ?_ _)); refine blk_far ?_ bw.out _; (with_reducible repeat (first | refine bkn ?_ _ | refine bkd ?_ | refine bka ?_ _)); refine blk_far ?_ bw.out _; (with_reducible repeat (first | refine bkn ?_ _ | refine bkd ?_ | refine bka ?_ _)); exact aA.out) hb); have bm := amk (blk_below (g := ae) (o := .cells #[.slice au af.length ar, .slice ax ag.length av, .slice az ah.length ay] 50 (0, 0)) (by (with_reducible repeat (first | refine bkn ?_ _ | refine bkd ?_ | refine bka ?_ _)); refine blk_put (cs := #[.slice au af.length ar, .slice ax ag.length av, .slice none 0 0]) ?_ 2 _ rfl; (with_reducible repeat (first | refine bkn ?_ _ | refine bkd ?_ | refine bka ?_ _)); refine blk_put (cs := #[.slice au af.length ar, .slice none 0 0, .slice none 0 0]) ?_ 1 _ rfl; (with_reducible repeat (first | refine bkn ?_ _ | refine bkd ?_ | refine bka ?_ _)); refine blk_put (cs := #[.slice none 0 0, .slice none 0 0, .slice none 0 0]) ?_ 0 _ rfl; (with_reducible repeat (first | refine bkn ?_ _ | refine bkd ?_ | refine bka ?_ _)); exact ad.out) hb); have bA := amk (below_step (by repeat (first | (with_reducible first | exact HB.out | apply below_alloc | apply pw_below_drewN | apply below_drew1 | refine bse ?_ aN.out | refine bse ?_ aX.out | refine bse ?_ bd.out | refine bse ?_ bi.out) | exact HB.out)) hb); clear bE; clear bG; clear bH; clear bI; clear bT; clear ct; clear cu; clear cv; clear aw; clear ai; clear aA; clear ad; clear HB; have bE := n0_; have bG := n1_; have bH := n2_; have bI := n3_; have bT := n4_; have ct := n5_; have cu := n6_; have cv := n7_; have aw := n8_; have ai := n9_; have aA := bl; have ad := bm; have HB := bA; clear n0_ n1_ n2_ n3_ n4_ n5_ n6_ n7_ n8_ n9_ bl bm bA; (try clear hb); (try clear hb2); (try clear hk); (try clear hi)))
    go_meet
    case rel => exact ⟨_, ((ca != bn)), (by first | rfl | (simp; done) | (simp [*]; done)), H', ⟨by first | omega | exact Nat.le_refl _⟩, ⟨by (with_reducible repeat (first | apply kra | apply krn | apply krd)); exact Kd.R_mono bG.out (fun _ hk => ⟨hk.1.1.1.1.1.1, ⟨hk.1.1.1.1.1.2, ⟨hk.1.1.1.2, ⟨hk.1.1.2, ⟨hk.1.2, hk.2⟩⟩⟩⟩⟩)⟩, ⟨by (with_reducible repeat (first | apply kra | apply krn | apply krd)); exact Kd.R_mono bH.out (fun _ hk => ⟨hk.1.1.1.1.1.1, ⟨hk.1.1.1.1.1.2, ⟨hk.1.1.1.2, ⟨hk.1.1.2, ⟨hk.1.2, hk.2⟩⟩⟩⟩⟩)⟩, ⟨by (with_reducible repeat (first | apply kra | apply krn | apply krd)); exact Kd.R_mono bI.out (fun _ hk => ⟨hk.1.1.1.1.1.1, ⟨hk.1.1.1.1.1.2, ⟨hk.1.1.1.2, ⟨hk.1.1.2, ⟨hk.1.2, hk.2⟩⟩⟩⟩⟩)⟩, ⟨by (with_reducible repeat (first | apply kra | apply krn | apply krd)); exact Kd.R_mono bT.out (fun _ hk => ⟨hk.1.1.1.1.1.2, ⟨hk.1.1.1.1.2, ⟨hk.1.1.1.2, ⟨hk.1.1.2, ⟨hk.1.2, hk.2⟩⟩⟩⟩⟩)⟩, ⟨by (with_reducible repeat (first | apply kra | apply krn | apply krd)); exact Kd.R_mono ct.out (fun _ hk => ⟨hk.1.1.1.2, ⟨hk.1.1.2, ⟨hk.1.2, ⟨hk.2, ⟨hk.1.1.1.1.1.1, hk.1.1.1.1.1.2⟩⟩⟩⟩⟩)⟩, ⟨by (with_reducible repeat (first | apply kra | apply krn | apply krd)); exact Kd.R_mono cu.out (fun _ hk => ⟨hk.1.1.1.2, ⟨hk.1.1.2, ⟨hk.1.2, ⟨hk.2, ⟨hk.1.1.1.1.1.1, hk.1.1.1.1.1.2⟩⟩⟩⟩⟩)⟩, ⟨by (with_reducible repeat (first | apply kra | apply krn | apply krd)); exact Kd.R_mono cv.out (fun _ hk => ⟨hk.1.1.1.2, ⟨hk.1.1.2, ⟨hk.1.2, ⟨hk.2, ⟨hk.1.1.1.1.1.1, hk.1.1.1.1.1.2⟩⟩⟩⟩⟩)⟩, ⟨by (with_reducible repeat (first | refine bkn ?_ _ | refine bkd ?_ | refine bka ?_ _)); exact aw.out⟩, ⟨by (with_reducible repeat (first | refine bkn ?_ _ | refine bkd ?_ | refine bka ?_ _)); exact ai.out⟩, ⟨by (with_reducible repeat (first | refine bkn ?_ _ | refine bkd ?_ | refine bka ?_ _)); exact aA.out⟩, ⟨by (with_reducible repeat (first | refine bkn ?_ _ | refine bkd ?_ | refine bka ?_ _)); exact ad.out⟩, ⟨by repeat (first | (with_reducible first | exact HB.out | apply below_alloc | apply pw_below_drewN | apply below_drew1 | refine bse ?_ aN.out | refine bse ?_ aX.out | refine bse ?_ bd.out | refine bse ?_ bi.out) | exact HB.out)⟩⟩
   ·
    replace c42 := Bool.eq_false_iff.mpr c42
    subst c42
    have H1 : (laws_FnExactJobsOfTasks.j0 k bn ca true l0_0 aj al am aE af ag ah) = some r := by rw [if_neg (show ¬ (false = true) by decide)] at H; exact H
    clear H
    have H := H1
    clear H1
    have H' := amk H
    clear H
    have hnb51 := bQ.out
    have hnc51 := bz.out
    have hnb52 := bK.out
    have hnc52 := bs.out
    have hnb53 := bL.out
    have hnc53 := bw.out
    have dm : w33.cell? ⟨ae, 0, none⟩ = some (.slice none 0 0) := (blk_cell ad.out 0).trans rfl
    have dn : w33.cell? ⟨ae, 1, none⟩ = some (.slice none 0 0) := (blk_cell ad.out 1).trans rfl
    have dp : w33.cell? ⟨ae, 2, none⟩ = some (.slice none 0 0) := (blk_cell ad.out 2).trans rfl
    have dU := blk_frozen ad.out 0
    have dV := blk_frozen ad.out 1
    have dW := blk_frozen ad.out 2
    have hnb55 := ci.out
    have hnc55 := bP.out
    have hnb56 := cb.out
    have hnc56 := cl.out
    have dq : w33.cell? ⟨aL, 0, none⟩ = some (.slice aI aj.length aF) := (blk_cell ai.out 0).trans rfl
    have dr : w33.cell? ⟨aL, 1, none⟩ = some (.slice aJ al.length aG) := (blk_cell ai.out 1).trans rfl
    have dt : w33.cell? ⟨aL, 2, none⟩ = some (.slice aK am.length aH) := (blk_cell ai.out 2).trans rfl
    have dX := blk_frozen ai.out 0
    have dY := blk_frozen ai.out 1
    have dZ := blk_frozen ai.out 2
    go_wp2_with (first | ((with_reducible refine gate_callee (f := 40) rfl ?_); refine goesL_ (some 34) rfl rfl Try.func40 (by kernel_rfl) rfl #[.agg #[.slice au af.length ar, .slice ax ag.length av, .slice az ah.length ay], .agg #[.slice aI aj.length aF, .slice aJ al.length aG, .slice aK am.length aH]] rfl (by (try simp only [List.map_toArray, List.map_cons, List.map_nil]); first | done | rfl | (simp only [List.length_drop, List.length_take]; rfl)) ?_; (with_reducible refine (laws_eqJobs.calls k _ _ af _ _ ag _ _ ah _ _ aj _ _ al _ _ am false _ ?ba ?bb ?bt ?bu ?bB ?bC ?bU ?bV ?bW ?bM ?cm ?cn A41.out).mono ?_); (case ba => refine (Kd.R_reads' (e := 2) (base := w.heap.size) (ok := fun k_ => ((((((some k_ ≠ (.slice ax ag.length av : Value).ownBlock ∧ some k_ ≠ (.slice az ah.length ay : Value).ownBlock) ∧ some k_ ≠ (.slice cG bR.length cH : Value).ownBlock) ∧ some k_ ≠ (.slice aI aj.length aF : Value).ownBlock) ∧ some k_ ≠ (.slice aJ al.length aG : Value).ownBlock) ∧ some k_ ≠ (.slice aK am.length aH : Value).ownBlock) ∧ some k_ ≠ (.slice aD aE.length aC : Value).ownBlock)) (n := af.length) (c := ar) ?_).2.2; exact (by (with_reducible repeat (first | apply kra | apply krn | apply krd)); exact (Kd.R_mono (Kd.R_far (p := ⟨ae, 2, none⟩) (Kd.R_far (p := ⟨ae, 1, none⟩) (Kd.R_far (p := ⟨ae, 0, none⟩) (Kd.R_types ct.out ad.out (by decide)) (fun _ hk => hk.2) (.slice au af.length ar)) (fun _ hk => hk.2) (.slice ax ag.length av)) (fun _ hk => hk.2) (.slice az ah.length ay)) (fun _ h_ => h_.1)))); (case bb => exact (Kd.R_reads' ct.out).2.1); (case bt => refine (Kd.R_reads' (e := 2) (base := w.heap.size) (ok := fun k_ => ((((((some k_ ≠ (.slice au af.length ar : Value).ownBlock ∧ some k_ ≠ (.slice az ah.length ay : Value).ownBlock) ∧ some k_ ≠ (.slice cG bR.length cH : Value).ownBlock) ∧ some k_ ≠ (.slice aI aj.length aF : Value).ownBlock) ∧ some k_ ≠ (.slice aJ al.length aG : Value).ownBlock) ∧ some k_ ≠ (.slice aK am.length aH : Value).ownBlock) ∧ some k_ ≠ (.slice aD aE.length aC : Value).ownBlock)) (n := ag.length) (c := av) ?_).2.2; exact (by (with_reducible repeat (first | apply kra | apply krn | apply krd)); exact (Kd.R_mono (Kd.R_far (p := ⟨ae, 2, none⟩) (Kd.R_far (p := ⟨ae, 1, none⟩) (Kd.R_far (p := ⟨ae, 0, none⟩) (Kd.R_types cu.out ad.out (by decide)) (fun _ hk => hk.2) (.slice au af.length ar)) (fun _ hk => hk.2) (.slice ax ag.length av)) (fun _ hk => hk.2) (.slice az ah.length ay)) (fun _ h_ => h_.1)))); (case bu => exact (Kd.R_reads' cu.out).2.1); (case bB => refine (Kd.R_reads' (e := 2) (base := w.heap.size) (ok := fun k_ => ((((((some k_ ≠ (.slice au af.length ar : Value).ownBlock ∧ some k_ ≠ (.slice ax ag.length av : Value).ownBlock) ∧ some k_ ≠ (.slice cG bR.length cH : Value).ownBlock) ∧ some k_ ≠ (.slice aI aj.length aF : Value).ownBlock) ∧ some k_ ≠ (.slice aJ al.length aG : Value).ownBlock) ∧ some k_ ≠ (.slice aK am.length aH : Value).ownBlock) ∧ some k_ ≠ (.slice aD aE.length aC : Value).ownBlock)) (n := ah.length) (c := ay) ?_).2.2; exact (by (with_reducible repeat (first | apply kra | apply krn | apply krd)); exact (Kd.R_mono (Kd.R_far (p := ⟨ae, 2, none⟩) (Kd.R_far (p := ⟨ae, 1, none⟩) (Kd.R_far (p := ⟨ae, 0, none⟩) (Kd.R_types cv.out ad.out (by decide)) (fun _ hk => hk.2) (.slice au af.length ar)) (fun _ hk => hk.2) (.slice ax ag.length av)) (fun _ hk => hk.2) (.slice az ah.length ay)) (fun _ h_ => h_.1)))); (case bC => exact (Kd.R_reads' cv.out).2.1); (case bU => refine (Kd.R_reads' (e := 2) (base := w.heap.size) (ok := fun k_ => ((((((some k_ ≠ (.slice aJ al.length aG : Value).ownBlock ∧ some k_ ≠ (.slice aK am.length aH : Value).ownBlock) ∧ some k_ ≠ (.slice cG bR.length cH : Value).ownBlock) ∧ some k_ ≠ (.slice aD aE.length aC : Value).ownBlock) ∧ some k_ ≠ (.slice au af.length ar : Value).ownBlock) ∧ some k_ ≠ (.slice ax ag.length av : Value).ownBlock) ∧ some k_ ≠ (.slice az ah.length ay : Value).ownBlock)) (n := aj.length) (c := aF) ?_).2.2; exact (by (with_reducible repeat (first | apply kra | apply krn | apply krd)); exact (Kd.R_mono (Kd.R_far (p := ⟨ae, 2, none⟩) (Kd.R_far (p := ⟨ae, 1, none⟩) (Kd.R_far (p := ⟨ae, 0, none⟩) (Kd.R_types bG.out ad.out (by decide)) (fun _ hk => hk.2) (.slice au af.length ar)) (fun _ hk => hk.2) (.slice ax ag.length av)) (fun _ hk => hk.2) (.slice az ah.length ay)) (fun _ h_ => h_.1)))); (case bV => exact (Kd.R_reads' bG.out).2.1); (case bW => refine (Kd.R_reads' (e := 2) (base := w.heap.size) (ok := fun k_ => ((((((some k_ ≠ (.slice aI aj.length aF : Value).ownBlock ∧ some k_ ≠ (.slice aK am.length aH : Value).ownBlock) ∧ some k_ ≠ (.slice cG bR.length cH : Value).ownBlock) ∧ some k_ ≠ (.slice aD aE.length aC : Value).ownBlock) ∧ some k_ ≠ (.slice au af.length ar : Value).ownBlock) ∧ some k_ ≠ (.slice ax ag.length av : Value).ownBlock) ∧ some k_ ≠ (.slice az ah.length ay : Value).ownBlock)) (n := al.length) (c := aG) ?_).2.2; exact (by (with_reducible repeat (first | apply kra | apply krn | apply krd)); exact (Kd.R_mono (Kd.R_far (p := ⟨ae, 2, none⟩) (Kd.R_far (p := ⟨ae, 1, none⟩) (Kd.R_far (p := ⟨ae, 0, none⟩) (Kd.R_types bH.out ad.out (by decide)) (fun _ hk => hk.2) (.slice au af.length ar)) (fun _ hk => hk.2) (.slice ax ag.length av)) (fun _ hk => hk.2) (.slice az ah.length ay)) (fun _ h_ => h_.1)))); (case bM => exact (Kd.R_reads' bH.out).2.1); (case cm => refine (Kd.R_reads' (e := 2) (base := w.heap.size) (ok := fun k_ => ((((((some k_ ≠ (.slice aI aj.length aF : Value).ownBlock ∧ some k_ ≠ (.slice aJ al.length aG : Value).ownBlock) ∧ some k_ ≠ (.slice cG bR.length cH : Value).ownBlock) ∧ some k_ ≠ (.slice aD aE.length aC : Value).ownBlock) ∧ some k_ ≠ (.slice au af.length ar : Value).ownBlock) ∧ some k_ ≠ (.slice ax ag.length av : Value).ownBlock) ∧ some k_ ≠ (.slice az ah.length ay : Value).ownBlock)) (n := am.length) (c := aH) ?_).2.2; exact (by (with_reducible repeat (first | apply kra | apply krn | apply krd)); exact (Kd.R_mono (Kd.R_far (p := ⟨ae, 2, none⟩) (Kd.R_far (p := ⟨ae, 1, none⟩) (Kd.R_far (p := ⟨ae, 0, none⟩) (Kd.R_types bI.out ad.out (by decide)) (fun _ hk => hk.2) (.slice au af.length ar)) (fun _ hk => hk.2) (.slice ax ag.length av)) (fun _ hk => hk.2) (.slice az ah.length ay)) (fun _ h_ => h_.1)))); (case cn => exact (Kd.R_reads' bI.out).2.1); rintro e w58 ⟨rfl, hb⟩; refine ⟨_, rfl, ?_⟩; have n0_ := amk (Kd.R_below (by (with_reducible repeat (first | apply kra | apply krn | apply krd)); exact (Kd.R_mono (Kd.R_far (p := ⟨ae, 2, none⟩) (Kd.R_far (p := ⟨ae, 1, none⟩) (Kd.R_far (p := ⟨ae, 0, none⟩) (Kd.R_types bE.out ad.out (by decide)) (fun _ hk => hk.2) (.slice au af.length ar)) (fun _ hk => hk.2) (.slice ax ag.length av)) (fun _ hk => hk.2) (.slice az ah.length ay)) (fun _ h_ => h_.1))) hb); have n1_ := amk (Kd.R_below (by (with_reducible repeat (first | apply kra | apply krn | apply krd)); exact (Kd.R_mono (Kd.R_far (p := ⟨ae, 2, none⟩) (Kd.R_far (p := ⟨ae, 1, none⟩) (Kd.R_far (p := ⟨ae, 0, none⟩) (Kd.R_types bG.out ad.out (by decide)) (fun _ hk => hk.2) (.slice au af.length ar)) (fun _ hk => hk.2) (.slice ax ag.length av)) (fun _ hk => hk.2) (.slice az ah.length ay)) (fun _ h_ => h_.1))) hb); have n2_ := amk (Kd.R_below (by (with_reducible repeat (first | apply kra | apply krn | apply krd)); exact (Kd.R_mono (Kd.R_far (p := ⟨ae, 2, none⟩) (Kd.R_far (p := ⟨ae, 1, none⟩) (Kd.R_far (p := ⟨ae, 0, none⟩) (Kd.R_types bH.out ad.out (by decide)) (fun _ hk => hk.2) (.slice au af.length ar)) (fun _ hk => hk.2) (.slice ax ag.length av)) (fun _ hk => hk.2) (.slice az ah.length ay)) (fun _ h_ => h_.1))) hb); have n3_ := amk (Kd.R_below (by (with_reducible repeat (first | apply kra | apply krn | apply krd)); exact (Kd.R_mono (Kd.R_far (p := ⟨ae, 2, none⟩) (Kd.R_far (p := ⟨ae, 1, none⟩) (Kd.R_far (p := ⟨ae, 0, none⟩) (Kd.R_types bI.out ad.out (by decide)) (fun _ hk => hk.2) (.slice au af.length ar)) (fun _ hk => hk.2) (.slice ax ag.length av)) (fun _ hk => hk.2) (.slice az ah.length ay)) (fun _ h_ => h_.1))) hb); have n4_ := amk (Kd.R_below (by (with_reducible repeat (first | apply kra | apply krn | apply krd)); exact (Kd.R_mono (Kd.R_far (p := ⟨ae, 2, none⟩) (Kd.R_far (p := ⟨ae, 1, none⟩) (Kd.R_far (p := ⟨ae, 0, none⟩) (Kd.R_types bT.out ad.out (by decide)) (fun _ hk => hk.2) (.slice au af.length ar)) (fun _ hk => hk.2) (.slice ax ag.length av)) (fun _ hk => hk.2) (.slice az ah.length ay)) (fun _ h_ => h_.1))) hb); have n5_ := amk (Kd.R_below (by (with_reducible repeat (first | apply kra | apply krn | apply krd)); exact (Kd.R_mono (Kd.R_far (p := ⟨ae, 2, none⟩) (Kd.R_far (p := ⟨ae, 1, none⟩) (Kd.R_far (p := ⟨ae, 0, none⟩) (Kd.R_types ct.out ad.out (by decide)) (fun _ hk => hk.2) (.slice au af.length ar)) (fun _ hk => hk.2) (.slice ax ag.length av)) (fun _ hk => hk.2) (.slice az ah.length ay)) (fun _ h_ => h_.1))) hb); have n6_ := amk (Kd.R_below (by (with_reducible repeat (first | apply kra | apply krn | apply krd)); exact (Kd.R_mono (Kd.R_far (p := ⟨ae, 2, none⟩) (Kd.R_far (p := ⟨ae, 1, none⟩) (Kd.R_far (p := ⟨ae, 0, none⟩) (Kd.R_types cu.out ad.out (by decide)) (fun _ hk => hk.2) (.slice au af.length ar)) (fun _ hk => hk.2) (.slice ax ag.length av)) (fun _ hk => hk.2) (.slice az ah.length ay)) (fun _ h_ => h_.1))) hb); have n7_ := amk (Kd.R_below (by (with_reducible repeat (first | apply kra | apply krn | apply krd)); exact (Kd.R_mono (Kd.R_far (p := ⟨ae, 2, none⟩) (Kd.R_far (p := ⟨ae, 1, none⟩) (Kd.R_far (p := ⟨ae, 0, none⟩) (Kd.R_types cv.out ad.out (by decide)) (fun _ hk => hk.2) (.slice au af.length ar)) (fun _ hk => hk.2) (.slice ax ag.length av)) (fun _ hk => hk.2) (.slice az ah.length ay)) (fun _ h_ => h_.1))) hb); have n8_ := amk (blk_below (g := aW) (o := .cells #[.slice bj l0_0.length bk] 33 (0, 0)) (by (with_reducible repeat (first | refine bkn ?_ _ | refine bkd ?_ | refine bka ?_ _)); refine blk_far ?_ bz.out _; (with_reducible repeat (first | refine bkn ?_ _ | refine bkd ?_ | refine bka ?_ _)); refine blk_far ?_ bz.out _; (with_reducible repeat (first | refine bkn ?_ _ | refine bkd ?_ | refine bka ?_ _)); refine blk_far ?_ bz.out _; (with_reducible repeat (first | refine bkn ?_ _ | refine bkd ?_ | refine bka ?_ _)); exact aw.out) hb); have n9_ := amk (blk_below (g := aL) (o := .cells #[.slice aI aj.length aF, .slice aJ al.length aG, .slice aK am.length aH] 50 (0, 0)) (by (with_reducible repeat (first | refine bkn ?_ _ | refine bkd ?_ | refine bka ?_ _)); refine blk_far ?_ bs.out _; (with_reducible repeat (first | refine bkn ?_ _ | refine bkd ?_ | refine bka ?_ _)); refine blk_far ?_ bs.out _; (with_reducible repeat (first | refine bkn ?_ _ | refine bkd ?_ | refine bka ?_ _)); refine blk_far ?_ bs.out _; (with_reducible repeat (first | refine bkn ?_ _ | refine bkd ?_ | refine bka ?_ _)); exact ai.out) hb); have bl := amk (blk_below (g := aU) (o := .cells #[.slice aD aE.length aC] 37 (0, 0)) (by (with_reducible repeat (first | refine bkn ?_ _ | refine bkd ?_ | refine bka ?_ _)); refine blk_far ?_ bw.out _; (with_reducible repeat (first | refine bkn ?_ _ | refine bkd ?_ | refine bka ?_ _)); refine blk_far ?_ bw.out _; (with_reducible repeat (first | refine bkn ?_ _ | refine bkd ?_ | refine bka ?_ _)); refine blk_far ?_ bw.out _; (with_reducible repeat (first | refine bkn ?_ _ | refine bkd ?_ | refine bka ?_ _)); exact aA.out) hb); have bm := amk (blk_below (g := ae) (o := .cells #[.slice au af.length ar, .slice ax ag.length av, .slice az ah.length ay] 50 (0, 0)) (by (with_reducible repeat (first | refine bkn ?_ _ | refine bkd ?_ | refine bka ?_ _)); refine blk_put (cs := #[.slice au af.length ar, .slice ax ag.length av, .slice none 0 0]) ?_ 2 _ rfl; (with_reducible repeat (first | refine bkn ?_ _ | refine bkd ?_ | refine bka ?_ _)); refine blk_put (cs := #[.slice au af.length ar, .slice none 0 0, .slice none 0 0]) ?_ 1 _ rfl; (with_reducible repeat (first | refine bkn ?_ _ | refine bkd ?_ | refine bka ?_ _)); refine blk_put (cs := #[.slice none 0 0, .slice none 0 0, .slice none 0 0]) ?_ 0 _ rfl; (with_reducible repeat (first | refine bkn ?_ _ | refine bkd ?_ | refine bka ?_ _)); exact ad.out) hb); have bA := amk (below_step (by repeat (first | (with_reducible first | exact HB.out | apply below_alloc | apply pw_below_drewN | apply below_drew1 | refine bse ?_ aN.out | refine bse ?_ aX.out | refine bse ?_ bd.out | refine bse ?_ bi.out) | exact HB.out)) hb); clear bE; clear bG; clear bH; clear bI; clear bT; clear ct; clear cu; clear cv; clear aw; clear ai; clear aA; clear ad; clear HB; have bE := n0_; have bG := n1_; have bH := n2_; have bI := n3_; have bT := n4_; have ct := n5_; have cu := n6_; have cv := n7_; have aw := n8_; have ai := n9_; have aA := bl; have ad := bm; have HB := bA; clear n0_ n1_ n2_ n3_ n4_ n5_ n6_ n7_ n8_ n9_ bl bm bA; (try clear hb); (try clear hb2); (try clear hk); (try clear hi)))
    go_meet
    case rel => exact ⟨_, (true), (by first | rfl | (simp; done) | (simp [*]; done)), H', ⟨by first | omega | exact Nat.le_refl _⟩, ⟨by (with_reducible repeat (first | apply kra | apply krn | apply krd)); exact Kd.R_mono bG.out (fun _ hk => ⟨hk.1.1.1.1.1.1, ⟨hk.1.1.1.1.1.2, ⟨hk.1.1.1.2, ⟨hk.1.1.2, ⟨hk.1.2, hk.2⟩⟩⟩⟩⟩)⟩, ⟨by (with_reducible repeat (first | apply kra | apply krn | apply krd)); exact Kd.R_mono bH.out (fun _ hk => ⟨hk.1.1.1.1.1.1, ⟨hk.1.1.1.1.1.2, ⟨hk.1.1.1.2, ⟨hk.1.1.2, ⟨hk.1.2, hk.2⟩⟩⟩⟩⟩)⟩, ⟨by (with_reducible repeat (first | apply kra | apply krn | apply krd)); exact Kd.R_mono bI.out (fun _ hk => ⟨hk.1.1.1.1.1.1, ⟨hk.1.1.1.1.1.2, ⟨hk.1.1.1.2, ⟨hk.1.1.2, ⟨hk.1.2, hk.2⟩⟩⟩⟩⟩)⟩, ⟨by (with_reducible repeat (first | apply kra | apply krn | apply krd)); exact Kd.R_mono bT.out (fun _ hk => ⟨hk.1.1.1.1.1.2, ⟨hk.1.1.1.1.2, ⟨hk.1.1.1.2, ⟨hk.1.1.2, ⟨hk.1.2, hk.2⟩⟩⟩⟩⟩)⟩, ⟨by (with_reducible repeat (first | apply kra | apply krn | apply krd)); exact Kd.R_mono ct.out (fun _ hk => ⟨hk.1.1.1.2, ⟨hk.1.1.2, ⟨hk.1.2, ⟨hk.2, ⟨hk.1.1.1.1.1.1, hk.1.1.1.1.1.2⟩⟩⟩⟩⟩)⟩, ⟨by (with_reducible repeat (first | apply kra | apply krn | apply krd)); exact Kd.R_mono cu.out (fun _ hk => ⟨hk.1.1.1.2, ⟨hk.1.1.2, ⟨hk.1.2, ⟨hk.2, ⟨hk.1.1.1.1.1.1, hk.1.1.1.1.1.2⟩⟩⟩⟩⟩)⟩, ⟨by (with_reducible repeat (first | apply kra | apply krn | apply krd)); exact Kd.R_mono cv.out (fun _ hk => ⟨hk.1.1.1.2, ⟨hk.1.1.2, ⟨hk.1.2, ⟨hk.2, ⟨hk.1.1.1.1.1.1, hk.1.1.1.1.1.2⟩⟩⟩⟩⟩)⟩, ⟨by (with_reducible repeat (first | refine bkn ?_ _ | refine bkd ?_ | refine bka ?_ _)); exact aw.out⟩, ⟨by (with_reducible repeat (first | refine bkn ?_ _ | refine bkd ?_ | refine bka ?_ _)); exact ai.out⟩, ⟨by (with_reducible repeat (first | refine bkn ?_ _ | refine bkd ?_ | refine bka ?_ _)); exact aA.out⟩, ⟨by (with_reducible repeat (first | refine bkn ?_ _ | refine bkd ?_ | refine bka ?_ _)); exact ad.out⟩, ⟨by repeat (first | (with_reducible first | exact HB.out | apply below_alloc | apply pw_below_drewN | apply below_drew1 | refine bse ?_ aN.out | refine bse ?_ aX.out | refine bse ?_ bd.out | refine bse ?_ bi.out) | exact HB.out)⟩⟩
  case rest =>
   clear HC11
   try clear c1
   try clear c2
   try clear p2
   try clear c3
   try clear c3b0
   try clear c4
   try clear c5
   try clear c10
   try clear c21
   try clear c23
   try clear c29
   try clear c30
   try clear c35
   try clear c36
   try clear c37
   try clear c38
   try clear c39
   try clear c40
   try clear c42
   try clear c43
   try clear c44
   try clear c45
   try clear c47
   try clear c48
   try clear c51
   try clear c52
   try clear c53
   try clear c55
   try clear c56
   try clear cW
   try clear cX
   try clear cY
   try clear cZ
   try clear da
   try clear db
   try clear dc
   try clear dd
   try clear de
   try clear df
   try clear dg
   try clear dh
   try clear di
   try clear dj
   try clear dk
   try clear dl
   try clear dm
   try clear dn
   try clear dp
   try clear dq
   try clear dr
   try clear dt
   try clear dB
   try clear dE
   try clear dF
   try clear dG
   try clear dH
   try clear dI
   try clear dJ
   try clear dK
   try clear dL
   try clear dM
   try clear dN
   try clear dO
   try clear dP
   try clear dQ
   try clear dR
   try clear dS
   try clear dT
   try clear dU
   try clear dV
   try clear dW
   try clear dX
   try clear dY
   try clear dZ
   try clear en
   obtain ⟨kq, cU, rfl, HA, HJ10, an, ao, ap, ak, aa, ab, ac, aw, ai, aA, ad, HB⟩ := hcut
   cases kq with
   | zero => exact absurd HA.out (by simp [laws_FnExactJobsOfTasks.j0])
   | succ bx =>
    have H := HA.out
    clear HA
    simp only [laws_FnExactJobsOfTasks.j0] at H
    by_cases c59 : cU = true
    ·
     subst c59
     have H1 : (some false) = some r := by rw [if_pos rfl] at H; exact H
     clear H
     have H := H1
     clear H1
     obtain rfl := Option.some.inj H
     go_wp2
     go_ret
     exact ⟨by first | rfl | (simp [errW_none, errW_some] <;> rfl) | (simp [*, errW_none, errW_some] <;> rfl), by repeat (first | (with_reducible first | exact HB.out | apply below_alloc | apply pw_below_drewN | apply below_drew1 | refine bse ?_ aN.out | refine bse ?_ aX.out | refine bse ?_ bd.out | refine bse ?_ bi.out) | exact HB.out)⟩
    ·
     replace c59 := Bool.eq_false_iff.mpr c59
     subst c59
     have H1 : ((laws_toTasks.f bx l0_0).bind fun ch => ((laws_eqTasks.f bx aE ch).bind fun t737 => (if t737 = true then ((laws_markTasks.f bx aE 1).bind fun cK => (if cK.1 < 0 then (laws_FnExactJobsOfTasks.j1 bx bn true l0_0 aj al am af ag ah) else ((laws_eqJobs.f bx af ag ah aj al am).bind fun cE => (if cE = true then (laws_FnExactJobsOfTasks.j1 bx bn (ca != bn) l0_0 aj al am af ag ah) else (laws_FnExactJobsOfTasks.j1 bx bn true l0_0 aj al am af ag ah))))) else (some false)))) = some r := by rw [if_neg (show ¬ (false = true) by decide)] at H; exact H
     clear H
     have H := H1
     clear H1
     replace H := Option.bind_eq_some_iff.mp H
     obtain ⟨ch, A600, H⟩ := H
     replace H : ((laws_eqTasks.f bx aE ch).bind fun t737 => (if t737 = true then ((laws_markTasks.f bx aE 1).bind fun cK => (if cK.1 < 0 then (laws_FnExactJobsOfTasks.j1 bx bn true l0_0 aj al am af ag ah) else ((laws_eqJobs.f bx af ag ah aj al am).bind fun cE => (if cE = true then (laws_FnExactJobsOfTasks.j1 bx bn (ca != bn) l0_0 aj al am af ag ah) else (laws_FnExactJobsOfTasks.j1 bx bn true l0_0 aj al am af ag ah))))) else (some false))) = some r := H
     have A60 := amk A600
     clear A600
     replace H := Option.bind_eq_some_iff.mp H
     obtain ⟨t737, A610, H⟩ := H
     replace H : (if t737 = true then ((laws_markTasks.f bx aE 1).bind fun cK => (if cK.1 < 0 then (laws_FnExactJobsOfTasks.j1 bx bn true l0_0 aj al am af ag ah) else ((laws_eqJobs.f bx af ag ah aj al am).bind fun cE => (if cE = true then (laws_FnExactJobsOfTasks.j1 bx bn (ca != bn) l0_0 aj al am af ag ah) else (laws_FnExactJobsOfTasks.j1 bx bn true l0_0 aj al am af ag ah))))) else (some false)) = some r := H
     have A61 := amk A610
     clear A610
     by_cases c62 : t737 = true
     ·
      subst c62
      have H1 : ((laws_markTasks.f bx aE 1).bind fun cK => (if cK.1 < 0 then (laws_FnExactJobsOfTasks.j1 bx bn true l0_0 aj al am af ag ah) else ((laws_eqJobs.f bx af ag ah aj al am).bind fun cE => (if cE = true then (laws_FnExactJobsOfTasks.j1 bx bn (ca != bn) l0_0 aj al am af ag ah) else (laws_FnExactJobsOfTasks.j1 bx bn true l0_0 aj al am af ag ah))))) = some r := by rw [if_pos rfl] at H; exact H
      clear H
      have H := H1
      clear H1
      replace H := Option.bind_eq_some_iff.mp H
      obtain ⟨⟨t738, bo⟩, A630, H⟩ := H
      replace H : (if t738 < 0 then (laws_FnExactJobsOfTasks.j1 bx bn true l0_0 aj al am af ag ah) else ((laws_eqJobs.f bx af ag ah aj al am).bind fun cE => (if cE = true then (laws_FnExactJobsOfTasks.j1 bx bn (ca != bn) l0_0 aj al am af ag ah) else (laws_FnExactJobsOfTasks.j1 bx bn true l0_0 aj al am af ag ah)))) = some r := H
      have A63 := amk A630
      clear A630
      have HC64 := amk H
      clear H
      try go_wp2
      have n0_ := amk (krd an.out)
      have n1_ := amk (krd ao.out)
      have n2_ := amk (krd ap.out)
      have n3_ := amk (krd ak.out)
      have n4_ := amk (krd aa.out)
      have n5_ := amk (krd ab.out)
      have n6_ := amk (krd ac.out)
      have n7_ := amk (bkd aw.out)
      have n8_ := amk (bkd ai.out)
      have n9_ := amk (bkd aA.out)
      have bl := amk (bkd ad.out)
      have bm := amk (below_drew1 HB.out)
      clear an
      clear ao
      clear ap
      clear ak
      clear aa
      clear ab
      clear ac
      clear aw
      clear ai
      clear aA
      clear ad
      clear HB
      have an := n0_
      have ao := n1_
      have ap := n2_
      have ak := n3_
      have aa := n4_
      have ab := n5_
      have ac := n6_
      have aw := n7_
      have ai := n8_
      have aA := n9_
      have ad := bl
      have HB := bm
      clear n0_ n1_ n2_ n3_ n4_ n5_ n6_ n7_ n8_ n9_ bl bm
      refine start_ (n := 5) (S := fun w' => w'.cell? ⟨aU, 0, none⟩ = some (.slice aD aE.length aC) ∧ w'.cell? ⟨aW, 0, none⟩ = some (.slice bj l0_0.length bk)) (ds := []) #[false, false, false, false, false] (by kernel_rfl) rfl rfl ⟨(blk_cell aA.out 0).trans rfl, (blk_cell aw.out 0).trans rfl⟩ (fun hHeld => ?_)
      generalize wc.drew = w65 at an ao ap ak aa ab ac aw ai aA ad HB hHeld ⊢
      refine take_ (i := 0) (N := some 41) (v := ?_) (a' := ?_) #[true, false, false, false, false] rfl rfl (by kernel_rfl) (fun _ _ _ h => h) (Or.inl ⟨by rfl, ?_⟩) hHeld ?_ ?_
      rotate_left
      ·
       rintro w' ⟨s0, s1⟩
       go_simp
       with_reducible rfl
      rotate_left
      ·
       simp only [Act.put, List.setIfInBounds_toArray, List.set_cons_zero, List.set_cons_succ, i64_w, i32_w]
       rfl
      refine take_ (i := 1) (N := some 42) (v := ?_) (a' := ?_) #[true, true, false, false, false] rfl rfl (by kernel_rfl) (fun _ _ _ h => h) (Or.inl ⟨by rfl, ?_⟩) hHeld ?_ ?_
      rotate_left
      ·
       rintro w' ⟨s0, s1⟩
       go_simp
       with_reducible rfl
      rotate_left
      ·
       simp only [Act.put, List.setIfInBounds_toArray, List.set_cons_zero, List.set_cons_succ, i64_w, i32_w]
       rfl
      refine one_ (i := 2) (N := some 43) #[true, true, true, false, false] rfl rfl (by kernel_rfl) (by decide) (fun K hK => ?_)
      refine goes_ Try.func23 (by kernel_rfl) rfl #[.agg #[.slice bj l0_0.length bk]] (by rfl) rfl rfl (by (try simp only [List.map_toArray, List.map_cons, List.map_nil]); first | done | rfl | (simp only [List.length_drop, List.length_take]; rfl)) ?_
      with_reducible refine (laws_toTasks.calls bx _ _ l0_0 ch _ ?ba ?bb A60.out).mono ?_
      (case ba => repeat (first | exact (Kd.C_below cR.out HB.out) | (with_reducible refine Kd.C_alloc ?_ _) | (with_reducible refine Kd.C_drewN ?_ _) | (with_reducible refine Kd.C_drew ?_)))
      (case bb => exact cS.out)
      rintro e w66 ⟨v735, rfl, ho0, hb⟩
      refine ⟨_, rfl, ?_⟩
      have n0_ := amk (Kd.R_elder' (by (with_reducible repeat (first | apply kra | apply krn | apply krd)); exact an.out) (Kd.R_base ho0) hb)
      have n1_ := amk (Kd.R_elder' (by (with_reducible repeat (first | apply kra | apply krn | apply krd)); exact ao.out) (Kd.R_base ho0) hb)
      have n2_ := amk (Kd.R_elder' (by (with_reducible repeat (first | apply kra | apply krn | apply krd)); exact ap.out) (Kd.R_base ho0) hb)
      have n3_ := amk (Kd.R_elder' (by (with_reducible repeat (first | apply kra | apply krn | apply krd)); exact ak.out) (Kd.R_base ho0) hb)
      have n4_ := amk (Kd.R_elder' (by (with_reducible repeat (first | apply kra | apply krn | apply krd)); exact aa.out) (Kd.R_base ho0) hb)
      have n5_ := amk (Kd.R_elder' (by (with_reducible repeat (first | apply kra | apply krn | apply krd)); exact ab.out) (Kd.R_base ho0) hb)
      have n6_ := amk (Kd.R_elder' (by (with_reducible repeat (first | apply kra | apply krn | apply krd)); exact ac.out) (Kd.R_base ho0) hb)
      have n7_ := amk (Kd.R_lower (Kd.R_new' (Kd.R_new' (Kd.R_new' (Kd.R_new' (Kd.R_new' (Kd.R_new' (Kd.R_new' ho0 (Kd.R_lt (by (with_reducible repeat (first | apply kra | apply krn | apply krd)); exact an.out))) (Kd.R_lt (by (with_reducible repeat (first | apply kra | apply krn | apply krd)); exact ao.out))) (Kd.R_lt (by (with_reducible repeat (first | apply kra | apply krn | apply krd)); exact ap.out))) (Kd.R_lt (by (with_reducible repeat (first | apply kra | apply krn | apply krd)); exact ak.out))) (Kd.R_lt (by (with_reducible repeat (first | apply kra | apply krn | apply krd)); exact aa.out))) (Kd.R_lt (by (with_reducible repeat (first | apply kra | apply krn | apply krd)); exact ab.out))) (Kd.R_lt (by (with_reducible repeat (first | apply kra | apply krn | apply krd)); exact ac.out))) (below_size (by repeat (first | (with_reducible first | exact HB.out | apply below_alloc | apply pw_below_drewN | apply below_drew1 | refine bse ?_ aN.out | refine bse ?_ aX.out | refine bse ?_ bd.out | refine bse ?_ bi.out) | exact HB.out))))
      have n8_ := amk (blk_below (g := aW) (o := .cells #[.slice bj l0_0.length bk] 33 (0, 0)) (by (with_reducible repeat (first | refine bkn ?_ _ | refine bkd ?_ | refine bka ?_ _)); exact aw.out) hb)
      have n9_ := amk (blk_below (g := aL) (o := .cells #[.slice aI aj.length aF, .slice aJ al.length aG, .slice aK am.length aH] 50 (0, 0)) (by (with_reducible repeat (first | refine bkn ?_ _ | refine bkd ?_ | refine bka ?_ _)); exact ai.out) hb)
      have bl := amk (blk_below (g := aU) (o := .cells #[.slice aD aE.length aC] 37 (0, 0)) (by (with_reducible repeat (first | refine bkn ?_ _ | refine bkd ?_ | refine bka ?_ _)); exact aA.out) hb)
      have bm := amk (blk_below (g := ae) (o := .cells #[.slice au af.length ar, .slice ax ag.length av, .slice az ah.length ay] 50 (0, 0)) (by (with_reducible repeat (first | refine bkn ?_ _ | refine bkd ?_ | refine bka ?_ _)); exact ad.out) hb)
      have bA := amk (below_step (by repeat (first | (with_reducible first | exact HB.out | apply below_alloc | apply pw_below_drewN | apply below_drew1 | refine bse ?_ aN.out | refine bse ?_ aX.out | refine bse ?_ bd.out | refine bse ?_ bi.out) | exact HB.out)) hb)
      clear an
      clear ao
      clear ap
      clear ak
      clear aa
      clear ab
      clear ac
      clear aw
      clear ai
      clear aA
      clear ad
      clear HB
      have an := n0_
      have ao := n1_
      have ap := n2_
      have ak := n3_
      have aa := n4_
      have ab := n5_
      have ac := n6_
      have cg := n7_
      have aw := n8_
      have ai := n9_
      have aA := bl
      have ad := bm
      have HB := bA
      clear n0_ n1_ n2_ n3_ n4_ n5_ n6_ n7_ n8_ n9_ bl bm bA
      (try clear hb)
      (try clear hb2)
      (try clear hk)
      (try clear hi)
      (try clear ho0)
      obtain ⟨Ao67, co67, eo67⟩ := Kd.R_slice cg.out
      (first | subst eo67 | (injection eo67 with f1_ f2_ f3_; have f4_ := f1_.symm; have f5_ := f3_.symm; clear f1_ f2_ f3_; subst f4_; subst f5_))
      refine hK.out _ _ ⟨(blk_cell aA.out 0).trans rfl, (blk_cell aw.out 0).trans rfl⟩ (fun hHeld => ?_)
      clear hK K
      refine norm_ (a' := ?_) ?_ ?_
      rotate_left
      ·
       show Act.put _ (some 43) _ = _
       simp only [Act.put, List.setIfInBounds_toArray, List.set_cons_zero, List.set_cons_succ, i64_w, i32_w]
       rfl
      refine one_ (i := 3) (N := some 44) #[true, true, true, true, false] rfl rfl (by kernel_rfl) (by decide) (fun K hK => ?_)
      refine goes_ Try.func25 (by kernel_rfl) rfl #[.agg #[.slice aD aE.length aC], .agg #[.slice Ao67 ch.length co67]] (by rfl) rfl rfl (by (try simp only [List.map_toArray, List.map_cons, List.map_nil]); first | done | rfl | (simp only [List.length_drop, List.length_take]; rfl)) ?_
      with_reducible refine (laws_eqTasks.calls bx _ _ aE _ _ ch true _ ?ba ?bb ?bt ?bu A61.out).mono ?_
      (case ba => repeat (first | exact (Kd.R_reads' ak.out).2.2 | (with_reducible refine Kd.C_alloc ?_ _) | (with_reducible refine Kd.C_drewN ?_ _) | (with_reducible refine Kd.C_drew ?_)))
      (case bb => exact (Kd.R_reads' ak.out).2.1)
      (case bt => repeat (first | exact (Kd.R_reads' cg.out).2.2 | (with_reducible refine Kd.C_alloc ?_ _) | (with_reducible refine Kd.C_drewN ?_ _) | (with_reducible refine Kd.C_drew ?_)))
      (case bu => exact (Kd.R_reads' cg.out).2.1)
      rintro e w68 ⟨rfl, hb⟩
      refine ⟨_, rfl, ?_⟩
      have n0_ := amk (Kd.R_below (by (with_reducible repeat (first | apply kra | apply krn | apply krd)); exact an.out) hb)
      have n1_ := amk (Kd.R_below (by (with_reducible repeat (first | apply kra | apply krn | apply krd)); exact ao.out) hb)
      have n2_ := amk (Kd.R_below (by (with_reducible repeat (first | apply kra | apply krn | apply krd)); exact ap.out) hb)
      have n3_ := amk (Kd.R_below (by (with_reducible repeat (first | apply kra | apply krn | apply krd)); exact ak.out) hb)
      have n4_ := amk (Kd.R_below (by (with_reducible repeat (first | apply kra | apply krn | apply krd)); exact aa.out) hb)
      have n5_ := amk (Kd.R_below (by (with_reducible repeat (first | apply kra | apply krn | apply krd)); exact ab.out) hb)
      have n6_ := amk (Kd.R_below (by (with_reducible repeat (first | apply kra | apply krn | apply krd)); exact ac.out) hb)
      have n7_ := amk (Kd.R_below (by (with_reducible repeat (first | apply kra | apply krn | apply krd)); exact cg.out) hb)
      have n8_ := amk (blk_below (g := aW) (o := .cells #[.slice bj l0_0.length bk] 33 (0, 0)) (by (with_reducible repeat (first | refine bkn ?_ _ | refine bkd ?_ | refine bka ?_ _)); exact aw.out) hb)
      have n9_ := amk (blk_below (g := aL) (o := .cells #[.slice aI aj.length aF, .slice aJ al.length aG, .slice aK am.length aH] 50 (0, 0)) (by (with_reducible repeat (first | refine bkn ?_ _ | refine bkd ?_ | refine bka ?_ _)); exact ai.out) hb)
      have bl := amk (blk_below (g := aU) (o := .cells #[.slice aD aE.length aC] 37 (0, 0)) (by (with_reducible repeat (first | refine bkn ?_ _ | refine bkd ?_ | refine bka ?_ _)); exact aA.out) hb)
      have bm := amk (blk_below (g := ae) (o := .cells #[.slice au af.length ar, .slice ax ag.length av, .slice az ah.length ay] 50 (0, 0)) (by (with_reducible repeat (first | refine bkn ?_ _ | refine bkd ?_ | refine bka ?_ _)); exact ad.out) hb)
      have bA := amk (below_step (by repeat (first | (with_reducible first | exact HB.out | apply below_alloc | apply pw_below_drewN | apply below_drew1 | refine bse ?_ aN.out | refine bse ?_ aX.out | refine bse ?_ bd.out | refine bse ?_ bi.out) | exact HB.out)) hb)
      clear an
      clear ao
      clear ap
      clear ak
      clear aa
      clear ab
      clear ac
      clear cg
      clear aw
      clear ai
      clear aA
      clear ad
      clear HB
      have an := n0_
      have ao := n1_
      have ap := n2_
      have ak := n3_
      have aa := n4_
      have ab := n5_
      have ac := n6_
      have cg := n7_
      have aw := n8_
      have ai := n9_
      have aA := bl
      have ad := bm
      have HB := bA
      clear n0_ n1_ n2_ n3_ n4_ n5_ n6_ n7_ n8_ n9_ bl bm bA
      (try clear hb)
      (try clear hb2)
      (try clear hk)
      (try clear hi)
      refine hK.out _ _ ⟨(blk_cell aA.out 0).trans rfl, (blk_cell aw.out 0).trans rfl⟩ (fun hHeld => ?_)
      clear hK K
      refine norm_ (a' := ?_) ?_ ?_
      rotate_left
      ·
       show Act.put _ (some 44) _ = _
       simp only [Act.put, List.setIfInBounds_toArray, List.set_cons_zero, List.set_cons_succ, i64_w, i32_w]
       rfl
      refine pure_ (i := 4) (N := some 45) (v := ?_) (a' := ?_) #[true, true, true, true, true] rfl rfl (by kernel_rfl) (fun _ _ _ h => h) (Or.inl ⟨by rfl, ?_⟩) ?_ ?_
      rotate_left
      ·
       intro w'
       go_simp
       with_reducible rfl
      rotate_left
      ·
       simp only [Act.put, List.setIfInBounds_toArray, List.set_cons_zero, List.set_cons_succ, i64_w, i32_w]
       rfl
      refine done_ (by kernel_rfl) ?_
      have hnb69 := du.out
      have hnc69 := cP.out
      have hnb70 := cl.out
      have hnc70 := cb.out
      have hnb71 := bw.out
      have hnc71 := bL.out
      have ea : w68.cell? ⟨aU, 0, none⟩ = some (.slice aD aE.length aC) := (blk_cell aA.out 0).trans rfl
      have eW := blk_frozen aA.out 0
      go_upto_region 14 with (first | ((with_reducible refine gate_callee (f := 41) rfl ?_); refine goesL_ (some 48) rfl rfl Try.func41 (by kernel_rfl) rfl #[.agg #[.slice aD aE.length aC], .int .i64 1] rfl (by (try simp only [List.map_toArray, List.map_cons, List.map_nil]); first | done | rfl | (simp only [List.length_drop, List.length_take]; rfl)) ?_; (with_reducible refine (laws_markTasks.calls bx (fun k_ => some k_ = (.slice aD aE.length aC : Value).ownBlock) (.slice aD aE.length aC) aE 1 t738 bo w _ ?ba ?bb A63.out).mono ?_); (case ba => repeat (first | (with_reducible first | exact HB.out | apply below_alloc | apply pw_below_drewN | apply below_drew1 | refine bse ?_ aN.out | refine bse ?_ aX.out | refine bse ?_ bd.out | refine bse ?_ bi.out) | exact HB.out)); (case bb => exact Kd.R_tight rfl ak.out); rintro e w73 ⟨rfl, hy0, hb, hkp⟩; refine ⟨_, rfl, ?_⟩; have n0_ := amk (Kd.R_mono (ok' := fun k_ => some k_ ≠ (.slice aJ al.length aG : Value).ownBlock ∧ some k_ ≠ (.slice aK am.length aH : Value).ownBlock ∧ some k_ ≠ (.slice aD aE.length aC : Value).ownBlock ∧ some k_ ≠ (.slice au af.length ar : Value).ownBlock ∧ some k_ ≠ (.slice ax ag.length av : Value).ownBlock ∧ some k_ ≠ (.slice az ah.length ay : Value).ownBlock ∧ some k_ ≠ (.slice Ao67 ch.length co67 : Value).ownBlock) (Kd.R_keptB (an.out) hkp (fun k_ hk_ hs_ => (hk_.1.2.2.1) hs_)) (fun k_ hk_ => ⟨hk_.1.1.1, hk_.1.1.2.1, hk_.1.1.2.2.1, hk_.1.1.2.2.2.1, hk_.1.1.2.2.2.2.1, hk_.1.1.2.2.2.2.2, hk_.1.2⟩)); have n1_ := amk (Kd.R_mono (ok' := fun k_ => some k_ ≠ (.slice aI aj.length aF : Value).ownBlock ∧ some k_ ≠ (.slice aK am.length aH : Value).ownBlock ∧ some k_ ≠ (.slice aD aE.length aC : Value).ownBlock ∧ some k_ ≠ (.slice au af.length ar : Value).ownBlock ∧ some k_ ≠ (.slice ax ag.length av : Value).ownBlock ∧ some k_ ≠ (.slice az ah.length ay : Value).ownBlock ∧ some k_ ≠ (.slice Ao67 ch.length co67 : Value).ownBlock) (Kd.R_keptB (ao.out) hkp (fun k_ hk_ hs_ => (hk_.1.2.2.1) hs_)) (fun k_ hk_ => ⟨hk_.1.1.1, hk_.1.1.2.1, hk_.1.1.2.2.1, hk_.1.1.2.2.2.1, hk_.1.1.2.2.2.2.1, hk_.1.1.2.2.2.2.2, hk_.1.2⟩)); have n2_ := amk (Kd.R_mono (ok' := fun k_ => some k_ ≠ (.slice aI aj.length aF : Value).ownBlock ∧ some k_ ≠ (.slice aJ al.length aG : Value).ownBlock ∧ some k_ ≠ (.slice aD aE.length aC : Value).ownBlock ∧ some k_ ≠ (.slice au af.length ar : Value).ownBlock ∧ some k_ ≠ (.slice ax ag.length av : Value).ownBlock ∧ some k_ ≠ (.slice az ah.length ay : Value).ownBlock ∧ some k_ ≠ (.slice Ao67 ch.length co67 : Value).ownBlock) (Kd.R_keptB (ap.out) hkp (fun k_ hk_ hs_ => (hk_.1.2.2.1) hs_)) (fun k_ hk_ => ⟨hk_.1.1.1, hk_.1.1.2.1, hk_.1.1.2.2.1, hk_.1.1.2.2.2.1, hk_.1.1.2.2.2.2.1, hk_.1.1.2.2.2.2.2, hk_.1.2⟩)); have n3_ := amk (Kd.R_reok rfl hy0 (fun k_ e_ => ak.out.1 k_ e_)); have n4_ := amk (Kd.R_mono (ok' := fun k_ => some k_ ≠ (.slice aI aj.length aF : Value).ownBlock ∧ some k_ ≠ (.slice aJ al.length aG : Value).ownBlock ∧ some k_ ≠ (.slice aK am.length aH : Value).ownBlock ∧ some k_ ≠ (.slice aD aE.length aC : Value).ownBlock ∧ some k_ ≠ (.slice ax ag.length av : Value).ownBlock ∧ some k_ ≠ (.slice az ah.length ay : Value).ownBlock ∧ some k_ ≠ (.slice Ao67 ch.length co67 : Value).ownBlock) (Kd.R_keptB (aa.out) hkp (fun k_ hk_ hs_ => (hk_.1.2.2.2.1) hs_)) (fun k_ hk_ => ⟨hk_.1.1.1, hk_.1.1.2.1, hk_.1.1.2.2.1, hk_.1.1.2.2.2.1, hk_.1.1.2.2.2.2.1, hk_.1.1.2.2.2.2.2, hk_.1.2⟩)); have n5_ := amk (Kd.R_mono (ok' := fun k_ => some k_ ≠ (.slice aI aj.length aF : Value).ownBlock ∧ some k_ ≠ (.slice aJ al.length aG : Value).ownBlock ∧ some k_ ≠ (.slice aK am.length aH : Value).ownBlock ∧ some k_ ≠ (.slice aD aE.length aC : Value).ownBlock ∧ some k_ ≠ (.slice au af.length ar : Value).ownBlock ∧ some k_ ≠ (.slice az ah.length ay : Value).ownBlock ∧ some k_ ≠ (.slice Ao67 ch.length co67 : Value).ownBlock) (Kd.R_keptB (ab.out) hkp (fun k_ hk_ hs_ => (hk_.1.2.2.2.1) hs_)) (fun k_ hk_ => ⟨hk_.1.1.1, hk_.1.1.2.1, hk_.1.1.2.2.1, hk_.1.1.2.2.2.1, hk_.1.1.2.2.2.2.1, hk_.1.1.2.2.2.2.2, hk_.1.2⟩)); have n6_ := amk (Kd.R_mono (ok' := fun k_ => some k_ ≠ (.slice aI aj.length aF : Value).ownBlock ∧ some k_ ≠ (.slice aJ al.length aG : Value).ownBlock ∧ some k_ ≠ (.slice aK am.length aH : Value).ownBlock ∧ some k_ ≠ (.slice aD aE.length aC : Value).ownBlock ∧ some k_ ≠ (.slice au af.length ar : Value).ownBlock ∧ some k_ ≠ (.slice ax ag.length av : Value).ownBlock ∧ some k_ ≠ (.slice Ao67 ch.length co67 : Value).ownBlock) (Kd.R_keptB (ac.out) hkp (fun k_ hk_ hs_ => (hk_.1.2.2.2.1) hs_)) (fun k_ hk_ => ⟨hk_.1.1.1, hk_.1.1.2.1, hk_.1.1.2.2.1, hk_.1.1.2.2.2.1, hk_.1.1.2.2.2.2.1, hk_.1.1.2.2.2.2.2, hk_.1.2⟩)); have n7_ := amk (blk_kept (by (with_reducible repeat (first | refine bkn ?_ _ | refine bkd ?_ | refine bka ?_ _)); exact aw.out) hkp (fun hs_ => (fun e_ => (Kd.R_ne ak.out aw.out (by decide)) e_) hs_)); have n8_ := amk (blk_kept (by (with_reducible repeat (first | refine bkn ?_ _ | refine bkd ?_ | refine bka ?_ _)); exact ai.out) hkp (fun hs_ => (fun e_ => (Kd.R_ne ak.out ai.out (by decide)) e_) hs_)); have n9_ := amk (blk_kept (by (with_reducible repeat (first | refine bkn ?_ _ | refine bkd ?_ | refine bka ?_ _)); exact aA.out) hkp (fun hs_ => (fun e_ => (Kd.R_ne ak.out aA.out (by decide)) e_) hs_)); have bl := amk (blk_kept (by (with_reducible repeat (first | refine bkn ?_ _ | refine bkd ?_ | refine bka ?_ _)); exact ad.out) hkp (fun hs_ => (fun e_ => (Kd.R_ne ak.out ad.out (by decide)) e_) hs_)); have bm := amk (Kd.R_mono (ok' := fun k_ => some k_ ≠ (.slice aI aj.length aF : Value).ownBlock ∧ some k_ ≠ (.slice aJ al.length aG : Value).ownBlock ∧ some k_ ≠ (.slice aK am.length aH : Value).ownBlock ∧ some k_ ≠ (.slice aD aE.length aC : Value).ownBlock ∧ some k_ ≠ (.slice au af.length ar : Value).ownBlock ∧ some k_ ≠ (.slice ax ag.length av : Value).ownBlock ∧ some k_ ≠ (.slice az ah.length ay : Value).ownBlock) (Kd.R_keptB (cg.out) hkp (fun k_ hk_ hs_ => (hk_.1.1.1.2) hs_)) (fun k_ hk_ => ⟨hk_.1.1.1.1.1.1.1.2, hk_.1.1.1.1.1.1.2, hk_.1.1.1.1.1.2, hk_.1.1.1.1.2, hk_.1.1.1.2, hk_.1.1.2, hk_.1.2⟩)); have bA := amk (hb); clear an; clear ao; clear ap; clear ak; clear aa; clear ab; clear ac; clear aw; clear ai; clear aA; clear ad; clear cg; clear HB; have an := n0_; have ao := n1_; have ap := n2_; have ak := n3_; have aa := n4_; have ab := n5_; have ac := n6_; have aw := n7_; have ai := n8_; have aA := n9_; have ad := bl; have cg := bm; have HB := bA; clear n0_ n1_ n2_ n3_ n4_ n5_ n6_ n7_ n8_ n9_ bl bm bA; (try clear hb); (try clear hkp); (try clear hy0)))
      (try simp only [Act.put, List.setIfInBounds_toArray, List.set_cons_zero, List.set_cons_succ])
      go_cut [61] (fun v61 wc => ∃ (kq : Nat) (cV : Bool), v61 = .bool cV ∧ Aside0 (laws_FnExactJobsOfTasks.j1 kq bn cV l0_0 aj al am af ag ah = some r) ∧ Aside0 (kq ≤ bx) ∧ Aside0 (Kd.R (Kd.int .i64) 2 wc w.heap.size (fun k_ => some k_ ≠ ((.slice aJ al.length aG) : Value).ownBlock ∧ some k_ ≠ ((.slice aK am.length aH) : Value).ownBlock ∧ some k_ ≠ ((.slice aD aE.length aC) : Value).ownBlock ∧ some k_ ≠ ((.slice au af.length ar) : Value).ownBlock ∧ some k_ ≠ ((.slice ax ag.length av) : Value).ownBlock ∧ some k_ ≠ ((.slice az ah.length ay) : Value).ownBlock) (.slice aI aj.length aF) aj) ∧ Aside0 (Kd.R (Kd.int .i64) 2 wc w.heap.size (fun k_ => some k_ ≠ ((.slice aI aj.length aF) : Value).ownBlock ∧ some k_ ≠ ((.slice aK am.length aH) : Value).ownBlock ∧ some k_ ≠ ((.slice aD aE.length aC) : Value).ownBlock ∧ some k_ ≠ ((.slice au af.length ar) : Value).ownBlock ∧ some k_ ≠ ((.slice ax ag.length av) : Value).ownBlock ∧ some k_ ≠ ((.slice az ah.length ay) : Value).ownBlock) (.slice aJ al.length aG) al) ∧ Aside0 (Kd.R (Kd.int .i64) 2 wc w.heap.size (fun k_ => some k_ ≠ ((.slice aI aj.length aF) : Value).ownBlock ∧ some k_ ≠ ((.slice aJ al.length aG) : Value).ownBlock ∧ some k_ ≠ ((.slice aD aE.length aC) : Value).ownBlock ∧ some k_ ≠ ((.slice au af.length ar) : Value).ownBlock ∧ some k_ ≠ ((.slice ax ag.length av) : Value).ownBlock ∧ some k_ ≠ ((.slice az ah.length ay) : Value).ownBlock) (.slice aK am.length aH) am) ∧ Aside0 (Kd.R (Kd.int .i64) 2 wc w.heap.size (fun k_ => some k_ ≠ ((.slice aI aj.length aF) : Value).ownBlock ∧ some k_ ≠ ((.slice aJ al.length aG) : Value).ownBlock ∧ some k_ ≠ ((.slice aK am.length aH) : Value).ownBlock ∧ some k_ ≠ ((.slice au af.length ar) : Value).ownBlock ∧ some k_ ≠ ((.slice ax ag.length av) : Value).ownBlock ∧ some k_ ≠ ((.slice az ah.length ay) : Value).ownBlock) (.slice aD aE.length aC) bo) ∧ Aside0 (Kd.R (Kd.int .i64) 2 wc w.heap.size (fun k_ => some k_ ≠ ((.slice aI aj.length aF) : Value).ownBlock ∧ some k_ ≠ ((.slice aJ al.length aG) : Value).ownBlock ∧ some k_ ≠ ((.slice aK am.length aH) : Value).ownBlock ∧ some k_ ≠ ((.slice aD aE.length aC) : Value).ownBlock ∧ some k_ ≠ ((.slice ax ag.length av) : Value).ownBlock ∧ some k_ ≠ ((.slice az ah.length ay) : Value).ownBlock) (.slice au af.length ar) af) ∧ Aside0 (Kd.R (Kd.int .i64) 2 wc w.heap.size (fun k_ => some k_ ≠ ((.slice aI aj.length aF) : Value).ownBlock ∧ some k_ ≠ ((.slice aJ al.length aG) : Value).ownBlock ∧ some k_ ≠ ((.slice aK am.length aH) : Value).ownBlock ∧ some k_ ≠ ((.slice aD aE.length aC) : Value).ownBlock ∧ some k_ ≠ ((.slice au af.length ar) : Value).ownBlock ∧ some k_ ≠ ((.slice az ah.length ay) : Value).ownBlock) (.slice ax ag.length av) ag) ∧ Aside0 (Kd.R (Kd.int .i64) 2 wc w.heap.size (fun k_ => some k_ ≠ ((.slice aI aj.length aF) : Value).ownBlock ∧ some k_ ≠ ((.slice aJ al.length aG) : Value).ownBlock ∧ some k_ ≠ ((.slice aK am.length aH) : Value).ownBlock ∧ some k_ ≠ ((.slice aD aE.length aC) : Value).ownBlock ∧ some k_ ≠ ((.slice au af.length ar) : Value).ownBlock ∧ some k_ ≠ ((.slice ax ag.length av) : Value).ownBlock) (.slice az ah.length ay) ah) ∧ Aside0 (wc.heap[aW]? = some (.cells #[(.slice bj l0_0.length bk)] 33 (0, 0))) ∧ Aside0 (wc.heap[aL]? = some (.cells #[(.slice aI aj.length aF), (.slice aJ al.length aG), (.slice aK am.length aH)] 50 (0, 0))) ∧ Aside0 (wc.heap[aU]? = some (.cells #[(.slice aD aE.length aC)] 37 (0, 0))) ∧ Aside0 (wc.heap[ae]? = some (.cells #[(.slice au af.length ar), (.slice ax ag.length av), (.slice az ah.length ay)] 50 (0, 0))) ∧ Aside0 (Below w.heap.size w wc))
      case first =>
       have H := HC64.out
       clear HC64
       by_cases c74 : t738 < 0
       ·
        rw [if_pos c74] at H
        have c74b0 : decide (t738 < 0) = true := decide_eq_true c74
        clear c74
        (first | rw [c74b0] | (simp only [i64_w, i32_w]; rw [c74b0]) | skip)
        have H' := amk H
        clear H
        go_wp2
        go_meet
        case rel => exact ⟨_, (true), (by first | rfl | (simp; done) | (simp [*]; done)), H', ⟨by have := HJ10.out; first | omega | exact Nat.le_refl _⟩, ⟨by (with_reducible repeat (first | apply kra | apply krn | apply krd)); exact Kd.R_mono an.out (fun _ hk => ⟨hk.1, ⟨hk.2.1, ⟨hk.2.2.1, ⟨hk.2.2.2.1, ⟨hk.2.2.2.2.1, hk.2.2.2.2.2.1⟩⟩⟩⟩⟩)⟩, ⟨by (with_reducible repeat (first | apply kra | apply krn | apply krd)); exact Kd.R_mono ao.out (fun _ hk => ⟨hk.1, ⟨hk.2.1, ⟨hk.2.2.1, ⟨hk.2.2.2.1, ⟨hk.2.2.2.2.1, hk.2.2.2.2.2.1⟩⟩⟩⟩⟩)⟩, ⟨by (with_reducible repeat (first | apply kra | apply krn | apply krd)); exact Kd.R_mono ap.out (fun _ hk => ⟨hk.1, ⟨hk.2.1, ⟨hk.2.2.1, ⟨hk.2.2.2.1, ⟨hk.2.2.2.2.1, hk.2.2.2.2.2.1⟩⟩⟩⟩⟩)⟩, ⟨by (with_reducible repeat (first | apply kra | apply krn | apply krd)); exact Kd.R_mono ak.out (fun _ hk => ⟨hk.1.1, ⟨hk.1.2.1, ⟨hk.1.2.2.1, ⟨hk.1.2.2.2.1, ⟨hk.1.2.2.2.2.1, hk.1.2.2.2.2.2⟩⟩⟩⟩⟩)⟩, ⟨by (with_reducible repeat (first | apply kra | apply krn | apply krd)); exact Kd.R_mono aa.out (fun _ hk => ⟨hk.1, ⟨hk.2.1, ⟨hk.2.2.1, ⟨hk.2.2.2.1, ⟨hk.2.2.2.2.1, hk.2.2.2.2.2.1⟩⟩⟩⟩⟩)⟩, ⟨by (with_reducible repeat (first | apply kra | apply krn | apply krd)); exact Kd.R_mono ab.out (fun _ hk => ⟨hk.1, ⟨hk.2.1, ⟨hk.2.2.1, ⟨hk.2.2.2.1, ⟨hk.2.2.2.2.1, hk.2.2.2.2.2.1⟩⟩⟩⟩⟩)⟩, ⟨by (with_reducible repeat (first | apply kra | apply krn | apply krd)); exact Kd.R_mono ac.out (fun _ hk => ⟨hk.1, ⟨hk.2.1, ⟨hk.2.2.1, ⟨hk.2.2.2.1, ⟨hk.2.2.2.2.1, hk.2.2.2.2.2.1⟩⟩⟩⟩⟩)⟩, ⟨by (with_reducible repeat (first | refine bkn ?_ _ | refine bkd ?_ | refine bka ?_ _)); exact aw.out⟩, ⟨by (with_reducible repeat (first | refine bkn ?_ _ | refine bkd ?_ | refine bka ?_ _)); exact ai.out⟩, ⟨by (with_reducible repeat (first | refine bkn ?_ _ | refine bkd ?_ | refine bka ?_ _)); exact aA.out⟩, ⟨by (with_reducible repeat (first | refine bkn ?_ _ | refine bkd ?_ | refine bka ?_ _)); exact ad.out⟩, ⟨by repeat (first | (with_reducible first | exact HB.out | apply below_alloc | apply pw_below_drewN | apply below_drew1 | refine bse ?_ aN.out | refine bse ?_ aX.out | refine bse ?_ bd.out | refine bse ?_ bi.out) | exact HB.out)⟩⟩
       ·
        rw [if_neg c74] at H
        have c74b0 : decide (t738 < 0) = false := decide_eq_false c74
        clear c74
        (first | rw [c74b0] | (simp only [i64_w, i32_w]; rw [c74b0]) | skip)
        replace H := Option.bind_eq_some_iff.mp H
        obtain ⟨cE, A750, H⟩ := H
        replace H : (if cE = true then (laws_FnExactJobsOfTasks.j1 bx bn (ca != bn) l0_0 aj al am af ag ah) else (laws_FnExactJobsOfTasks.j1 bx bn true l0_0 aj al am af ag ah)) = some r := H
        have A75 := amk A750
        clear A750
        by_cases c76 : cE = true
        ·
         subst c76
         have H1 : (laws_FnExactJobsOfTasks.j1 bx bn (ca != bn) l0_0 aj al am af ag ah) = some r := by rw [if_pos rfl] at H; exact H
         clear H
         have H := H1
         clear H1
         have H' := amk H
         clear H
         have hnb77 := bQ.out
         have hnc77 := bz.out
         have hnb78 := bK.out
         have hnc78 := bs.out
         have hnb79 := bL.out
         have hnc79 := bw.out
         have eb : w73.cell? ⟨ae, 0, none⟩ = some (.slice au af.length ar) := (blk_cell ad.out 0).trans rfl
         have ec : w73.cell? ⟨ae, 1, none⟩ = some (.slice ax ag.length av) := (blk_cell ad.out 1).trans rfl
         have ed : w73.cell? ⟨ae, 2, none⟩ = some (.slice az ah.length ay) := (blk_cell ad.out 2).trans rfl
         have eX := blk_frozen ad.out 0
         have eY := blk_frozen ad.out 1
         have eZ := blk_frozen ad.out 2
         have hnb81 := ci.out
         have hnc81 := bP.out
         have hnb82 := cb.out
         have hnc82 := cl.out
         have ee : w73.cell? ⟨aL, 0, none⟩ = some (.slice aI aj.length aF) := (blk_cell ai.out 0).trans rfl
         have ef : w73.cell? ⟨aL, 1, none⟩ = some (.slice aJ al.length aG) := (blk_cell ai.out 1).trans rfl
         have eg : w73.cell? ⟨aL, 2, none⟩ = some (.slice aK am.length aH) := (blk_cell ai.out 2).trans rfl
         have fa := blk_frozen ai.out 0
         have fb := blk_frozen ai.out 1
         have fc := blk_frozen ai.out 2
         go_wp2_with (first | (go_at_call 40; (with_reducible refine (laws_eqJobs.calls bx _ _ af _ _ ag _ _ ah _ _ aj _ _ al _ _ am true _ ?ba ?bb ?bt ?bu ?bB ?bC ?bU ?bV ?bW ?bM ?cm ?cn A75.out).mono ?_); (case ba => repeat (first | exact (Kd.R_reads' aa.out).2.2 | (with_reducible refine Kd.C_alloc ?_ _) | (with_reducible refine Kd.C_drewN ?_ _) | (with_reducible refine Kd.C_drew ?_))); (case bb => exact (Kd.R_reads' aa.out).2.1); (case bt => repeat (first | exact (Kd.R_reads' ab.out).2.2 | (with_reducible refine Kd.C_alloc ?_ _) | (with_reducible refine Kd.C_drewN ?_ _) | (with_reducible refine Kd.C_drew ?_))); (case bu => exact (Kd.R_reads' ab.out).2.1); (case bB => repeat (first | exact (Kd.R_reads' ac.out).2.2 | (with_reducible refine Kd.C_alloc ?_ _) | (with_reducible refine Kd.C_drewN ?_ _) | (with_reducible refine Kd.C_drew ?_))); (case bC => exact (Kd.R_reads' ac.out).2.1); (case bU => repeat (first | exact (Kd.R_reads' an.out).2.2 | (with_reducible refine Kd.C_alloc ?_ _) | (with_reducible refine Kd.C_drewN ?_ _) | (with_reducible refine Kd.C_drew ?_))); (case bV => exact (Kd.R_reads' an.out).2.1); (case bW => repeat (first | exact (Kd.R_reads' ao.out).2.2 | (with_reducible refine Kd.C_alloc ?_ _) | (with_reducible refine Kd.C_drewN ?_ _) | (with_reducible refine Kd.C_drew ?_))); (case bM => exact (Kd.R_reads' ao.out).2.1); (case cm => repeat (first | exact (Kd.R_reads' ap.out).2.2 | (with_reducible refine Kd.C_alloc ?_ _) | (with_reducible refine Kd.C_drewN ?_ _) | (with_reducible refine Kd.C_drew ?_))); (case cn => exact (Kd.R_reads' ap.out).2.1); rintro e w84 ⟨rfl, hb⟩; have n0_ := amk (Kd.R_below (by (with_reducible repeat (first | apply kra | apply krn | apply krd)); exact an.out) hb); have n1_ := amk (Kd.R_below (by (with_reducible repeat (first | apply kra | apply krn | apply krd)); exact ao.out) hb); have n2_ := amk (Kd.R_below (by (with_reducible repeat (first | apply kra | apply krn | apply krd)); exact ap.out) hb); have n3_ := amk (Kd.R_below (by (with_reducible repeat (first | apply kra | apply krn | apply krd)); exact ak.out) hb); have n4_ := amk (Kd.R_below (by (with_reducible repeat (first | apply kra | apply krn | apply krd)); exact aa.out) hb); have n5_ := amk (Kd.R_below (by (with_reducible repeat (first | apply kra | apply krn | apply krd)); exact ab.out) hb); have n6_ := amk (Kd.R_below (by (with_reducible repeat (first | apply kra | apply krn | apply krd)); exact ac.out) hb); have n7_ := amk (Kd.R_below (by (with_reducible repeat (first | apply kra | apply krn | apply krd)); exact cg.out) hb); have n8_ := amk (blk_below (g := aW) (o := .cells #[.slice bj l0_0.length bk] 33 (0, 0)) (by (with_reducible repeat (first | refine bkn ?_ _ | refine bkd ?_ | refine bka ?_ _)); exact aw.out) hb); have n9_ := amk (blk_below (g := aL) (o := .cells #[.slice aI aj.length aF, .slice aJ al.length aG, .slice aK am.length aH] 50 (0, 0)) (by (with_reducible repeat (first | refine bkn ?_ _ | refine bkd ?_ | refine bka ?_ _)); exact ai.out) hb); have bl := amk (blk_below (g := aU) (o := .cells #[.slice aD aE.length aC] 37 (0, 0)) (by (with_reducible repeat (first | refine bkn ?_ _ | refine bkd ?_ | refine bka ?_ _)); exact aA.out) hb); have bm := amk (blk_below (g := ae) (o := .cells #[.slice au af.length ar, .slice ax ag.length av, .slice az ah.length ay] 50 (0, 0)) (by (with_reducible repeat (first | refine bkn ?_ _ | refine bkd ?_ | refine bka ?_ _)); exact ad.out) hb); have bA := amk (below_step (by repeat (first | (with_reducible first | exact HB.out | apply below_alloc | apply pw_below_drewN | apply below_drew1 | refine bse ?_ aN.out | refine bse ?_ aX.out | refine bse ?_ bd.out | refine bse ?_ bi.out) | exact HB.out)) hb); clear an; clear ao; clear ap; clear ak; clear aa; clear ab; clear ac; clear cg; clear aw; clear ai; clear aA; clear ad; clear HB; have an := n0_; have ao := n1_; have ap := n2_; have ak := n3_; have aa := n4_; have ab := n5_; have ac := n6_; have cg := n7_; have aw := n8_; have ai := n9_; have aA := bl; have ad := bm; have HB := bA; clear n0_ n1_ n2_ n3_ n4_ n5_ n6_ n7_ n8_ n9_ bl bm bA; (try clear hb); (try clear hb2); (try clear hk); (try clear hi)))
         go_meet
         case rel => exact ⟨_, ((ca != bn)), (by first | rfl | (simp; done) | (simp [*]; done)), H', ⟨by have := HJ10.out; first | omega | exact Nat.le_refl _⟩, ⟨by (with_reducible repeat (first | apply kra | apply krn | apply krd)); exact Kd.R_mono an.out (fun _ hk => ⟨hk.1, ⟨hk.2.1, ⟨hk.2.2.1, ⟨hk.2.2.2.1, ⟨hk.2.2.2.2.1, hk.2.2.2.2.2.1⟩⟩⟩⟩⟩)⟩, ⟨by (with_reducible repeat (first | apply kra | apply krn | apply krd)); exact Kd.R_mono ao.out (fun _ hk => ⟨hk.1, ⟨hk.2.1, ⟨hk.2.2.1, ⟨hk.2.2.2.1, ⟨hk.2.2.2.2.1, hk.2.2.2.2.2.1⟩⟩⟩⟩⟩)⟩, ⟨by (with_reducible repeat (first | apply kra | apply krn | apply krd)); exact Kd.R_mono ap.out (fun _ hk => ⟨hk.1, ⟨hk.2.1, ⟨hk.2.2.1, ⟨hk.2.2.2.1, ⟨hk.2.2.2.2.1, hk.2.2.2.2.2.1⟩⟩⟩⟩⟩)⟩, ⟨by (with_reducible repeat (first | apply kra | apply krn | apply krd)); exact Kd.R_mono ak.out (fun _ hk => ⟨hk.1.1, ⟨hk.1.2.1, ⟨hk.1.2.2.1, ⟨hk.1.2.2.2.1, ⟨hk.1.2.2.2.2.1, hk.1.2.2.2.2.2⟩⟩⟩⟩⟩)⟩, ⟨by (with_reducible repeat (first | apply kra | apply krn | apply krd)); exact Kd.R_mono aa.out (fun _ hk => ⟨hk.1, ⟨hk.2.1, ⟨hk.2.2.1, ⟨hk.2.2.2.1, ⟨hk.2.2.2.2.1, hk.2.2.2.2.2.1⟩⟩⟩⟩⟩)⟩, ⟨by (with_reducible repeat (first | apply kra | apply krn | apply krd)); exact Kd.R_mono ab.out (fun _ hk => ⟨hk.1, ⟨hk.2.1, ⟨hk.2.2.1, ⟨hk.2.2.2.1, ⟨hk.2.2.2.2.1, hk.2.2.2.2.2.1⟩⟩⟩⟩⟩)⟩, ⟨by (with_reducible repeat (first | apply kra | apply krn | apply krd)); exact Kd.R_mono ac.out (fun _ hk => ⟨hk.1, ⟨hk.2.1, ⟨hk.2.2.1, ⟨hk.2.2.2.1, ⟨hk.2.2.2.2.1, hk.2.2.2.2.2.1⟩⟩⟩⟩⟩)⟩, ⟨by (with_reducible repeat (first | refine bkn ?_ _ | refine bkd ?_ | refine bka ?_ _)); exact aw.out⟩, ⟨by (with_reducible repeat (first | refine bkn ?_ _ | refine bkd ?_ | refine bka ?_ _)); exact ai.out⟩, ⟨by (with_reducible repeat (first | refine bkn ?_ _ | refine bkd ?_ | refine bka ?_ _)); exact aA.out⟩, ⟨by (with_reducible repeat (first | refine bkn ?_ _ | refine bkd ?_ | refine bka ?_ _)); exact ad.out⟩, ⟨by repeat (first | (with_reducible first | exact HB.out | apply below_alloc | apply pw_below_drewN | apply below_drew1 | refine bse ?_ aN.out | refine bse ?_ aX.out | refine bse ?_ bd.out | refine bse ?_ bi.out) | exact HB.out)⟩⟩
        ·
         replace c76 := Bool.eq_false_iff.mpr c76
         subst c76
         have H1 : (laws_FnExactJobsOfTasks.j1 bx bn true l0_0 aj al am af ag ah) = some r := by rw [if_neg (show ¬ (false = true) by decide)] at H; exact H
         clear H
         have H := H1
         clear H1
         have H' := amk H
         clear H
         have hnb85 := bQ.out
         have hnc85 := bz.out
         have hnb86 := bK.out
         have hnc86 := bs.out
         have hnb87 := bL.out
         have hnc87 := bw.out
         have eh : w73.cell? ⟨ae, 0, none⟩ = some (.slice au af.length ar) := (blk_cell ad.out 0).trans rfl
         have ei : w73.cell? ⟨ae, 1, none⟩ = some (.slice ax ag.length av) := (blk_cell ad.out 1).trans rfl
         have ej : w73.cell? ⟨ae, 2, none⟩ = some (.slice az ah.length ay) := (blk_cell ad.out 2).trans rfl
         have fd := blk_frozen ad.out 0
         have fe := blk_frozen ad.out 1
         have ff := blk_frozen ad.out 2
         have hnb89 := ci.out
         have hnc89 := bP.out
         have hnb90 := cb.out
         have hnc90 := cl.out
         have ek : w73.cell? ⟨aL, 0, none⟩ = some (.slice aI aj.length aF) := (blk_cell ai.out 0).trans rfl
         have el : w73.cell? ⟨aL, 1, none⟩ = some (.slice aJ al.length aG) := (blk_cell ai.out 1).trans rfl
         have em : w73.cell? ⟨aL, 2, none⟩ = some (.slice aK am.length aH) := (blk_cell ai.out 2).trans rfl
         have fg := blk_frozen ai.out 0
         have fh := blk_frozen ai.out 1
         have fi := blk_frozen ai.out 2
         go_wp2_with (first | (go_at_call 40; (with_reducible refine (laws_eqJobs.calls bx _ _ af _ _ ag _ _ ah _ _ aj _ _ al _ _ am false _ ?ba ?bb ?bt ?bu ?bB ?bC ?bU ?bV ?bW ?bM ?cm ?cn A75.out).mono ?_); (case ba => repeat (first | exact (Kd.R_reads' aa.out).2.2 | (with_reducible refine Kd.C_alloc ?_ _) | (with_reducible refine Kd.C_drewN ?_ _) | (with_reducible refine Kd.C_drew ?_))); (case bb => exact (Kd.R_reads' aa.out).2.1); (case bt => repeat (first | exact (Kd.R_reads' ab.out).2.2 | (with_reducible refine Kd.C_alloc ?_ _) | (with_reducible refine Kd.C_drewN ?_ _) | (with_reducible refine Kd.C_drew ?_))); (case bu => exact (Kd.R_reads' ab.out).2.1); (case bB => repeat (first | exact (Kd.R_reads' ac.out).2.2 | (with_reducible refine Kd.C_alloc ?_ _) | (with_reducible refine Kd.C_drewN ?_ _) | (with_reducible refine Kd.C_drew ?_))); (case bC => exact (Kd.R_reads' ac.out).2.1); (case bU => repeat (first | exact (Kd.R_reads' an.out).2.2 | (with_reducible refine Kd.C_alloc ?_ _) | (with_reducible refine Kd.C_drewN ?_ _) | (with_reducible refine Kd.C_drew ?_))); (case bV => exact (Kd.R_reads' an.out).2.1); (case bW => repeat (first | exact (Kd.R_reads' ao.out).2.2 | (with_reducible refine Kd.C_alloc ?_ _) | (with_reducible refine Kd.C_drewN ?_ _) | (with_reducible refine Kd.C_drew ?_))); (case bM => exact (Kd.R_reads' ao.out).2.1); (case cm => repeat (first | exact (Kd.R_reads' ap.out).2.2 | (with_reducible refine Kd.C_alloc ?_ _) | (with_reducible refine Kd.C_drewN ?_ _) | (with_reducible refine Kd.C_drew ?_))); (case cn => exact (Kd.R_reads' ap.out).2.1); rintro e w92 ⟨rfl, hb⟩; have n0_ := amk (Kd.R_below (by (with_reducible repeat (first | apply kra | apply krn | apply krd)); exact an.out) hb); have n1_ := amk (Kd.R_below (by (with_reducible repeat (first | apply kra | apply krn | apply krd)); exact ao.out) hb); have n2_ := amk (Kd.R_below (by (with_reducible repeat (first | apply kra | apply krn | apply krd)); exact ap.out) hb); have n3_ := amk (Kd.R_below (by (with_reducible repeat (first | apply kra | apply krn | apply krd)); exact ak.out) hb); have n4_ := amk (Kd.R_below (by (with_reducible repeat (first | apply kra | apply krn | apply krd)); exact aa.out) hb); have n5_ := amk (Kd.R_below (by (with_reducible repeat (first | apply kra | apply krn | apply krd)); exact ab.out) hb); have n6_ := amk (Kd.R_below (by (with_reducible repeat (first | apply kra | apply krn | apply krd)); exact ac.out) hb); have n7_ := amk (Kd.R_below (by (with_reducible repeat (first | apply kra | apply krn | apply krd)); exact cg.out) hb); have n8_ := amk (blk_below (g := aW) (o := .cells #[.slice bj l0_0.length bk] 33 (0, 0)) (by (with_reducible repeat (first | refine bkn ?_ _ | refine bkd ?_ | refine bka ?_ _)); exact aw.out) hb); have n9_ := amk (blk_below (g := aL) (o := .cells #[.slice aI aj.length aF, .slice aJ al.length aG, .slice aK am.length aH] 50 (0, 0)) (by (with_reducible repeat (first | refine bkn ?_ _ | refine bkd ?_ | refine bka ?_ _)); exact ai.out) hb); have bl := amk (blk_below (g := aU) (o := .cells #[.slice aD aE.length aC] 37 (0, 0)) (by (with_reducible repeat (first | refine bkn ?_ _ | refine bkd ?_ | refine bka ?_ _)); exact aA.out) hb); have bm := amk (blk_below (g := ae) (o := .cells #[.slice au af.length ar, .slice ax ag.length av, .slice az ah.length ay] 50 (0, 0)) (by (with_reducible repeat (first | refine bkn ?_ _ | refine bkd ?_ | refine bka ?_ _)); exact ad.out) hb); have bA := amk (below_step (by repeat (first | (with_reducible first | exact HB.out | apply below_alloc | apply pw_below_drewN | apply below_drew1 | refine bse ?_ aN.out | refine bse ?_ aX.out | refine bse ?_ bd.out | refine bse ?_ bi.out) | exact HB.out)) hb); clear an; clear ao; clear ap; clear ak; clear aa; clear ab; clear ac; clear cg; clear aw; clear ai; clear aA; clear ad; clear HB; have an := n0_; have ao := n1_; have ap := n2_; have ak := n3_; have aa := n4_; have ab := n5_; have ac := n6_; have cg := n7_; have aw := n8_; have ai := n9_; have aA := bl; have ad := bm; have HB := bA; clear n0_ n1_ n2_ n3_ n4_ n5_ n6_ n7_ n8_ n9_ bl bm bA; (try clear hb); (try clear hb2); (try clear hk); (try clear hi)))
         go_meet
         case rel => exact ⟨_, (true), (by first | rfl | (simp; done) | (simp [*]; done)), H', ⟨by have := HJ10.out; first | omega | exact Nat.le_refl _⟩, ⟨by (with_reducible repeat (first | apply kra | apply krn | apply krd)); exact Kd.R_mono an.out (fun _ hk => ⟨hk.1, ⟨hk.2.1, ⟨hk.2.2.1, ⟨hk.2.2.2.1, ⟨hk.2.2.2.2.1, hk.2.2.2.2.2.1⟩⟩⟩⟩⟩)⟩, ⟨by (with_reducible repeat (first | apply kra | apply krn | apply krd)); exact Kd.R_mono ao.out (fun _ hk => ⟨hk.1, ⟨hk.2.1, ⟨hk.2.2.1, ⟨hk.2.2.2.1, ⟨hk.2.2.2.2.1, hk.2.2.2.2.2.1⟩⟩⟩⟩⟩)⟩, ⟨by (with_reducible repeat (first | apply kra | apply krn | apply krd)); exact Kd.R_mono ap.out (fun _ hk => ⟨hk.1, ⟨hk.2.1, ⟨hk.2.2.1, ⟨hk.2.2.2.1, ⟨hk.2.2.2.2.1, hk.2.2.2.2.2.1⟩⟩⟩⟩⟩)⟩, ⟨by (with_reducible repeat (first | apply kra | apply krn | apply krd)); exact Kd.R_mono ak.out (fun _ hk => ⟨hk.1.1, ⟨hk.1.2.1, ⟨hk.1.2.2.1, ⟨hk.1.2.2.2.1, ⟨hk.1.2.2.2.2.1, hk.1.2.2.2.2.2⟩⟩⟩⟩⟩)⟩, ⟨by (with_reducible repeat (first | apply kra | apply krn | apply krd)); exact Kd.R_mono aa.out (fun _ hk => ⟨hk.1, ⟨hk.2.1, ⟨hk.2.2.1, ⟨hk.2.2.2.1, ⟨hk.2.2.2.2.1, hk.2.2.2.2.2.1⟩⟩⟩⟩⟩)⟩, ⟨by (with_reducible repeat (first | apply kra | apply krn | apply krd)); exact Kd.R_mono ab.out (fun _ hk => ⟨hk.1, ⟨hk.2.1, ⟨hk.2.2.1, ⟨hk.2.2.2.1, ⟨hk.2.2.2.2.1, hk.2.2.2.2.2.1⟩⟩⟩⟩⟩)⟩, ⟨by (with_reducible repeat (first | apply kra | apply krn | apply krd)); exact Kd.R_mono ac.out (fun _ hk => ⟨hk.1, ⟨hk.2.1, ⟨hk.2.2.1, ⟨hk.2.2.2.1, ⟨hk.2.2.2.2.1, hk.2.2.2.2.2.1⟩⟩⟩⟩⟩)⟩, ⟨by (with_reducible repeat (first | refine bkn ?_ _ | refine bkd ?_ | refine bka ?_ _)); exact aw.out⟩, ⟨by (with_reducible repeat (first | refine bkn ?_ _ | refine bkd ?_ | refine bka ?_ _)); exact ai.out⟩, ⟨by (with_reducible repeat (first | refine bkn ?_ _ | refine bkd ?_ | refine bka ?_ _)); exact aA.out⟩, ⟨by (with_reducible repeat (first | refine bkn ?_ _ | refine bkd ?_ | refine bka ?_ _)); exact ad.out⟩, ⟨by repeat (first | (with_reducible first | exact HB.out | apply below_alloc | apply pw_below_drewN | apply below_drew1 | refine bse ?_ aN.out | refine bse ?_ aX.out | refine bse ?_ bd.out | refine bse ?_ bi.out) | exact HB.out)⟩⟩
      case rest =>
       clear HC64
       try clear c1
       try clear c2
       try clear p2
       try clear c3
       try clear c3b0
       try clear c4
       try clear c5
       try clear c6
       try clear c7
       try clear c8
       try clear c9
       try clear c10
       try clear c21
       try clear c23
       try clear c25
       try clear c29
       try clear c30
       try clear c35
       try clear c36
       try clear c37
       try clear c38
       try clear c39
       try clear c40
       try clear c41
       try clear c42
       try clear c43
       try clear c44
       try clear c45
       try clear c47
       try clear c48
       try clear c51
       try clear c52
       try clear c53
       try clear c55
       try clear c56
       try clear c59
       try clear c62
       try clear c69
       try clear c70
       try clear c71
       try clear c74
       try clear c74b0
       try clear c76
       try clear c77
       try clear c78
       try clear c79
       try clear c81
       try clear c82
       try clear c85
       try clear c86
       try clear c87
       try clear c89
       try clear c90
       try clear cW
       try clear cX
       try clear cY
       try clear cZ
       try clear da
       try clear db
       try clear dc
       try clear dd
       try clear de
       try clear df
       try clear dg
       try clear dh
       try clear di
       try clear dj
       try clear dk
       try clear dl
       try clear dm
       try clear dn
       try clear dp
       try clear dq
       try clear dr
       try clear dt
       try clear dB
       try clear ea
       try clear eb
       try clear ec
       try clear ed
       try clear ee
       try clear ef
       try clear eg
       try clear eh
       try clear ei
       try clear ej
       try clear ek
       try clear el
       try clear em
       try clear dE
       try clear dF
       try clear dG
       try clear dH
       try clear dI
       try clear dJ
       try clear dK
       try clear dL
       try clear dM
       try clear dN
       try clear dO
       try clear dP
       try clear dQ
       try clear dR
       try clear dS
       try clear dT
       try clear dU
       try clear dV
       try clear dW
       try clear dX
       try clear dY
       try clear dZ
       try clear en
       try clear eW
       try clear eX
       try clear eY
       try clear eZ
       try clear fa
       try clear fb
       try clear fc
       try clear fd
       try clear fe
       try clear ff
       try clear fg
       try clear fh
       try clear fi
       try clear p2
       obtain ⟨kq, cV, rfl, HA, HJ63, an, ao, ap, ak, aa, ab, ac, aw, ai, aA, ad, HB⟩ := hcut
       have aB := (Kd.R_reads' ak.out).1
       rw [aB] at ak
       (try simp only [aB])
       (try simp only [aB] at aw)
       (try simp only [aB] at ai)
       (try simp only [aB] at aA)
       (try simp only [aB] at ad)
       (try simp only [aB] at an)
       (try simp only [aB] at ao)
       (try simp only [aB] at ap)
       (try simp only [aB] at aa)
       (try simp only [aB] at ab)
       (try simp only [aB] at ac)
       cases kq with
       | zero => exact absurd HA.out (by simp [laws_FnExactJobsOfTasks.j1])
       | succ bv =>
        have H := HA.out
        clear HA
        simp only [laws_FnExactJobsOfTasks.j1] at H
        by_cases c93 : cV = true
        ·
         subst c93
         have H1 : (some false) = some r := by rw [if_pos rfl] at H; exact H
         clear H
         have H := H1
         clear H1
         obtain rfl := Option.some.inj H
         go_wp2
         go_ret
         exact ⟨by first | rfl | (simp [errW_none, errW_some] <;> rfl) | (simp [*, errW_none, errW_some] <;> rfl), by repeat (first | (with_reducible first | exact HB.out | apply below_alloc | apply pw_below_drewN | apply below_drew1 | refine bse ?_ aN.out | refine bse ?_ aX.out | refine bse ?_ bd.out | refine bse ?_ bi.out) | exact HB.out)⟩
        ·
         replace c93 := Bool.eq_false_iff.mpr c93
         subst c93
         have H1 : ((laws_markJobs.f bv af ag ah 1).bind fun bD => ((laws_heldJobs.f bv bD.2.1 bD.2.2.1 bD.2.2.2 1).bind fun bS => (if bS < 0 then (some false) else (if bS = bD.1 then ((laws_toTasks.f bv l0_0).bind fun bO => ((impl_JobsOfTasks.f bv bO).bind fun bF => ((laws_eqJobs.f bv bF.1 bF.2.1 bF.2.2.1 aj al am).bind fun cF => (if cF = true then (laws_FnExactJobsOfTasks.j2 bv bD.1 (bF.2.2.2 != bn) bD.2.1 bD.2.2.1 bD.2.2.2) else (laws_FnExactJobsOfTasks.j2 bv bD.1 true bD.2.1 bD.2.2.1 bD.2.2.2))))) else (some false))))) = some r := by rw [if_neg (show ¬ (false = true) by decide)] at H; exact H
         clear H
         have H := H1
         clear H1
         replace H := Option.bind_eq_some_iff.mp H
         obtain ⟨⟨bJ, bp, bq, br⟩, A940, H⟩ := H
         replace H : ((laws_heldJobs.f bv bp bq br 1).bind fun bS => (if bS < 0 then (some false) else (if bS = bJ then ((laws_toTasks.f bv l0_0).bind fun bO => ((impl_JobsOfTasks.f bv bO).bind fun bF => ((laws_eqJobs.f bv bF.1 bF.2.1 bF.2.2.1 aj al am).bind fun cF => (if cF = true then (laws_FnExactJobsOfTasks.j2 bv bJ (bF.2.2.2 != bn) bp bq br) else (laws_FnExactJobsOfTasks.j2 bv bJ true bp bq br))))) else (some false)))) = some r := H
         have A94 := amk A940
         clear A940
         replace H := Option.bind_eq_some_iff.mp H
         obtain ⟨bS, A950, H⟩ := H
         replace H : (if bS < 0 then (some false) else (if bS = bJ then ((laws_toTasks.f bv l0_0).bind fun bO => ((impl_JobsOfTasks.f bv bO).bind fun bF => ((laws_eqJobs.f bv bF.1 bF.2.1 bF.2.2.1 aj al am).bind fun cF => (if cF = true then (laws_FnExactJobsOfTasks.j2 bv bJ (bF.2.2.2 != bn) bp bq br) else (laws_FnExactJobsOfTasks.j2 bv bJ true bp bq br))))) else (some false))) = some r := H
         have A95 := amk A950
         clear A950
         by_cases c96 : bS < 0
         ·
          rw [if_pos c96] at H
          have c96b0 : decide (bS < 0) = true := decide_eq_true c96
          (try (have c96h_hl722000_63 := c96b0; rw [aB] at c96h_hl722000_63))
          clear c96
          obtain rfl := Option.some.inj H
          have hnb97 := bQ.out
          have hnc97 := bz.out
          have hnb98 := bK.out
          have hnc98 := bs.out
          have hnb99 := bL.out
          have hnc99 := bw.out
          have eo : wc.cell? ⟨ae, 0, none⟩ = some (.slice au af.length ar) := (blk_cell ad.out 0).trans rfl
          have ep : wc.cell? ⟨ae, 1, none⟩ = some (.slice ax ag.length av) := (blk_cell ad.out 1).trans rfl
          have eq : wc.cell? ⟨ae, 2, none⟩ = some (.slice az ah.length ay) := (blk_cell ad.out 2).trans rfl
          have fr := blk_frozen ad.out 0
          have fs := blk_frozen ad.out 1
          have ft := blk_frozen ad.out 2
          go_wp2_with (first | ((with_reducible refine gate_callee (f := 42) rfl ?_); refine goesL_ (some 64) rfl rfl Try.func42 (by kernel_rfl) rfl #[.agg #[.slice au af.length ar, .slice ax ag.length av, .slice az ah.length ay], .int .i64 1] rfl (by (try simp only [List.map_toArray, List.map_cons, List.map_nil]); first | done | rfl | (simp only [List.length_drop, List.length_take]; rfl)) ?_; (with_reducible refine (laws_markJobs.calls bv (fun k_ => some k_ = (.slice au af.length ar : Value).ownBlock) (.slice au af.length ar) af (fun k_ => some k_ = (.slice ax ag.length av : Value).ownBlock) (.slice ax ag.length av) ag (fun k_ => some k_ = (.slice az ah.length ay : Value).ownBlock) (.slice az ah.length ay) ah 1 bJ bp bq br w _ ?ba ?bb ?bt ?bu ?bB ?bC ?bU ?bV ?bW ?bM A94.out).mono ?_); (case ba => repeat (first | (with_reducible first | exact HB.out | apply below_alloc | apply pw_below_drewN | apply below_drew1 | refine bse ?_ aN.out | refine bse ?_ aX.out | refine bse ?_ bd.out | refine bse ?_ bi.out) | exact HB.out)); (case bb => exact Kd.R_tight rfl aa.out); (case bt => exact fun k_ e_ => (aa.out.1 k_ e_.symm).2.2.2.2.1); (case bu => exact fun k_ e_ => (aa.out.1 k_ e_.symm).2.2.2.2.2); (case bB => exact Kd.R_tight rfl ab.out); (case bC => exact fun k_ e_ => (ab.out.1 k_ e_.symm).2.2.2.2.1); (case bU => exact fun k_ e_ => (ab.out.1 k_ e_.symm).2.2.2.2.2); (case bV => exact Kd.R_tight rfl ac.out); (case bW => exact fun k_ e_ => (ac.out.1 k_ e_.symm).2.2.2.2.1); (case bM => exact fun k_ e_ => (ac.out.1 k_ e_.symm).2.2.2.2.2); rintro e w101 ⟨rfl, hy0, hy1, hy2, hb, hkp⟩; refine ⟨_, rfl, ?_⟩; have n0_ := amk (Kd.R_mono (ok' := fun k_ => some k_ ≠ (.slice aJ al.length aG : Value).ownBlock ∧ some k_ ≠ (.slice aK am.length aH : Value).ownBlock ∧ some k_ ≠ (.slice aD bo.length aC : Value).ownBlock ∧ some k_ ≠ (.slice au af.length ar : Value).ownBlock ∧ some k_ ≠ (.slice ax ag.length av : Value).ownBlock ∧ some k_ ≠ (.slice az ah.length ay : Value).ownBlock) (Kd.R_keptB (an.out) hkp (fun k_ hk_ hs_ => Or.elim hs_ (fun e_ => (hk_.2.2.2.1) e_) (fun e_ => Or.elim e_ (fun e_ => (hk_.2.2.2.2.1) e_) (fun e_ => (hk_.2.2.2.2.2) e_)))) (fun k_ hk_ => ⟨hk_.1.1, hk_.1.2.1, hk_.1.2.2.1, hk_.1.2.2.2.1, hk_.1.2.2.2.2.1, hk_.1.2.2.2.2.2⟩)); have n1_ := amk (Kd.R_mono (ok' := fun k_ => some k_ ≠ (.slice aI aj.length aF : Value).ownBlock ∧ some k_ ≠ (.slice aK am.length aH : Value).ownBlock ∧ some k_ ≠ (.slice aD bo.length aC : Value).ownBlock ∧ some k_ ≠ (.slice au af.length ar : Value).ownBlock ∧ some k_ ≠ (.slice ax ag.length av : Value).ownBlock ∧ some k_ ≠ (.slice az ah.length ay : Value).ownBlock) (Kd.R_keptB (ao.out) hkp (fun k_ hk_ hs_ => Or.elim hs_ (fun e_ => (hk_.2.2.2.1) e_) (fun e_ => Or.elim e_ (fun e_ => (hk_.2.2.2.2.1) e_) (fun e_ => (hk_.2.2.2.2.2) e_)))) (fun k_ hk_ => ⟨hk_.1.1, hk_.1.2.1, hk_.1.2.2.1, hk_.1.2.2.2.1, hk_.1.2.2.2.2.1, hk_.1.2.2.2.2.2⟩)); have n2_ := amk (Kd.R_mono (ok' := fun k_ => some k_ ≠ (.slice aI aj.length aF : Value).ownBlock ∧ some k_ ≠ (.slice aJ al.length aG : Value).ownBlock ∧ some k_ ≠ (.slice aD bo.length aC : Value).ownBlock ∧ some k_ ≠ (.slice au af.length ar : Value).ownBlock ∧ some k_ ≠ (.slice ax ag.length av : Value).ownBlock ∧ some k_ ≠ (.slice az ah.length ay : Value).ownBlock) (Kd.R_keptB (ap.out) hkp (fun k_ hk_ hs_ => Or.elim hs_ (fun e_ => (hk_.2.2.2.1) e_) (fun e_ => Or.elim e_ (fun e_ => (hk_.2.2.2.2.1) e_) (fun e_ => (hk_.2.2.2.2.2) e_)))) (fun k_ hk_ => ⟨hk_.1.1, hk_.1.2.1, hk_.1.2.2.1, hk_.1.2.2.2.1, hk_.1.2.2.2.2.1, hk_.1.2.2.2.2.2⟩)); have n3_ := amk (Kd.R_mono (ok' := fun k_ => some k_ ≠ (.slice aI aj.length aF : Value).ownBlock ∧ some k_ ≠ (.slice aJ al.length aG : Value).ownBlock ∧ some k_ ≠ (.slice aK am.length aH : Value).ownBlock ∧ some k_ ≠ (.slice au af.length ar : Value).ownBlock ∧ some k_ ≠ (.slice ax ag.length av : Value).ownBlock ∧ some k_ ≠ (.slice az ah.length ay : Value).ownBlock) (Kd.R_keptB (ak.out) hkp (fun k_ hk_ hs_ => Or.elim hs_ (fun e_ => (hk_.2.2.2.1) e_) (fun e_ => Or.elim e_ (fun e_ => (hk_.2.2.2.2.1) e_) (fun e_ => (hk_.2.2.2.2.2) e_)))) (fun k_ hk_ => ⟨hk_.1.1, hk_.1.2.1, hk_.1.2.2.1, hk_.1.2.2.2.1, hk_.1.2.2.2.2.1, hk_.1.2.2.2.2.2⟩)); have n4_ := amk (Kd.R_reok rfl hy0 (fun k_ e_ => aa.out.1 k_ e_)); have n5_ := amk (Kd.R_reok rfl hy1 (fun k_ e_ => ab.out.1 k_ e_)); have n6_ := amk (Kd.R_reok rfl hy2 (fun k_ e_ => ac.out.1 k_ e_)); have n7_ := amk (blk_kept (by (with_reducible repeat (first | refine bkn ?_ _ | refine bkd ?_ | refine bka ?_ _)); exact aw.out) hkp (fun hs_ => Or.elim hs_ (fun e_ => (fun e_ => (Kd.R_ne aa.out aw.out (by decide)) e_) e_) (fun e_ => Or.elim e_ (fun e_ => (fun e_ => (Kd.R_ne ab.out aw.out (by decide)) e_) e_) (fun e_ => (fun e_ => (Kd.R_ne ac.out aw.out (by decide)) e_) e_)))); have n8_ := amk (blk_kept (by (with_reducible repeat (first | refine bkn ?_ _ | refine bkd ?_ | refine bka ?_ _)); exact ai.out) hkp (fun hs_ => Or.elim hs_ (fun e_ => (fun e_ => (Kd.R_ne aa.out ai.out (by decide)) e_) e_) (fun e_ => Or.elim e_ (fun e_ => (fun e_ => (Kd.R_ne ab.out ai.out (by decide)) e_) e_) (fun e_ => (fun e_ => (Kd.R_ne ac.out ai.out (by decide)) e_) e_)))); have n9_ := amk (blk_kept (by (with_reducible repeat (first | refine bkn ?_ _ | refine bkd ?_ | refine bka ?_ _)); exact aA.out) hkp (fun hs_ => Or.elim hs_ (fun e_ => (fun e_ => (Kd.R_ne aa.out aA.out (by decide)) e_) e_) (fun e_ => Or.elim e_ (fun e_ => (fun e_ => (Kd.R_ne ab.out aA.out (by decide)) e_) e_) (fun e_ => (fun e_ => (Kd.R_ne ac.out aA.out (by decide)) e_) e_)))); have bl := amk (blk_kept (by (with_reducible repeat (first | refine bkn ?_ _ | refine bkd ?_ | refine bka ?_ _)); exact ad.out) hkp (fun hs_ => Or.elim hs_ (fun e_ => (fun e_ => (Kd.R_ne aa.out ad.out (by decide)) e_) e_) (fun e_ => Or.elim e_ (fun e_ => (fun e_ => (Kd.R_ne ab.out ad.out (by decide)) e_) e_) (fun e_ => (fun e_ => (Kd.R_ne ac.out ad.out (by decide)) e_) e_)))); have bm := amk (hb); clear an; clear ao; clear ap; clear ak; clear aa; clear ab; clear ac; clear aw; clear ai; clear aA; clear ad; clear HB; have an := n0_; have ao := n1_; have ap := n2_; have ak := n3_; have aa := n4_; have ab := n5_; have ac := n6_; have aw := n7_; have ai := n8_; have aA := n9_; have ad := bl; have HB := bm; clear n0_ n1_ n2_ n3_ n4_ n5_ n6_ n7_ n8_ n9_ bl bm; (try clear hb); (try clear hkp); (try clear hy0); (try clear hy1); (try clear hy2); have er : w101.cell? ⟨ae, 0, none⟩ = some (.slice au af.length ar) := (blk_cell ad.out 0).trans rfl; have es : w101.cell? ⟨ae, 1, none⟩ = some (.slice ax ag.length av) := (blk_cell ad.out 1).trans rfl; have et : w101.cell? ⟨ae, 2, none⟩ = some (.slice az ah.length ay) := (blk_cell ad.out 2).trans rfl; have fu := blk_frozen ad.out 0; have fv := blk_frozen ad.out 1; have fw := blk_frozen ad.out 2) | ((with_reducible refine gate_callee (f := 43) rfl ?_); refine goesL_ (some 67) rfl rfl Try.func43 (by kernel_rfl) rfl #[.agg #[.slice au bp.length ar, .slice ax bq.length av, .slice az br.length ay], .int .i64 1] rfl (by (try simp only [List.map_toArray, List.map_cons, List.map_nil]); first | done | (rw [show bp.length = af.length from (Kd.R_reads' aa.out).1.symm, show bq.length = ag.length from (Kd.R_reads' ab.out).1.symm, show br.length = ah.length from (Kd.R_reads' ac.out).1.symm] <;> rfl) | rfl | (simp only [List.length_drop, List.length_take]; rfl)) ?_; (with_reducible refine (laws_heldJobs.calls bv _ _ bp _ _ bq _ _ br 1 bS _ ?ba ?bb ?bt ?bu ?bB ?bC A95.out).mono ?_); (case ba => repeat (first | exact (Kd.R_reads' aa.out).2.2 | (with_reducible refine Kd.C_alloc ?_ _) | (with_reducible refine Kd.C_drewN ?_ _) | (with_reducible refine Kd.C_drew ?_))); (case bb => rw [show bp.length = af.length from (Kd.R_reads' aa.out).1.symm]; exact (Kd.R_reads' aa.out).2.1); (case bt => repeat (first | exact (Kd.R_reads' ab.out).2.2 | (with_reducible refine Kd.C_alloc ?_ _) | (with_reducible refine Kd.C_drewN ?_ _) | (with_reducible refine Kd.C_drew ?_))); (case bu => rw [show bq.length = ag.length from (Kd.R_reads' ab.out).1.symm]; exact (Kd.R_reads' ab.out).2.1); (case bB => repeat (first | exact (Kd.R_reads' ac.out).2.2 | (with_reducible refine Kd.C_alloc ?_ _) | (with_reducible refine Kd.C_drewN ?_ _) | (with_reducible refine Kd.C_drew ?_))); (case bC => rw [show br.length = ah.length from (Kd.R_reads' ac.out).1.symm]; exact (Kd.R_reads' ac.out).2.1); rintro e w103 ⟨rfl, hb⟩; refine ⟨_, rfl, ?_⟩; have n0_ := amk (Kd.R_below (by (with_reducible repeat (first | apply kra | apply krn | apply krd)); exact an.out) hb); have n1_ := amk (Kd.R_below (by (with_reducible repeat (first | apply kra | apply krn | apply krd)); exact ao.out) hb); have n2_ := amk (Kd.R_below (by (with_reducible repeat (first | apply kra | apply krn | apply krd)); exact ap.out) hb); have n3_ := amk (Kd.R_below (by (with_reducible repeat (first | apply kra | apply krn | apply krd)); exact ak.out) hb); have n4_ := amk (Kd.R_below (by (with_reducible repeat (first | apply kra | apply krn | apply krd)); exact aa.out) hb); have n5_ := amk (Kd.R_below (by (with_reducible repeat (first | apply kra | apply krn | apply krd)); exact ab.out) hb); have n6_ := amk (Kd.R_below (by (with_reducible repeat (first | apply kra | apply krn | apply krd)); exact ac.out) hb); have n7_ := amk (blk_below (g := aW) (o := .cells #[.slice bj l0_0.length bk] 33 (0, 0)) (by (with_reducible repeat (first | refine bkn ?_ _ | refine bkd ?_ | refine bka ?_ _)); exact aw.out) hb); have n8_ := amk (blk_below (g := aL) (o := .cells #[.slice aI aj.length aF, .slice aJ al.length aG, .slice aK am.length aH] 50 (0, 0)) (by (with_reducible repeat (first | refine bkn ?_ _ | refine bkd ?_ | refine bka ?_ _)); exact ai.out) hb); have n9_ := amk (blk_below (g := aU) (o := .cells #[.slice aD bo.length aC] 37 (0, 0)) (by (with_reducible repeat (first | refine bkn ?_ _ | refine bkd ?_ | refine bka ?_ _)); exact aA.out) hb); have bl := amk (blk_below (g := ae) (o := .cells #[.slice au af.length ar, .slice ax ag.length av, .slice az ah.length ay] 50 (0, 0)) (by (with_reducible repeat (first | refine bkn ?_ _ | refine bkd ?_ | refine bka ?_ _)); exact ad.out) hb); have bm := amk (below_step (by repeat (first | (with_reducible first | exact HB.out | apply below_alloc | apply pw_below_drewN | apply below_drew1 | refine bse ?_ aN.out | refine bse ?_ aX.out | refine bse ?_ bd.out | refine bse ?_ bi.out) | exact HB.out)) hb); clear an; clear ao; clear ap; clear ak; clear aa; clear ab; clear ac; clear aw; clear ai; clear aA; clear ad; clear HB; have an := n0_; have ao := n1_; have ap := n2_; have ak := n3_; have aa := n4_; have ab := n5_; have ac := n6_; have aw := n7_; have ai := n8_; have aA := n9_; have ad := bl; have HB := bm; clear n0_ n1_ n2_ n3_ n4_ n5_ n6_ n7_ n8_ n9_ bl bm; (try clear hb); (try clear hb2); (try clear hk); (try clear hi)))
          go_ret
          exact ⟨by first | rfl | (simp [errW_none, errW_some] <;> rfl) | (simp [*, errW_none, errW_some] <;> rfl), by repeat (first | (with_reducible first | exact HB.out | apply below_alloc | apply pw_below_drewN | apply below_drew1 | refine bse ?_ aN.out | refine bse ?_ aX.out | refine bse ?_ bd.out | refine bse ?_ bi.out) | exact HB.out)⟩
         ·
          rw [if_neg c96] at H
          have c96b0 : decide (bS < 0) = false := decide_eq_false c96
          (try (have c96h_hl722000_63 := c96b0; rw [aB] at c96h_hl722000_63))
          clear c96
          by_cases c104 : bS = bJ
          ·
           rw [if_pos c104] at H
           have c104b0 : (bS == bJ) = true := beq_iff_eq.mpr c104
           have c104b1 : (bS != bJ) = false := bne_eq_false_iff_eq.mpr c104
           (try (have c104h_hl722000_63 := c104b0; rw [aB] at c104h_hl722000_63))
           clear c104
           replace H := Option.bind_eq_some_iff.mp H
           obtain ⟨bO, eQ, H⟩ := H
           replace H : ((impl_JobsOfTasks.f bv bO).bind fun bF => ((laws_eqJobs.f bv bF.1 bF.2.1 bF.2.2.1 aj al am).bind fun cF => (if cF = true then (laws_FnExactJobsOfTasks.j2 bv bJ (bF.2.2.2 != bn) bp bq br) else (laws_FnExactJobsOfTasks.j2 bv bJ true bp bq br)))) = some r := H
           have A105 := amk eQ
           clear eQ
           replace H := Option.bind_eq_some_iff.mp H
           obtain ⟨⟨aY, aZ, bc, t758⟩, eR, H⟩ := H
           replace H : ((laws_eqJobs.f bv aY aZ bc aj al am).bind fun cF => (if cF = true then (laws_FnExactJobsOfTasks.j2 bv bJ (t758 != bn) bp bq br) else (laws_FnExactJobsOfTasks.j2 bv bJ true bp bq br))) = some r := H
           have A106 := amk eR
           clear eR
           have eS := amk H
           clear H
           have hnb108 := bQ.out
           have hnc108 := bz.out
           have hnb109 := bK.out
           have hnc109 := bs.out
           have hnb110 := bL.out
           have hnc110 := bw.out
           have eu : wc.cell? ⟨ae, 0, none⟩ = some (.slice au af.length ar) := (blk_cell ad.out 0).trans rfl
           have ev : wc.cell? ⟨ae, 1, none⟩ = some (.slice ax ag.length av) := (blk_cell ad.out 1).trans rfl
           have ew : wc.cell? ⟨ae, 2, none⟩ = some (.slice az ah.length ay) := (blk_cell ad.out 2).trans rfl
           have fx := blk_frozen ad.out 0
           have fy := blk_frozen ad.out 1
           have fz := blk_frozen ad.out 2
           go_upto_region 25 with (first | ((with_reducible refine gate_callee (f := 42) rfl ?_); refine goesL_ (some 64) rfl rfl Try.func42 (by kernel_rfl) rfl #[.agg #[.slice au af.length ar, .slice ax ag.length av, .slice az ah.length ay], .int .i64 1] rfl (by (try simp only [List.map_toArray, List.map_cons, List.map_nil]); first | done | rfl | (simp only [List.length_drop, List.length_take]; rfl)) ?_; (with_reducible refine (laws_markJobs.calls bv (fun k_ => some k_ = (.slice au af.length ar : Value).ownBlock) (.slice au af.length ar) af (fun k_ => some k_ = (.slice ax ag.length av : Value).ownBlock) (.slice ax ag.length av) ag (fun k_ => some k_ = (.slice az ah.length ay : Value).ownBlock) (.slice az ah.length ay) ah 1 bJ bp bq br w _ ?ba ?bb ?bt ?bu ?bB ?bC ?bU ?bV ?bW ?bM A94.out).mono ?_); (case ba => repeat (first | (with_reducible first | exact HB.out | apply below_alloc | apply pw_below_drewN | apply below_drew1 | refine bse ?_ aN.out | refine bse ?_ aX.out | refine bse ?_ bd.out | refine bse ?_ bi.out) | exact HB.out)); (case bb => exact Kd.R_tight rfl aa.out); (case bt => exact fun k_ e_ => (aa.out.1 k_ e_.symm).2.2.2.2.1); (case bu => exact fun k_ e_ => (aa.out.1 k_ e_.symm).2.2.2.2.2); (case bB => exact Kd.R_tight rfl ab.out); (case bC => exact fun k_ e_ => (ab.out.1 k_ e_.symm).2.2.2.2.1); (case bU => exact fun k_ e_ => (ab.out.1 k_ e_.symm).2.2.2.2.2); (case bV => exact Kd.R_tight rfl ac.out); (case bW => exact fun k_ e_ => (ac.out.1 k_ e_.symm).2.2.2.2.1); (case bM => exact fun k_ e_ => (ac.out.1 k_ e_.symm).2.2.2.2.2); rintro e w112 ⟨rfl, hy0, hy1, hy2, hb, hkp⟩; refine ⟨_, rfl, ?_⟩; have n0_ := amk (Kd.R_mono (ok' := fun k_ => some k_ ≠ (.slice aJ al.length aG : Value).ownBlock ∧ some k_ ≠ (.slice aK am.length aH : Value).ownBlock ∧ some k_ ≠ (.slice aD bo.length aC : Value).ownBlock ∧ some k_ ≠ (.slice au af.length ar : Value).ownBlock ∧ some k_ ≠ (.slice ax ag.length av : Value).ownBlock ∧ some k_ ≠ (.slice az ah.length ay : Value).ownBlock) (Kd.R_keptB (an.out) hkp (fun k_ hk_ hs_ => Or.elim hs_ (fun e_ => (hk_.2.2.2.1) e_) (fun e_ => Or.elim e_ (fun e_ => (hk_.2.2.2.2.1) e_) (fun e_ => (hk_.2.2.2.2.2) e_)))) (fun k_ hk_ => ⟨hk_.1.1, hk_.1.2.1, hk_.1.2.2.1, hk_.1.2.2.2.1, hk_.1.2.2.2.2.1, hk_.1.2.2.2.2.2⟩)); have n1_ := amk (Kd.R_mono (ok' := fun k_ => some k_ ≠ (.slice aI aj.length aF : Value).ownBlock ∧ some k_ ≠ (.slice aK am.length aH : Value).ownBlock ∧ some k_ ≠ (.slice aD bo.length aC : Value).ownBlock ∧ some k_ ≠ (.slice au af.length ar : Value).ownBlock ∧ some k_ ≠ (.slice ax ag.length av : Value).ownBlock ∧ some k_ ≠ (.slice az ah.length ay : Value).ownBlock) (Kd.R_keptB (ao.out) hkp (fun k_ hk_ hs_ => Or.elim hs_ (fun e_ => (hk_.2.2.2.1) e_) (fun e_ => Or.elim e_ (fun e_ => (hk_.2.2.2.2.1) e_) (fun e_ => (hk_.2.2.2.2.2) e_)))) (fun k_ hk_ => ⟨hk_.1.1, hk_.1.2.1, hk_.1.2.2.1, hk_.1.2.2.2.1, hk_.1.2.2.2.2.1, hk_.1.2.2.2.2.2⟩)); have n2_ := amk (Kd.R_mono (ok' := fun k_ => some k_ ≠ (.slice aI aj.length aF : Value).ownBlock ∧ some k_ ≠ (.slice aJ al.length aG : Value).ownBlock ∧ some k_ ≠ (.slice aD bo.length aC : Value).ownBlock ∧ some k_ ≠ (.slice au af.length ar : Value).ownBlock ∧ some k_ ≠ (.slice ax ag.length av : Value).ownBlock ∧ some k_ ≠ (.slice az ah.length ay : Value).ownBlock) (Kd.R_keptB (ap.out) hkp (fun k_ hk_ hs_ => Or.elim hs_ (fun e_ => (hk_.2.2.2.1) e_) (fun e_ => Or.elim e_ (fun e_ => (hk_.2.2.2.2.1) e_) (fun e_ => (hk_.2.2.2.2.2) e_)))) (fun k_ hk_ => ⟨hk_.1.1, hk_.1.2.1, hk_.1.2.2.1, hk_.1.2.2.2.1, hk_.1.2.2.2.2.1, hk_.1.2.2.2.2.2⟩)); have n3_ := amk (Kd.R_mono (ok' := fun k_ => some k_ ≠ (.slice aI aj.length aF : Value).ownBlock ∧ some k_ ≠ (.slice aJ al.length aG : Value).ownBlock ∧ some k_ ≠ (.slice aK am.length aH : Value).ownBlock ∧ some k_ ≠ (.slice au af.length ar : Value).ownBlock ∧ some k_ ≠ (.slice ax ag.length av : Value).ownBlock ∧ some k_ ≠ (.slice az ah.length ay : Value).ownBlock) (Kd.R_keptB (ak.out) hkp (fun k_ hk_ hs_ => Or.elim hs_ (fun e_ => (hk_.2.2.2.1) e_) (fun e_ => Or.elim e_ (fun e_ => (hk_.2.2.2.2.1) e_) (fun e_ => (hk_.2.2.2.2.2) e_)))) (fun k_ hk_ => ⟨hk_.1.1, hk_.1.2.1, hk_.1.2.2.1, hk_.1.2.2.2.1, hk_.1.2.2.2.2.1, hk_.1.2.2.2.2.2⟩)); have n4_ := amk (Kd.R_reok rfl hy0 (fun k_ e_ => aa.out.1 k_ e_)); have n5_ := amk (Kd.R_reok rfl hy1 (fun k_ e_ => ab.out.1 k_ e_)); have n6_ := amk (Kd.R_reok rfl hy2 (fun k_ e_ => ac.out.1 k_ e_)); have n7_ := amk (blk_kept (by (with_reducible repeat (first | refine bkn ?_ _ | refine bkd ?_ | refine bka ?_ _)); exact aw.out) hkp (fun hs_ => Or.elim hs_ (fun e_ => (fun e_ => (Kd.R_ne aa.out aw.out (by decide)) e_) e_) (fun e_ => Or.elim e_ (fun e_ => (fun e_ => (Kd.R_ne ab.out aw.out (by decide)) e_) e_) (fun e_ => (fun e_ => (Kd.R_ne ac.out aw.out (by decide)) e_) e_)))); have n8_ := amk (blk_kept (by (with_reducible repeat (first | refine bkn ?_ _ | refine bkd ?_ | refine bka ?_ _)); exact ai.out) hkp (fun hs_ => Or.elim hs_ (fun e_ => (fun e_ => (Kd.R_ne aa.out ai.out (by decide)) e_) e_) (fun e_ => Or.elim e_ (fun e_ => (fun e_ => (Kd.R_ne ab.out ai.out (by decide)) e_) e_) (fun e_ => (fun e_ => (Kd.R_ne ac.out ai.out (by decide)) e_) e_)))); have n9_ := amk (blk_kept (by (with_reducible repeat (first | refine bkn ?_ _ | refine bkd ?_ | refine bka ?_ _)); exact aA.out) hkp (fun hs_ => Or.elim hs_ (fun e_ => (fun e_ => (Kd.R_ne aa.out aA.out (by decide)) e_) e_) (fun e_ => Or.elim e_ (fun e_ => (fun e_ => (Kd.R_ne ab.out aA.out (by decide)) e_) e_) (fun e_ => (fun e_ => (Kd.R_ne ac.out aA.out (by decide)) e_) e_)))); have bl := amk (blk_kept (by (with_reducible repeat (first | refine bkn ?_ _ | refine bkd ?_ | refine bka ?_ _)); exact ad.out) hkp (fun hs_ => Or.elim hs_ (fun e_ => (fun e_ => (Kd.R_ne aa.out ad.out (by decide)) e_) e_) (fun e_ => Or.elim e_ (fun e_ => (fun e_ => (Kd.R_ne ab.out ad.out (by decide)) e_) e_) (fun e_ => (fun e_ => (Kd.R_ne ac.out ad.out (by decide)) e_) e_)))); have bm := amk (hb); clear an; clear ao; clear ap; clear ak; clear aa; clear ab; clear ac; clear aw; clear ai; clear aA; clear ad; clear HB; have an := n0_; have ao := n1_; have ap := n2_; have ak := n3_; have aa := n4_; have ab := n5_; have ac := n6_; have aw := n7_; have ai := n8_; have aA := n9_; have ad := bl; have HB := bm; clear n0_ n1_ n2_ n3_ n4_ n5_ n6_ n7_ n8_ n9_ bl bm; (try clear hb); (try clear hkp); (try clear hy0); (try clear hy1); (try clear hy2); have ex : w112.cell? ⟨ae, 0, none⟩ = some (.slice au af.length ar) := (blk_cell ad.out 0).trans rfl; have ey : w112.cell? ⟨ae, 1, none⟩ = some (.slice ax ag.length av) := (blk_cell ad.out 1).trans rfl; have ez : w112.cell? ⟨ae, 2, none⟩ = some (.slice az ah.length ay) := (blk_cell ad.out 2).trans rfl; have fA := blk_frozen ad.out 0; have fB := blk_frozen ad.out 1; have fC := blk_frozen ad.out 2) | ((with_reducible refine gate_callee (f := 43) rfl ?_); refine goesL_ (some 67) rfl rfl Try.func43 (by kernel_rfl) rfl #[.agg #[.slice au bp.length ar, .slice ax bq.length av, .slice az br.length ay], .int .i64 1] rfl (by (try simp only [List.map_toArray, List.map_cons, List.map_nil]); first | done | (rw [show bp.length = af.length from (Kd.R_reads' aa.out).1.symm, show bq.length = ag.length from (Kd.R_reads' ab.out).1.symm, show br.length = ah.length from (Kd.R_reads' ac.out).1.symm] <;> rfl) | rfl | (simp only [List.length_drop, List.length_take]; rfl)) ?_; (with_reducible refine (laws_heldJobs.calls bv _ _ bp _ _ bq _ _ br 1 bS _ ?ba ?bb ?bt ?bu ?bB ?bC A95.out).mono ?_); (case ba => repeat (first | exact (Kd.R_reads' aa.out).2.2 | (with_reducible refine Kd.C_alloc ?_ _) | (with_reducible refine Kd.C_drewN ?_ _) | (with_reducible refine Kd.C_drew ?_))); (case bb => rw [show bp.length = af.length from (Kd.R_reads' aa.out).1.symm]; exact (Kd.R_reads' aa.out).2.1); (case bt => repeat (first | exact (Kd.R_reads' ab.out).2.2 | (with_reducible refine Kd.C_alloc ?_ _) | (with_reducible refine Kd.C_drewN ?_ _) | (with_reducible refine Kd.C_drew ?_))); (case bu => rw [show bq.length = ag.length from (Kd.R_reads' ab.out).1.symm]; exact (Kd.R_reads' ab.out).2.1); (case bB => repeat (first | exact (Kd.R_reads' ac.out).2.2 | (with_reducible refine Kd.C_alloc ?_ _) | (with_reducible refine Kd.C_drewN ?_ _) | (with_reducible refine Kd.C_drew ?_))); (case bC => rw [show br.length = ah.length from (Kd.R_reads' ac.out).1.symm]; exact (Kd.R_reads' ac.out).2.1); rintro e w114 ⟨rfl, hb⟩; refine ⟨_, rfl, ?_⟩; have n0_ := amk (Kd.R_below (by (with_reducible repeat (first | apply kra | apply krn | apply krd)); exact an.out) hb); have n1_ := amk (Kd.R_below (by (with_reducible repeat (first | apply kra | apply krn | apply krd)); exact ao.out) hb); have n2_ := amk (Kd.R_below (by (with_reducible repeat (first | apply kra | apply krn | apply krd)); exact ap.out) hb); have n3_ := amk (Kd.R_below (by (with_reducible repeat (first | apply kra | apply krn | apply krd)); exact ak.out) hb); have n4_ := amk (Kd.R_below (by (with_reducible repeat (first | apply kra | apply krn | apply krd)); exact aa.out) hb); have n5_ := amk (Kd.R_below (by (with_reducible repeat (first | apply kra | apply krn | apply krd)); exact ab.out) hb); have n6_ := amk (Kd.R_below (by (with_reducible repeat (first | apply kra | apply krn | apply krd)); exact ac.out) hb); have n7_ := amk (blk_below (g := aW) (o := .cells #[.slice bj l0_0.length bk] 33 (0, 0)) (by (with_reducible repeat (first | refine bkn ?_ _ | refine bkd ?_ | refine bka ?_ _)); exact aw.out) hb); have n8_ := amk (blk_below (g := aL) (o := .cells #[.slice aI aj.length aF, .slice aJ al.length aG, .slice aK am.length aH] 50 (0, 0)) (by (with_reducible repeat (first | refine bkn ?_ _ | refine bkd ?_ | refine bka ?_ _)); exact ai.out) hb); have n9_ := amk (blk_below (g := aU) (o := .cells #[.slice aD bo.length aC] 37 (0, 0)) (by (with_reducible repeat (first | refine bkn ?_ _ | refine bkd ?_ | refine bka ?_ _)); exact aA.out) hb); have bl := amk (blk_below (g := ae) (o := .cells #[.slice au af.length ar, .slice ax ag.length av, .slice az ah.length ay] 50 (0, 0)) (by (with_reducible repeat (first | refine bkn ?_ _ | refine bkd ?_ | refine bka ?_ _)); exact ad.out) hb); have bm := amk (below_step (by repeat (first | (with_reducible first | exact HB.out | apply below_alloc | apply pw_below_drewN | apply below_drew1 | refine bse ?_ aN.out | refine bse ?_ aX.out | refine bse ?_ bd.out | refine bse ?_ bi.out) | exact HB.out)) hb); clear an; clear ao; clear ap; clear ak; clear aa; clear ab; clear ac; clear aw; clear ai; clear aA; clear ad; clear HB; have an := n0_; have ao := n1_; have ap := n2_; have ak := n3_; have aa := n4_; have ab := n5_; have ac := n6_; have aw := n7_; have ai := n8_; have aA := n9_; have ad := bl; have HB := bm; clear n0_ n1_ n2_ n3_ n4_ n5_ n6_ n7_ n8_ n9_ bl bm; (try clear hb); (try clear hb2); (try clear hk); (try clear hi); have hnb115 := bP.out; have hnc115 := ci.out; have hnb116 := cP.out; have hnc116 := du.out; have eA : w114.cell? ⟨aW, 0, none⟩ = some (.slice bj l0_0.length bk) := (blk_cell aw.out 0).trans rfl; have fD := blk_frozen aw.out 0) | ((with_reducible refine gate_callee (f := 23) rfl ?_); refine goesL_ (some 75) rfl rfl Try.func23 (by kernel_rfl) rfl #[.agg #[.slice bj l0_0.length bk]] rfl (by (try simp only [List.map_toArray, List.map_cons, List.map_nil]); first | done | rfl | (simp only [List.length_drop, List.length_take]; rfl)) ?_; (with_reducible refine (laws_toTasks.calls bv _ _ l0_0 bO _ ?ba ?bb A105.out).mono ?_); (case ba => repeat (first | exact (Kd.C_below cR.out HB.out) | (with_reducible refine Kd.C_alloc ?_ _) | (with_reducible refine Kd.C_drewN ?_ _) | (with_reducible refine Kd.C_drew ?_))); (case bb => exact cS.out); rintro e w118 ⟨v747, rfl, ho0, hb⟩; refine ⟨_, rfl, ?_⟩; have n0_ := amk (Kd.R_elder' (by (with_reducible repeat (first | apply kra | apply krn | apply krd)); exact an.out) (Kd.R_base ho0) hb); have n1_ := amk (Kd.R_elder' (by (with_reducible repeat (first | apply kra | apply krn | apply krd)); exact ao.out) (Kd.R_base ho0) hb); have n2_ := amk (Kd.R_elder' (by (with_reducible repeat (first | apply kra | apply krn | apply krd)); exact ap.out) (Kd.R_base ho0) hb); have n3_ := amk (Kd.R_elder' (by (with_reducible repeat (first | apply kra | apply krn | apply krd)); exact ak.out) (Kd.R_base ho0) hb); have n4_ := amk (Kd.R_elder' (by (with_reducible repeat (first | apply kra | apply krn | apply krd)); exact aa.out) (Kd.R_base ho0) hb); have n5_ := amk (Kd.R_elder' (by (with_reducible repeat (first | apply kra | apply krn | apply krd)); exact ab.out) (Kd.R_base ho0) hb); have n6_ := amk (Kd.R_elder' (by (with_reducible repeat (first | apply kra | apply krn | apply krd)); exact ac.out) (Kd.R_base ho0) hb); have n7_ := amk (Kd.R_lower (Kd.R_new' (Kd.R_new' (Kd.R_new' (Kd.R_new' (Kd.R_new' (Kd.R_new' (Kd.R_new' ho0 (Kd.R_lt (by (with_reducible repeat (first | apply kra | apply krn | apply krd)); exact an.out))) (Kd.R_lt (by (with_reducible repeat (first | apply kra | apply krn | apply krd)); exact ao.out))) (Kd.R_lt (by (with_reducible repeat (first | apply kra | apply krn | apply krd)); exact ap.out))) (Kd.R_lt (by (with_reducible repeat (first | apply kra | apply krn | apply krd)); exact ak.out))) (Kd.R_lt (by (with_reducible repeat (first | apply kra | apply krn | apply krd)); exact aa.out))) (Kd.R_lt (by (with_reducible repeat (first | apply kra | apply krn | apply krd)); exact ab.out))) (Kd.R_lt (by (with_reducible repeat (first | apply kra | apply krn | apply krd)); exact ac.out))) (below_size (by repeat (first | (with_reducible first | exact HB.out | apply below_alloc | apply pw_below_drewN | apply below_drew1 | refine bse ?_ aN.out | refine bse ?_ aX.out | refine bse ?_ bd.out | refine bse ?_ bi.out) | exact HB.out)))); have n8_ := amk (blk_below (g := aW) (o := .cells #[.slice bj l0_0.length bk] 33 (0, 0)) (by (with_reducible repeat (first | refine bkn ?_ _ | refine bkd ?_ | refine bka ?_ _)); exact aw.out) hb); have n9_ := amk (blk_below (g := aL) (o := .cells #[.slice aI aj.length aF, .slice aJ al.length aG, .slice aK am.length aH] 50 (0, 0)) (by (with_reducible repeat (first | refine bkn ?_ _ | refine bkd ?_ | refine bka ?_ _)); exact ai.out) hb); have bl := amk (blk_below (g := aU) (o := .cells #[.slice aD bo.length aC] 37 (0, 0)) (by (with_reducible repeat (first | refine bkn ?_ _ | refine bkd ?_ | refine bka ?_ _)); exact aA.out) hb); have bm := amk (blk_below (g := ae) (o := .cells #[.slice au af.length ar, .slice ax ag.length av, .slice az ah.length ay] 50 (0, 0)) (by (with_reducible repeat (first | refine bkn ?_ _ | refine bkd ?_ | refine bka ?_ _)); exact ad.out) hb); have bA := amk (below_step (by repeat (first | (with_reducible first | exact HB.out | apply below_alloc | apply pw_below_drewN | apply below_drew1 | refine bse ?_ aN.out | refine bse ?_ aX.out | refine bse ?_ bd.out | refine bse ?_ bi.out) | exact HB.out)) hb); clear an; clear ao; clear ap; clear ak; clear aa; clear ab; clear ac; clear aw; clear ai; clear aA; clear ad; clear HB; have an := n0_; have ao := n1_; have ap := n2_; have ak := n3_; have aa := n4_; have ab := n5_; have ac := n6_; have cq := n7_; have aw := n8_; have ai := n9_; have aA := bl; have ad := bm; have HB := bA; clear n0_ n1_ n2_ n3_ n4_ n5_ n6_ n7_ n8_ n9_ bl bm bA; (try clear hb); (try clear hb2); (try clear hk); (try clear hi); (try clear ho0); obtain ⟨co, cp, fj⟩ := Kd.R_slice cq.out; subst fj) | ((with_reducible refine gate_callee (f := 39) rfl ?_); refine goesL_ (some 76) rfl rfl Try.func39 (by kernel_rfl) rfl #[.agg #[.slice co bO.length cp]] rfl (by (try simp only [List.map_toArray, List.map_cons, List.map_nil]); first | done | rfl | (simp only [List.length_drop, List.length_take]; rfl)) ?_; (with_reducible refine (impl_JobsOfTasks.calls bv _ _ bO aY aZ bc t758 _ ?ba ?bb A106.out).mono ?_); (case ba => repeat (first | exact (Kd.R_reads' cq.out).2.2 | (with_reducible refine Kd.C_alloc ?_ _) | (with_reducible refine Kd.C_drewN ?_ _) | (with_reducible refine Kd.C_drew ?_))); (case bb => exact (Kd.R_reads' cq.out).2.1); rintro e w120 ⟨v750, v753, v756, rfl, ho0, ho1, ho2, hb⟩; refine ⟨_, rfl, ?_⟩; have n0_ := amk (Kd.R_mono (Kd.R_told (Kd.R_told (Kd.R_told (Kd.R_old (by (with_reducible repeat (first | apply kra | apply krn | apply krd)); exact an.out) hb) (Kd.R_base ho0)) (Kd.R_base ho1)) (Kd.R_base ho2)) (fun _ h_ => h_.1)); have n1_ := amk (Kd.R_mono (Kd.R_told (Kd.R_told (Kd.R_told (Kd.R_old (by (with_reducible repeat (first | apply kra | apply krn | apply krd)); exact ao.out) hb) (Kd.R_base ho0)) (Kd.R_base ho1)) (Kd.R_base ho2)) (fun _ h_ => h_.1)); have n2_ := amk (Kd.R_mono (Kd.R_told (Kd.R_told (Kd.R_told (Kd.R_old (by (with_reducible repeat (first | apply kra | apply krn | apply krd)); exact ap.out) hb) (Kd.R_base ho0)) (Kd.R_base ho1)) (Kd.R_base ho2)) (fun _ h_ => h_.1)); have n3_ := amk (Kd.R_mono (Kd.R_told (Kd.R_told (Kd.R_told (Kd.R_old (by (with_reducible repeat (first | apply kra | apply krn | apply krd)); exact ak.out) hb) (Kd.R_base ho0)) (Kd.R_base ho1)) (Kd.R_base ho2)) (fun _ h_ => h_.1)); have n4_ := amk (Kd.R_mono (Kd.R_told (Kd.R_told (Kd.R_told (Kd.R_old (by (with_reducible repeat (first | apply kra | apply krn | apply krd)); exact aa.out) hb) (Kd.R_base ho0)) (Kd.R_base ho1)) (Kd.R_base ho2)) (fun _ h_ => h_.1)); have n5_ := amk (Kd.R_mono (Kd.R_told (Kd.R_told (Kd.R_told (Kd.R_old (by (with_reducible repeat (first | apply kra | apply krn | apply krd)); exact ab.out) hb) (Kd.R_base ho0)) (Kd.R_base ho1)) (Kd.R_base ho2)) (fun _ h_ => h_.1)); have n6_ := amk (Kd.R_mono (Kd.R_told (Kd.R_told (Kd.R_told (Kd.R_old (by (with_reducible repeat (first | apply kra | apply krn | apply krd)); exact ac.out) hb) (Kd.R_base ho0)) (Kd.R_base ho1)) (Kd.R_base ho2)) (fun _ h_ => h_.1)); have n7_ := amk (Kd.R_mono (Kd.R_told (Kd.R_told (Kd.R_told (Kd.R_old (by (with_reducible repeat (first | apply kra | apply krn | apply krd)); exact cq.out) hb) (Kd.R_base ho0)) (Kd.R_base ho1)) (Kd.R_base ho2)) (fun _ h_ => h_.1)); have n8_ := amk (Kd.R_lower (Kd.R_new' (Kd.R_new' (Kd.R_new' (Kd.R_new' (Kd.R_new' (Kd.R_new' (Kd.R_new' (Kd.R_new' ho0 (Kd.R_lt (by (with_reducible repeat (first | apply kra | apply krn | apply krd)); exact an.out))) (Kd.R_lt (by (with_reducible repeat (first | apply kra | apply krn | apply krd)); exact ao.out))) (Kd.R_lt (by (with_reducible repeat (first | apply kra | apply krn | apply krd)); exact ap.out))) (Kd.R_lt (by (with_reducible repeat (first | apply kra | apply krn | apply krd)); exact ak.out))) (Kd.R_lt (by (with_reducible repeat (first | apply kra | apply krn | apply krd)); exact aa.out))) (Kd.R_lt (by (with_reducible repeat (first | apply kra | apply krn | apply krd)); exact ab.out))) (Kd.R_lt (by (with_reducible repeat (first | apply kra | apply krn | apply krd)); exact ac.out))) (Kd.R_lt (by (with_reducible repeat (first | apply kra | apply krn | apply krd)); exact cq.out))) (below_size (by repeat (first | (with_reducible first | exact HB.out | apply below_alloc | apply pw_below_drewN | apply below_drew1 | refine bse ?_ aN.out | refine bse ?_ aX.out | refine bse ?_ bd.out | refine bse ?_ bi.out) | exact HB.out)))); have n9_ := amk (Kd.R_lower (Kd.R_new' (Kd.R_new' (Kd.R_new' (Kd.R_new' (Kd.R_new' (Kd.R_new' (Kd.R_new' (Kd.R_new' ho1 (Kd.R_lt (by (with_reducible repeat (first | apply kra | apply krn | apply krd)); exact an.out))) (Kd.R_lt (by (with_reducible repeat (first | apply kra | apply krn | apply krd)); exact ao.out))) (Kd.R_lt (by (with_reducible repeat (first | apply kra | apply krn | apply krd)); exact ap.out))) (Kd.R_lt (by (with_reducible repeat (first | apply kra | apply krn | apply krd)); exact ak.out))) (Kd.R_lt (by (with_reducible repeat (first | apply kra | apply krn | apply krd)); exact aa.out))) (Kd.R_lt (by (with_reducible repeat (first | apply kra | apply krn | apply krd)); exact ab.out))) (Kd.R_lt (by (with_reducible repeat (first | apply kra | apply krn | apply krd)); exact ac.out))) (Kd.R_lt (by (with_reducible repeat (first | apply kra | apply krn | apply krd)); exact cq.out))) (below_size (by repeat (first | (with_reducible first | exact HB.out | apply below_alloc | apply pw_below_drewN | apply below_drew1 | refine bse ?_ aN.out | refine bse ?_ aX.out | refine bse ?_ bd.out | refine bse ?_ bi.out) | exact HB.out)))); have bl := amk (Kd.R_lower (Kd.R_new' (Kd.R_new' (Kd.R_new' (Kd.R_new' (Kd.R_new' (Kd.R_new' (Kd.R_new' (Kd.R_new' ho2 (Kd.R_lt (by (with_reducible repeat (first | apply kra | apply krn | apply krd)); exact an.out))) (Kd.R_lt (by (with_reducible repeat (first | apply kra | apply krn | apply krd)); exact ao.out))) (Kd.R_lt (by (with_reducible repeat (first | apply kra | apply krn | apply krd)); exact ap.out))) (Kd.R_lt (by (with_reducible repeat (first | apply kra | apply krn | apply krd)); exact ak.out))) (Kd.R_lt (by (with_reducible repeat (first | apply kra | apply krn | apply krd)); exact aa.out))) (Kd.R_lt (by (with_reducible repeat (first | apply kra | apply krn | apply krd)); exact ab.out))) (Kd.R_lt (by (with_reducible repeat (first | apply kra | apply krn | apply krd)); exact ac.out))) (Kd.R_lt (by (with_reducible repeat (first | apply kra | apply krn | apply krd)); exact cq.out))) (below_size (by repeat (first | (with_reducible first | exact HB.out | apply below_alloc | apply pw_below_drewN | apply below_drew1 | refine bse ?_ aN.out | refine bse ?_ aX.out | refine bse ?_ bd.out | refine bse ?_ bi.out) | exact HB.out)))); have bm := amk (blk_below (g := aW) (o := .cells #[.slice bj l0_0.length bk] 33 (0, 0)) (by (with_reducible repeat (first | refine bkn ?_ _ | refine bkd ?_ | refine bka ?_ _)); exact aw.out) hb); have bA := amk (blk_below (g := aL) (o := .cells #[.slice aI aj.length aF, .slice aJ al.length aG, .slice aK am.length aH] 50 (0, 0)) (by (with_reducible repeat (first | refine bkn ?_ _ | refine bkd ?_ | refine bka ?_ _)); exact ai.out) hb); have cj := amk (blk_below (g := aU) (o := .cells #[.slice aD bo.length aC] 37 (0, 0)) (by (with_reducible repeat (first | refine bkn ?_ _ | refine bkd ?_ | refine bka ?_ _)); exact aA.out) hb); have ck := amk (blk_below (g := ae) (o := .cells #[.slice au af.length ar, .slice ax ag.length av, .slice az ah.length ay] 50 (0, 0)) (by (with_reducible repeat (first | refine bkn ?_ _ | refine bkd ?_ | refine bka ?_ _)); exact ad.out) hb); have cz := amk (below_step (by repeat (first | (with_reducible first | exact HB.out | apply below_alloc | apply pw_below_drewN | apply below_drew1 | refine bse ?_ aN.out | refine bse ?_ aX.out | refine bse ?_ bd.out | refine bse ?_ bi.out) | exact HB.out)) hb); clear an; clear ao; clear ap; clear ak; clear aa; clear ab; clear ac; clear cq; clear aw; clear ai; clear aA; clear ad; clear HB; have an := n0_; have ao := n1_; have ap := n2_; have ak := n3_; have aa := n4_; have ab := n5_; have ac := n6_; have cq := n7_; have cw := n8_; have cx := n9_; have cy := bl; have aw := bm; have ai := bA; have aA := cj; have ad := ck; have HB := cz; clear n0_ n1_ n2_ n3_ n4_ n5_ n6_ n7_ n8_ n9_ bl bm bA cj ck cz; (try clear hb); (try clear hb2); (try clear hk); (try clear hi); (try clear ho0); (try clear ho1); (try clear ho2)) | ((with_reducible refine gate_dst (N := 12) rfl ?_); refine box_event ?hg (N := 12) ?hd (cs := #[.slice none 0 0, .slice none 0 0, .slice none 0 0]) (t := 50) ?hr ?_; (case hd => rfl); (case hg => rfl); (case hr => first | (go_simp; done) | (go_simp; rfl)); intro aq hg cA hbox hb; have n0_ := amk (Kd.R_below (by (with_reducible repeat (first | apply kra | apply krn | apply krd)); exact an.out) hb); have n1_ := amk (Kd.R_below (by (with_reducible repeat (first | apply kra | apply krn | apply krd)); exact ao.out) hb); have n2_ := amk (Kd.R_below (by (with_reducible repeat (first | apply kra | apply krn | apply krd)); exact ap.out) hb); have n3_ := amk (Kd.R_below (by (with_reducible repeat (first | apply kra | apply krn | apply krd)); exact ak.out) hb); have n4_ := amk (Kd.R_below (by (with_reducible repeat (first | apply kra | apply krn | apply krd)); exact aa.out) hb); have n5_ := amk (Kd.R_below (by (with_reducible repeat (first | apply kra | apply krn | apply krd)); exact ab.out) hb); have n6_ := amk (Kd.R_below (by (with_reducible repeat (first | apply kra | apply krn | apply krd)); exact ac.out) hb); have n7_ := amk (Kd.R_below (by (with_reducible repeat (first | apply kra | apply krn | apply krd)); exact cq.out) hb); have n8_ := amk (Kd.R_below (by (with_reducible repeat (first | apply kra | apply krn | apply krd)); exact cw.out) hb); have n9_ := amk (Kd.R_below (by (with_reducible repeat (first | apply kra | apply krn | apply krd)); exact cx.out) hb); have bl := amk (Kd.R_below (by (with_reducible repeat (first | apply kra | apply krn | apply krd)); exact cy.out) hb); have bm := amk (blk_below (g := aW) (o := .cells #[.slice bj l0_0.length bk] 33 (0, 0)) (by (with_reducible repeat (first | refine bkn ?_ _ | refine bkd ?_ | refine bka ?_ _)); exact aw.out) hb); have bA := amk (blk_below (g := aL) (o := .cells #[.slice aI aj.length aF, .slice aJ al.length aG, .slice aK am.length aH] 50 (0, 0)) (by (with_reducible repeat (first | refine bkn ?_ _ | refine bkd ?_ | refine bka ?_ _)); exact ai.out) hb); have cj := amk (blk_below (g := aU) (o := .cells #[.slice aD bo.length aC] 37 (0, 0)) (by (with_reducible repeat (first | refine bkn ?_ _ | refine bkd ?_ | refine bka ?_ _)); exact aA.out) hb); have ck := amk (blk_below (g := ae) (o := .cells #[.slice au af.length ar, .slice ax ag.length av, .slice az ah.length ay] 50 (0, 0)) (by (with_reducible repeat (first | refine bkn ?_ _ | refine bkd ?_ | refine bka ?_ _)); exact ad.out) hb); have cz := amk (below_step (by repeat (first | (with_reducible first | exact HB.out | apply below_alloc | apply pw_below_drewN | apply below_drew1 | refine bse ?_ aN.out | refine bse ?_ aX.out | refine bse ?_ bd.out | refine bse ?_ bi.out) | exact HB.out)) hb); have n16_ := amk (hbox); have n17_ := amk ((by rw [hg]; exact (below_size (by repeat (first | (with_reducible first | exact HB.out | apply below_alloc | apply pw_below_drewN | apply below_drew1 | refine bse ?_ aN.out | refine bse ?_ aX.out | refine bse ?_ bd.out | refine bse ?_ bi.out) | exact HB.out))) : w.heap.size ≤ aq)); have n18_ := amk ((by rw [hg]; exact (below_size (by repeat (first | (with_reducible first | exact HB.out | apply below_alloc | apply pw_below_drewN | apply below_drew1 | refine bse ?_ aN.out | refine bse ?_ aX.out | refine bse ?_ bd.out | refine bse ?_ bi.out) | exact HB.out))) : w.heap.size ≤ aq)); have n19_ := amk ((by rw [hg]; exact Nat.ne_of_lt (blk_lt (g := aW) (o := .cells #[.slice bj l0_0.length bk] 33 (0, 0)) (by (with_reducible repeat (first | refine bkn ?_ _ | refine bkd ?_ | refine bka ?_ _)); exact aw.out)) : aW ≠ aq)); have n20_ := amk ((by rw [hg]; exact Nat.ne_of_gt (blk_lt (g := aW) (o := .cells #[.slice bj l0_0.length bk] 33 (0, 0)) (by (with_reducible repeat (first | refine bkn ?_ _ | refine bkd ?_ | refine bka ?_ _)); exact aw.out)) : aq ≠ aW)); have n21_ := amk ((by rw [hg]; exact Nat.ne_of_lt (blk_lt (g := aL) (o := .cells #[.slice aI aj.length aF, .slice aJ al.length aG, .slice aK am.length aH] 50 (0, 0)) (by (with_reducible repeat (first | refine bkn ?_ _ | refine bkd ?_ | refine bka ?_ _)); exact ai.out)) : aL ≠ aq)); have n22_ := amk ((by rw [hg]; exact Nat.ne_of_gt (blk_lt (g := aL) (o := .cells #[.slice aI aj.length aF, .slice aJ al.length aG, .slice aK am.length aH] 50 (0, 0)) (by (with_reducible repeat (first | refine bkn ?_ _ | refine bkd ?_ | refine bka ?_ _)); exact ai.out)) : aq ≠ aL)); have n23_ := amk ((by rw [hg]; exact Nat.ne_of_lt (blk_lt (g := aU) (o := .cells #[.slice aD bo.length aC] 37 (0, 0)) (by (with_reducible repeat (first | refine bkn ?_ _ | refine bkd ?_ | refine bka ?_ _)); exact aA.out)) : aU ≠ aq)); have n24_ := amk ((by rw [hg]; exact Nat.ne_of_gt (blk_lt (g := aU) (o := .cells #[.slice aD bo.length aC] 37 (0, 0)) (by (with_reducible repeat (first | refine bkn ?_ _ | refine bkd ?_ | refine bka ?_ _)); exact aA.out)) : aq ≠ aU)); have n25_ := amk ((by rw [hg]; exact Nat.ne_of_lt (blk_lt (g := ae) (o := .cells #[.slice au af.length ar, .slice ax ag.length av, .slice az ah.length ay] 50 (0, 0)) (by (with_reducible repeat (first | refine bkn ?_ _ | refine bkd ?_ | refine bka ?_ _)); exact ad.out)) : ae ≠ aq)); have n26_ := amk ((by rw [hg]; exact Nat.ne_of_gt (blk_lt (g := ae) (o := .cells #[.slice au af.length ar, .slice ax ag.length av, .slice az ah.length ay] 50 (0, 0)) (by (with_reducible repeat (first | refine bkn ?_ _ | refine bkd ?_ | refine bka ?_ _)); exact ad.out)) : aq ≠ ae)); clear an; clear ao; clear ap; clear ak; clear aa; clear ab; clear ac; clear cq; clear cw; clear cx; clear cy; clear aw; clear ai; clear aA; clear ad; clear HB; have an := n0_; have ao := n1_; have ap := n2_; have ak := n3_; have aa := n4_; have ab := n5_; have ac := n6_; have cq := n7_; have cw := n8_; have cx := n9_; have cy := bl; have aw := bm; have ai := bA; have aA := cj; have ad := ck; have HB := cz; have aP := n16_; have GW759 := n17_; have cI := n18_; have cc := n19_; have dv := n20_; have cd := n21_; have dw := n22_; have ce := n23_; have dx := n24_; have bN := n25_; have cJ := n26_; clear n0_ n1_ n2_ n3_ n4_ n5_ n6_ n7_ n8_ n9_ bl bm bA cj ck cz n16_ n17_ n18_ n19_ n20_ n21_ n22_ n23_ n24_ n25_ n26_; clear hb hbox hg; obtain ⟨aQ, aO, fk⟩ := Kd.R_slice cw.out; subst fk; have hnb123 := dv.out; have hnc123 := cc.out; have hnb124 := dw.out; have hnc124 := cd.out; have hnb125 := dx.out; have hnc125 := ce.out; have hnb126 := cJ.out; have hnc126 := bN.out; have eB : cA.cell? ⟨aq, 0, none⟩ = some (.slice none 0 0) := (blk_cell aP.out 0).trans rfl; have eC : cA.cell? ⟨aq, 1, none⟩ = some (.slice none 0 0) := (blk_cell aP.out 1).trans rfl; have eD : cA.cell? ⟨aq, 2, none⟩ = some (.slice none 0 0) := (blk_cell aP.out 2).trans rfl; have fE := blk_frozen aP.out 0; have fF := blk_frozen aP.out 1; have fG := blk_frozen aP.out 2; obtain ⟨aS, aR, fl⟩ := Kd.R_slice cx.out; subst fl; obtain ⟨aV, aT, fm⟩ := Kd.R_slice cy.out; subst fm))
           (try simp only [Act.put, List.setIfInBounds_toArray, List.set_cons_zero, List.set_cons_succ])
           go_cut [87] (fun v87 wc => ∃ (kq : Nat) (cT : Bool), v87 = .bool cT ∧ Aside0 (laws_FnExactJobsOfTasks.j2 kq bJ cT bp bq br = some r) ∧ Aside0 (kq ≤ bv) ∧ Aside0 (Kd.R (Kd.int .i64) 2 wc w.heap.size (fun k_ => some k_ ≠ ((.slice aJ al.length aG) : Value).ownBlock ∧ some k_ ≠ ((.slice aK am.length aH) : Value).ownBlock ∧ some k_ ≠ ((.slice aD bo.length aC) : Value).ownBlock ∧ some k_ ≠ ((.slice au af.length ar) : Value).ownBlock ∧ some k_ ≠ ((.slice ax ag.length av) : Value).ownBlock ∧ some k_ ≠ ((.slice az ah.length ay) : Value).ownBlock ∧ some k_ ≠ ((.slice aQ aY.length aO) : Value).ownBlock ∧ some k_ ≠ ((.slice aS aZ.length aR) : Value).ownBlock ∧ some k_ ≠ ((.slice aV bc.length aT) : Value).ownBlock) (.slice aI aj.length aF) aj) ∧ Aside0 (Kd.R (Kd.int .i64) 2 wc w.heap.size (fun k_ => some k_ ≠ ((.slice aI aj.length aF) : Value).ownBlock ∧ some k_ ≠ ((.slice aK am.length aH) : Value).ownBlock ∧ some k_ ≠ ((.slice aD bo.length aC) : Value).ownBlock ∧ some k_ ≠ ((.slice au af.length ar) : Value).ownBlock ∧ some k_ ≠ ((.slice ax ag.length av) : Value).ownBlock ∧ some k_ ≠ ((.slice az ah.length ay) : Value).ownBlock ∧ some k_ ≠ ((.slice aQ aY.length aO) : Value).ownBlock ∧ some k_ ≠ ((.slice aS aZ.length aR) : Value).ownBlock ∧ some k_ ≠ ((.slice aV bc.length aT) : Value).ownBlock) (.slice aJ al.length aG) al) ∧ Aside0 (Kd.R (Kd.int .i64) 2 wc w.heap.size (fun k_ => some k_ ≠ ((.slice aI aj.length aF) : Value).ownBlock ∧ some k_ ≠ ((.slice aJ al.length aG) : Value).ownBlock ∧ some k_ ≠ ((.slice aD bo.length aC) : Value).ownBlock ∧ some k_ ≠ ((.slice au af.length ar) : Value).ownBlock ∧ some k_ ≠ ((.slice ax ag.length av) : Value).ownBlock ∧ some k_ ≠ ((.slice az ah.length ay) : Value).ownBlock ∧ some k_ ≠ ((.slice aQ aY.length aO) : Value).ownBlock ∧ some k_ ≠ ((.slice aS aZ.length aR) : Value).ownBlock ∧ some k_ ≠ ((.slice aV bc.length aT) : Value).ownBlock) (.slice aK am.length aH) am) ∧ Aside0 (Kd.R (Kd.int .i64) 2 wc w.heap.size (fun k_ => some k_ ≠ ((.slice aI aj.length aF) : Value).ownBlock ∧ some k_ ≠ ((.slice aJ al.length aG) : Value).ownBlock ∧ some k_ ≠ ((.slice aK am.length aH) : Value).ownBlock ∧ some k_ ≠ ((.slice au af.length ar) : Value).ownBlock ∧ some k_ ≠ ((.slice ax ag.length av) : Value).ownBlock ∧ some k_ ≠ ((.slice az ah.length ay) : Value).ownBlock ∧ some k_ ≠ ((.slice aQ aY.length aO) : Value).ownBlock ∧ some k_ ≠ ((.slice aS aZ.length aR) : Value).ownBlock ∧ some k_ ≠ ((.slice aV bc.length aT) : Value).ownBlock) (.slice aD bo.length aC) bo) ∧ Aside0 (Kd.R (Kd.int .i64) 2 wc w.heap.size (fun k_ => some k_ ≠ ((.slice aI aj.length aF) : Value).ownBlock ∧ some k_ ≠ ((.slice aJ al.length aG) : Value).ownBlock ∧ some k_ ≠ ((.slice aK am.length aH) : Value).ownBlock ∧ some k_ ≠ ((.slice aD bo.length aC) : Value).ownBlock ∧ some k_ ≠ ((.slice ax ag.length av) : Value).ownBlock ∧ some k_ ≠ ((.slice az ah.length ay) : Value).ownBlock ∧ some k_ ≠ ((.slice aQ aY.length aO) : Value).ownBlock ∧ some k_ ≠ ((.slice aS aZ.length aR) : Value).ownBlock ∧ some k_ ≠ ((.slice aV bc.length aT) : Value).ownBlock) (.slice au af.length ar) bp) ∧ Aside0 (Kd.R (Kd.int .i64) 2 wc w.heap.size (fun k_ => some k_ ≠ ((.slice aI aj.length aF) : Value).ownBlock ∧ some k_ ≠ ((.slice aJ al.length aG) : Value).ownBlock ∧ some k_ ≠ ((.slice aK am.length aH) : Value).ownBlock ∧ some k_ ≠ ((.slice aD bo.length aC) : Value).ownBlock ∧ some k_ ≠ ((.slice au af.length ar) : Value).ownBlock ∧ some k_ ≠ ((.slice az ah.length ay) : Value).ownBlock ∧ some k_ ≠ ((.slice aQ aY.length aO) : Value).ownBlock ∧ some k_ ≠ ((.slice aS aZ.length aR) : Value).ownBlock ∧ some k_ ≠ ((.slice aV bc.length aT) : Value).ownBlock) (.slice ax ag.length av) bq) ∧ Aside0 (Kd.R (Kd.int .i64) 2 wc w.heap.size (fun k_ => some k_ ≠ ((.slice aI aj.length aF) : Value).ownBlock ∧ some k_ ≠ ((.slice aJ al.length aG) : Value).ownBlock ∧ some k_ ≠ ((.slice aK am.length aH) : Value).ownBlock ∧ some k_ ≠ ((.slice aD bo.length aC) : Value).ownBlock ∧ some k_ ≠ ((.slice au af.length ar) : Value).ownBlock ∧ some k_ ≠ ((.slice ax ag.length av) : Value).ownBlock ∧ some k_ ≠ ((.slice aQ aY.length aO) : Value).ownBlock ∧ some k_ ≠ ((.slice aS aZ.length aR) : Value).ownBlock ∧ some k_ ≠ ((.slice aV bc.length aT) : Value).ownBlock) (.slice az ah.length ay) br) ∧ Aside0 (Kd.R (Kd.int .i64) 2 wc w.heap.size (fun k_ => some k_ ≠ ((.slice aI aj.length aF) : Value).ownBlock ∧ some k_ ≠ ((.slice aJ al.length aG) : Value).ownBlock ∧ some k_ ≠ ((.slice aK am.length aH) : Value).ownBlock ∧ some k_ ≠ ((.slice aD bo.length aC) : Value).ownBlock ∧ some k_ ≠ ((.slice au af.length ar) : Value).ownBlock ∧ some k_ ≠ ((.slice ax ag.length av) : Value).ownBlock ∧ some k_ ≠ ((.slice az ah.length ay) : Value).ownBlock ∧ some k_ ≠ ((.slice aS aZ.length aR) : Value).ownBlock ∧ some k_ ≠ ((.slice aV bc.length aT) : Value).ownBlock) (.slice aQ aY.length aO) aY) ∧ Aside0 (Kd.R (Kd.int .i64) 2 wc w.heap.size (fun k_ => some k_ ≠ ((.slice aI aj.length aF) : Value).ownBlock ∧ some k_ ≠ ((.slice aJ al.length aG) : Value).ownBlock ∧ some k_ ≠ ((.slice aK am.length aH) : Value).ownBlock ∧ some k_ ≠ ((.slice aD bo.length aC) : Value).ownBlock ∧ some k_ ≠ ((.slice au af.length ar) : Value).ownBlock ∧ some k_ ≠ ((.slice ax ag.length av) : Value).ownBlock ∧ some k_ ≠ ((.slice az ah.length ay) : Value).ownBlock ∧ some k_ ≠ ((.slice aQ aY.length aO) : Value).ownBlock ∧ some k_ ≠ ((.slice aV bc.length aT) : Value).ownBlock) (.slice aS aZ.length aR) aZ) ∧ Aside0 (Kd.R (Kd.int .i64) 2 wc w.heap.size (fun k_ => some k_ ≠ ((.slice aI aj.length aF) : Value).ownBlock ∧ some k_ ≠ ((.slice aJ al.length aG) : Value).ownBlock ∧ some k_ ≠ ((.slice aK am.length aH) : Value).ownBlock ∧ some k_ ≠ ((.slice aD bo.length aC) : Value).ownBlock ∧ some k_ ≠ ((.slice au af.length ar) : Value).ownBlock ∧ some k_ ≠ ((.slice ax ag.length av) : Value).ownBlock ∧ some k_ ≠ ((.slice az ah.length ay) : Value).ownBlock ∧ some k_ ≠ ((.slice aQ aY.length aO) : Value).ownBlock ∧ some k_ ≠ ((.slice aS aZ.length aR) : Value).ownBlock) (.slice aV bc.length aT) bc) ∧ Aside0 (wc.heap[aW]? = some (.cells #[(.slice bj l0_0.length bk)] 33 (0, 0))) ∧ Aside0 (wc.heap[aL]? = some (.cells #[(.slice aI aj.length aF), (.slice aJ al.length aG), (.slice aK am.length aH)] 50 (0, 0))) ∧ Aside0 (wc.heap[aU]? = some (.cells #[(.slice aD bo.length aC)] 37 (0, 0))) ∧ Aside0 (wc.heap[ae]? = some (.cells #[(.slice au af.length ar), (.slice ax ag.length av), (.slice az ah.length ay)] 50 (0, 0))) ∧ Aside0 (wc.heap[aq]? = some (.cells #[(.slice aQ aY.length aO), (.slice aS aZ.length aR), (.slice aV bc.length aT)] 50 (0, 0))) ∧ Aside0 (Below w.heap.size w wc))
           case first =>
            have H := eS.out
            clear eS
            replace H := Option.bind_eq_some_iff.mp H
            obtain ⟨cF, eT, H⟩ := H
            replace H : (if cF = true then (laws_FnExactJobsOfTasks.j2 bv bJ (t758 != bn) bp bq br) else (laws_FnExactJobsOfTasks.j2 bv bJ true bp bq br)) = some r := H
            have A130 := amk eT
            clear eT
            by_cases c131 : cF = true
            ·
             subst c131
             have H1 : (laws_FnExactJobsOfTasks.j2 bv bJ (t758 != bn) bp bq br) = some r := by rw [if_pos rfl] at H; exact H
             clear H
             have H := H1
             clear H1
             have H' := amk H
             clear H
             have hnb132 := dv.out
             have hnc132 := cc.out
             have hnb133 := dw.out
             have hnc133 := cd.out
             have hnb134 := dx.out
             have hnc134 := ce.out
             have hnb135 := cJ.out
             have hnc135 := bN.out
             have eE : cA.cell? ⟨aq, 0, none⟩ = some (.slice none 0 0) := (blk_cell aP.out 0).trans rfl
             have eF : cA.cell? ⟨aq, 1, none⟩ = some (.slice none 0 0) := (blk_cell aP.out 1).trans rfl
             have eG : cA.cell? ⟨aq, 2, none⟩ = some (.slice none 0 0) := (blk_cell aP.out 2).trans rfl
             have fH := blk_frozen aP.out 0
             have fI := blk_frozen aP.out 1
             have fJ := blk_frozen aP.out 2
             have hnb137 := ci.out
             have hnc137 := bP.out
             have hnb138 := cb.out
             have hnc138 := cl.out
             have hnb139 := bs.out
             have hnc139 := bK.out
             have eH : cA.cell? ⟨aL, 0, none⟩ = some (.slice aI aj.length aF) := (blk_cell ai.out 0).trans rfl
             have eI : cA.cell? ⟨aL, 1, none⟩ = some (.slice aJ al.length aG) := (blk_cell ai.out 1).trans rfl
             have eJ : cA.cell? ⟨aL, 2, none⟩ = some (.slice aK am.length aH) := (blk_cell ai.out 2).trans rfl
             have fK := blk_frozen ai.out 0
             have fL := blk_frozen ai.out 1
             have fM := blk_frozen ai.out 2
             go_wp2_with (first | ((with_reducible refine gate_callee (f := 40) rfl ?_); refine goesL_ (some 81) rfl rfl Try.func40 (by kernel_rfl) rfl #[.agg #[.slice aQ aY.length aO, .slice aS aZ.length aR, .slice aV bc.length aT], .agg #[.slice aI aj.length aF, .slice aJ al.length aG, .slice aK am.length aH]] rfl (by (try simp only [List.map_toArray, List.map_cons, List.map_nil]); first | done | rfl | (simp only [List.length_drop, List.length_take]; rfl)) ?_; (with_reducible refine (laws_eqJobs.calls bv _ _ aY _ _ aZ _ _ bc _ _ aj _ _ al _ _ am true _ ?ba ?bb ?bt ?bu ?bB ?bC ?bU ?bV ?bW ?bM ?cm ?cn A130.out).mono ?_); (case ba => refine (Kd.R_reads' (e := 2) (base := w.heap.size) (ok := fun k_ => (((((((((some k_ ≠ (.slice aS aZ.length aR : Value).ownBlock ∧ some k_ ≠ (.slice aV bc.length aT : Value).ownBlock) ∧ some k_ ≠ (.slice aI aj.length aF : Value).ownBlock) ∧ some k_ ≠ (.slice aJ al.length aG : Value).ownBlock) ∧ some k_ ≠ (.slice aK am.length aH : Value).ownBlock) ∧ some k_ ≠ (.slice aD bo.length aC : Value).ownBlock) ∧ some k_ ≠ (.slice au af.length ar : Value).ownBlock) ∧ some k_ ≠ (.slice ax ag.length av : Value).ownBlock) ∧ some k_ ≠ (.slice az ah.length ay : Value).ownBlock) ∧ some k_ ≠ (.slice co bO.length cp : Value).ownBlock)) (n := aY.length) (c := aO) ?_).2.2; exact (by (with_reducible repeat (first | apply kra | apply krn | apply krd)); exact (Kd.R_mono (Kd.R_far (p := ⟨aq, 2, none⟩) (Kd.R_far (p := ⟨aq, 1, none⟩) (Kd.R_far (p := ⟨aq, 0, none⟩) (Kd.R_types cw.out aP.out (by decide)) (fun _ hk => hk.2) (.slice aQ aY.length aO)) (fun _ hk => hk.2) (.slice aS aZ.length aR)) (fun _ hk => hk.2) (.slice aV bc.length aT)) (fun _ h_ => h_.1)))); (case bb => exact (Kd.R_reads' cw.out).2.1); (case bt => refine (Kd.R_reads' (e := 2) (base := w.heap.size) (ok := fun k_ => (((((((((some k_ ≠ (.slice aQ aY.length aO : Value).ownBlock ∧ some k_ ≠ (.slice aV bc.length aT : Value).ownBlock) ∧ some k_ ≠ (.slice aI aj.length aF : Value).ownBlock) ∧ some k_ ≠ (.slice aJ al.length aG : Value).ownBlock) ∧ some k_ ≠ (.slice aK am.length aH : Value).ownBlock) ∧ some k_ ≠ (.slice aD bo.length aC : Value).ownBlock) ∧ some k_ ≠ (.slice au af.length ar : Value).ownBlock) ∧ some k_ ≠ (.slice ax ag.length av : Value).ownBlock) ∧ some k_ ≠ (.slice az ah.length ay : Value).ownBlock) ∧ some k_ ≠ (.slice co bO.length cp : Value).ownBlock)) (n := aZ.length) (c := aR) ?_).2.2; exact (by (with_reducible repeat (first | apply kra | apply krn | apply krd)); exact (Kd.R_mono (Kd.R_far (p := ⟨aq, 2, none⟩) (Kd.R_far (p := ⟨aq, 1, none⟩) (Kd.R_far (p := ⟨aq, 0, none⟩) (Kd.R_types cx.out aP.out (by decide)) (fun _ hk => hk.2) (.slice aQ aY.length aO)) (fun _ hk => hk.2) (.slice aS aZ.length aR)) (fun _ hk => hk.2) (.slice aV bc.length aT)) (fun _ h_ => h_.1)))); (case bu => exact (Kd.R_reads' cx.out).2.1); (case bB => refine (Kd.R_reads' (e := 2) (base := w.heap.size) (ok := fun k_ => (((((((((some k_ ≠ (.slice aQ aY.length aO : Value).ownBlock ∧ some k_ ≠ (.slice aS aZ.length aR : Value).ownBlock) ∧ some k_ ≠ (.slice aI aj.length aF : Value).ownBlock) ∧ some k_ ≠ (.slice aJ al.length aG : Value).ownBlock) ∧ some k_ ≠ (.slice aK am.length aH : Value).ownBlock) ∧ some k_ ≠ (.slice aD bo.length aC : Value).ownBlock) ∧ some k_ ≠ (.slice au af.length ar : Value).ownBlock) ∧ some k_ ≠ (.slice ax ag.length av : Value).ownBlock) ∧ some k_ ≠ (.slice az ah.length ay : Value).ownBlock) ∧ some k_ ≠ (.slice co bO.length cp : Value).ownBlock)) (n := bc.length) (c := aT) ?_).2.2; exact (by (with_reducible repeat (first | apply kra | apply krn | apply krd)); exact (Kd.R_mono (Kd.R_far (p := ⟨aq, 2, none⟩) (Kd.R_far (p := ⟨aq, 1, none⟩) (Kd.R_far (p := ⟨aq, 0, none⟩) (Kd.R_types cy.out aP.out (by decide)) (fun _ hk => hk.2) (.slice aQ aY.length aO)) (fun _ hk => hk.2) (.slice aS aZ.length aR)) (fun _ hk => hk.2) (.slice aV bc.length aT)) (fun _ h_ => h_.1)))); (case bC => exact (Kd.R_reads' cy.out).2.1); (case bU => refine (Kd.R_reads' (e := 2) (base := w.heap.size) (ok := fun k_ => (((((some k_ ≠ (.slice aJ al.length aG : Value).ownBlock ∧ (some k_ ≠ (.slice aK am.length aH : Value).ownBlock ∧ (some k_ ≠ (.slice aD bo.length aC : Value).ownBlock ∧ (some k_ ≠ (.slice au af.length ar : Value).ownBlock ∧ (some k_ ≠ (.slice ax ag.length av : Value).ownBlock ∧ some k_ ≠ (.slice az ah.length ay : Value).ownBlock))))) ∧ some k_ ≠ (.slice co bO.length cp : Value).ownBlock) ∧ some k_ ≠ (.slice aQ aY.length aO : Value).ownBlock) ∧ some k_ ≠ (.slice aS aZ.length aR : Value).ownBlock) ∧ some k_ ≠ (.slice aV bc.length aT : Value).ownBlock)) (n := aj.length) (c := aF) ?_).2.2; exact (by (with_reducible repeat (first | apply kra | apply krn | apply krd)); exact (Kd.R_mono (Kd.R_far (p := ⟨aq, 2, none⟩) (Kd.R_far (p := ⟨aq, 1, none⟩) (Kd.R_far (p := ⟨aq, 0, none⟩) (Kd.R_types an.out aP.out (by decide)) (fun _ hk => hk.2) (.slice aQ aY.length aO)) (fun _ hk => hk.2) (.slice aS aZ.length aR)) (fun _ hk => hk.2) (.slice aV bc.length aT)) (fun _ h_ => h_.1)))); (case bV => exact (Kd.R_reads' an.out).2.1); (case bW => refine (Kd.R_reads' (e := 2) (base := w.heap.size) (ok := fun k_ => (((((some k_ ≠ (.slice aI aj.length aF : Value).ownBlock ∧ (some k_ ≠ (.slice aK am.length aH : Value).ownBlock ∧ (some k_ ≠ (.slice aD bo.length aC : Value).ownBlock ∧ (some k_ ≠ (.slice au af.length ar : Value).ownBlock ∧ (some k_ ≠ (.slice ax ag.length av : Value).ownBlock ∧ some k_ ≠ (.slice az ah.length ay : Value).ownBlock))))) ∧ some k_ ≠ (.slice co bO.length cp : Value).ownBlock) ∧ some k_ ≠ (.slice aQ aY.length aO : Value).ownBlock) ∧ some k_ ≠ (.slice aS aZ.length aR : Value).ownBlock) ∧ some k_ ≠ (.slice aV bc.length aT : Value).ownBlock)) (n := al.length) (c := aG) ?_).2.2; exact (by (with_reducible repeat (first | apply kra | apply krn | apply krd)); exact (Kd.R_mono (Kd.R_far (p := ⟨aq, 2, none⟩) (Kd.R_far (p := ⟨aq, 1, none⟩) (Kd.R_far (p := ⟨aq, 0, none⟩) (Kd.R_types ao.out aP.out (by decide)) (fun _ hk => hk.2) (.slice aQ aY.length aO)) (fun _ hk => hk.2) (.slice aS aZ.length aR)) (fun _ hk => hk.2) (.slice aV bc.length aT)) (fun _ h_ => h_.1)))); (case bM => exact (Kd.R_reads' ao.out).2.1); (case cm => refine (Kd.R_reads' (e := 2) (base := w.heap.size) (ok := fun k_ => (((((some k_ ≠ (.slice aI aj.length aF : Value).ownBlock ∧ (some k_ ≠ (.slice aJ al.length aG : Value).ownBlock ∧ (some k_ ≠ (.slice aD bo.length aC : Value).ownBlock ∧ (some k_ ≠ (.slice au af.length ar : Value).ownBlock ∧ (some k_ ≠ (.slice ax ag.length av : Value).ownBlock ∧ some k_ ≠ (.slice az ah.length ay : Value).ownBlock))))) ∧ some k_ ≠ (.slice co bO.length cp : Value).ownBlock) ∧ some k_ ≠ (.slice aQ aY.length aO : Value).ownBlock) ∧ some k_ ≠ (.slice aS aZ.length aR : Value).ownBlock) ∧ some k_ ≠ (.slice aV bc.length aT : Value).ownBlock)) (n := am.length) (c := aH) ?_).2.2; exact (by (with_reducible repeat (first | apply kra | apply krn | apply krd)); exact (Kd.R_mono (Kd.R_far (p := ⟨aq, 2, none⟩) (Kd.R_far (p := ⟨aq, 1, none⟩) (Kd.R_far (p := ⟨aq, 0, none⟩) (Kd.R_types ap.out aP.out (by decide)) (fun _ hk => hk.2) (.slice aQ aY.length aO)) (fun _ hk => hk.2) (.slice aS aZ.length aR)) (fun _ hk => hk.2) (.slice aV bc.length aT)) (fun _ h_ => h_.1)))); (case cn => exact (Kd.R_reads' ap.out).2.1); rintro e w141 ⟨rfl, hb⟩; refine ⟨_, rfl, ?_⟩; have n0_ := amk (Kd.R_below (by (with_reducible repeat (first | apply kra | apply krn | apply krd)); exact (Kd.R_mono (Kd.R_far (p := ⟨aq, 2, none⟩) (Kd.R_far (p := ⟨aq, 1, none⟩) (Kd.R_far (p := ⟨aq, 0, none⟩) (Kd.R_types an.out aP.out (by decide)) (fun _ hk => hk.2) (.slice aQ aY.length aO)) (fun _ hk => hk.2) (.slice aS aZ.length aR)) (fun _ hk => hk.2) (.slice aV bc.length aT)) (fun _ h_ => h_.1))) hb); have n1_ := amk (Kd.R_below (by (with_reducible repeat (first | apply kra | apply krn | apply krd)); exact (Kd.R_mono (Kd.R_far (p := ⟨aq, 2, none⟩) (Kd.R_far (p := ⟨aq, 1, none⟩) (Kd.R_far (p := ⟨aq, 0, none⟩) (Kd.R_types ao.out aP.out (by decide)) (fun _ hk => hk.2) (.slice aQ aY.length aO)) (fun _ hk => hk.2) (.slice aS aZ.length aR)) (fun _ hk => hk.2) (.slice aV bc.length aT)) (fun _ h_ => h_.1))) hb); have n2_ := amk (Kd.R_below (by (with_reducible repeat (first | apply kra | apply krn | apply krd)); exact (Kd.R_mono (Kd.R_far (p := ⟨aq, 2, none⟩) (Kd.R_far (p := ⟨aq, 1, none⟩) (Kd.R_far (p := ⟨aq, 0, none⟩) (Kd.R_types ap.out aP.out (by decide)) (fun _ hk => hk.2) (.slice aQ aY.length aO)) (fun _ hk => hk.2) (.slice aS aZ.length aR)) (fun _ hk => hk.2) (.slice aV bc.length aT)) (fun _ h_ => h_.1))) hb); have n3_ := amk (Kd.R_below (by (with_reducible repeat (first | apply kra | apply krn | apply krd)); exact (Kd.R_mono (Kd.R_far (p := ⟨aq, 2, none⟩) (Kd.R_far (p := ⟨aq, 1, none⟩) (Kd.R_far (p := ⟨aq, 0, none⟩) (Kd.R_types ak.out aP.out (by decide)) (fun _ hk => hk.2) (.slice aQ aY.length aO)) (fun _ hk => hk.2) (.slice aS aZ.length aR)) (fun _ hk => hk.2) (.slice aV bc.length aT)) (fun _ h_ => h_.1))) hb); have n4_ := amk (Kd.R_below (by (with_reducible repeat (first | apply kra | apply krn | apply krd)); exact (Kd.R_mono (Kd.R_far (p := ⟨aq, 2, none⟩) (Kd.R_far (p := ⟨aq, 1, none⟩) (Kd.R_far (p := ⟨aq, 0, none⟩) (Kd.R_types aa.out aP.out (by decide)) (fun _ hk => hk.2) (.slice aQ aY.length aO)) (fun _ hk => hk.2) (.slice aS aZ.length aR)) (fun _ hk => hk.2) (.slice aV bc.length aT)) (fun _ h_ => h_.1))) hb); have n5_ := amk (Kd.R_below (by (with_reducible repeat (first | apply kra | apply krn | apply krd)); exact (Kd.R_mono (Kd.R_far (p := ⟨aq, 2, none⟩) (Kd.R_far (p := ⟨aq, 1, none⟩) (Kd.R_far (p := ⟨aq, 0, none⟩) (Kd.R_types ab.out aP.out (by decide)) (fun _ hk => hk.2) (.slice aQ aY.length aO)) (fun _ hk => hk.2) (.slice aS aZ.length aR)) (fun _ hk => hk.2) (.slice aV bc.length aT)) (fun _ h_ => h_.1))) hb); have n6_ := amk (Kd.R_below (by (with_reducible repeat (first | apply kra | apply krn | apply krd)); exact (Kd.R_mono (Kd.R_far (p := ⟨aq, 2, none⟩) (Kd.R_far (p := ⟨aq, 1, none⟩) (Kd.R_far (p := ⟨aq, 0, none⟩) (Kd.R_types ac.out aP.out (by decide)) (fun _ hk => hk.2) (.slice aQ aY.length aO)) (fun _ hk => hk.2) (.slice aS aZ.length aR)) (fun _ hk => hk.2) (.slice aV bc.length aT)) (fun _ h_ => h_.1))) hb); have n7_ := amk (Kd.R_below (by (with_reducible repeat (first | apply kra | apply krn | apply krd)); exact (Kd.R_mono (Kd.R_far (p := ⟨aq, 2, none⟩) (Kd.R_far (p := ⟨aq, 1, none⟩) (Kd.R_far (p := ⟨aq, 0, none⟩) (Kd.R_types cq.out aP.out (by decide)) (fun _ hk => hk.2) (.slice aQ aY.length aO)) (fun _ hk => hk.2) (.slice aS aZ.length aR)) (fun _ hk => hk.2) (.slice aV bc.length aT)) (fun _ h_ => h_.1))) hb); have n8_ := amk (Kd.R_below (by (with_reducible repeat (first | apply kra | apply krn | apply krd)); exact (Kd.R_mono (Kd.R_far (p := ⟨aq, 2, none⟩) (Kd.R_far (p := ⟨aq, 1, none⟩) (Kd.R_far (p := ⟨aq, 0, none⟩) (Kd.R_types cw.out aP.out (by decide)) (fun _ hk => hk.2) (.slice aQ aY.length aO)) (fun _ hk => hk.2) (.slice aS aZ.length aR)) (fun _ hk => hk.2) (.slice aV bc.length aT)) (fun _ h_ => h_.1))) hb); have n9_ := amk (Kd.R_below (by (with_reducible repeat (first | apply kra | apply krn | apply krd)); exact (Kd.R_mono (Kd.R_far (p := ⟨aq, 2, none⟩) (Kd.R_far (p := ⟨aq, 1, none⟩) (Kd.R_far (p := ⟨aq, 0, none⟩) (Kd.R_types cx.out aP.out (by decide)) (fun _ hk => hk.2) (.slice aQ aY.length aO)) (fun _ hk => hk.2) (.slice aS aZ.length aR)) (fun _ hk => hk.2) (.slice aV bc.length aT)) (fun _ h_ => h_.1))) hb); have bl := amk (Kd.R_below (by (with_reducible repeat (first | apply kra | apply krn | apply krd)); exact (Kd.R_mono (Kd.R_far (p := ⟨aq, 2, none⟩) (Kd.R_far (p := ⟨aq, 1, none⟩) (Kd.R_far (p := ⟨aq, 0, none⟩) (Kd.R_types cy.out aP.out (by decide)) (fun _ hk => hk.2) (.slice aQ aY.length aO)) (fun _ hk => hk.2) (.slice aS aZ.length aR)) (fun _ hk => hk.2) (.slice aV bc.length aT)) (fun _ h_ => h_.1))) hb); have bm := amk (blk_below (g := aW) (o := .cells #[.slice bj l0_0.length bk] 33 (0, 0)) (by (with_reducible repeat (first | refine bkn ?_ _ | refine bkd ?_ | refine bka ?_ _)); refine blk_far ?_ cc.out _; (with_reducible repeat (first | refine bkn ?_ _ | refine bkd ?_ | refine bka ?_ _)); refine blk_far ?_ cc.out _; (with_reducible repeat (first | refine bkn ?_ _ | refine bkd ?_ | refine bka ?_ _)); refine blk_far ?_ cc.out _; (with_reducible repeat (first | refine bkn ?_ _ | refine bkd ?_ | refine bka ?_ _)); exact aw.out) hb); have bA := amk (blk_below (g := aL) (o := .cells #[.slice aI aj.length aF, .slice aJ al.length aG, .slice aK am.length aH] 50 (0, 0)) (by (with_reducible repeat (first | refine bkn ?_ _ | refine bkd ?_ | refine bka ?_ _)); refine blk_far ?_ cd.out _; (with_reducible repeat (first | refine bkn ?_ _ | refine bkd ?_ | refine bka ?_ _)); refine blk_far ?_ cd.out _; (with_reducible repeat (first | refine bkn ?_ _ | refine bkd ?_ | refine bka ?_ _)); refine blk_far ?_ cd.out _; (with_reducible repeat (first | refine bkn ?_ _ | refine bkd ?_ | refine bka ?_ _)); exact ai.out) hb); have cj := amk (blk_below (g := aU) (o := .cells #[.slice aD bo.length aC] 37 (0, 0)) (by (with_reducible repeat (first | refine bkn ?_ _ | refine bkd ?_ | refine bka ?_ _)); refine blk_far ?_ ce.out _; (with_reducible repeat (first | refine bkn ?_ _ | refine bkd ?_ | refine bka ?_ _)); refine blk_far ?_ ce.out _; (with_reducible repeat (first | refine bkn ?_ _ | refine bkd ?_ | refine bka ?_ _)); refine blk_far ?_ ce.out _; (with_reducible repeat (first | refine bkn ?_ _ | refine bkd ?_ | refine bka ?_ _)); exact aA.out) hb); have ck := amk (blk_below (g := ae) (o := .cells #[.slice au af.length ar, .slice ax ag.length av, .slice az ah.length ay] 50 (0, 0)) (by (with_reducible repeat (first | refine bkn ?_ _ | refine bkd ?_ | refine bka ?_ _)); refine blk_far ?_ bN.out _; (with_reducible repeat (first | refine bkn ?_ _ | refine bkd ?_ | refine bka ?_ _)); refine blk_far ?_ bN.out _; (with_reducible repeat (first | refine bkn ?_ _ | refine bkd ?_ | refine bka ?_ _)); refine blk_far ?_ bN.out _; (with_reducible repeat (first | refine bkn ?_ _ | refine bkd ?_ | refine bka ?_ _)); exact ad.out) hb); have cz := amk (blk_below (g := aq) (o := .cells #[.slice aQ aY.length aO, .slice aS aZ.length aR, .slice aV bc.length aT] 50 (0, 0)) (by (with_reducible repeat (first | refine bkn ?_ _ | refine bkd ?_ | refine bka ?_ _)); refine blk_put (cs := #[.slice aQ aY.length aO, .slice aS aZ.length aR, .slice none 0 0]) ?_ 2 _ rfl; (with_reducible repeat (first | refine bkn ?_ _ | refine bkd ?_ | refine bka ?_ _)); refine blk_put (cs := #[.slice aQ aY.length aO, .slice none 0 0, .slice none 0 0]) ?_ 1 _ rfl; (with_reducible repeat (first | refine bkn ?_ _ | refine bkd ?_ | refine bka ?_ _)); refine blk_put (cs := #[.slice none 0 0, .slice none 0 0, .slice none 0 0]) ?_ 0 _ rfl; (with_reducible repeat (first | refine bkn ?_ _ | refine bkd ?_ | refine bka ?_ _)); exact aP.out) hb); have n16_ := amk (below_step (by repeat (first | (with_reducible first | exact HB.out | apply below_alloc | apply pw_below_drewN | apply below_drew1 | refine bse ?_ aN.out | refine bse ?_ aX.out | refine bse ?_ bd.out | refine bse ?_ bi.out | refine bse ?_ cI.out) | exact HB.out)) hb); clear an; clear ao; clear ap; clear ak; clear aa; clear ab; clear ac; clear cq; clear cw; clear cx; clear cy; clear aw; clear ai; clear aA; clear ad; clear aP; clear HB; have an := n0_; have ao := n1_; have ap := n2_; have ak := n3_; have aa := n4_; have ab := n5_; have ac := n6_; have cq := n7_; have cw := n8_; have cx := n9_; have cy := bl; have aw := bm; have ai := bA; have aA := cj; have ad := ck; have aP := cz; have HB := n16_; clear n0_ n1_ n2_ n3_ n4_ n5_ n6_ n7_ n8_ n9_ bl bm bA cj ck cz n16_; (try clear hb); (try clear hb2); (try clear hk); (try clear hi)))
             go_meet
             case rel => exact ⟨_, ((t758 != bn)), (by first | rfl | (simp; done) | (simp [*]; done)), H', ⟨by have := HJ10.out; have := HJ63.out; first | omega | exact Nat.le_refl _⟩, ⟨by (try simp only [aB]); (with_reducible repeat (first | apply kra | apply krn | apply krd)); exact Kd.R_mono an.out (fun _ hk => ⟨hk.1.1.1.1.1, ⟨hk.1.1.1.1.2.1, ⟨hk.1.1.1.1.2.2.1, ⟨hk.1.1.1.1.2.2.2.1, ⟨hk.1.1.1.1.2.2.2.2.1, ⟨hk.1.1.1.1.2.2.2.2.2, ⟨hk.1.1.2, ⟨hk.1.2, hk.2⟩⟩⟩⟩⟩⟩⟩⟩)⟩, ⟨by (try simp only [aB]); (with_reducible repeat (first | apply kra | apply krn | apply krd)); exact Kd.R_mono ao.out (fun _ hk => ⟨hk.1.1.1.1.1, ⟨hk.1.1.1.1.2.1, ⟨hk.1.1.1.1.2.2.1, ⟨hk.1.1.1.1.2.2.2.1, ⟨hk.1.1.1.1.2.2.2.2.1, ⟨hk.1.1.1.1.2.2.2.2.2, ⟨hk.1.1.2, ⟨hk.1.2, hk.2⟩⟩⟩⟩⟩⟩⟩⟩)⟩, ⟨by (try simp only [aB]); (with_reducible repeat (first | apply kra | apply krn | apply krd)); exact Kd.R_mono ap.out (fun _ hk => ⟨hk.1.1.1.1.1, ⟨hk.1.1.1.1.2.1, ⟨hk.1.1.1.1.2.2.1, ⟨hk.1.1.1.1.2.2.2.1, ⟨hk.1.1.1.1.2.2.2.2.1, ⟨hk.1.1.1.1.2.2.2.2.2, ⟨hk.1.1.2, ⟨hk.1.2, hk.2⟩⟩⟩⟩⟩⟩⟩⟩)⟩, ⟨by (try simp only [aB]); (with_reducible repeat (first | apply kra | apply krn | apply krd)); exact Kd.R_mono ak.out (fun _ hk => ⟨hk.1.1.1.1.1, ⟨hk.1.1.1.1.2.1, ⟨hk.1.1.1.1.2.2.1, ⟨hk.1.1.1.1.2.2.2.1, ⟨hk.1.1.1.1.2.2.2.2.1, ⟨hk.1.1.1.1.2.2.2.2.2, ⟨hk.1.1.2, ⟨hk.1.2, hk.2⟩⟩⟩⟩⟩⟩⟩⟩)⟩, ⟨by (try simp only [aB]); (with_reducible repeat (first | apply kra | apply krn | apply krd)); exact Kd.R_mono aa.out (fun _ hk => ⟨hk.1.1.1.1.1, ⟨hk.1.1.1.1.2.1, ⟨hk.1.1.1.1.2.2.1, ⟨hk.1.1.1.1.2.2.2.1, ⟨hk.1.1.1.1.2.2.2.2.1, ⟨hk.1.1.1.1.2.2.2.2.2, ⟨hk.1.1.2, ⟨hk.1.2, hk.2⟩⟩⟩⟩⟩⟩⟩⟩)⟩, ⟨by (try simp only [aB]); (with_reducible repeat (first | apply kra | apply krn | apply krd)); exact Kd.R_mono ab.out (fun _ hk => ⟨hk.1.1.1.1.1, ⟨hk.1.1.1.1.2.1, ⟨hk.1.1.1.1.2.2.1, ⟨hk.1.1.1.1.2.2.2.1, ⟨hk.1.1.1.1.2.2.2.2.1, ⟨hk.1.1.1.1.2.2.2.2.2, ⟨hk.1.1.2, ⟨hk.1.2, hk.2⟩⟩⟩⟩⟩⟩⟩⟩)⟩, ⟨by (try simp only [aB]); (with_reducible repeat (first | apply kra | apply krn | apply krd)); exact Kd.R_mono ac.out (fun _ hk => ⟨hk.1.1.1.1.1, ⟨hk.1.1.1.1.2.1, ⟨hk.1.1.1.1.2.2.1, ⟨hk.1.1.1.1.2.2.2.1, ⟨hk.1.1.1.1.2.2.2.2.1, ⟨hk.1.1.1.1.2.2.2.2.2, ⟨hk.1.1.2, ⟨hk.1.2, hk.2⟩⟩⟩⟩⟩⟩⟩⟩)⟩, ⟨by (try simp only [aB]); (with_reducible repeat (first | apply kra | apply krn | apply krd)); exact Kd.R_mono cw.out (fun _ hk => ⟨hk.1.1.1.1.1.1.1.2, ⟨hk.1.1.1.1.1.1.2, ⟨hk.1.1.1.1.1.2, ⟨hk.1.1.1.1.2, ⟨hk.1.1.1.2, ⟨hk.1.1.2, ⟨hk.1.2, ⟨hk.1.1.1.1.1.1.1.1.1, hk.1.1.1.1.1.1.1.1.2⟩⟩⟩⟩⟩⟩⟩⟩)⟩, ⟨by (try simp only [aB]); (with_reducible repeat (first | apply kra | apply krn | apply krd)); exact Kd.R_mono cx.out (fun _ hk => ⟨hk.1.1.1.1.1.1.1.2, ⟨hk.1.1.1.1.1.1.2, ⟨hk.1.1.1.1.1.2, ⟨hk.1.1.1.1.2, ⟨hk.1.1.1.2, ⟨hk.1.1.2, ⟨hk.1.2, ⟨hk.1.1.1.1.1.1.1.1.1, hk.1.1.1.1.1.1.1.1.2⟩⟩⟩⟩⟩⟩⟩⟩)⟩, ⟨by (try simp only [aB]); (with_reducible repeat (first | apply kra | apply krn | apply krd)); exact Kd.R_mono cy.out (fun _ hk => ⟨hk.1.1.1.1.1.1.1.2, ⟨hk.1.1.1.1.1.1.2, ⟨hk.1.1.1.1.1.2, ⟨hk.1.1.1.1.2, ⟨hk.1.1.1.2, ⟨hk.1.1.2, ⟨hk.1.2, ⟨hk.1.1.1.1.1.1.1.1.1, hk.1.1.1.1.1.1.1.1.2⟩⟩⟩⟩⟩⟩⟩⟩)⟩, ⟨by (try simp only [aB]); (with_reducible repeat (first | refine bkn ?_ _ | refine bkd ?_ | refine bka ?_ _)); exact aw.out⟩, ⟨by (try simp only [aB]); (with_reducible repeat (first | refine bkn ?_ _ | refine bkd ?_ | refine bka ?_ _)); exact ai.out⟩, ⟨by (try simp only [aB]); (with_reducible repeat (first | refine bkn ?_ _ | refine bkd ?_ | refine bka ?_ _)); exact aA.out⟩, ⟨by (try simp only [aB]); (with_reducible repeat (first | refine bkn ?_ _ | refine bkd ?_ | refine bka ?_ _)); exact ad.out⟩, ⟨by (try simp only [aB]); (with_reducible repeat (first | refine bkn ?_ _ | refine bkd ?_ | refine bka ?_ _)); exact aP.out⟩, ⟨by repeat (first | (with_reducible first | exact HB.out | apply below_alloc | apply pw_below_drewN | apply below_drew1 | refine bse ?_ aN.out | refine bse ?_ aX.out | refine bse ?_ bd.out | refine bse ?_ bi.out | refine bse ?_ cI.out) | exact HB.out)⟩⟩
            ·
             replace c131 := Bool.eq_false_iff.mpr c131
             subst c131
             have H1 : (laws_FnExactJobsOfTasks.j2 bv bJ true bp bq br) = some r := by rw [if_neg (show ¬ (false = true) by decide)] at H; exact H
             clear H
             have H := H1
             clear H1
             have H' := amk H
             clear H
             have hnb142 := dv.out
             have hnc142 := cc.out
             have hnb143 := dw.out
             have hnc143 := cd.out
             have hnb144 := dx.out
             have hnc144 := ce.out
             have hnb145 := cJ.out
             have hnc145 := bN.out
             have eK : cA.cell? ⟨aq, 0, none⟩ = some (.slice none 0 0) := (blk_cell aP.out 0).trans rfl
             have eL : cA.cell? ⟨aq, 1, none⟩ = some (.slice none 0 0) := (blk_cell aP.out 1).trans rfl
             have eM : cA.cell? ⟨aq, 2, none⟩ = some (.slice none 0 0) := (blk_cell aP.out 2).trans rfl
             have fN := blk_frozen aP.out 0
             have fO := blk_frozen aP.out 1
             have fP := blk_frozen aP.out 2
             have hnb147 := ci.out
             have hnc147 := bP.out
             have hnb148 := cb.out
             have hnc148 := cl.out
             have hnb149 := bs.out
             have hnc149 := bK.out
             have eN : cA.cell? ⟨aL, 0, none⟩ = some (.slice aI aj.length aF) := (blk_cell ai.out 0).trans rfl
             have eO : cA.cell? ⟨aL, 1, none⟩ = some (.slice aJ al.length aG) := (blk_cell ai.out 1).trans rfl
             have eP : cA.cell? ⟨aL, 2, none⟩ = some (.slice aK am.length aH) := (blk_cell ai.out 2).trans rfl
             have fQ := blk_frozen ai.out 0
             have fR := blk_frozen ai.out 1
             have fS := blk_frozen ai.out 2
             go_wp2_with (first | ((with_reducible refine gate_callee (f := 40) rfl ?_); refine goesL_ (some 81) rfl rfl Try.func40 (by kernel_rfl) rfl #[.agg #[.slice aQ aY.length aO, .slice aS aZ.length aR, .slice aV bc.length aT], .agg #[.slice aI aj.length aF, .slice aJ al.length aG, .slice aK am.length aH]] rfl (by (try simp only [List.map_toArray, List.map_cons, List.map_nil]); first | done | rfl | (simp only [List.length_drop, List.length_take]; rfl)) ?_; (with_reducible refine (laws_eqJobs.calls bv _ _ aY _ _ aZ _ _ bc _ _ aj _ _ al _ _ am false _ ?ba ?bb ?bt ?bu ?bB ?bC ?bU ?bV ?bW ?bM ?cm ?cn A130.out).mono ?_); (case ba => refine (Kd.R_reads' (e := 2) (base := w.heap.size) (ok := fun k_ => (((((((((some k_ ≠ (.slice aS aZ.length aR : Value).ownBlock ∧ some k_ ≠ (.slice aV bc.length aT : Value).ownBlock) ∧ some k_ ≠ (.slice aI aj.length aF : Value).ownBlock) ∧ some k_ ≠ (.slice aJ al.length aG : Value).ownBlock) ∧ some k_ ≠ (.slice aK am.length aH : Value).ownBlock) ∧ some k_ ≠ (.slice aD bo.length aC : Value).ownBlock) ∧ some k_ ≠ (.slice au af.length ar : Value).ownBlock) ∧ some k_ ≠ (.slice ax ag.length av : Value).ownBlock) ∧ some k_ ≠ (.slice az ah.length ay : Value).ownBlock) ∧ some k_ ≠ (.slice co bO.length cp : Value).ownBlock)) (n := aY.length) (c := aO) ?_).2.2; exact (by (with_reducible repeat (first | apply kra | apply krn | apply krd)); exact (Kd.R_mono (Kd.R_far (p := ⟨aq, 2, none⟩) (Kd.R_far (p := ⟨aq, 1, none⟩) (Kd.R_far (p := ⟨aq, 0, none⟩) (Kd.R_types cw.out aP.out (by decide)) (fun _ hk => hk.2) (.slice aQ aY.length aO)) (fun _ hk => hk.2) (.slice aS aZ.length aR)) (fun _ hk => hk.2) (.slice aV bc.length aT)) (fun _ h_ => h_.1)))); (case bb => exact (Kd.R_reads' cw.out).2.1); (case bt => refine (Kd.R_reads' (e := 2) (base := w.heap.size) (ok := fun k_ => (((((((((some k_ ≠ (.slice aQ aY.length aO : Value).ownBlock ∧ some k_ ≠ (.slice aV bc.length aT : Value).ownBlock) ∧ some k_ ≠ (.slice aI aj.length aF : Value).ownBlock) ∧ some k_ ≠ (.slice aJ al.length aG : Value).ownBlock) ∧ some k_ ≠ (.slice aK am.length aH : Value).ownBlock) ∧ some k_ ≠ (.slice aD bo.length aC : Value).ownBlock) ∧ some k_ ≠ (.slice au af.length ar : Value).ownBlock) ∧ some k_ ≠ (.slice ax ag.length av : Value).ownBlock) ∧ some k_ ≠ (.slice az ah.length ay : Value).ownBlock) ∧ some k_ ≠ (.slice co bO.length cp : Value).ownBlock)) (n := aZ.length) (c := aR) ?_).2.2; exact (by (with_reducible repeat (first | apply kra | apply krn | apply krd)); exact (Kd.R_mono (Kd.R_far (p := ⟨aq, 2, none⟩) (Kd.R_far (p := ⟨aq, 1, none⟩) (Kd.R_far (p := ⟨aq, 0, none⟩) (Kd.R_types cx.out aP.out (by decide)) (fun _ hk => hk.2) (.slice aQ aY.length aO)) (fun _ hk => hk.2) (.slice aS aZ.length aR)) (fun _ hk => hk.2) (.slice aV bc.length aT)) (fun _ h_ => h_.1)))); (case bu => exact (Kd.R_reads' cx.out).2.1); (case bB => refine (Kd.R_reads' (e := 2) (base := w.heap.size) (ok := fun k_ => (((((((((some k_ ≠ (.slice aQ aY.length aO : Value).ownBlock ∧ some k_ ≠ (.slice aS aZ.length aR : Value).ownBlock) ∧ some k_ ≠ (.slice aI aj.length aF : Value).ownBlock) ∧ some k_ ≠ (.slice aJ al.length aG : Value).ownBlock) ∧ some k_ ≠ (.slice aK am.length aH : Value).ownBlock) ∧ some k_ ≠ (.slice aD bo.length aC : Value).ownBlock) ∧ some k_ ≠ (.slice au af.length ar : Value).ownBlock) ∧ some k_ ≠ (.slice ax ag.length av : Value).ownBlock) ∧ some k_ ≠ (.slice az ah.length ay : Value).ownBlock) ∧ some k_ ≠ (.slice co bO.length cp : Value).ownBlock)) (n := bc.length) (c := aT) ?_).2.2; exact (by (with_reducible repeat (first | apply kra | apply krn | apply krd)); exact (Kd.R_mono (Kd.R_far (p := ⟨aq, 2, none⟩) (Kd.R_far (p := ⟨aq, 1, none⟩) (Kd.R_far (p := ⟨aq, 0, none⟩) (Kd.R_types cy.out aP.out (by decide)) (fun _ hk => hk.2) (.slice aQ aY.length aO)) (fun _ hk => hk.2) (.slice aS aZ.length aR)) (fun _ hk => hk.2) (.slice aV bc.length aT)) (fun _ h_ => h_.1)))); (case bC => exact (Kd.R_reads' cy.out).2.1); (case bU => refine (Kd.R_reads' (e := 2) (base := w.heap.size) (ok := fun k_ => (((((some k_ ≠ (.slice aJ al.length aG : Value).ownBlock ∧ (some k_ ≠ (.slice aK am.length aH : Value).ownBlock ∧ (some k_ ≠ (.slice aD bo.length aC : Value).ownBlock ∧ (some k_ ≠ (.slice au af.length ar : Value).ownBlock ∧ (some k_ ≠ (.slice ax ag.length av : Value).ownBlock ∧ some k_ ≠ (.slice az ah.length ay : Value).ownBlock))))) ∧ some k_ ≠ (.slice co bO.length cp : Value).ownBlock) ∧ some k_ ≠ (.slice aQ aY.length aO : Value).ownBlock) ∧ some k_ ≠ (.slice aS aZ.length aR : Value).ownBlock) ∧ some k_ ≠ (.slice aV bc.length aT : Value).ownBlock)) (n := aj.length) (c := aF) ?_).2.2; exact (by (with_reducible repeat (first | apply kra | apply krn | apply krd)); exact (Kd.R_mono (Kd.R_far (p := ⟨aq, 2, none⟩) (Kd.R_far (p := ⟨aq, 1, none⟩) (Kd.R_far (p := ⟨aq, 0, none⟩) (Kd.R_types an.out aP.out (by decide)) (fun _ hk => hk.2) (.slice aQ aY.length aO)) (fun _ hk => hk.2) (.slice aS aZ.length aR)) (fun _ hk => hk.2) (.slice aV bc.length aT)) (fun _ h_ => h_.1)))); (case bV => exact (Kd.R_reads' an.out).2.1); (case bW => refine (Kd.R_reads' (e := 2) (base := w.heap.size) (ok := fun k_ => (((((some k_ ≠ (.slice aI aj.length aF : Value).ownBlock ∧ (some k_ ≠ (.slice aK am.length aH : Value).ownBlock ∧ (some k_ ≠ (.slice aD bo.length aC : Value).ownBlock ∧ (some k_ ≠ (.slice au af.length ar : Value).ownBlock ∧ (some k_ ≠ (.slice ax ag.length av : Value).ownBlock ∧ some k_ ≠ (.slice az ah.length ay : Value).ownBlock))))) ∧ some k_ ≠ (.slice co bO.length cp : Value).ownBlock) ∧ some k_ ≠ (.slice aQ aY.length aO : Value).ownBlock) ∧ some k_ ≠ (.slice aS aZ.length aR : Value).ownBlock) ∧ some k_ ≠ (.slice aV bc.length aT : Value).ownBlock)) (n := al.length) (c := aG) ?_).2.2; exact (by (with_reducible repeat (first | apply kra | apply krn | apply krd)); exact (Kd.R_mono (Kd.R_far (p := ⟨aq, 2, none⟩) (Kd.R_far (p := ⟨aq, 1, none⟩) (Kd.R_far (p := ⟨aq, 0, none⟩) (Kd.R_types ao.out aP.out (by decide)) (fun _ hk => hk.2) (.slice aQ aY.length aO)) (fun _ hk => hk.2) (.slice aS aZ.length aR)) (fun _ hk => hk.2) (.slice aV bc.length aT)) (fun _ h_ => h_.1)))); (case bM => exact (Kd.R_reads' ao.out).2.1); (case cm => refine (Kd.R_reads' (e := 2) (base := w.heap.size) (ok := fun k_ => (((((some k_ ≠ (.slice aI aj.length aF : Value).ownBlock ∧ (some k_ ≠ (.slice aJ al.length aG : Value).ownBlock ∧ (some k_ ≠ (.slice aD bo.length aC : Value).ownBlock ∧ (some k_ ≠ (.slice au af.length ar : Value).ownBlock ∧ (some k_ ≠ (.slice ax ag.length av : Value).ownBlock ∧ some k_ ≠ (.slice az ah.length ay : Value).ownBlock))))) ∧ some k_ ≠ (.slice co bO.length cp : Value).ownBlock) ∧ some k_ ≠ (.slice aQ aY.length aO : Value).ownBlock) ∧ some k_ ≠ (.slice aS aZ.length aR : Value).ownBlock) ∧ some k_ ≠ (.slice aV bc.length aT : Value).ownBlock)) (n := am.length) (c := aH) ?_).2.2; exact (by (with_reducible repeat (first | apply kra | apply krn | apply krd)); exact (Kd.R_mono (Kd.R_far (p := ⟨aq, 2, none⟩) (Kd.R_far (p := ⟨aq, 1, none⟩) (Kd.R_far (p := ⟨aq, 0, none⟩) (Kd.R_types ap.out aP.out (by decide)) (fun _ hk => hk.2) (.slice aQ aY.length aO)) (fun _ hk => hk.2) (.slice aS aZ.length aR)) (fun _ hk => hk.2) (.slice aV bc.length aT)) (fun _ h_ => h_.1)))); (case cn => exact (Kd.R_reads' ap.out).2.1); rintro e w151 ⟨rfl, hb⟩; refine ⟨_, rfl, ?_⟩; have n0_ := amk (Kd.R_below (by (with_reducible repeat (first | apply kra | apply krn | apply krd)); exact (Kd.R_mono (Kd.R_far (p := ⟨aq, 2, none⟩) (Kd.R_far (p := ⟨aq, 1, none⟩) (Kd.R_far (p := ⟨aq, 0, none⟩) (Kd.R_types an.out aP.out (by decide)) (fun _ hk => hk.2) (.slice aQ aY.length aO)) (fun _ hk => hk.2) (.slice aS aZ.length aR)) (fun _ hk => hk.2) (.slice aV bc.length aT)) (fun _ h_ => h_.1))) hb); have n1_ := amk (Kd.R_below (by (with_reducible repeat (first | apply kra | apply krn | apply krd)); exact (Kd.R_mono (Kd.R_far (p := ⟨aq, 2, none⟩) (Kd.R_far (p := ⟨aq, 1, none⟩) (Kd.R_far (p := ⟨aq, 0, none⟩) (Kd.R_types ao.out aP.out (by decide)) (fun _ hk => hk.2) (.slice aQ aY.length aO)) (fun _ hk => hk.2) (.slice aS aZ.length aR)) (fun _ hk => hk.2) (.slice aV bc.length aT)) (fun _ h_ => h_.1))) hb); have n2_ := amk (Kd.R_below (by (with_reducible repeat (first | apply kra | apply krn | apply krd)); exact (Kd.R_mono (Kd.R_far (p := ⟨aq, 2, none⟩) (Kd.R_far (p := ⟨aq, 1, none⟩) (Kd.R_far (p := ⟨aq, 0, none⟩) (Kd.R_types ap.out aP.out (by decide)) (fun _ hk => hk.2) (.slice aQ aY.length aO)) (fun _ hk => hk.2) (.slice aS aZ.length aR)) (fun _ hk => hk.2) (.slice aV bc.length aT)) (fun _ h_ => h_.1))) hb); have n3_ := amk (Kd.R_below (by (with_reducible repeat (first | apply kra | apply krn | apply krd)); exact (Kd.R_mono (Kd.R_far (p := ⟨aq, 2, none⟩) (Kd.R_far (p := ⟨aq, 1, none⟩) (Kd.R_far (p := ⟨aq, 0, none⟩) (Kd.R_types ak.out aP.out (by decide)) (fun _ hk => hk.2) (.slice aQ aY.length aO)) (fun _ hk => hk.2) (.slice aS aZ.length aR)) (fun _ hk => hk.2) (.slice aV bc.length aT)) (fun _ h_ => h_.1))) hb); have n4_ := amk (Kd.R_below (by (with_reducible repeat (first | apply kra | apply krn | apply krd)); exact (Kd.R_mono (Kd.R_far (p := ⟨aq, 2, none⟩) (Kd.R_far (p := ⟨aq, 1, none⟩) (Kd.R_far (p := ⟨aq, 0, none⟩) (Kd.R_types aa.out aP.out (by decide)) (fun _ hk => hk.2) (.slice aQ aY.length aO)) (fun _ hk => hk.2) (.slice aS aZ.length aR)) (fun _ hk => hk.2) (.slice aV bc.length aT)) (fun _ h_ => h_.1))) hb); have n5_ := amk (Kd.R_below (by (with_reducible repeat (first | apply kra | apply krn | apply krd)); exact (Kd.R_mono (Kd.R_far (p := ⟨aq, 2, none⟩) (Kd.R_far (p := ⟨aq, 1, none⟩) (Kd.R_far (p := ⟨aq, 0, none⟩) (Kd.R_types ab.out aP.out (by decide)) (fun _ hk => hk.2) (.slice aQ aY.length aO)) (fun _ hk => hk.2) (.slice aS aZ.length aR)) (fun _ hk => hk.2) (.slice aV bc.length aT)) (fun _ h_ => h_.1))) hb); have n6_ := amk (Kd.R_below (by (with_reducible repeat (first | apply kra | apply krn | apply krd)); exact (Kd.R_mono (Kd.R_far (p := ⟨aq, 2, none⟩) (Kd.R_far (p := ⟨aq, 1, none⟩) (Kd.R_far (p := ⟨aq, 0, none⟩) (Kd.R_types ac.out aP.out (by decide)) (fun _ hk => hk.2) (.slice aQ aY.length aO)) (fun _ hk => hk.2) (.slice aS aZ.length aR)) (fun _ hk => hk.2) (.slice aV bc.length aT)) (fun _ h_ => h_.1))) hb); have n7_ := amk (Kd.R_below (by (with_reducible repeat (first | apply kra | apply krn | apply krd)); exact (Kd.R_mono (Kd.R_far (p := ⟨aq, 2, none⟩) (Kd.R_far (p := ⟨aq, 1, none⟩) (Kd.R_far (p := ⟨aq, 0, none⟩) (Kd.R_types cq.out aP.out (by decide)) (fun _ hk => hk.2) (.slice aQ aY.length aO)) (fun _ hk => hk.2) (.slice aS aZ.length aR)) (fun _ hk => hk.2) (.slice aV bc.length aT)) (fun _ h_ => h_.1))) hb); have n8_ := amk (Kd.R_below (by (with_reducible repeat (first | apply kra | apply krn | apply krd)); exact (Kd.R_mono (Kd.R_far (p := ⟨aq, 2, none⟩) (Kd.R_far (p := ⟨aq, 1, none⟩) (Kd.R_far (p := ⟨aq, 0, none⟩) (Kd.R_types cw.out aP.out (by decide)) (fun _ hk => hk.2) (.slice aQ aY.length aO)) (fun _ hk => hk.2) (.slice aS aZ.length aR)) (fun _ hk => hk.2) (.slice aV bc.length aT)) (fun _ h_ => h_.1))) hb); have n9_ := amk (Kd.R_below (by (with_reducible repeat (first | apply kra | apply krn | apply krd)); exact (Kd.R_mono (Kd.R_far (p := ⟨aq, 2, none⟩) (Kd.R_far (p := ⟨aq, 1, none⟩) (Kd.R_far (p := ⟨aq, 0, none⟩) (Kd.R_types cx.out aP.out (by decide)) (fun _ hk => hk.2) (.slice aQ aY.length aO)) (fun _ hk => hk.2) (.slice aS aZ.length aR)) (fun _ hk => hk.2) (.slice aV bc.length aT)) (fun _ h_ => h_.1))) hb); have bl := amk (Kd.R_below (by (with_reducible repeat (first | apply kra | apply krn | apply krd)); exact (Kd.R_mono (Kd.R_far (p := ⟨aq, 2, none⟩) (Kd.R_far (p := ⟨aq, 1, none⟩) (Kd.R_far (p := ⟨aq, 0, none⟩) (Kd.R_types cy.out aP.out (by decide)) (fun _ hk => hk.2) (.slice aQ aY.length aO)) (fun _ hk => hk.2) (.slice aS aZ.length aR)) (fun _ hk => hk.2) (.slice aV bc.length aT)) (fun _ h_ => h_.1))) hb); have bm := amk (blk_below (g := aW) (o := .cells #[.slice bj l0_0.length bk] 33 (0, 0)) (by (with_reducible repeat (first | refine bkn ?_ _ | refine bkd ?_ | refine bka ?_ _)); refine blk_far ?_ cc.out _; (with_reducible repeat (first | refine bkn ?_ _ | refine bkd ?_ | refine bka ?_ _)); refine blk_far ?_ cc.out _; (with_reducible repeat (first | refine bkn ?_ _ | refine bkd ?_ | refine bka ?_ _)); refine blk_far ?_ cc.out _; (with_reducible repeat (first | refine bkn ?_ _ | refine bkd ?_ | refine bka ?_ _)); exact aw.out) hb); have bA := amk (blk_below (g := aL) (o := .cells #[.slice aI aj.length aF, .slice aJ al.length aG, .slice aK am.length aH] 50 (0, 0)) (by (with_reducible repeat (first | refine bkn ?_ _ | refine bkd ?_ | refine bka ?_ _)); refine blk_far ?_ cd.out _; (with_reducible repeat (first | refine bkn ?_ _ | refine bkd ?_ | refine bka ?_ _)); refine blk_far ?_ cd.out _; (with_reducible repeat (first | refine bkn ?_ _ | refine bkd ?_ | refine bka ?_ _)); refine blk_far ?_ cd.out _; (with_reducible repeat (first | refine bkn ?_ _ | refine bkd ?_ | refine bka ?_ _)); exact ai.out) hb); have cj := amk (blk_below (g := aU) (o := .cells #[.slice aD bo.length aC] 37 (0, 0)) (by (with_reducible repeat (first | refine bkn ?_ _ | refine bkd ?_ | refine bka ?_ _)); refine blk_far ?_ ce.out _; (with_reducible repeat (first | refine bkn ?_ _ | refine bkd ?_ | refine bka ?_ _)); refine blk_far ?_ ce.out _; (with_reducible repeat (first | refine bkn ?_ _ | refine bkd ?_ | refine bka ?_ _)); refine blk_far ?_ ce.out _; (with_reducible repeat (first | refine bkn ?_ _ | refine bkd ?_ | refine bka ?_ _)); exact aA.out) hb); have ck := amk (blk_below (g := ae) (o := .cells #[.slice au af.length ar, .slice ax ag.length av, .slice az ah.length ay] 50 (0, 0)) (by (with_reducible repeat (first | refine bkn ?_ _ | refine bkd ?_ | refine bka ?_ _)); refine blk_far ?_ bN.out _; (with_reducible repeat (first | refine bkn ?_ _ | refine bkd ?_ | refine bka ?_ _)); refine blk_far ?_ bN.out _; (with_reducible repeat (first | refine bkn ?_ _ | refine bkd ?_ | refine bka ?_ _)); refine blk_far ?_ bN.out _; (with_reducible repeat (first | refine bkn ?_ _ | refine bkd ?_ | refine bka ?_ _)); exact ad.out) hb); have cz := amk (blk_below (g := aq) (o := .cells #[.slice aQ aY.length aO, .slice aS aZ.length aR, .slice aV bc.length aT] 50 (0, 0)) (by (with_reducible repeat (first | refine bkn ?_ _ | refine bkd ?_ | refine bka ?_ _)); refine blk_put (cs := #[.slice aQ aY.length aO, .slice aS aZ.length aR, .slice none 0 0]) ?_ 2 _ rfl; (with_reducible repeat (first | refine bkn ?_ _ | refine bkd ?_ | refine bka ?_ _)); refine blk_put (cs := #[.slice aQ aY.length aO, .slice none 0 0, .slice none 0 0]) ?_ 1 _ rfl; (with_reducible repeat (first | refine bkn ?_ _ | refine bkd ?_ | refine bka ?_ _)); refine blk_put (cs := #[.slice none 0 0, .slice none 0 0, .slice none 0 0]) ?_ 0 _ rfl; (with_reducible repeat (first | refine bkn ?_ _ | refine bkd ?_ | refine bka ?_ _)); exact aP.out) hb); have n16_ := amk (below_step (by repeat (first | (with_reducible first | exact HB.out | apply below_alloc | apply pw_below_drewN | apply below_drew1 | refine bse ?_ aN.out | refine bse ?_ aX.out | refine bse ?_ bd.out | refine bse ?_ bi.out | refine bse ?_ cI.out) | exact HB.out)) hb); clear an; clear ao; clear ap; clear ak; clear aa; clear ab; clear ac; clear cq; clear cw; clear cx; clear cy; clear aw; clear ai; clear aA; clear ad; clear aP; clear HB; have an := n0_; have ao := n1_; have ap := n2_; have ak := n3_; have aa := n4_; have ab := n5_; have ac := n6_; have cq := n7_; have cw := n8_; have cx := n9_; have cy := bl; have aw := bm; have ai := bA; have aA := cj; have ad := ck; have aP := cz; have HB := n16_; clear n0_ n1_ n2_ n3_ n4_ n5_ n6_ n7_ n8_ n9_ bl bm bA cj ck cz n16_; (try clear hb); (try clear hb2); (try clear hk); (try clear hi)))
             go_meet
             case rel => exact ⟨_, (true), (by first | rfl | (simp; done) | (simp [*]; done)), H', ⟨by have := HJ10.out; have := HJ63.out; first | omega | exact Nat.le_refl _⟩, ⟨by (try simp only [aB]); (with_reducible repeat (first | apply kra | apply krn | apply krd)); exact Kd.R_mono an.out (fun _ hk => ⟨hk.1.1.1.1.1, ⟨hk.1.1.1.1.2.1, ⟨hk.1.1.1.1.2.2.1, ⟨hk.1.1.1.1.2.2.2.1, ⟨hk.1.1.1.1.2.2.2.2.1, ⟨hk.1.1.1.1.2.2.2.2.2, ⟨hk.1.1.2, ⟨hk.1.2, hk.2⟩⟩⟩⟩⟩⟩⟩⟩)⟩, ⟨by (try simp only [aB]); (with_reducible repeat (first | apply kra | apply krn | apply krd)); exact Kd.R_mono ao.out (fun _ hk => ⟨hk.1.1.1.1.1, ⟨hk.1.1.1.1.2.1, ⟨hk.1.1.1.1.2.2.1, ⟨hk.1.1.1.1.2.2.2.1, ⟨hk.1.1.1.1.2.2.2.2.1, ⟨hk.1.1.1.1.2.2.2.2.2, ⟨hk.1.1.2, ⟨hk.1.2, hk.2⟩⟩⟩⟩⟩⟩⟩⟩)⟩, ⟨by (try simp only [aB]); (with_reducible repeat (first | apply kra | apply krn | apply krd)); exact Kd.R_mono ap.out (fun _ hk => ⟨hk.1.1.1.1.1, ⟨hk.1.1.1.1.2.1, ⟨hk.1.1.1.1.2.2.1, ⟨hk.1.1.1.1.2.2.2.1, ⟨hk.1.1.1.1.2.2.2.2.1, ⟨hk.1.1.1.1.2.2.2.2.2, ⟨hk.1.1.2, ⟨hk.1.2, hk.2⟩⟩⟩⟩⟩⟩⟩⟩)⟩, ⟨by (try simp only [aB]); (with_reducible repeat (first | apply kra | apply krn | apply krd)); exact Kd.R_mono ak.out (fun _ hk => ⟨hk.1.1.1.1.1, ⟨hk.1.1.1.1.2.1, ⟨hk.1.1.1.1.2.2.1, ⟨hk.1.1.1.1.2.2.2.1, ⟨hk.1.1.1.1.2.2.2.2.1, ⟨hk.1.1.1.1.2.2.2.2.2, ⟨hk.1.1.2, ⟨hk.1.2, hk.2⟩⟩⟩⟩⟩⟩⟩⟩)⟩, ⟨by (try simp only [aB]); (with_reducible repeat (first | apply kra | apply krn | apply krd)); exact Kd.R_mono aa.out (fun _ hk => ⟨hk.1.1.1.1.1, ⟨hk.1.1.1.1.2.1, ⟨hk.1.1.1.1.2.2.1, ⟨hk.1.1.1.1.2.2.2.1, ⟨hk.1.1.1.1.2.2.2.2.1, ⟨hk.1.1.1.1.2.2.2.2.2, ⟨hk.1.1.2, ⟨hk.1.2, hk.2⟩⟩⟩⟩⟩⟩⟩⟩)⟩, ⟨by (try simp only [aB]); (with_reducible repeat (first | apply kra | apply krn | apply krd)); exact Kd.R_mono ab.out (fun _ hk => ⟨hk.1.1.1.1.1, ⟨hk.1.1.1.1.2.1, ⟨hk.1.1.1.1.2.2.1, ⟨hk.1.1.1.1.2.2.2.1, ⟨hk.1.1.1.1.2.2.2.2.1, ⟨hk.1.1.1.1.2.2.2.2.2, ⟨hk.1.1.2, ⟨hk.1.2, hk.2⟩⟩⟩⟩⟩⟩⟩⟩)⟩, ⟨by (try simp only [aB]); (with_reducible repeat (first | apply kra | apply krn | apply krd)); exact Kd.R_mono ac.out (fun _ hk => ⟨hk.1.1.1.1.1, ⟨hk.1.1.1.1.2.1, ⟨hk.1.1.1.1.2.2.1, ⟨hk.1.1.1.1.2.2.2.1, ⟨hk.1.1.1.1.2.2.2.2.1, ⟨hk.1.1.1.1.2.2.2.2.2, ⟨hk.1.1.2, ⟨hk.1.2, hk.2⟩⟩⟩⟩⟩⟩⟩⟩)⟩, ⟨by (try simp only [aB]); (with_reducible repeat (first | apply kra | apply krn | apply krd)); exact Kd.R_mono cw.out (fun _ hk => ⟨hk.1.1.1.1.1.1.1.2, ⟨hk.1.1.1.1.1.1.2, ⟨hk.1.1.1.1.1.2, ⟨hk.1.1.1.1.2, ⟨hk.1.1.1.2, ⟨hk.1.1.2, ⟨hk.1.2, ⟨hk.1.1.1.1.1.1.1.1.1, hk.1.1.1.1.1.1.1.1.2⟩⟩⟩⟩⟩⟩⟩⟩)⟩, ⟨by (try simp only [aB]); (with_reducible repeat (first | apply kra | apply krn | apply krd)); exact Kd.R_mono cx.out (fun _ hk => ⟨hk.1.1.1.1.1.1.1.2, ⟨hk.1.1.1.1.1.1.2, ⟨hk.1.1.1.1.1.2, ⟨hk.1.1.1.1.2, ⟨hk.1.1.1.2, ⟨hk.1.1.2, ⟨hk.1.2, ⟨hk.1.1.1.1.1.1.1.1.1, hk.1.1.1.1.1.1.1.1.2⟩⟩⟩⟩⟩⟩⟩⟩)⟩, ⟨by (try simp only [aB]); (with_reducible repeat (first | apply kra | apply krn | apply krd)); exact Kd.R_mono cy.out (fun _ hk => ⟨hk.1.1.1.1.1.1.1.2, ⟨hk.1.1.1.1.1.1.2, ⟨hk.1.1.1.1.1.2, ⟨hk.1.1.1.1.2, ⟨hk.1.1.1.2, ⟨hk.1.1.2, ⟨hk.1.2, ⟨hk.1.1.1.1.1.1.1.1.1, hk.1.1.1.1.1.1.1.1.2⟩⟩⟩⟩⟩⟩⟩⟩)⟩, ⟨by (try simp only [aB]); (with_reducible repeat (first | refine bkn ?_ _ | refine bkd ?_ | refine bka ?_ _)); exact aw.out⟩, ⟨by (try simp only [aB]); (with_reducible repeat (first | refine bkn ?_ _ | refine bkd ?_ | refine bka ?_ _)); exact ai.out⟩, ⟨by (try simp only [aB]); (with_reducible repeat (first | refine bkn ?_ _ | refine bkd ?_ | refine bka ?_ _)); exact aA.out⟩, ⟨by (try simp only [aB]); (with_reducible repeat (first | refine bkn ?_ _ | refine bkd ?_ | refine bka ?_ _)); exact ad.out⟩, ⟨by (try simp only [aB]); (with_reducible repeat (first | refine bkn ?_ _ | refine bkd ?_ | refine bka ?_ _)); exact aP.out⟩, ⟨by repeat (first | (with_reducible first | exact HB.out | apply below_alloc | apply pw_below_drewN | apply below_drew1 | refine bse ?_ aN.out | refine bse ?_ aX.out | refine bse ?_ bd.out | refine bse ?_ bi.out | refine bse ?_ cI.out) | exact HB.out)⟩⟩
           case rest =>
            clear eS
            try clear c1
            try clear c2
            try clear p2
            try clear c3
            try clear c3b0
            try clear c4
            try clear c5
            try clear c6
            try clear c7
            try clear c8
            try clear c9
            try clear c10
            try clear c11
            try clear c12
            try clear c13
            try clear c14
            try clear c21
            try clear c23
            try clear c25
            try clear c29
            try clear c30
            try clear c35
            try clear c36
            try clear c37
            try clear c38
            try clear c39
            try clear c40
            try clear c41
            try clear c42
            try clear c43
            try clear c44
            try clear c45
            try clear c47
            try clear c48
            try clear c51
            try clear c52
            try clear c53
            try clear c55
            try clear c56
            try clear c59
            try clear c62
            try clear c69
            try clear c70
            try clear c71
            try clear c74
            try clear c74b0
            try clear c76
            try clear c77
            try clear c78
            try clear c79
            try clear c81
            try clear c82
            try clear c85
            try clear c86
            try clear c87
            try clear c89
            try clear c90
            try clear c93
            try clear c96
            try clear c96b0
            try clear c97
            try clear c98
            try clear c99
            try clear c104
            try clear c104b0
            try clear c104b1
            try clear c108
            try clear c109
            try clear c110
            try clear c115
            try clear c116
            try clear c123
            try clear c124
            try clear c125
            try clear c126
            try clear c131
            try clear c132
            try clear c133
            try clear c134
            try clear c135
            try clear c137
            try clear c138
            try clear c139
            try clear c142
            try clear c143
            try clear c144
            try clear c145
            try clear c147
            try clear c148
            try clear c149
            try clear eo
            try clear ep
            try clear eq
            try clear er
            try clear es
            try clear et
            try clear eu
            try clear ev
            try clear ew
            try clear ex
            try clear ey
            try clear ez
            try clear eA
            try clear eB
            try clear eC
            try clear eD
            try clear eE
            try clear eF
            try clear eG
            try clear cW
            try clear eH
            try clear eI
            try clear eJ
            try clear eK
            try clear eL
            try clear eM
            try clear eN
            try clear eO
            try clear eP
            try clear cX
            try clear cY
            try clear cZ
            try clear da
            try clear db
            try clear dc
            try clear dd
            try clear de
            try clear df
            try clear dg
            try clear dh
            try clear di
            try clear dj
            try clear dk
            try clear dl
            try clear dm
            try clear dn
            try clear dp
            try clear dq
            try clear dr
            try clear dt
            try clear dB
            try clear ea
            try clear eb
            try clear ec
            try clear ed
            try clear ee
            try clear ef
            try clear eg
            try clear eh
            try clear ei
            try clear ej
            try clear ek
            try clear el
            try clear em
            try clear fr
            try clear fs
            try clear ft
            try clear fu
            try clear fv
            try clear fw
            try clear fx
            try clear fy
            try clear fz
            try clear fA
            try clear fB
            try clear fC
            try clear fD
            try clear fE
            try clear fF
            try clear fG
            try clear fH
            try clear fI
            try clear fJ
            try clear dE
            try clear fK
            try clear fL
            try clear fM
            try clear fN
            try clear fO
            try clear fP
            try clear fQ
            try clear fR
            try clear fS
            try clear dF
            try clear dG
            try clear dH
            try clear dI
            try clear dJ
            try clear dK
            try clear dL
            try clear dM
            try clear dN
            try clear dO
            try clear dP
            try clear dQ
            try clear dR
            try clear dS
            try clear dT
            try clear dU
            try clear dV
            try clear dW
            try clear dX
            try clear dY
            try clear dZ
            try clear en
            try clear eW
            try clear eX
            try clear eY
            try clear eZ
            try clear fa
            try clear fb
            try clear fc
            try clear fd
            try clear fe
            try clear ff
            try clear fg
            try clear fh
            try clear fi
            try clear p2
            obtain ⟨kq, cT, rfl, HA, gi, an, ao, ap, ak, aa, ab, ac, bX, bY, bZ, aw, ai, aA, ad, aP, HB⟩ := hcut
            have bf := (Kd.R_reads' aa.out).1
            rw [bf] at aa
            (try simp only [bf])
            (try simp only [bf] at aw)
            (try simp only [bf] at ai)
            (try simp only [bf] at aA)
            (try simp only [bf] at ad)
            (try simp only [bf] at aP)
            (try simp only [bf] at an)
            (try simp only [bf] at ao)
            (try simp only [bf] at ap)
            (try simp only [bf] at ak)
            (try simp only [bf] at ab)
            (try simp only [bf] at ac)
            (try simp only [bf] at bX)
            (try simp only [bf] at bY)
            (try simp only [bf] at bZ)
            have bg := (Kd.R_reads' ab.out).1
            rw [bg] at ab
            (try simp only [bg])
            (try simp only [bg] at aw)
            (try simp only [bg] at ai)
            (try simp only [bg] at aA)
            (try simp only [bg] at ad)
            (try simp only [bg] at aP)
            (try simp only [bg] at an)
            (try simp only [bg] at ao)
            (try simp only [bg] at ap)
            (try simp only [bg] at ak)
            (try simp only [bg] at aa)
            (try simp only [bg] at ac)
            (try simp only [bg] at bX)
            (try simp only [bg] at bY)
            (try simp only [bg] at bZ)
            have bh := (Kd.R_reads' ac.out).1
            rw [bh] at ac
            (try simp only [bh])
            (try simp only [bh] at aw)
            (try simp only [bh] at ai)
            (try simp only [bh] at aA)
            (try simp only [bh] at ad)
            (try simp only [bh] at aP)
            (try simp only [bh] at an)
            (try simp only [bh] at ao)
            (try simp only [bh] at ap)
            (try simp only [bh] at ak)
            (try simp only [bh] at aa)
            (try simp only [bh] at ab)
            (try simp only [bh] at bX)
            (try simp only [bh] at bY)
            (try simp only [bh] at bZ)
            cases kq with
            | zero => exact absurd HA.out (by simp [laws_FnExactJobsOfTasks.j2])
            | succ dA =>
             have H := HA.out
             clear HA
             simp only [laws_FnExactJobsOfTasks.j2] at H
             by_cases c152 : cT = true
             ·
              subst c152
              have H1 : (some false) = some r := by rw [if_pos rfl] at H; exact H
              clear H
              have H := H1
              clear H1
              obtain rfl := Option.some.inj H
              go_wp2
              go_ret
              exact ⟨by first | rfl | (simp [errW_none, errW_some] <;> rfl) | (simp [*, errW_none, errW_some] <;> rfl), by repeat (first | (with_reducible first | exact HB.out | apply below_alloc | apply pw_below_drewN | apply below_drew1 | refine bse ?_ aN.out | refine bse ?_ aX.out | refine bse ?_ bd.out | refine bse ?_ bi.out | refine bse ?_ cI.out) | exact HB.out)⟩
             ·
              replace c152 := Bool.eq_false_iff.mpr c152
              subst c152
              have H1 : ((laws_heldJobs.f dA bp bq br 1).bind fun cf => (if cf < 0 then (some false) else (if cf = bJ then (some true) else (some false)))) = some r := by rw [if_neg (show ¬ (false = true) by decide)] at H; exact H
              clear H
              have H := H1
              clear H1
              replace H := Option.bind_eq_some_iff.mp H
              obtain ⟨cf, eU, H⟩ := H
              replace H : (if cf < 0 then (some false) else (if cf = bJ then (some true) else (some false))) = some r := H
              have A153 := amk eU
              clear eU
              by_cases c154 : cf < 0
              ·
               rw [if_pos c154] at H
               have c154b0 : decide (cf < 0) = true := decide_eq_true c154
               (try (have c154h_hl722000_63 := c154b0; rw [aB] at c154h_hl722000_63))
               (try (have c154h_hl733000_106 := c154b0; rw [bf] at c154h_hl733000_106))
               (try (have c154h_hl733001_106 := c154b0; rw [bg] at c154h_hl733001_106))
               (try (have c154h_hl733002_106 := c154b0; rw [bh] at c154h_hl733002_106))
               clear c154
               obtain rfl := Option.some.inj H
               have hnb155 := bQ.out
               have hnc155 := bz.out
               have hnb156 := bK.out
               have hnc156 := bs.out
               have hnb157 := bL.out
               have hnc157 := bw.out
               have hnb158 := bN.out
               have hnc158 := cJ.out
               have fT : wc.cell? ⟨ae, 0, none⟩ = some (.slice au bp.length ar) := (blk_cell ad.out 0).trans rfl
               have fU : wc.cell? ⟨ae, 1, none⟩ = some (.slice ax bq.length av) := (blk_cell ad.out 1).trans rfl
               have fV : wc.cell? ⟨ae, 2, none⟩ = some (.slice az br.length ay) := (blk_cell ad.out 2).trans rfl
               have hfz159_0 := blk_frozen ad.out 0
               have hfz159_1 := blk_frozen ad.out 1
               have hfz159_2 := blk_frozen ad.out 2
               go_wp2_with (first | ((with_reducible refine gate_callee (f := 43) rfl ?_); refine goesL_ (some 90) rfl rfl Try.func43 (by kernel_rfl) rfl #[.agg #[.slice au bp.length ar, .slice ax bq.length av, .slice az br.length ay], .int .i64 1] rfl (by (try simp only [List.map_toArray, List.map_cons, List.map_nil]); first | done | rfl | (simp only [List.length_drop, List.length_take]; rfl)) ?_; (with_reducible refine (laws_heldJobs.calls dA _ _ bp _ _ bq _ _ br 1 cf _ ?ba ?bb ?bt ?bu ?bB ?bC A153.out).mono ?_); (case ba => repeat (first | exact (Kd.R_reads' aa.out).2.2 | (with_reducible refine Kd.C_alloc ?_ _) | (with_reducible refine Kd.C_drewN ?_ _) | (with_reducible refine Kd.C_drew ?_))); (case bb => exact (Kd.R_reads' aa.out).2.1); (case bt => repeat (first | exact (Kd.R_reads' ab.out).2.2 | (with_reducible refine Kd.C_alloc ?_ _) | (with_reducible refine Kd.C_drewN ?_ _) | (with_reducible refine Kd.C_drew ?_))); (case bu => exact (Kd.R_reads' ab.out).2.1); (case bB => repeat (first | exact (Kd.R_reads' ac.out).2.2 | (with_reducible refine Kd.C_alloc ?_ _) | (with_reducible refine Kd.C_drewN ?_ _) | (with_reducible refine Kd.C_drew ?_))); (case bC => exact (Kd.R_reads' ac.out).2.1); rintro e w160 ⟨rfl, hb⟩; refine ⟨_, rfl, ?_⟩; have n0_ := amk (Kd.R_below (by (with_reducible repeat (first | apply kra | apply krn | apply krd)); exact an.out) hb); have n1_ := amk (Kd.R_below (by (with_reducible repeat (first | apply kra | apply krn | apply krd)); exact ao.out) hb); have n2_ := amk (Kd.R_below (by (with_reducible repeat (first | apply kra | apply krn | apply krd)); exact ap.out) hb); have n3_ := amk (Kd.R_below (by (with_reducible repeat (first | apply kra | apply krn | apply krd)); exact ak.out) hb); have n4_ := amk (Kd.R_below (by (with_reducible repeat (first | apply kra | apply krn | apply krd)); exact aa.out) hb); have n5_ := amk (Kd.R_below (by (with_reducible repeat (first | apply kra | apply krn | apply krd)); exact ab.out) hb); have n6_ := amk (Kd.R_below (by (with_reducible repeat (first | apply kra | apply krn | apply krd)); exact ac.out) hb); have n7_ := amk (Kd.R_below (by (with_reducible repeat (first | apply kra | apply krn | apply krd)); exact bX.out) hb); have n8_ := amk (Kd.R_below (by (with_reducible repeat (first | apply kra | apply krn | apply krd)); exact bY.out) hb); have n9_ := amk (Kd.R_below (by (with_reducible repeat (first | apply kra | apply krn | apply krd)); exact bZ.out) hb); have bl := amk (blk_below (g := aW) (o := .cells #[.slice bj l0_0.length bk] 33 (0, 0)) (by (with_reducible repeat (first | refine bkn ?_ _ | refine bkd ?_ | refine bka ?_ _)); exact aw.out) hb); have bm := amk (blk_below (g := aL) (o := .cells #[.slice aI aj.length aF, .slice aJ al.length aG, .slice aK am.length aH] 50 (0, 0)) (by (with_reducible repeat (first | refine bkn ?_ _ | refine bkd ?_ | refine bka ?_ _)); exact ai.out) hb); have bA := amk (blk_below (g := aU) (o := .cells #[.slice aD bo.length aC] 37 (0, 0)) (by (with_reducible repeat (first | refine bkn ?_ _ | refine bkd ?_ | refine bka ?_ _)); exact aA.out) hb); have cj := amk (blk_below (g := ae) (o := .cells #[.slice au bp.length ar, .slice ax bq.length av, .slice az br.length ay] 50 (0, 0)) (by (with_reducible repeat (first | refine bkn ?_ _ | refine bkd ?_ | refine bka ?_ _)); exact ad.out) hb); have ck := amk (blk_below (g := aq) (o := .cells #[.slice aQ aY.length aO, .slice aS aZ.length aR, .slice aV bc.length aT] 50 (0, 0)) (by (with_reducible repeat (first | refine bkn ?_ _ | refine bkd ?_ | refine bka ?_ _)); exact aP.out) hb); have cz := amk (below_step (by repeat (first | (with_reducible first | exact HB.out | apply below_alloc | apply pw_below_drewN | apply below_drew1 | refine bse ?_ aN.out | refine bse ?_ aX.out | refine bse ?_ bd.out | refine bse ?_ bi.out | refine bse ?_ cI.out) | exact HB.out)) hb); clear an; clear ao; clear ap; clear ak; clear aa; clear ab; clear ac; clear bX; clear bY; clear bZ; clear aw; clear ai; clear aA; clear ad; clear aP; clear HB; have an := n0_; have ao := n1_; have ap := n2_; have ak := n3_; have aa := n4_; have ab := n5_; have ac := n6_; have bX := n7_; have bY := n8_; have bZ := n9_; have aw := bl; have ai := bm; have aA := bA; have ad := cj; have aP := ck; have HB := cz; clear n0_ n1_ n2_ n3_ n4_ n5_ n6_ n7_ n8_ n9_ bl bm bA cj ck cz; (try clear hb); (try clear hb2); (try clear hk); (try clear hi)))
               go_ret
               exact ⟨by first | rfl | (simp [errW_none, errW_some] <;> rfl) | (simp [*, errW_none, errW_some] <;> rfl), by repeat (first | (with_reducible first | exact HB.out | apply below_alloc | apply pw_below_drewN | apply below_drew1 | refine bse ?_ aN.out | refine bse ?_ aX.out | refine bse ?_ bd.out | refine bse ?_ bi.out | refine bse ?_ cI.out) | exact HB.out)⟩
              ·
               rw [if_neg c154] at H
               have c154b0 : decide (cf < 0) = false := decide_eq_false c154
               (try (have c154h_hl722000_63 := c154b0; rw [aB] at c154h_hl722000_63))
               (try (have c154h_hl733000_106 := c154b0; rw [bf] at c154h_hl733000_106))
               (try (have c154h_hl733001_106 := c154b0; rw [bg] at c154h_hl733001_106))
               (try (have c154h_hl733002_106 := c154b0; rw [bh] at c154h_hl733002_106))
               clear c154
               by_cases c161 : cf = bJ
               ·
                rw [if_pos c161] at H
                have c161b0 : (cf == bJ) = true := beq_iff_eq.mpr c161
                have c161b1 : (cf != bJ) = false := bne_eq_false_iff_eq.mpr c161
                (try (have c161h_hl722000_63 := c161b0; rw [aB] at c161h_hl722000_63))
                (try (have c161h_hl733000_106 := c161b0; rw [bf] at c161h_hl733000_106))
                (try (have c161h_hl733001_106 := c161b0; rw [bg] at c161h_hl733001_106))
                (try (have c161h_hl733002_106 := c161b0; rw [bh] at c161h_hl733002_106))
                clear c161
                obtain rfl := Option.some.inj H
                have hnb162 := bQ.out
                have hnc162 := bz.out
                have hnb163 := bK.out
                have hnc163 := bs.out
                have hnb164 := bL.out
                have hnc164 := bw.out
                have hnb165 := bN.out
                have hnc165 := cJ.out
                have fW : wc.cell? ⟨ae, 0, none⟩ = some (.slice au bp.length ar) := (blk_cell ad.out 0).trans rfl
                have fX : wc.cell? ⟨ae, 1, none⟩ = some (.slice ax bq.length av) := (blk_cell ad.out 1).trans rfl
                have fY : wc.cell? ⟨ae, 2, none⟩ = some (.slice az br.length ay) := (blk_cell ad.out 2).trans rfl
                have hfz166_0 := blk_frozen ad.out 0
                have hfz166_1 := blk_frozen ad.out 1
                have hfz166_2 := blk_frozen ad.out 2
                go_wp2_with (first | ((with_reducible refine gate_callee (f := 43) rfl ?_); refine goesL_ (some 90) rfl rfl Try.func43 (by kernel_rfl) rfl #[.agg #[.slice au bp.length ar, .slice ax bq.length av, .slice az br.length ay], .int .i64 1] rfl (by (try simp only [List.map_toArray, List.map_cons, List.map_nil]); first | done | rfl | (simp only [List.length_drop, List.length_take]; rfl)) ?_; (with_reducible refine (laws_heldJobs.calls dA _ _ bp _ _ bq _ _ br 1 cf _ ?ba ?bb ?bt ?bu ?bB ?bC A153.out).mono ?_); (case ba => repeat (first | exact (Kd.R_reads' aa.out).2.2 | (with_reducible refine Kd.C_alloc ?_ _) | (with_reducible refine Kd.C_drewN ?_ _) | (with_reducible refine Kd.C_drew ?_))); (case bb => exact (Kd.R_reads' aa.out).2.1); (case bt => repeat (first | exact (Kd.R_reads' ab.out).2.2 | (with_reducible refine Kd.C_alloc ?_ _) | (with_reducible refine Kd.C_drewN ?_ _) | (with_reducible refine Kd.C_drew ?_))); (case bu => exact (Kd.R_reads' ab.out).2.1); (case bB => repeat (first | exact (Kd.R_reads' ac.out).2.2 | (with_reducible refine Kd.C_alloc ?_ _) | (with_reducible refine Kd.C_drewN ?_ _) | (with_reducible refine Kd.C_drew ?_))); (case bC => exact (Kd.R_reads' ac.out).2.1); rintro e w167 ⟨rfl, hb⟩; refine ⟨_, rfl, ?_⟩; have n0_ := amk (Kd.R_below (by (with_reducible repeat (first | apply kra | apply krn | apply krd)); exact an.out) hb); have n1_ := amk (Kd.R_below (by (with_reducible repeat (first | apply kra | apply krn | apply krd)); exact ao.out) hb); have n2_ := amk (Kd.R_below (by (with_reducible repeat (first | apply kra | apply krn | apply krd)); exact ap.out) hb); have n3_ := amk (Kd.R_below (by (with_reducible repeat (first | apply kra | apply krn | apply krd)); exact ak.out) hb); have n4_ := amk (Kd.R_below (by (with_reducible repeat (first | apply kra | apply krn | apply krd)); exact aa.out) hb); have n5_ := amk (Kd.R_below (by (with_reducible repeat (first | apply kra | apply krn | apply krd)); exact ab.out) hb); have n6_ := amk (Kd.R_below (by (with_reducible repeat (first | apply kra | apply krn | apply krd)); exact ac.out) hb); have n7_ := amk (Kd.R_below (by (with_reducible repeat (first | apply kra | apply krn | apply krd)); exact bX.out) hb); have n8_ := amk (Kd.R_below (by (with_reducible repeat (first | apply kra | apply krn | apply krd)); exact bY.out) hb); have n9_ := amk (Kd.R_below (by (with_reducible repeat (first | apply kra | apply krn | apply krd)); exact bZ.out) hb); have bl := amk (blk_below (g := aW) (o := .cells #[.slice bj l0_0.length bk] 33 (0, 0)) (by (with_reducible repeat (first | refine bkn ?_ _ | refine bkd ?_ | refine bka ?_ _)); exact aw.out) hb); have bm := amk (blk_below (g := aL) (o := .cells #[.slice aI aj.length aF, .slice aJ al.length aG, .slice aK am.length aH] 50 (0, 0)) (by (with_reducible repeat (first | refine bkn ?_ _ | refine bkd ?_ | refine bka ?_ _)); exact ai.out) hb); have bA := amk (blk_below (g := aU) (o := .cells #[.slice aD bo.length aC] 37 (0, 0)) (by (with_reducible repeat (first | refine bkn ?_ _ | refine bkd ?_ | refine bka ?_ _)); exact aA.out) hb); have cj := amk (blk_below (g := ae) (o := .cells #[.slice au bp.length ar, .slice ax bq.length av, .slice az br.length ay] 50 (0, 0)) (by (with_reducible repeat (first | refine bkn ?_ _ | refine bkd ?_ | refine bka ?_ _)); exact ad.out) hb); have ck := amk (blk_below (g := aq) (o := .cells #[.slice aQ aY.length aO, .slice aS aZ.length aR, .slice aV bc.length aT] 50 (0, 0)) (by (with_reducible repeat (first | refine bkn ?_ _ | refine bkd ?_ | refine bka ?_ _)); exact aP.out) hb); have cz := amk (below_step (by repeat (first | (with_reducible first | exact HB.out | apply below_alloc | apply pw_below_drewN | apply below_drew1 | refine bse ?_ aN.out | refine bse ?_ aX.out | refine bse ?_ bd.out | refine bse ?_ bi.out | refine bse ?_ cI.out) | exact HB.out)) hb); clear an; clear ao; clear ap; clear ak; clear aa; clear ab; clear ac; clear bX; clear bY; clear bZ; clear aw; clear ai; clear aA; clear ad; clear aP; clear HB; have an := n0_; have ao := n1_; have ap := n2_; have ak := n3_; have aa := n4_; have ab := n5_; have ac := n6_; have bX := n7_; have bY := n8_; have bZ := n9_; have aw := bl; have ai := bm; have aA := bA; have ad := cj; have aP := ck; have HB := cz; clear n0_ n1_ n2_ n3_ n4_ n5_ n6_ n7_ n8_ n9_ bl bm bA cj ck cz; (try clear hb); (try clear hb2); (try clear hk); (try clear hi)))
                go_ret
                exact ⟨by first | rfl | (simp [errW_none, errW_some] <;> rfl) | (simp [*, errW_none, errW_some] <;> rfl), by repeat (first | (with_reducible first | exact HB.out | apply below_alloc | apply pw_below_drewN | apply below_drew1 | refine bse ?_ aN.out | refine bse ?_ aX.out | refine bse ?_ bd.out | refine bse ?_ bi.out | refine bse ?_ cI.out) | exact HB.out)⟩
               ·
                rw [if_neg c161] at H
                have c161b0 : (cf == bJ) = false := beq_eq_false_iff_ne.mpr c161
                have c161b1 : (cf != bJ) = true := bne_iff_ne.mpr c161
                (try (have c161h_hl722000_63 := c161b0; rw [aB] at c161h_hl722000_63))
                (try (have c161h_hl733000_106 := c161b0; rw [bf] at c161h_hl733000_106))
                (try (have c161h_hl733001_106 := c161b0; rw [bg] at c161h_hl733001_106))
                (try (have c161h_hl733002_106 := c161b0; rw [bh] at c161h_hl733002_106))
                obtain rfl := Option.some.inj H
                have hnb168 := bQ.out
                have hnc168 := bz.out
                have hnb169 := bK.out
                have hnc169 := bs.out
                have hnb170 := bL.out
                have hnc170 := bw.out
                have hnb171 := bN.out
                have hnc171 := cJ.out
                have fZ : wc.cell? ⟨ae, 0, none⟩ = some (.slice au bp.length ar) := (blk_cell ad.out 0).trans rfl
                have ga : wc.cell? ⟨ae, 1, none⟩ = some (.slice ax bq.length av) := (blk_cell ad.out 1).trans rfl
                have gb : wc.cell? ⟨ae, 2, none⟩ = some (.slice az br.length ay) := (blk_cell ad.out 2).trans rfl
                have hfz172_0 := blk_frozen ad.out 0
                have hfz172_1 := blk_frozen ad.out 1
                have hfz172_2 := blk_frozen ad.out 2
                go_wp2_with (first | ((with_reducible refine gate_callee (f := 43) rfl ?_); refine goesL_ (some 90) rfl rfl Try.func43 (by kernel_rfl) rfl #[.agg #[.slice au bp.length ar, .slice ax bq.length av, .slice az br.length ay], .int .i64 1] rfl (by (try simp only [List.map_toArray, List.map_cons, List.map_nil]); first | done | rfl | (simp only [List.length_drop, List.length_take]; rfl)) ?_; (with_reducible refine (laws_heldJobs.calls dA _ _ bp _ _ bq _ _ br 1 cf _ ?ba ?bb ?bt ?bu ?bB ?bC A153.out).mono ?_); (case ba => repeat (first | exact (Kd.R_reads' aa.out).2.2 | (with_reducible refine Kd.C_alloc ?_ _) | (with_reducible refine Kd.C_drewN ?_ _) | (with_reducible refine Kd.C_drew ?_))); (case bb => exact (Kd.R_reads' aa.out).2.1); (case bt => repeat (first | exact (Kd.R_reads' ab.out).2.2 | (with_reducible refine Kd.C_alloc ?_ _) | (with_reducible refine Kd.C_drewN ?_ _) | (with_reducible refine Kd.C_drew ?_))); (case bu => exact (Kd.R_reads' ab.out).2.1); (case bB => repeat (first | exact (Kd.R_reads' ac.out).2.2 | (with_reducible refine Kd.C_alloc ?_ _) | (with_reducible refine Kd.C_drewN ?_ _) | (with_reducible refine Kd.C_drew ?_))); (case bC => exact (Kd.R_reads' ac.out).2.1); rintro e w173 ⟨rfl, hb⟩; refine ⟨_, rfl, ?_⟩; have n0_ := amk (Kd.R_below (by (with_reducible repeat (first | apply kra | apply krn | apply krd)); exact an.out) hb); have n1_ := amk (Kd.R_below (by (with_reducible repeat (first | apply kra | apply krn | apply krd)); exact ao.out) hb); have n2_ := amk (Kd.R_below (by (with_reducible repeat (first | apply kra | apply krn | apply krd)); exact ap.out) hb); have n3_ := amk (Kd.R_below (by (with_reducible repeat (first | apply kra | apply krn | apply krd)); exact ak.out) hb); have n4_ := amk (Kd.R_below (by (with_reducible repeat (first | apply kra | apply krn | apply krd)); exact aa.out) hb); have n5_ := amk (Kd.R_below (by (with_reducible repeat (first | apply kra | apply krn | apply krd)); exact ab.out) hb); have n6_ := amk (Kd.R_below (by (with_reducible repeat (first | apply kra | apply krn | apply krd)); exact ac.out) hb); have n7_ := amk (Kd.R_below (by (with_reducible repeat (first | apply kra | apply krn | apply krd)); exact bX.out) hb); have n8_ := amk (Kd.R_below (by (with_reducible repeat (first | apply kra | apply krn | apply krd)); exact bY.out) hb); have n9_ := amk (Kd.R_below (by (with_reducible repeat (first | apply kra | apply krn | apply krd)); exact bZ.out) hb); have bl := amk (blk_below (g := aW) (o := .cells #[.slice bj l0_0.length bk] 33 (0, 0)) (by (with_reducible repeat (first | refine bkn ?_ _ | refine bkd ?_ | refine bka ?_ _)); exact aw.out) hb); have bm := amk (blk_below (g := aL) (o := .cells #[.slice aI aj.length aF, .slice aJ al.length aG, .slice aK am.length aH] 50 (0, 0)) (by (with_reducible repeat (first | refine bkn ?_ _ | refine bkd ?_ | refine bka ?_ _)); exact ai.out) hb); have bA := amk (blk_below (g := aU) (o := .cells #[.slice aD bo.length aC] 37 (0, 0)) (by (with_reducible repeat (first | refine bkn ?_ _ | refine bkd ?_ | refine bka ?_ _)); exact aA.out) hb); have cj := amk (blk_below (g := ae) (o := .cells #[.slice au bp.length ar, .slice ax bq.length av, .slice az br.length ay] 50 (0, 0)) (by (with_reducible repeat (first | refine bkn ?_ _ | refine bkd ?_ | refine bka ?_ _)); exact ad.out) hb); have ck := amk (blk_below (g := aq) (o := .cells #[.slice aQ aY.length aO, .slice aS aZ.length aR, .slice aV bc.length aT] 50 (0, 0)) (by (with_reducible repeat (first | refine bkn ?_ _ | refine bkd ?_ | refine bka ?_ _)); exact aP.out) hb); have cz := amk (below_step (by repeat (first | (with_reducible first | exact HB.out | apply below_alloc | apply pw_below_drewN | apply below_drew1 | refine bse ?_ aN.out | refine bse ?_ aX.out | refine bse ?_ bd.out | refine bse ?_ bi.out | refine bse ?_ cI.out) | exact HB.out)) hb); clear an; clear ao; clear ap; clear ak; clear aa; clear ab; clear ac; clear bX; clear bY; clear bZ; clear aw; clear ai; clear aA; clear ad; clear aP; clear HB; have an := n0_; have ao := n1_; have ap := n2_; have ak := n3_; have aa := n4_; have ab := n5_; have ac := n6_; have bX := n7_; have bY := n8_; have bZ := n9_; have aw := bl; have ai := bm; have aA := bA; have ad := cj; have aP := ck; have HB := cz; clear n0_ n1_ n2_ n3_ n4_ n5_ n6_ n7_ n8_ n9_ bl bm bA cj ck cz; (try clear hb); (try clear hb2); (try clear hk); (try clear hi)))
                go_ret
                exact ⟨by first | rfl | (simp [errW_none, errW_some] <;> rfl) | (simp [*, errW_none, errW_some] <;> rfl), by repeat (first | (with_reducible first | exact HB.out | apply below_alloc | apply pw_below_drewN | apply below_drew1 | refine bse ?_ aN.out | refine bse ?_ aX.out | refine bse ?_ bd.out | refine bse ?_ bi.out | refine bse ?_ cI.out) | exact HB.out)⟩
          ·
           rw [if_neg c104] at H
           have c104b0 : (bS == bJ) = false := beq_eq_false_iff_ne.mpr c104
           have c104b1 : (bS != bJ) = true := bne_iff_ne.mpr c104
           (try (have c104h_hl722000_63 := c104b0; rw [aB] at c104h_hl722000_63))
           obtain rfl := Option.some.inj H
           have hnb174 := bQ.out
           have hnc174 := bz.out
           have hnb175 := bK.out
           have hnc175 := bs.out
           have hnb176 := bL.out
           have hnc176 := bw.out
           have gc : wc.cell? ⟨ae, 0, none⟩ = some (.slice au af.length ar) := (blk_cell ad.out 0).trans rfl
           have gd : wc.cell? ⟨ae, 1, none⟩ = some (.slice ax ag.length av) := (blk_cell ad.out 1).trans rfl
           have ge : wc.cell? ⟨ae, 2, none⟩ = some (.slice az ah.length ay) := (blk_cell ad.out 2).trans rfl
           have hfz177_0 := blk_frozen ad.out 0
           have hfz177_1 := blk_frozen ad.out 1
           have hfz177_2 := blk_frozen ad.out 2
           go_wp2_with (first | ((with_reducible refine gate_callee (f := 42) rfl ?_); refine goesL_ (some 64) rfl rfl Try.func42 (by kernel_rfl) rfl #[.agg #[.slice au af.length ar, .slice ax ag.length av, .slice az ah.length ay], .int .i64 1] rfl (by (try simp only [List.map_toArray, List.map_cons, List.map_nil]); first | done | rfl | (simp only [List.length_drop, List.length_take]; rfl)) ?_; (with_reducible refine (laws_markJobs.calls bv (fun k_ => some k_ = (.slice au af.length ar : Value).ownBlock) (.slice au af.length ar) af (fun k_ => some k_ = (.slice ax ag.length av : Value).ownBlock) (.slice ax ag.length av) ag (fun k_ => some k_ = (.slice az ah.length ay : Value).ownBlock) (.slice az ah.length ay) ah 1 bJ bp bq br w _ ?ba ?bb ?bt ?bu ?bB ?bC ?bU ?bV ?bW ?bM A94.out).mono ?_); (case ba => repeat (first | (with_reducible first | exact HB.out | apply below_alloc | apply pw_below_drewN | apply below_drew1 | refine bse ?_ aN.out | refine bse ?_ aX.out | refine bse ?_ bd.out | refine bse ?_ bi.out) | exact HB.out)); (case bb => exact Kd.R_tight rfl aa.out); (case bt => exact fun k_ e_ => (aa.out.1 k_ e_.symm).2.2.2.2.1); (case bu => exact fun k_ e_ => (aa.out.1 k_ e_.symm).2.2.2.2.2); (case bB => exact Kd.R_tight rfl ab.out); (case bC => exact fun k_ e_ => (ab.out.1 k_ e_.symm).2.2.2.2.1); (case bU => exact fun k_ e_ => (ab.out.1 k_ e_.symm).2.2.2.2.2); (case bV => exact Kd.R_tight rfl ac.out); (case bW => exact fun k_ e_ => (ac.out.1 k_ e_.symm).2.2.2.2.1); (case bM => exact fun k_ e_ => (ac.out.1 k_ e_.symm).2.2.2.2.2); rintro e w178 ⟨rfl, hy0, hy1, hy2, hb, hkp⟩; refine ⟨_, rfl, ?_⟩; have n0_ := amk (Kd.R_mono (ok' := fun k_ => some k_ ≠ (.slice aJ al.length aG : Value).ownBlock ∧ some k_ ≠ (.slice aK am.length aH : Value).ownBlock ∧ some k_ ≠ (.slice aD bo.length aC : Value).ownBlock ∧ some k_ ≠ (.slice au af.length ar : Value).ownBlock ∧ some k_ ≠ (.slice ax ag.length av : Value).ownBlock ∧ some k_ ≠ (.slice az ah.length ay : Value).ownBlock) (Kd.R_keptB (an.out) hkp (fun k_ hk_ hs_ => Or.elim hs_ (fun e_ => (hk_.2.2.2.1) e_) (fun e_ => Or.elim e_ (fun e_ => (hk_.2.2.2.2.1) e_) (fun e_ => (hk_.2.2.2.2.2) e_)))) (fun k_ hk_ => ⟨hk_.1.1, hk_.1.2.1, hk_.1.2.2.1, hk_.1.2.2.2.1, hk_.1.2.2.2.2.1, hk_.1.2.2.2.2.2⟩)); have n1_ := amk (Kd.R_mono (ok' := fun k_ => some k_ ≠ (.slice aI aj.length aF : Value).ownBlock ∧ some k_ ≠ (.slice aK am.length aH : Value).ownBlock ∧ some k_ ≠ (.slice aD bo.length aC : Value).ownBlock ∧ some k_ ≠ (.slice au af.length ar : Value).ownBlock ∧ some k_ ≠ (.slice ax ag.length av : Value).ownBlock ∧ some k_ ≠ (.slice az ah.length ay : Value).ownBlock) (Kd.R_keptB (ao.out) hkp (fun k_ hk_ hs_ => Or.elim hs_ (fun e_ => (hk_.2.2.2.1) e_) (fun e_ => Or.elim e_ (fun e_ => (hk_.2.2.2.2.1) e_) (fun e_ => (hk_.2.2.2.2.2) e_)))) (fun k_ hk_ => ⟨hk_.1.1, hk_.1.2.1, hk_.1.2.2.1, hk_.1.2.2.2.1, hk_.1.2.2.2.2.1, hk_.1.2.2.2.2.2⟩)); have n2_ := amk (Kd.R_mono (ok' := fun k_ => some k_ ≠ (.slice aI aj.length aF : Value).ownBlock ∧ some k_ ≠ (.slice aJ al.length aG : Value).ownBlock ∧ some k_ ≠ (.slice aD bo.length aC : Value).ownBlock ∧ some k_ ≠ (.slice au af.length ar : Value).ownBlock ∧ some k_ ≠ (.slice ax ag.length av : Value).ownBlock ∧ some k_ ≠ (.slice az ah.length ay : Value).ownBlock) (Kd.R_keptB (ap.out) hkp (fun k_ hk_ hs_ => Or.elim hs_ (fun e_ => (hk_.2.2.2.1) e_) (fun e_ => Or.elim e_ (fun e_ => (hk_.2.2.2.2.1) e_) (fun e_ => (hk_.2.2.2.2.2) e_)))) (fun k_ hk_ => ⟨hk_.1.1, hk_.1.2.1, hk_.1.2.2.1, hk_.1.2.2.2.1, hk_.1.2.2.2.2.1, hk_.1.2.2.2.2.2⟩)); have n3_ := amk (Kd.R_mono (ok' := fun k_ => some k_ ≠ (.slice aI aj.length aF : Value).ownBlock ∧ some k_ ≠ (.slice aJ al.length aG : Value).ownBlock ∧ some k_ ≠ (.slice aK am.length aH : Value).ownBlock ∧ some k_ ≠ (.slice au af.length ar : Value).ownBlock ∧ some k_ ≠ (.slice ax ag.length av : Value).ownBlock ∧ some k_ ≠ (.slice az ah.length ay : Value).ownBlock) (Kd.R_keptB (ak.out) hkp (fun k_ hk_ hs_ => Or.elim hs_ (fun e_ => (hk_.2.2.2.1) e_) (fun e_ => Or.elim e_ (fun e_ => (hk_.2.2.2.2.1) e_) (fun e_ => (hk_.2.2.2.2.2) e_)))) (fun k_ hk_ => ⟨hk_.1.1, hk_.1.2.1, hk_.1.2.2.1, hk_.1.2.2.2.1, hk_.1.2.2.2.2.1, hk_.1.2.2.2.2.2⟩)); have n4_ := amk (Kd.R_reok rfl hy0 (fun k_ e_ => aa.out.1 k_ e_)); have n5_ := amk (Kd.R_reok rfl hy1 (fun k_ e_ => ab.out.1 k_ e_)); have n6_ := amk (Kd.R_reok rfl hy2 (fun k_ e_ => ac.out.1 k_ e_)); have n7_ := amk (blk_kept (by (with_reducible repeat (first | refine bkn ?_ _ | refine bkd ?_ | refine bka ?_ _)); exact aw.out) hkp (fun hs_ => Or.elim hs_ (fun e_ => (fun e_ => (Kd.R_ne aa.out aw.out (by decide)) e_) e_) (fun e_ => Or.elim e_ (fun e_ => (fun e_ => (Kd.R_ne ab.out aw.out (by decide)) e_) e_) (fun e_ => (fun e_ => (Kd.R_ne ac.out aw.out (by decide)) e_) e_)))); have n8_ := amk (blk_kept (by (with_reducible repeat (first | refine bkn ?_ _ | refine bkd ?_ | refine bka ?_ _)); exact ai.out) hkp (fun hs_ => Or.elim hs_ (fun e_ => (fun e_ => (Kd.R_ne aa.out ai.out (by decide)) e_) e_) (fun e_ => Or.elim e_ (fun e_ => (fun e_ => (Kd.R_ne ab.out ai.out (by decide)) e_) e_) (fun e_ => (fun e_ => (Kd.R_ne ac.out ai.out (by decide)) e_) e_)))); have n9_ := amk (blk_kept (by (with_reducible repeat (first | refine bkn ?_ _ | refine bkd ?_ | refine bka ?_ _)); exact aA.out) hkp (fun hs_ => Or.elim hs_ (fun e_ => (fun e_ => (Kd.R_ne aa.out aA.out (by decide)) e_) e_) (fun e_ => Or.elim e_ (fun e_ => (fun e_ => (Kd.R_ne ab.out aA.out (by decide)) e_) e_) (fun e_ => (fun e_ => (Kd.R_ne ac.out aA.out (by decide)) e_) e_)))); have bl := amk (blk_kept (by (with_reducible repeat (first | refine bkn ?_ _ | refine bkd ?_ | refine bka ?_ _)); exact ad.out) hkp (fun hs_ => Or.elim hs_ (fun e_ => (fun e_ => (Kd.R_ne aa.out ad.out (by decide)) e_) e_) (fun e_ => Or.elim e_ (fun e_ => (fun e_ => (Kd.R_ne ab.out ad.out (by decide)) e_) e_) (fun e_ => (fun e_ => (Kd.R_ne ac.out ad.out (by decide)) e_) e_)))); have bm := amk (hb); clear an; clear ao; clear ap; clear ak; clear aa; clear ab; clear ac; clear aw; clear ai; clear aA; clear ad; clear HB; have an := n0_; have ao := n1_; have ap := n2_; have ak := n3_; have aa := n4_; have ab := n5_; have ac := n6_; have aw := n7_; have ai := n8_; have aA := n9_; have ad := bl; have HB := bm; clear n0_ n1_ n2_ n3_ n4_ n5_ n6_ n7_ n8_ n9_ bl bm; (try clear hb); (try clear hkp); (try clear hy0); (try clear hy1); (try clear hy2); have gf : w178.cell? ⟨ae, 0, none⟩ = some (.slice au af.length ar) := (blk_cell ad.out 0).trans rfl; have gg : w178.cell? ⟨ae, 1, none⟩ = some (.slice ax ag.length av) := (blk_cell ad.out 1).trans rfl; have gh : w178.cell? ⟨ae, 2, none⟩ = some (.slice az ah.length ay) := (blk_cell ad.out 2).trans rfl; have hfz179_0 := blk_frozen ad.out 0; have hfz179_1 := blk_frozen ad.out 1; have hfz179_2 := blk_frozen ad.out 2) | ((with_reducible refine gate_callee (f := 43) rfl ?_); refine goesL_ (some 67) rfl rfl Try.func43 (by kernel_rfl) rfl #[.agg #[.slice au bp.length ar, .slice ax bq.length av, .slice az br.length ay], .int .i64 1] rfl (by (try simp only [List.map_toArray, List.map_cons, List.map_nil]); first | done | (rw [show bp.length = af.length from (Kd.R_reads' aa.out).1.symm, show bq.length = ag.length from (Kd.R_reads' ab.out).1.symm, show br.length = ah.length from (Kd.R_reads' ac.out).1.symm] <;> rfl) | rfl | (simp only [List.length_drop, List.length_take]; rfl)) ?_; (with_reducible refine (laws_heldJobs.calls bv _ _ bp _ _ bq _ _ br 1 bS _ ?ba ?bb ?bt ?bu ?bB ?bC A95.out).mono ?_); (case ba => repeat (first | exact (Kd.R_reads' aa.out).2.2 | (with_reducible refine Kd.C_alloc ?_ _) | (with_reducible refine Kd.C_drewN ?_ _) | (with_reducible refine Kd.C_drew ?_))); (case bb => rw [show bp.length = af.length from (Kd.R_reads' aa.out).1.symm]; exact (Kd.R_reads' aa.out).2.1); (case bt => repeat (first | exact (Kd.R_reads' ab.out).2.2 | (with_reducible refine Kd.C_alloc ?_ _) | (with_reducible refine Kd.C_drewN ?_ _) | (with_reducible refine Kd.C_drew ?_))); (case bu => rw [show bq.length = ag.length from (Kd.R_reads' ab.out).1.symm]; exact (Kd.R_reads' ab.out).2.1); (case bB => repeat (first | exact (Kd.R_reads' ac.out).2.2 | (with_reducible refine Kd.C_alloc ?_ _) | (with_reducible refine Kd.C_drewN ?_ _) | (with_reducible refine Kd.C_drew ?_))); (case bC => rw [show br.length = ah.length from (Kd.R_reads' ac.out).1.symm]; exact (Kd.R_reads' ac.out).2.1); rintro e w180 ⟨rfl, hb⟩; refine ⟨_, rfl, ?_⟩; have n0_ := amk (Kd.R_below (by (with_reducible repeat (first | apply kra | apply krn | apply krd)); exact an.out) hb); have n1_ := amk (Kd.R_below (by (with_reducible repeat (first | apply kra | apply krn | apply krd)); exact ao.out) hb); have n2_ := amk (Kd.R_below (by (with_reducible repeat (first | apply kra | apply krn | apply krd)); exact ap.out) hb); have n3_ := amk (Kd.R_below (by (with_reducible repeat (first | apply kra | apply krn | apply krd)); exact ak.out) hb); have n4_ := amk (Kd.R_below (by (with_reducible repeat (first | apply kra | apply krn | apply krd)); exact aa.out) hb); have n5_ := amk (Kd.R_below (by (with_reducible repeat (first | apply kra | apply krn | apply krd)); exact ab.out) hb); have n6_ := amk (Kd.R_below (by (with_reducible repeat (first | apply kra | apply krn | apply krd)); exact ac.out) hb); have n7_ := amk (blk_below (g := aW) (o := .cells #[.slice bj l0_0.length bk] 33 (0, 0)) (by (with_reducible repeat (first | refine bkn ?_ _ | refine bkd ?_ | refine bka ?_ _)); exact aw.out) hb); have n8_ := amk (blk_below (g := aL) (o := .cells #[.slice aI aj.length aF, .slice aJ al.length aG, .slice aK am.length aH] 50 (0, 0)) (by (with_reducible repeat (first | refine bkn ?_ _ | refine bkd ?_ | refine bka ?_ _)); exact ai.out) hb); have n9_ := amk (blk_below (g := aU) (o := .cells #[.slice aD bo.length aC] 37 (0, 0)) (by (with_reducible repeat (first | refine bkn ?_ _ | refine bkd ?_ | refine bka ?_ _)); exact aA.out) hb); have bl := amk (blk_below (g := ae) (o := .cells #[.slice au af.length ar, .slice ax ag.length av, .slice az ah.length ay] 50 (0, 0)) (by (with_reducible repeat (first | refine bkn ?_ _ | refine bkd ?_ | refine bka ?_ _)); exact ad.out) hb); have bm := amk (below_step (by repeat (first | (with_reducible first | exact HB.out | apply below_alloc | apply pw_below_drewN | apply below_drew1 | refine bse ?_ aN.out | refine bse ?_ aX.out | refine bse ?_ bd.out | refine bse ?_ bi.out) | exact HB.out)) hb); clear an; clear ao; clear ap; clear ak; clear aa; clear ab; clear ac; clear aw; clear ai; clear aA; clear ad; clear HB; have an := n0_; have ao := n1_; have ap := n2_; have ak := n3_; have aa := n4_; have ab := n5_; have ac := n6_; have aw := n7_; have ai := n8_; have aA := n9_; have ad := bl; have HB := bm; clear n0_ n1_ n2_ n3_ n4_ n5_ n6_ n7_ n8_ n9_ bl bm; (try clear hb); (try clear hb2); (try clear hk); (try clear hi)))
           go_ret
           exact ⟨by first | rfl | (simp [errW_none, errW_some] <;> rfl) | (simp [*, errW_none, errW_some] <;> rfl), by repeat (first | (with_reducible first | exact HB.out | apply below_alloc | apply pw_below_drewN | apply below_drew1 | refine bse ?_ aN.out | refine bse ?_ aX.out | refine bse ?_ bd.out | refine bse ?_ bi.out) | exact HB.out)⟩
     ·
      replace c62 := Bool.eq_false_iff.mpr c62
      subst c62
      have H1 : (some false) = some r := by rw [if_neg (show ¬ (false = true) by decide)] at H; exact H
      clear H
      have H := H1
      clear H1
      obtain rfl := Option.some.inj H
      try go_wp2
      have n0_ := amk (krd an.out)
      have n1_ := amk (krd ao.out)
      have n2_ := amk (krd ap.out)
      have n3_ := amk (krd ak.out)
      have n4_ := amk (krd aa.out)
      have n5_ := amk (krd ab.out)
      have n6_ := amk (krd ac.out)
      have n7_ := amk (bkd aw.out)
      have n8_ := amk (bkd ai.out)
      have n9_ := amk (bkd aA.out)
      have bl := amk (bkd ad.out)
      have bm := amk (below_drew1 HB.out)
      clear an
      clear ao
      clear ap
      clear ak
      clear aa
      clear ab
      clear ac
      clear aw
      clear ai
      clear aA
      clear ad
      clear HB
      have an := n0_
      have ao := n1_
      have ap := n2_
      have ak := n3_
      have aa := n4_
      have ab := n5_
      have ac := n6_
      have aw := n7_
      have ai := n8_
      have aA := n9_
      have ad := bl
      have HB := bm
      clear n0_ n1_ n2_ n3_ n4_ n5_ n6_ n7_ n8_ n9_ bl bm
      refine start_ (n := 5) (S := fun w' => w'.cell? ⟨aU, 0, none⟩ = some (.slice aD aE.length aC) ∧ w'.cell? ⟨aW, 0, none⟩ = some (.slice bj l0_0.length bk)) (ds := []) #[false, false, false, false, false] (by kernel_rfl) rfl rfl ⟨(blk_cell aA.out 0).trans rfl, (blk_cell aw.out 0).trans rfl⟩ (fun hHeld => ?_)
      generalize wc.drew = w181 at an ao ap ak aa ab ac aw ai aA ad HB hHeld ⊢
      refine take_ (i := 0) (N := some 41) (v := ?_) (a' := ?_) #[true, false, false, false, false] rfl rfl (by kernel_rfl) (fun _ _ _ h => h) (Or.inl ⟨by rfl, ?_⟩) hHeld ?_ ?_
      rotate_left
      ·
       rintro w' ⟨s0, s1⟩
       go_simp
       with_reducible rfl
      rotate_left
      ·
       simp only [Act.put, List.setIfInBounds_toArray, List.set_cons_zero, List.set_cons_succ, i64_w, i32_w]
       rfl
      refine take_ (i := 1) (N := some 42) (v := ?_) (a' := ?_) #[true, true, false, false, false] rfl rfl (by kernel_rfl) (fun _ _ _ h => h) (Or.inl ⟨by rfl, ?_⟩) hHeld ?_ ?_
      rotate_left
      ·
       rintro w' ⟨s0, s1⟩
       go_simp
       with_reducible rfl
      rotate_left
      ·
       simp only [Act.put, List.setIfInBounds_toArray, List.set_cons_zero, List.set_cons_succ, i64_w, i32_w]
       rfl
      refine one_ (i := 2) (N := some 43) #[true, true, true, false, false] rfl rfl (by kernel_rfl) (by decide) (fun K hK => ?_)
      refine goes_ Try.func23 (by kernel_rfl) rfl #[.agg #[.slice bj l0_0.length bk]] (by rfl) rfl rfl (by (try simp only [List.map_toArray, List.map_cons, List.map_nil]); first | done | rfl | (simp only [List.length_drop, List.length_take]; rfl)) ?_
      with_reducible refine (laws_toTasks.calls bx _ _ l0_0 ch _ ?ba ?bb A60.out).mono ?_
      (case ba => repeat (first | exact (Kd.C_below cR.out HB.out) | (with_reducible refine Kd.C_alloc ?_ _) | (with_reducible refine Kd.C_drewN ?_ _) | (with_reducible refine Kd.C_drew ?_)))
      (case bb => exact cS.out)
      rintro e w182 ⟨v735, rfl, ho0, hb⟩
      refine ⟨_, rfl, ?_⟩
      have n0_ := amk (Kd.R_elder' (by (with_reducible repeat (first | apply kra | apply krn | apply krd)); exact an.out) (Kd.R_base ho0) hb)
      have n1_ := amk (Kd.R_elder' (by (with_reducible repeat (first | apply kra | apply krn | apply krd)); exact ao.out) (Kd.R_base ho0) hb)
      have n2_ := amk (Kd.R_elder' (by (with_reducible repeat (first | apply kra | apply krn | apply krd)); exact ap.out) (Kd.R_base ho0) hb)
      have n3_ := amk (Kd.R_elder' (by (with_reducible repeat (first | apply kra | apply krn | apply krd)); exact ak.out) (Kd.R_base ho0) hb)
      have n4_ := amk (Kd.R_elder' (by (with_reducible repeat (first | apply kra | apply krn | apply krd)); exact aa.out) (Kd.R_base ho0) hb)
      have n5_ := amk (Kd.R_elder' (by (with_reducible repeat (first | apply kra | apply krn | apply krd)); exact ab.out) (Kd.R_base ho0) hb)
      have n6_ := amk (Kd.R_elder' (by (with_reducible repeat (first | apply kra | apply krn | apply krd)); exact ac.out) (Kd.R_base ho0) hb)
      have n7_ := amk (Kd.R_lower (Kd.R_new' (Kd.R_new' (Kd.R_new' (Kd.R_new' (Kd.R_new' (Kd.R_new' (Kd.R_new' ho0 (Kd.R_lt (by (with_reducible repeat (first | apply kra | apply krn | apply krd)); exact an.out))) (Kd.R_lt (by (with_reducible repeat (first | apply kra | apply krn | apply krd)); exact ao.out))) (Kd.R_lt (by (with_reducible repeat (first | apply kra | apply krn | apply krd)); exact ap.out))) (Kd.R_lt (by (with_reducible repeat (first | apply kra | apply krn | apply krd)); exact ak.out))) (Kd.R_lt (by (with_reducible repeat (first | apply kra | apply krn | apply krd)); exact aa.out))) (Kd.R_lt (by (with_reducible repeat (first | apply kra | apply krn | apply krd)); exact ab.out))) (Kd.R_lt (by (with_reducible repeat (first | apply kra | apply krn | apply krd)); exact ac.out))) (below_size (by repeat (first | (with_reducible first | exact HB.out | apply below_alloc | apply pw_below_drewN | apply below_drew1 | refine bse ?_ aN.out | refine bse ?_ aX.out | refine bse ?_ bd.out | refine bse ?_ bi.out) | exact HB.out))))
      have n8_ := amk (blk_below (g := aW) (o := .cells #[.slice bj l0_0.length bk] 33 (0, 0)) (by (with_reducible repeat (first | refine bkn ?_ _ | refine bkd ?_ | refine bka ?_ _)); exact aw.out) hb)
      have n9_ := amk (blk_below (g := aL) (o := .cells #[.slice aI aj.length aF, .slice aJ al.length aG, .slice aK am.length aH] 50 (0, 0)) (by (with_reducible repeat (first | refine bkn ?_ _ | refine bkd ?_ | refine bka ?_ _)); exact ai.out) hb)
      have bl := amk (blk_below (g := aU) (o := .cells #[.slice aD aE.length aC] 37 (0, 0)) (by (with_reducible repeat (first | refine bkn ?_ _ | refine bkd ?_ | refine bka ?_ _)); exact aA.out) hb)
      have bm := amk (blk_below (g := ae) (o := .cells #[.slice au af.length ar, .slice ax ag.length av, .slice az ah.length ay] 50 (0, 0)) (by (with_reducible repeat (first | refine bkn ?_ _ | refine bkd ?_ | refine bka ?_ _)); exact ad.out) hb)
      have bA := amk (below_step (by repeat (first | (with_reducible first | exact HB.out | apply below_alloc | apply pw_below_drewN | apply below_drew1 | refine bse ?_ aN.out | refine bse ?_ aX.out | refine bse ?_ bd.out | refine bse ?_ bi.out) | exact HB.out)) hb)
      clear an
      clear ao
      clear ap
      clear ak
      clear aa
      clear ab
      clear ac
      clear aw
      clear ai
      clear aA
      clear ad
      clear HB
      have an := n0_
      have ao := n1_
      have ap := n2_
      have ak := n3_
      have aa := n4_
      have ab := n5_
      have ac := n6_
      have cg := n7_
      have aw := n8_
      have ai := n9_
      have aA := bl
      have ad := bm
      have HB := bA
      clear n0_ n1_ n2_ n3_ n4_ n5_ n6_ n7_ n8_ n9_ bl bm bA
      (try clear hb)
      (try clear hb2)
      (try clear hk)
      (try clear hi)
      (try clear ho0)
      obtain ⟨fn, fo, eV⟩ := Kd.R_slice cg.out
      (first | subst eV | (injection eV with f1_ f2_ f3_; have f4_ := f1_.symm; have f5_ := f3_.symm; clear f1_ f2_ f3_; subst f4_; subst f5_))
      refine hK.out _ _ ⟨(blk_cell aA.out 0).trans rfl, (blk_cell aw.out 0).trans rfl⟩ (fun hHeld => ?_)
      clear hK K
      refine norm_ (a' := ?_) ?_ ?_
      rotate_left
      ·
       show Act.put _ (some 43) _ = _
       simp only [Act.put, List.setIfInBounds_toArray, List.set_cons_zero, List.set_cons_succ, i64_w, i32_w]
       rfl
      refine one_ (i := 3) (N := some 44) #[true, true, true, true, false] rfl rfl (by kernel_rfl) (by decide) (fun K hK => ?_)
      refine goes_ Try.func25 (by kernel_rfl) rfl #[.agg #[.slice aD aE.length aC], .agg #[.slice fn ch.length fo]] (by rfl) rfl rfl (by (try simp only [List.map_toArray, List.map_cons, List.map_nil]); first | done | rfl | (simp only [List.length_drop, List.length_take]; rfl)) ?_
      with_reducible refine (laws_eqTasks.calls bx _ _ aE _ _ ch false _ ?ba ?bb ?bt ?bu A61.out).mono ?_
      (case ba => repeat (first | exact (Kd.R_reads' ak.out).2.2 | (with_reducible refine Kd.C_alloc ?_ _) | (with_reducible refine Kd.C_drewN ?_ _) | (with_reducible refine Kd.C_drew ?_)))
      (case bb => exact (Kd.R_reads' ak.out).2.1)
      (case bt => repeat (first | exact (Kd.R_reads' cg.out).2.2 | (with_reducible refine Kd.C_alloc ?_ _) | (with_reducible refine Kd.C_drewN ?_ _) | (with_reducible refine Kd.C_drew ?_)))
      (case bu => exact (Kd.R_reads' cg.out).2.1)
      rintro e w184 ⟨rfl, hb⟩
      refine ⟨_, rfl, ?_⟩
      have n0_ := amk (Kd.R_below (by (with_reducible repeat (first | apply kra | apply krn | apply krd)); exact an.out) hb)
      have n1_ := amk (Kd.R_below (by (with_reducible repeat (first | apply kra | apply krn | apply krd)); exact ao.out) hb)
      have n2_ := amk (Kd.R_below (by (with_reducible repeat (first | apply kra | apply krn | apply krd)); exact ap.out) hb)
      have n3_ := amk (Kd.R_below (by (with_reducible repeat (first | apply kra | apply krn | apply krd)); exact ak.out) hb)
      have n4_ := amk (Kd.R_below (by (with_reducible repeat (first | apply kra | apply krn | apply krd)); exact aa.out) hb)
      have n5_ := amk (Kd.R_below (by (with_reducible repeat (first | apply kra | apply krn | apply krd)); exact ab.out) hb)
      have n6_ := amk (Kd.R_below (by (with_reducible repeat (first | apply kra | apply krn | apply krd)); exact ac.out) hb)
      have n7_ := amk (Kd.R_below (by (with_reducible repeat (first | apply kra | apply krn | apply krd)); exact cg.out) hb)
      have n8_ := amk (blk_below (g := aW) (o := .cells #[.slice bj l0_0.length bk] 33 (0, 0)) (by (with_reducible repeat (first | refine bkn ?_ _ | refine bkd ?_ | refine bka ?_ _)); exact aw.out) hb)
      have n9_ := amk (blk_below (g := aL) (o := .cells #[.slice aI aj.length aF, .slice aJ al.length aG, .slice aK am.length aH] 50 (0, 0)) (by (with_reducible repeat (first | refine bkn ?_ _ | refine bkd ?_ | refine bka ?_ _)); exact ai.out) hb)
      have bl := amk (blk_below (g := aU) (o := .cells #[.slice aD aE.length aC] 37 (0, 0)) (by (with_reducible repeat (first | refine bkn ?_ _ | refine bkd ?_ | refine bka ?_ _)); exact aA.out) hb)
      have bm := amk (blk_below (g := ae) (o := .cells #[.slice au af.length ar, .slice ax ag.length av, .slice az ah.length ay] 50 (0, 0)) (by (with_reducible repeat (first | refine bkn ?_ _ | refine bkd ?_ | refine bka ?_ _)); exact ad.out) hb)
      have bA := amk (below_step (by repeat (first | (with_reducible first | exact HB.out | apply below_alloc | apply pw_below_drewN | apply below_drew1 | refine bse ?_ aN.out | refine bse ?_ aX.out | refine bse ?_ bd.out | refine bse ?_ bi.out) | exact HB.out)) hb)
      clear an
      clear ao
      clear ap
      clear ak
      clear aa
      clear ab
      clear ac
      clear cg
      clear aw
      clear ai
      clear aA
      clear ad
      clear HB
      have an := n0_
      have ao := n1_
      have ap := n2_
      have ak := n3_
      have aa := n4_
      have ab := n5_
      have ac := n6_
      have cg := n7_
      have aw := n8_
      have ai := n9_
      have aA := bl
      have ad := bm
      have HB := bA
      clear n0_ n1_ n2_ n3_ n4_ n5_ n6_ n7_ n8_ n9_ bl bm bA
      (try clear hb)
      (try clear hb2)
      (try clear hk)
      (try clear hi)
      refine hK.out _ _ ⟨(blk_cell aA.out 0).trans rfl, (blk_cell aw.out 0).trans rfl⟩ (fun hHeld => ?_)
      clear hK K
      refine norm_ (a' := ?_) ?_ ?_
      rotate_left
      ·
       show Act.put _ (some 44) _ = _
       simp only [Act.put, List.setIfInBounds_toArray, List.set_cons_zero, List.set_cons_succ, i64_w, i32_w]
       rfl
      refine pure_ (i := 4) (N := some 45) (v := ?_) (a' := ?_) #[true, true, true, true, true] rfl rfl (by kernel_rfl) (fun _ _ _ h => h) (Or.inl ⟨by rfl, ?_⟩) ?_ ?_
      rotate_left
      ·
       intro w'
       go_simp
       with_reducible rfl
      rotate_left
      ·
       simp only [Act.put, List.setIfInBounds_toArray, List.set_cons_zero, List.set_cons_succ, i64_w, i32_w]
       rfl
      refine done_ (by kernel_rfl) ?_
      try go_wp2
      go_ret
      exact ⟨by first | rfl | (simp [errW_none, errW_some] <;> rfl) | (simp [*, errW_none, errW_some] <;> rfl), by repeat (first | (with_reducible first | exact HB.out | apply below_alloc | apply pw_below_drewN | apply below_drew1 | refine bse ?_ aN.out | refine bse ?_ aX.out | refine bse ?_ bd.out | refine bse ?_ bi.out) | exact HB.out)⟩

/-- THE ONE PURE STATEMENT of laws_FnExactJobsOfTasks: yours. -/
def laws_FnExactJobsOfTasks.Pure : Prop := ∀ (l0_0 : List Int), l0_0.length ≤ maxLen → (∀ x ∈ l0_0, (Lit.int .i64 x).wf = true) → ∃ k, laws_FnExactJobsOfTasks.f k l0_0 = some true
theorem laws_FnExactJobsOfTasks.walk (P : laws_FnExactJobsOfTasks.Pure) (a0_0 : Option Addr) (dC cQ : Nat) (z0_0 : List Int) (w : World) (w0_0 : (a0_0 = none ∧ dC = 0 ∧ cQ = 0 ∧ z0_0 = []) ∨ ∃ x, a0_0 = some x ∧ dC ≤ cQ ∧ cQ ≤ maxLen ∧ z0_0.length = cQ ∧ (∀ i, i < z0_0.length → w.cell? (x.add i) = some (.int .i64 (z0_0.getD i 0))) ∧ ∀ n ∈ z0_0, (Lit.int .i64 n).wf = true) :
  Calls Try.prog 10 #[.agg #[.slice a0_0 dC cQ]] w fun e w' => e = .returned (.bool true) ∧ Below w.heap.size w w' := by
 obtain ⟨l0_0, rfl, dy, fp, fq, dz⟩ := ReadsInt.ofRowC w0_0
 obtain ⟨k, h⟩ := P l0_0 fp fq
 refine (laws_FnExactJobsOfTasks.calls k _ _ l0_0 true w (Kd.C_of_reads (d := (0 : Int)) (h1 := fun _ => rfl) dy) dz h).mono ?_
 rintro e w' ⟨rfl, hd⟩
 exact ⟨rfl, hd⟩

end Go.Proofs.Ytfephoddgifapaa.X
