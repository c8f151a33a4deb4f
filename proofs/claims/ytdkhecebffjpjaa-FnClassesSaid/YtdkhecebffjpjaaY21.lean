import Derived.Test.YtdkhecebffjpjaaU
import Derived.Test.YtdkhecebffjpjaaY0
import Derived.Test.YtdkhecebffjpjaaY8
import Derived.Test.YtdkhecebffjpjaaY19
import Derived.Test.YtdkhecebffjpjaaY20
namespace Go.Proofs.Ytdkhecebffjpjaa.X
open Go.RowKit Go.Proofs.YtdkhecebffjpjaaW.PrintWords Go.Proofs.YtdkhecebffjpjaaW.PrintLast Go.Proofs.YtdkhecebffjpjaaW.PrintMore
attribute [local go_sem] max2_int min2_int max_two min_two max_three min_three max_four min_four
set_option linter.unusedVariables false
set_option linter.unusedSimpArgs false
/-! ### impl_ClassesOfTurns_2: function 53, by hand -/
set_option maxHeartbeats 4000000 in
theorem gap40 (l : List S40) (w : World) : PredC 53 #[] (fun c => decide (c.f1 ≤ 40)) l w := by
 intro W y _ _
 have hu40 := Try.underlying40
 have HB := am (Below.refl W.heap.size W)
 go_enter Try.func53, Try.ntmps53
 go_wp2
 go_ret
 exact ⟨rfl, kB HB⟩
def impl_ClassesOfTurns_2.f (l0 : List S40) : Option Bool := some (l0.all fun c => decide (c.f1 ≤ 40))
theorem gap_at (A0 : Option Addr) (c0 : Nat) (l0 : List S40) (r : Bool) (w : World) (hr : Kd.C k40 w A0 l0.length l0) (h : impl_ClassesOfTurns_2.f l0 = some r) :
  Calls Try.prog 41 #[.slice A0 l0.length c0, .func (.func 53) #[] #[]] w fun e w' => e = .returned (.bool r) ∧ Below w.heap.size w w' := by
 obtain rfl := Option.some.inj h
 exact cAreAll_at 53 #[] (enters_of Try.func53 (by kernel_rfl) rfl) _ A0 c0 l0 w hr (gap40 l0 w)
/-! ### impl_ClassesOfTurns: function 21 -/
mutual
def impl_ClassesOfTurns.j0 : Nat → List Int → Int → Bool → Option ((List (S40)) × Int)
 | 0, _, _, _ => none
 | k + 1, x0, x1, x17 => if x17 = true then (some (([] : List (S40)), 2)) else (impl_ClassesOfTurns.l0 k x0 ([] : List (S40)) x1 0)
def impl_ClassesOfTurns.l0 : Nat → List Int → List (S40) → Int → Int → Option ((List (S40)) × Int)
 | 0, _, _, _, _ => none
 | k + 1, x0, x6, x18, x19 => if x19 < x18 then ((impl_waits.f k x0 x19).bind fun t459 => (if (t459.length : Int) = 0 then (some (([] : List (S40)), 4)) else ((impl_ClassesOfTurns_1.f t459 t459).bind fun t463 => (if t463 = true then ((slices_Index_int64_int64.f k x0 x19).bind fun t464 => (if 0 < (t459.length : Int) then (if x6.length < 8796093022208 then (impl_ClassesOfTurns.l0 k x0 (x6 ++ [(⟨t464, rd t459 0⟩ : S40)]) x18 (wrap64 (x19 + 1))) else (none)) else (none))) else (some (([] : List (S40)), 4)))))) else ((impl_ClassesOfTurns_2.f x6).bind fun t458 => (if t458 = true then (some (x6, 0)) else (some (([] : List (S40)), 3))))
end
def impl_ClassesOfTurns.f (k : Nat) (l0 : List Int) (a1 : Int) : Option ((List (S40)) × Int) := (impl_within.f a1 1 8).bind fun t456 => (if t456 = true then ((impl_areTurns.f l0 a1).bind fun t457 => (impl_ClassesOfTurns.j0 k l0 a1 (!t457))) else (impl_ClassesOfTurns.j0 k l0 a1 true))
theorem impl_ClassesOfTurns.mono_l : ∀ k, (∀ y0 y1 y2, LeO (impl_ClassesOfTurns.j0 k y0 y1 y2) (impl_ClassesOfTurns.j0 (k + 1) y0 y1 y2)) ∧ (∀ y0 y1 y2 y3, LeO (impl_ClassesOfTurns.l0 k y0 y1 y2 y3) (impl_ClassesOfTurns.l0 (k + 1) y0 y1 y2 y3))
 | 0 => ⟨fun _ _ _ r h => by simp [impl_ClassesOfTurns.j0] at h, fun _ _ _ _ r h => by simp [impl_ClassesOfTurns.l0] at h⟩
 | k + 1 => by
  obtain ⟨ih0, ih1⟩ := impl_ClassesOfTurns.mono_l k
  refine ⟨?_, ?_⟩
  ·intro y0 y1 y2
   unfold impl_ClassesOfTurns.j0
   repeat' first
   | with_reducible first | exact ih0 _ _ _ | exact ih1 _ _ _ _ | exact impl_waits.mono _ _ _ | exact slices_Index_int64_int64.mono _ _ _ | exact LeO.refl _ | exact LeO.none _ | refine LeO.ite ?_ ?_ | refine LeO.bind ?_ (fun _ => ?_)
   | exact ih0 _ _ _
   | exact ih1 _ _ _ _
   | exact impl_waits.mono _ _ _
   | exact slices_Index_int64_int64.mono _ _ _
   | exact LeO.none _
   | refine LeO.ite ?_ ?_
   | refine LeO.bind ?_ (fun _ => ?_)
  ·intro y0 y1 y2 y3
   unfold impl_ClassesOfTurns.l0
   repeat' first
   | with_reducible first | exact ih0 _ _ _ | exact ih1 _ _ _ _ | exact impl_waits.mono _ _ _ | exact slices_Index_int64_int64.mono _ _ _ | exact LeO.refl _ | exact LeO.none _ | refine LeO.ite ?_ ?_ | refine LeO.bind ?_ (fun _ => ?_)
   | exact ih0 _ _ _
   | exact ih1 _ _ _ _
   | exact impl_waits.mono _ _ _
   | exact slices_Index_int64_int64.mono _ _ _
   | exact LeO.none _
   | refine LeO.ite ?_ ?_
   | refine LeO.bind ?_ (fun _ => ?_)
theorem impl_ClassesOfTurns.mono : ∀ a0 a1 k, LeO (impl_ClassesOfTurns.f k a0 a1) (impl_ClassesOfTurns.f (k + 1) a0 a1) := by
 intro a0 a1 k
 obtain ⟨ih0, ih1⟩ := impl_ClassesOfTurns.mono_l k
 unfold impl_ClassesOfTurns.f
 repeat' first
   | with_reducible first | exact ih0 _ _ _ | exact ih1 _ _ _ _ | exact impl_waits.mono _ _ _ | exact slices_Index_int64_int64.mono _ _ _ | exact LeO.refl _ | exact LeO.none _ | refine LeO.ite ?_ ?_ | refine LeO.bind ?_ (fun _ => ?_)
   | exact ih0 _ _ _
   | exact ih1 _ _ _ _
   | exact impl_waits.mono _ _ _
   | exact slices_Index_int64_int64.mono _ _ _
   | exact LeO.none _
   | refine LeO.ite ?_ ?_
   | refine LeO.bind ?_ (fun _ => ?_)
def impl_ClassesOfTurns.T10 : Bool × List (List Nat × List Nat) := (true, [([], []), ([], []), ([], []), ([1, 2], [1, 2]), ([], []), ([4], [4]), ([5], [5]), ([3, 6], [3, 6]), ([7], [7]), ([0, 8, 3], [0, 8]), ([9, 9, 0, 1, 2, 3, 4, 5, 6, 7, 8, 9], [0, 9])])
def impl_ClassesOfTurns.B10 : List Nat := [0, 0, 0, 6, 0, 16, 48, 126, 254, 511, 1023]
theorem impl_ClassesOfTurns.tab10 : rtab .any (opsOf Try.f21 10) = impl_ClassesOfTurns.T10 := by kernel_rfl
theorem impl_ClassesOfTurns.bits10 : waitsOk impl_ClassesOfTurns.T10.2 impl_ClassesOfTurns.B10 = true := by kernel_rfl
set_option maxHeartbeats 8000000 in
set_option maxRecDepth 100000 in
theorem impl_ClassesOfTurns.calls (k : Nat) (A0 : Option Addr) (c0 : Nat) (l0 : List Int) (a1 : Int) (r1 : List (S40)) (r2 : Int) (w : World) (hr0 : Kd.C (Kd.int .i64) w A0 l0.length l0) (hc0 : l0.length ≤ c0) (h : impl_ClassesOfTurns.f k l0 a1 = some (r1, r2)) :
  Calls Try.prog 21 #[.slice A0 l0.length c0, .int .i64 a1] w fun e w' => ∃ v0_ : Value, e = .returned (.tuple #[v0_, .int .i64 r2]) ∧ Kd.R k40 40 w' w.heap.size (fun _ => True) v0_ r1 ∧ Below w.heap.size w w' := by
 have hu40 := Try.underlying40
 have HR0 := am hr0
 have HC0 := am hc0
 clear hr0 hc0
 have HB := am (Below.refl w.heap.size w)
 have H : ((impl_within.f a1 1 8).bind fun t456 => (if t456 = true then ((impl_areTurns.f l0 a1).bind fun t457 => (impl_ClassesOfTurns.j0 k l0 a1 (!t457))) else (impl_ClassesOfTurns.j0 k l0 a1 true))) = some (r1, r2) := h
 clear h
 have HC3 := am H
 clear H
 go_enter Try.func21, Try.ntmps21
 go_upto_region 1 with (fail)
 go_cut [17] (fun v17 wc => ∃ (kq : Nat) (x17_2 : Bool), v17 = .bool x17_2 ∧ Aside0 (impl_ClassesOfTurns.j0 kq l0 a1 x17_2 = some (r1, r2)) ∧ Aside0 (kq ≤ k) ∧ Aside0 (Below w.heap.size w wc))
 case first =>
  have H := HC3.out
  clear HC3
  replace H := Option.bind_eq_some_iff.mp H
  obtain ⟨t456, A40, H⟩ := H
  try dsimp only at H
  have A4 := am A40
  clear A40
  by_cases c5 : t456 = true
  ·subst c5
   rw [if_pos rfl] at H
   replace H := Option.bind_eq_some_iff.mp H
   obtain ⟨t457, A60, H⟩ := H
   try dsimp only at H
   have A6 := am A60
   clear A60
   have H' := am H
   clear H
   go_wp2_with (first | ((with_reducible refine gate_callee (f := 45) rfl ?_); refine goesL_ (some 10) rfl rfl Try.func45 (by kernel_rfl) rfl #[.int .i64 a1, .int .i64 1, .int .i64 8] rfl kA ?_; (with_reducible refine (impl_within.calls a1 1 8 true _ A4.out).mono ?_); rintro e w' ⟨rfl, ⟨nd, rfl⟩⟩; refine ⟨_, rfl, ?_⟩) | (go_at_call 48; (with_reducible refine (impl_areTurns.calls _ _ l0 a1 t457 _ ?side1 ?side2 A6.out).mono ?_); (case side1 => exact kC (Kd.C_below HR0.out (kB HB))); (case side2 => exact HC0.out); rintro e w7 ⟨rfl, hb⟩; have n0_ := am (below_step (kB HB) hb); clear HB; have HB := n0_; clear n0_; (try clear hb); (try clear hb2); (try clear hk); (try clear hi)))
   go_meet
   case rel => exact ⟨_, (!t457), (by first | rfl | (simp; done) | (simp [*]; done)), H', ⟨by first | omega | exact Nat.le_refl _⟩, ⟨kB HB⟩⟩
  ·replace c5 := Bool.eq_false_iff.mpr c5
   subst c5
   rw [if_neg (show ¬ (false = true) by decide)] at H
   have H' := am H
   clear H
   go_wp2_with (first | ((with_reducible refine gate_callee (f := 45) rfl ?_); refine goesL_ (some 10) rfl rfl Try.func45 (by kernel_rfl) rfl #[.int .i64 a1, .int .i64 1, .int .i64 8] rfl kA ?_; (with_reducible refine (impl_within.calls a1 1 8 false _ A4.out).mono ?_); rintro e w' ⟨rfl, ⟨nd, rfl⟩⟩; refine ⟨_, rfl, ?_⟩))
   go_meet
   case rel => exact ⟨_, (true), (by first | rfl | (simp; done) | (simp [*]; done)), H', ⟨by first | omega | exact Nat.le_refl _⟩, ⟨kB HB⟩⟩
 case rest =>
  clear HC3
  obtain ⟨kq, x17_2, rfl, HA, HJ2, HB⟩ := hcut
  cases kq with
  | zero => exact absurd HA.out (by simp [impl_ClassesOfTurns.j0])
  | succ kj2 =>
   have H := HA.out
   clear HA
   simp only [impl_ClassesOfTurns.j0] at H
   by_cases c8 : x17_2 = true
   ·subst c8
    rw [if_pos rfl] at H
    simp only [Option.some.injEq, Prod.mk.injEq] at H
    obtain ⟨rfl, rfl⟩ := H
    go_wp2
    go_ret2
    exact ⟨_, by first | rfl | (simp [errW_none, errW_some] <;> rfl) | (simp [*, errW_none, errW_some] <;> rfl), by first | exact Kd.R_nil _ _ _ _ _ | exact Kd.N_nil _ _ _ _ _ | exact Kd.V_nil _ _ _ _ _ | exact Kd.Q_nil _ _ _ _ _ | exact Kd.S_nil _ _ _ _ _, kB HB⟩
   ·replace c8 := Bool.eq_false_iff.mpr c8
    subst c8
    rw [if_neg (show ¬ (false = true) by decide)] at H
    have H' := am H
    clear H
    go_wp2
    go_loopg [6, 19] kj2 (fun kq v6 v19 w' => ∃ (x6_2 : List (S40)) (x19_2 : Int), v19 = .int .i64 x19_2 ∧ Aside0 (impl_ClassesOfTurns.l0 kq l0 x6_2 a1 x19_2 = some (r1, r2)) ∧ Aside0 (kq ≤ kj2) ∧ Aside0 (Kd.R k40 40 w' w.heap.size (fun _ => True) v6 x6_2) ∧ Aside0 (Below w.heap.size w w'))
    case atStart => exact ⟨(([] : List (S40))), (0), (by first | rfl | (simp; done) | (simp [*]; done)), H', ⟨Nat.le_refl _⟩, ⟨by first | exact Kd.R_nil _ _ _ _ _ | exact Kd.N_nil _ _ _ _ _ | exact Kd.V_nil _ _ _ _ _ | exact Kd.Q_nil _ _ _ _ _ | exact Kd.S_nil _ _ _ _ _⟩, ⟨kB HB⟩⟩
    case round =>
     clear H'
     try clear c8
     obtain ⟨x6_2, x19_2, rfl, HA, HK2, HO_6, HB⟩ := hrel
     cases gk with
     | zero => exact absurd HA.out (by simp [impl_ClassesOfTurns.l0])
     | succ k2 =>
      have H := HA.out
      clear HA
      simp only [impl_ClassesOfTurns.l0] at H
      by_cases c9 : x19_2 < a1
      ·rw [if_pos c9] at H
       have c9b0 : decide (x19_2 < a1) = true := decide_eq_true c9
       clear c9
       replace H := Option.bind_eq_some_iff.mp H
       obtain ⟨t459, A100, H⟩ := H
       try dsimp only at H
       have A10 := am A100
       clear A100
       by_cases c11 : (t459.length : Int) = 0
       ·rw [if_pos c11] at H
        have c11b0 : ((t459.length : Int) == 0) = true := beq_iff_eq.mpr c11
        have c11b1 : ((t459.length : Int) != 0) = false := bne_eq_false_iff_eq.mpr c11
        clear c11
        simp only [Option.some.injEq, Prod.mk.injEq] at H
        obtain ⟨rfl, rfl⟩ := H
        go_wp2_with (first | ((with_reducible refine gate_callee (f := 49) rfl ?_); refine goesL_ (some 24) rfl rfl Try.func49 (by kernel_rfl) rfl #[.slice A0 l0.length c0, .int .i64 x19_2] rfl kA ?_; (with_reducible refine (impl_waits.calls k2 _ _ l0 x19_2 t459 _ ?side1 ?side2 A10.out).mono ?_); (case side1 => exact kC (Kd.C_below HR0.out HB.out)); (case side2 => exact HC0.out); rintro e w12 ⟨v460, rfl, ho0, hb⟩; refine ⟨_, rfl, ?_⟩; have n0_ := am (Kd.R_below (kR HO_6) hb); have n1_ := am (Kd.R_lower ho0 (below_size (kB HB))); have n2_ := am (below_step (kB HB) hb); clear HO_6 HB; have HO_6 := n0_; have HO461 := n1_; have HB := n2_; clear n0_ n1_ n2_; (try clear hb); (try clear hb2); (try clear hk); (try clear hi); (try clear ho0)) | ((with_reducible refine gate_dst (N := 8) rfl ?_); refine box_event ?hg (N := 8) ?hd (cs := #[.slice none 0 0]) (t := 26) ?hr ?_; (case hd => rfl); (case hg => rfl); (case hr => first | (go_simp; done) | (go_simp; rfl)); intro gb462 hg w13 hbox hb; have n0_ := am (Kd.R_below (kR HO_6) hb); have n1_ := am (Kd.R_below (kR HO461) hb); have n2_ := am (below_step (kB HB) hb); have n3_ := am (hbox); have n4_ := am ((by rw [hg]; exact (below_size (kB HB)) : w.heap.size ≤ gb462)); have n5_ := am ((by rw [hg]; exact (below_size (kB HB)) : w.heap.size ≤ gb462)); clear HO_6 HO461 HB; have HO_6 := n0_; have HO461 := n1_; have HB := n2_; have BK462 := n3_; have GW462 := n4_; have GE462 := n5_; clear n0_ n1_ n2_ n3_ n4_ n5_ hb hbox hg; obtain ⟨Ao14, co14, eo14⟩ := Kd.R_slice HO461.out; subst eo14; have hcz15_0 : w13.cell? ⟨gb462, 0, none⟩ = some (.slice none 0 0) := (blk_cell BK462.out 0).trans rfl; have hfz15_0 := blk_frozen BK462.out 0))
        go_ret2
        exact ⟨_, by first | rfl | (simp [errW_none, errW_some] <;> rfl) | (simp [*, errW_none, errW_some] <;> rfl), by first | exact Kd.R_nil _ _ _ _ _ | exact Kd.N_nil _ _ _ _ _ | exact Kd.V_nil _ _ _ _ _ | exact Kd.Q_nil _ _ _ _ _ | exact Kd.S_nil _ _ _ _ _, kB1 HB GE462.out⟩
       ·rw [if_neg c11] at H
        have c11b0 : ((t459.length : Int) == 0) = false := beq_eq_false_iff_ne.mpr c11
        have c11b1 : ((t459.length : Int) != 0) = true := bne_iff_ne.mpr c11
        have c11b2 : ¬ (t459 = []) := fun h_ => c11 (by rw [h_]; rfl)
        replace H := Option.bind_eq_some_iff.mp H
        obtain ⟨t463, A160, H⟩ := H
        try dsimp only at H
        have A16 := am A160
        clear A160
        by_cases c17 : t463 = true
        ·subst c17
         rw [if_pos rfl] at H
         replace H := Option.bind_eq_some_iff.mp H
         obtain ⟨t464, A180, H⟩ := H
         try dsimp only at H
         have A18 := am A180
         clear A180
         by_cases c19 : 0 < (t459.length : Int)
         ·rw [if_pos c19] at H
          have c19b0 : decide (0 < (t459.length : Int)) = true := decide_eq_true c19
          have c19b1 : decide (0 < t459.length) = true := decide_eq_true (by omega)
          clear c19
          by_cases c20 : x6_2.length < 8796093022208
          ·rw [if_pos c20] at H
           have LMc20 := am c20
           clear c20
           obtain ⟨y466, hy466⟩ : ∃ y_ : List (S40), y_ = (x6_2 ++ [(⟨t464, rd t459 0⟩ : S40)]) := ⟨_, rfl⟩
           replace H : (impl_ClassesOfTurns.l0 k2 l0 y466 a1 (wrap64 (x19_2 + 1))) = some (r1, r2) := by first | (rw [hy466]; with_reducible exact H) | (have H2_ := (Option.bind_some _ _).symm.trans H; rw [hy466]; with_reducible exact H2_) | (have H2_ := (Option.bind_some _ _).symm.trans H; with_reducible exact H2_) | with_reducible exact H | (rw [hy466]; exact H) | exact H
           have Ny466 := am hy466
           clear hy466
           have H' := am H
           clear H
           try go_wp2_with (first | ((with_reducible refine gate_callee (f := 49) rfl ?_); refine goesL_ (some 24) rfl rfl Try.func49 (by kernel_rfl) rfl #[.slice A0 l0.length c0, .int .i64 x19_2] rfl kA ?_; (with_reducible refine (impl_waits.calls k2 _ _ l0 x19_2 t459 _ ?side1 ?side2 A10.out).mono ?_); (case side1 => exact kC (Kd.C_below HR0.out HB.out)); (case side2 => exact HC0.out); rintro e w21 ⟨v460, rfl, ho0, hb⟩; refine ⟨_, rfl, ?_⟩; have n0_ := am (Kd.R_below (kR HO_6) hb); have n1_ := am (Kd.R_lower ho0 (below_size (kB HB))); have n2_ := am (below_step (kB HB) hb); clear HO_6 HB; have HO_6 := n0_; have HO461 := n1_; have HB := n2_; clear n0_ n1_ n2_; (try clear hb); (try clear hb2); (try clear hk); (try clear hi); (try clear ho0)) | ((with_reducible refine gate_dst (N := 8) rfl ?_); refine box_event ?hg (N := 8) ?hd (cs := #[.slice none 0 0]) (t := 26) ?hr ?_; (case hd => rfl); (case hg => rfl); (case hr => first | (go_simp; done) | (go_simp; rfl)); intro gb462 hg w22 hbox hb; have n0_ := am (Kd.R_below (kR HO_6) hb); have n1_ := am (Kd.R_below (kR HO461) hb); have n2_ := am (below_step (kB HB) hb); have n3_ := am (hbox); have n4_ := am ((by rw [hg]; exact (below_size (kB HB)) : w.heap.size ≤ gb462)); have n5_ := am ((by rw [hg]; exact (below_size (kB HB)) : w.heap.size ≤ gb462)); clear HO_6 HO461 HB; have HO_6 := n0_; have HO461 := n1_; have HB := n2_; have BK462 := n3_; have GW462 := n4_; have GE462 := n5_; clear n0_ n1_ n2_ n3_ n4_ n5_ hb hbox hg; obtain ⟨Ao23, co23, eo23⟩ := Kd.R_slice HO461.out; subst eo23; have hcz24_0 : w22.cell? ⟨gb462, 0, none⟩ = some (.slice none 0 0) := (blk_cell BK462.out 0).trans rfl; have hfz24_0 := blk_frozen BK462.out 0) | (go_at_call 50; refine (same_at Ao23 co23 t459 Ao23 co23 t459 true gb462 _ ?side1 ?side3 ?side7 A16.out).mono ?_; (case side1 => refine (Kd.R_reads' (e := 2) (base := w.heap.size) (ok := fun k_ => True) (n := t459.length) (c := co23) ?_).2.2; exact (by (with_reducible repeat (first | apply Kd.R_alloc | apply Kd.R_drewN | apply Kd.R_drew)); exact (Kd.R_mono (Kd.R_far (p := ⟨gb462, 0, none⟩) (Kd.R_types HO461.out BK462.out (by decide)) (fun _ hk => hk.2) (.slice Ao23 t459.length co23)) (fun _ h_ => h_.1)))); (case side3 => refine (Kd.R_reads' (e := 2) (base := w.heap.size) (ok := fun k_ => True) (n := t459.length) (c := co23) ?_).2.2; exact (by (with_reducible repeat (first | apply Kd.R_alloc | apply Kd.R_drewN | apply Kd.R_drew)); exact (Kd.R_mono (Kd.R_far (p := ⟨gb462, 0, none⟩) (Kd.R_types HO461.out BK462.out (by decide)) (fun _ hk => hk.2) (.slice Ao23 t459.length co23)) (fun _ h_ => h_.1)))); (case side7 => exact (blk_cell (g := gb462) (cs := #[.slice Ao23 t459.length co23]) (t := 26) (by (with_reducible repeat (first | refine blk_drewN ?_ _ | refine blk_drew ?_ | refine blk_alloc ?_ _)); refine blk_put (cs := #[.slice none 0 0]) ?_ 0 _ rfl; (with_reducible repeat (first | refine blk_drewN ?_ _ | refine blk_drew ?_ | refine blk_alloc ?_ _)); exact BK462.out) 0).trans rfl); rintro e w25 ⟨rfl, hb⟩; have n0_ := am (Kd.R_below (by (with_reducible repeat (first | apply Kd.R_alloc | apply Kd.R_drewN | apply Kd.R_drew)); exact (Kd.R_mono (Kd.R_far (p := ⟨gb462, 0, none⟩) (Kd.R_types HO_6.out BK462.out (by decide)) (fun _ hk => hk.2) (.slice Ao23 t459.length co23)) (fun _ h_ => h_.1))) hb); have n1_ := am (Kd.R_below (by (with_reducible repeat (first | apply Kd.R_alloc | apply Kd.R_drewN | apply Kd.R_drew)); exact (Kd.R_mono (Kd.R_far (p := ⟨gb462, 0, none⟩) (Kd.R_types HO461.out BK462.out (by decide)) (fun _ hk => hk.2) (.slice Ao23 t459.length co23)) (fun _ h_ => h_.1))) hb); have n2_ := am (blk_below (g := gb462) (o := .cells #[.slice Ao23 t459.length co23] 26 (0, 0)) (by (with_reducible repeat (first | refine blk_drewN ?_ _ | refine blk_drew ?_ | refine blk_alloc ?_ _)); refine blk_put (cs := #[.slice none 0 0]) ?_ 0 _ rfl; (with_reducible repeat (first | refine blk_drewN ?_ _ | refine blk_drew ?_ | refine blk_alloc ?_ _)); exact BK462.out) hb); have n3_ := am (below_step (kB1 HB GE462.out) hb); clear HO_6 HO461 BK462 HB; have HO_6 := n0_; have HO461 := n1_; have BK462 := n2_; have HB := n3_; clear n0_ n1_ n2_ n3_; (try clear hb); (try clear hb2); (try clear hk); (try clear hi)))
           have n0_ := am (Kd.R_drew HO_6.out)
           have n1_ := am (Kd.R_drew HO461.out)
           have n2_ := am (blk_drew BK462.out)
           have n3_ := am (below_drew1 HB.out)
           clear HO_6
           clear HO461
           clear BK462
           clear HB
           have HO_6 := n0_
           have HO461 := n1_
           have BK462 := n2_
           have HB := n3_
           clear n0_ n1_ n2_ n3_
           have p465 : 0 ≤ (0 : Int) := (by omega)
           have q465 : 0 < (t459.length : Int) := of_decide_eq_true kM
           obtain ⟨ad465, e465, hx465_0⟩ := Kd.at_int (Kd.R_reads' HO461.out).2.2 0 p465 q465
           cases e465
           have qi465 : (0 < t459.length) = True := eq_true (by omega)
           (try rw [show ((0 : Int)).toNat = 0 from rfl] at hx465_0)
           (try rw [Addr.add_zero'] at hx465_0)
           replace p465 := eq_true p465
           replace q465 := eq_true q465
           refine start_ (n := 11) (S := fun w' => w'.cell? ⟨gb462, 0, none⟩ = some (.slice (some ad465) t459.length co23) ∧ w'.cell? ad465 = some (.int .i64 (rd t459 0))) (ds := [8, 9]) #[false, false, false, false, false, false, false, false, false, false, false] (by kernel_rfl) rfl rfl ⟨(blk_cell BK462.out 0).trans rfl, hx465_0⟩ (fun hHeld => ?_); refine with_tabW impl_ClassesOfTurns.tab10 impl_ClassesOfTurns.bits10 (fun HT_ HW_ => ?_)
           generalize w25.drew = w26 at HO_6 HO461 BK462 HB hx465_0 hHeld ⊢
           refine pure_ (i := 0) (N := some 34) (v := ?_) (a' := ?_) #[true, false, false, false, false, false, false, false, false, false, false] rfl rfl (any_of HT_.out (by kernel_rfl)) (fun _ _ _ h => h) (Or.inl ⟨by rfl, ?_⟩) ?_ ?_
           rotate_left
           ·intro w'
            go_simp
            with_reducible rfl
           rotate_left
           ·simp only [Act.put, List.setIfInBounds_toArray, List.set_cons_zero, List.set_cons_succ, i64_w, i32_w]
            rfl
           refine pure_ (i := 1) (N := some 35) (v := ?_) (a' := ?_) #[true, true, false, false, false, false, false, false, false, false, false] rfl rfl (any_of HT_.out (by kernel_rfl)) (fun _ _ _ h => h) (Or.inl ⟨by rfl, ?_⟩) ?_ ?_
           rotate_left
           ·intro w'
            go_simp
            with_reducible rfl
           rotate_left
           ·simp only [Act.put, List.setIfInBounds_toArray, List.set_cons_zero, List.set_cons_succ, i64_w, i32_w]
            rfl
           refine pure_ (i := 2) (N := some 36) (v := ?_) (a' := ?_) #[true, true, true, false, false, false, false, false, false, false, false] rfl rfl (any_of HT_.out (by kernel_rfl)) (fun _ _ _ h => h) (Or.inl ⟨by rfl, ?_⟩) ?_ ?_
           rotate_left
           ·intro w'
            go_simp
            with_reducible rfl
           rotate_left
           ·simp only [Act.put, List.setIfInBounds_toArray, List.set_cons_zero, List.set_cons_succ, i64_w, i32_w]
            rfl
           refine take_ (i := 4) (N := some 38) (v := ?_) (a' := ?_) #[true, true, true, false, true, false, false, false, false, false, false] rfl rfl (take_ofW HT_.out HW_.out (by kernel_rfl)) (fun _ _ _ h => h) (Or.inl ⟨by rfl, ?_⟩) hHeld ?_ ?_
           rotate_left
           ·rintro w' ⟨s0, s1⟩
            go_simp
            with_reducible rfl
           rotate_left
           ·simp only [Act.put, List.setIfInBounds_toArray, List.set_cons_zero, List.set_cons_succ, i64_w, i32_w]
            rfl
           refine pure_ (i := 5) (N := some 39) (v := ?_) (a' := ?_) #[true, true, true, false, true, true, false, false, false, false, false] rfl rfl (any_of HT_.out (by kernel_rfl)) (fun _ _ _ h => h) (Or.inl ⟨by rfl, ?_⟩) ?_ ?_
           rotate_left
           ·intro w'
            go_simp
            with_reducible rfl
           rotate_left
           ·simp only [Act.put, List.setIfInBounds_toArray, List.set_cons_zero, List.set_cons_succ, i64_w, i32_w]
            rfl
           refine take_ (i := 6) (N := some 40) (v := ?_) (a' := ?_) #[true, true, true, false, true, true, true, false, false, false, false] rfl rfl (take_ofW HT_.out HW_.out (by kernel_rfl)) (fun _ _ _ h => h) (Or.inl ⟨by rfl, ?_⟩) hHeld ?_ ?_
           rotate_left
           ·rintro w' ⟨s0, s1⟩
            go_simp
            with_reducible rfl
           rotate_left
           ·simp only [Act.put, List.setIfInBounds_toArray, List.set_cons_zero, List.set_cons_succ, i64_w, i32_w]
            rfl
           refine one_ (i := 3) (N := some 37) #[true, true, true, true, true, true, true, false, false, false, false] rfl rfl (one_of HT_.out (by kernel_rfl)) (by decide) (fun K hK => ?_)
           refine goes_ Try.func52 (by kernel_rfl) rfl #[.slice A0 l0.length c0, .int .i64 x19_2] (by rfl) rfl rfl kA ?_
           with_reducible refine (slices_Index_int64_int64.calls k2 _ _ l0 x19_2 t464 _ ?side1 ?side2 A18.out).mono ?_
           (case side1 => exact kC (Kd.C_below HR0.out HB.out))
           (case side2 => exact HC0.out)
           rintro e w' ⟨rfl, ⟨nd, rfl⟩⟩
           refine ⟨_, rfl, ?_⟩
           refine hK.out _ _ ⟨(blk_cell BK462.out 0).trans rfl, hHeld.2⟩ (fun hHeld => ?_)
           clear hK K
           refine norm_ (a' := ?_) ?_ ?_
           rotate_left
           ·show Act.put _ (some 37) _ = _
            simp only [Act.put, List.setIfInBounds_toArray, List.set_cons_zero, List.set_cons_succ, i64_w, i32_w]
            rfl
           refine pure_ (i := 7) (N := some 41) (v := ?_) (a' := ?_) #[true, true, true, true, true, true, true, true, false, false, false] rfl rfl (any_of HT_.out (by kernel_rfl)) (fun _ _ _ h => h) (Or.inl ⟨by rfl, ?_⟩) ?_ ?_
           rotate_left
           ·intro w'
            go_simp
            with_reducible rfl
           rotate_left
           ·simp only [Act.put, List.setIfInBounds_toArray, List.set_cons_zero, List.set_cons_succ, i64_w, i32_w]
            rfl
           refine last_ (i := 8) (N := some 42) #[true, true, true, true, true, true, true, true, true, false, false] rfl rfl (one_of HT_.out (by kernel_rfl)) (by decide) (fun K hK => ?_)
           refine value_ (w1 := ?_) (v := ?_) (by rfl) rfl ?_ ?_
           rotate_left 2
           ·go_simp
            constructor
            ·rfl
            ·rfl
           refine hK.out _ _ ?_
           clear hK K
           refine norm_ (a' := ?_) ?_ ?_
           rotate_left
           ·show Act.put _ (some 42) _ = _
            simp only [Act.put, List.setIfInBounds_toArray, List.set_cons_zero, List.set_cons_succ, i64_w, i32_w]
            rfl
           refine last_ (i := 9) (N := some 43) #[true, true, true, true, true, true, true, true, true, true, false] rfl rfl (one_of HT_.out (by kernel_rfl)) (by decide) (fun K hK => ?_)
           refine Kd.R_append_step k40 (w0 := w) w.heap.size (by rfl) (.tmp 34) (.tmp 42) 24 40 (.agg #[(.int .i64 0), (.int .i64 0)]) 16 rfl Try.underlying24 info40 rfl (by decide) (by omega) u6 x6_2 (⟨t464, rd t459 0⟩ : S40) [.int .i64 t464, .int .i64 (rd t459 0)] (fun _ => True) (fun _ => False) rfl rfl ?aP (fun _ hk => hk.elim) ?aF ?aO ?aB ?aS ?aL ?_
           (case aP => exact k40_mkM _ _ _ (⟨t464, rd t459 0⟩ : S40))
           (case aB => exact (kB1 HB GE462.out))
           (case aF => exact (fun _ _ => trivial))
           (case aO => exact (kR HO_6))
           (case aS => exact (below_size (kB1 HB GE462.out)))
           (case aL => have := LMc20.out; omega)
           intro v467 w27 ho hb hg hat
           rw [← Ny466.out] at ho
           have n0_ := am (Kd.R_over' (kR HO461) (Kd.R_typed (kR HO_6)) (by decide) hg)
           have n1_ := am (blk_grown (g := gb462) (o := .cells #[.slice (some ad465) t459.length co23] 26 (0, 0)) (kK BK462) hg (Kd.R_ne HO_6.out BK462.out (by decide)))
           have n2_ := am (hb)
           have n3_ := am (ho)
           clear HO461
           clear BK462
           clear HB
           clear HO_6
           have HO461 := n0_
           have BK462 := n1_
           have HB := n2_
           have HO468 := n3_
           clear n0_ n1_ n2_ n3_
           clear ho hb hg hat
           refine hK.out _ _ ?_
           clear hK K
           refine norm_ (a' := ?_) ?_ ?_
           rotate_left
           ·show Act.put _ (some 43) _ = _
            simp only [Act.put, List.setIfInBounds_toArray, List.set_cons_zero, List.set_cons_succ, i64_w, i32_w]
            rfl
           refine pure_ (i := 10) (N := some 6) (v := ?_) (a' := ?_) #[true, true, true, true, true, true, true, true, true, true, true] rfl rfl (any_of HT_.out (by kernel_rfl)) (fun _ _ _ h => h) (Or.inl ⟨by rfl, ?_⟩) ?_ ?_
           rotate_left
           ·intro w'
            go_simp
            with_reducible rfl
           rotate_left
           ·simp only [Act.put, List.setIfInBounds_toArray, List.set_cons_zero, List.set_cons_succ, i64_w, i32_w]
            rfl
           refine done_ (done_of HT_.out (by kernel_rfl)) ?_
           try go_wp2
           go_roundg k2
           case measure => have := HJ2.out; have := HK2.out; omega
           case rel => exact ⟨(y466), (wrap64 (x19_2 + 1)), (by first | rfl | (simp; done) | (simp [*]; done)), H', ⟨by have := HJ2.out; have := HK2.out; omega⟩, ⟨kR HO468⟩, ⟨kB1 HB GE462.out⟩⟩
          ·rw [if_neg c20] at H
           exact absurd H (by simp)
         ·rw [if_neg c19] at H
          exact absurd H (by simp)
        ·replace c17 := Bool.eq_false_iff.mpr c17
         subst c17
         rw [if_neg (show ¬ (false = true) by decide)] at H
         simp only [Option.some.injEq, Prod.mk.injEq] at H
         obtain ⟨rfl, rfl⟩ := H
         go_wp2_with (first | ((with_reducible refine gate_callee (f := 49) rfl ?_); refine goesL_ (some 24) rfl rfl Try.func49 (by kernel_rfl) rfl #[.slice A0 l0.length c0, .int .i64 x19_2] rfl kA ?_; (with_reducible refine (impl_waits.calls k2 _ _ l0 x19_2 t459 _ ?side1 ?side2 A10.out).mono ?_); (case side1 => exact kC (Kd.C_below HR0.out HB.out)); (case side2 => exact HC0.out); rintro e w28 ⟨v460, rfl, ho0, hb⟩; refine ⟨_, rfl, ?_⟩; have n0_ := am (Kd.R_below (kR HO_6) hb); have n1_ := am (Kd.R_lower ho0 (below_size (kB HB))); have n2_ := am (below_step (kB HB) hb); clear HO_6 HB; have HO_6 := n0_; have HO461 := n1_; have HB := n2_; clear n0_ n1_ n2_; (try clear hb); (try clear hb2); (try clear hk); (try clear hi); (try clear ho0)) | ((with_reducible refine gate_dst (N := 8) rfl ?_); refine box_event ?hg (N := 8) ?hd (cs := #[.slice none 0 0]) (t := 26) ?hr ?_; (case hd => rfl); (case hg => rfl); (case hr => first | (go_simp; done) | (go_simp; rfl)); intro gb462 hg w29 hbox hb; have n0_ := am (Kd.R_below (kR HO_6) hb); have n1_ := am (Kd.R_below (kR HO461) hb); have n2_ := am (below_step (kB HB) hb); have n3_ := am (hbox); have n4_ := am ((by rw [hg]; exact (below_size (kB HB)) : w.heap.size ≤ gb462)); have n5_ := am ((by rw [hg]; exact (below_size (kB HB)) : w.heap.size ≤ gb462)); clear HO_6 HO461 HB; have HO_6 := n0_; have HO461 := n1_; have HB := n2_; have BK462 := n3_; have GW462 := n4_; have GE462 := n5_; clear n0_ n1_ n2_ n3_ n4_ n5_ hb hbox hg; obtain ⟨Ao30, co30, eo30⟩ := Kd.R_slice HO461.out; subst eo30; have hcz31_0 : w29.cell? ⟨gb462, 0, none⟩ = some (.slice none 0 0) := (blk_cell BK462.out 0).trans rfl; have hfz31_0 := blk_frozen BK462.out 0) | (go_at_call 50; refine (same_at Ao30 co30 t459 Ao30 co30 t459 false gb462 _ ?side1 ?side3 ?side7 A16.out).mono ?_; (case side1 => refine (Kd.R_reads' (e := 2) (base := w.heap.size) (ok := fun k_ => True) (n := t459.length) (c := co30) ?_).2.2; exact (by (with_reducible repeat (first | apply Kd.R_alloc | apply Kd.R_drewN | apply Kd.R_drew)); exact (Kd.R_mono (Kd.R_far (p := ⟨gb462, 0, none⟩) (Kd.R_types HO461.out BK462.out (by decide)) (fun _ hk => hk.2) (.slice Ao30 t459.length co30)) (fun _ h_ => h_.1)))); (case side3 => refine (Kd.R_reads' (e := 2) (base := w.heap.size) (ok := fun k_ => True) (n := t459.length) (c := co30) ?_).2.2; exact (by (with_reducible repeat (first | apply Kd.R_alloc | apply Kd.R_drewN | apply Kd.R_drew)); exact (Kd.R_mono (Kd.R_far (p := ⟨gb462, 0, none⟩) (Kd.R_types HO461.out BK462.out (by decide)) (fun _ hk => hk.2) (.slice Ao30 t459.length co30)) (fun _ h_ => h_.1)))); (case side7 => exact (blk_cell (g := gb462) (cs := #[.slice Ao30 t459.length co30]) (t := 26) (by (with_reducible repeat (first | refine blk_drewN ?_ _ | refine blk_drew ?_ | refine blk_alloc ?_ _)); refine blk_put (cs := #[.slice none 0 0]) ?_ 0 _ rfl; (with_reducible repeat (first | refine blk_drewN ?_ _ | refine blk_drew ?_ | refine blk_alloc ?_ _)); exact BK462.out) 0).trans rfl); rintro e w32 ⟨rfl, hb⟩; have n0_ := am (Kd.R_below (by (with_reducible repeat (first | apply Kd.R_alloc | apply Kd.R_drewN | apply Kd.R_drew)); exact (Kd.R_mono (Kd.R_far (p := ⟨gb462, 0, none⟩) (Kd.R_types HO_6.out BK462.out (by decide)) (fun _ hk => hk.2) (.slice Ao30 t459.length co30)) (fun _ h_ => h_.1))) hb); have n1_ := am (Kd.R_below (by (with_reducible repeat (first | apply Kd.R_alloc | apply Kd.R_drewN | apply Kd.R_drew)); exact (Kd.R_mono (Kd.R_far (p := ⟨gb462, 0, none⟩) (Kd.R_types HO461.out BK462.out (by decide)) (fun _ hk => hk.2) (.slice Ao30 t459.length co30)) (fun _ h_ => h_.1))) hb); have n2_ := am (blk_below (g := gb462) (o := .cells #[.slice Ao30 t459.length co30] 26 (0, 0)) (by (with_reducible repeat (first | refine blk_drewN ?_ _ | refine blk_drew ?_ | refine blk_alloc ?_ _)); refine blk_put (cs := #[.slice none 0 0]) ?_ 0 _ rfl; (with_reducible repeat (first | refine blk_drewN ?_ _ | refine blk_drew ?_ | refine blk_alloc ?_ _)); exact BK462.out) hb); have n3_ := am (below_step (kB1 HB GE462.out) hb); clear HO_6 HO461 BK462 HB; have HO_6 := n0_; have HO461 := n1_; have BK462 := n2_; have HB := n3_; clear n0_ n1_ n2_ n3_; (try clear hb); (try clear hb2); (try clear hk); (try clear hi)))
         go_ret2
         exact ⟨_, by first | rfl | (simp [errW_none, errW_some] <;> rfl) | (simp [*, errW_none, errW_some] <;> rfl), by first | exact Kd.R_nil _ _ _ _ _ | exact Kd.N_nil _ _ _ _ _ | exact Kd.V_nil _ _ _ _ _ | exact Kd.Q_nil _ _ _ _ _ | exact Kd.S_nil _ _ _ _ _, kB1 HB GE462.out⟩
      ·rw [if_neg c9] at H
       have c9b0 : decide (x19_2 < a1) = false := decide_eq_false c9
       clear c9
       replace H := Option.bind_eq_some_iff.mp H
       obtain ⟨t458, A330, H⟩ := H
       try dsimp only at H
       have A33 := am A330
       clear A330
       by_cases c34 : t458 = true
       ·subst c34
        rw [if_pos rfl] at H
        simp only [Option.some.injEq, Prod.mk.injEq] at H
        obtain ⟨rfl, rfl⟩ := H
        obtain ⟨Ao35, co35, eo35⟩ := Kd.R_slice HO_6.out
        subst eo35
        go_wp2_with (first | (go_at_call 41; refine (gap_at Ao35 co35 x6_2 true _ ?side1 A33.out).mono ?_; (case side1 => exact kC (Kd.R_reads' HO_6.out).2.2); rintro e w36 ⟨rfl, hb⟩; have n0_ := am (Kd.R_below (kR HO_6) hb); have n1_ := am (below_step (kB HB) hb); clear HO_6 HB; have HO_6 := n0_; have HB := n1_; clear n0_ n1_; (try clear hb); (try clear hb2); (try clear hk); (try clear hi)))
        go_ret2
        exact ⟨_, by first | rfl | (simp [errW_none, errW_some] <;> rfl) | (simp [*, errW_none, errW_some] <;> rfl), kR HO_6, kB HB⟩
       ·replace c34 := Bool.eq_false_iff.mpr c34
        subst c34
        rw [if_neg (show ¬ (false = true) by decide)] at H
        simp only [Option.some.injEq, Prod.mk.injEq] at H
        obtain ⟨rfl, rfl⟩ := H
        obtain ⟨Ao37, co37, eo37⟩ := Kd.R_slice HO_6.out
        subst eo37
        go_wp2_with (first | (go_at_call 41; refine (gap_at Ao37 co37 x6_2 false _ ?side1 A33.out).mono ?_; (case side1 => exact kC (Kd.R_reads' HO_6.out).2.2); rintro e w38 ⟨rfl, hb⟩; have n0_ := am (Kd.R_below (kR HO_6) hb); have n1_ := am (below_step (kB HB) hb); clear HO_6 HB; have HO_6 := n0_; have HB := n1_; clear n0_ n1_; (try clear hb); (try clear hb2); (try clear hk); (try clear hi)))
        go_ret2
        exact ⟨_, by first | rfl | (simp [errW_none, errW_some] <;> rfl) | (simp [*, errW_none, errW_some] <;> rfl), by first | exact Kd.R_nil _ _ _ _ _ | exact Kd.N_nil _ _ _ _ _ | exact Kd.V_nil _ _ _ _ _ | exact Kd.Q_nil _ _ _ _ _ | exact Kd.S_nil _ _ _ _ _, kB HB⟩
end Go.Proofs.Ytdkhecebffjpjaa.X
