import Derived.Test.YtdkhecebffjpjaaU
import Derived.Test.YtdkhecebffjpjaaY0
import Derived.Test.YtdkhecebffjpjaaY2
namespace Go.Proofs.Ytdkhecebffjpjaa.X
open Go.RowKit Go.Proofs.YtdkhecebffjpjaaW.PrintWords Go.Proofs.YtdkhecebffjpjaaW.PrintLast Go.Proofs.YtdkhecebffjpjaaW.PrintMore
attribute [local go_sem] max2_int min2_int max_two min_two max_three min_three max_four min_four
set_option linter.unusedVariables false
set_option linter.unusedSimpArgs false
/-! ### spec_l05Bad: function 62 -/
def spec_l05Bad.l0 : Nat → List (S40) → List Int → Int → Int → Option ((List (S40)) × Int × Int)
 | 0, _, _, _, _ => none
 | k + 1, x5, x1000, x1001, x1002 => if (x5.length : Int) ≤ 8 then (if x5.length < 8796093022208 then (spec_l05Bad.l0 k (x5 ++ [(⟨0, 9⟩ : S40)]) x1000 x1001 x1002) else (none)) else (some (x5, x1001, x1002))
def spec_l05Bad.f (k : Nat) (s0_0 : List Int) (s0_1 : Int) (s0_2 : Int) (l1 : List (S40)) : Option ((List (S40)) × Int × Int) := (some (([] : List (S40)) : List (S40))).bind fun y108 => (if y108.length + l1.length < 8796093022208 then ((some (y108 ++ l1 : List (S40))).bind fun y111 => ((spec_l01Next.f s0_0 s0_1 s0_2 40).bind fun bt114 => (if bt114.1 = 0 then (some ((([] : List (S40))), bt114.2.1, bt114.2.2)) else (if bt114.1 = 1 then (if 0 < (y111.length : Int) then ((spec_l01Pick.f s0_0 bt114.2.1 bt114.2.2 (([(-1), (rd_T40 y111 0).f1, 1099511627776] : List Int))).bind fun bt124 => (some ((y111.set (0 : Int).toNat (⟨bt124.1, (rd_T40 y111 0).f1⟩ : S40)), bt124.2.1, bt124.2.2))) else (none)) else (if bt114.1 = 2 then ((spec_l01Pick.f s0_0 bt114.2.1 bt114.2.2 (([0, 41, (-3)] : List Int))).bind fun bt132 => (if 0 < (y111.length : Int) then (some ((y111.set (0 : Int).toNat (⟨0, bt132.1⟩ : S40)), bt132.2.1, bt132.2.2)) else (none))) else (if bt114.1 = 3 then (spec_l05Bad.l0 k y111 s0_0 bt114.2.1 bt114.2.2) else (some (y111, bt114.2.1, bt114.2.2)))))))) else (none))
theorem spec_l05Bad.mono_l : ∀ k, (∀ y0 y1 y2 y3, LeO (spec_l05Bad.l0 k y0 y1 y2 y3) (spec_l05Bad.l0 (k + 1) y0 y1 y2 y3))
 | 0 => fun _ _ _ _ r h => by simp [spec_l05Bad.l0] at h
 | k + 1 => by
  have ih0 := spec_l05Bad.mono_l k
  ·intro y0 y1 y2 y3
   unfold spec_l05Bad.l0
   repeat' first
   | with_reducible first | exact ih0 _ _ _ _ | exact LeO.refl _ | exact LeO.none _ | refine LeO.ite ?_ ?_ | refine LeO.bind ?_ (fun _ => ?_)
   | exact ih0 _ _ _ _
   | exact LeO.none _
   | refine LeO.ite ?_ ?_
   | refine LeO.bind ?_ (fun _ => ?_)
theorem spec_l05Bad.mono : ∀ a0 a1 a2 a3 k, LeO (spec_l05Bad.f k a0 a1 a2 a3) (spec_l05Bad.f (k + 1) a0 a1 a2 a3) := by
 intro a0 a1 a2 a3 k
 have ih0 := spec_l05Bad.mono_l k
 unfold spec_l05Bad.f
 repeat' first
   | with_reducible first | exact ih0 _ _ _ _ | exact LeO.refl _ | exact LeO.none _ | refine LeO.ite ?_ ?_ | refine LeO.bind ?_ (fun _ => ?_)
   | exact ih0 _ _ _ _
   | exact LeO.none _
   | refine LeO.ite ?_ ?_
   | refine LeO.bind ?_ (fun _ => ?_)
def spec_l05Bad.T6 : Bool × List (List Nat × List Nat) := (true, [([], []), ([], []), ([], []), ([2], [2]), ([3], [3]), ([4], [4]), ([5], [5]), ([1, 6], [1, 6]), ([], []), ([8], [8]), ([9], [9]), ([10], [10]), ([7, 11], [7, 11]), ([0, 0, 1, 2, 3, 4, 5, 6, 7, 8, 9, 10, 11, 12], [0]), ([13, 12, 7, 0, 1, 2, 3, 4, 5, 6, 7, 8, 9, 10, 11, 12], [12, 13])])
def spec_l05Bad.B6 : List Nat := [0, 0, 0, 4, 12, 28, 60, 126, 0, 256, 768, 1792, 4094, 8191, 16383]
theorem spec_l05Bad.tab6 : rtab .any (opsOf Try.f62 6) = spec_l05Bad.T6 := by kernel_rfl
theorem spec_l05Bad.bits6 : waitsOk spec_l05Bad.T6.2 spec_l05Bad.B6 = true := by kernel_rfl
set_option maxHeartbeats 8000000 in
set_option maxRecDepth 100000 in
theorem spec_l05Bad.calls (k : Nat) (g : Nat) (s0_0 : List Int) (s0_1 : Int) (s0_2 : Int) (A1 : Option Addr) (c1 : Nat) (l1 : List (S40)) (r1 : List (S40)) (r2 : Int) (r3 : Int) (w0 w : World) (hI : IsS72 w0 w g s0_0 s0_1 s0_2) (hB : Below w0.heap.size w0 w) (hr1 : ∀ W_, KeepBut w W_ g none → Kd.C k40 W_ A1 l1.length l1) (hc1 : l1.length ≤ c1) (h : spec_l05Bad.f k s0_0 s0_1 s0_2 l1 = some (r1, r2, r3)) :
  Calls Try.prog 62 #[.pointer (some ⟨g, 0, none⟩), .slice A1 l1.length c1] w fun e w' => ∃ v0_ : Value, e = .returned (v0_) ∧ Kd.R k40 40 w' w.heap.size (fun _ => True) v0_ r1 ∧ IsS72 w0 w' g s0_0 r2 r3 ∧ Below w0.heap.size w0 w' ∧ KeepBut w w' g none := by
 have hu40 := Try.underlying40
 have HR1 := am hr1
 have HC1 := am hc1
 clear hr1 hc1
 have HI0 := am hI
 have HK := am (KeepBut.refl w g none)
 have HL := am hB.size
 clear hI
 have HW0 := am hB.size
 have HB := am hB
 clear hB
 have H : ((some (([] : List (S40)) : List (S40))).bind fun y108 => (if y108.length + l1.length < 8796093022208 then ((some (y108 ++ l1 : List (S40))).bind fun y111 => ((spec_l01Next.f s0_0 s0_1 s0_2 40).bind fun bt114 => (if bt114.1 = 0 then (some ((([] : List (S40))), bt114.2.1, bt114.2.2)) else (if bt114.1 = 1 then (if 0 < (y111.length : Int) then ((spec_l01Pick.f s0_0 bt114.2.1 bt114.2.2 (([(-1), (rd_T40 y111 0).f1, 1099511627776] : List Int))).bind fun bt124 => (some ((y111.set (0 : Int).toNat (⟨bt124.1, (rd_T40 y111 0).f1⟩ : S40)), bt124.2.1, bt124.2.2))) else (none)) else (if bt114.1 = 2 then ((spec_l01Pick.f s0_0 bt114.2.1 bt114.2.2 (([0, 41, (-3)] : List Int))).bind fun bt132 => (if 0 < (y111.length : Int) then (some ((y111.set (0 : Int).toNat (⟨0, bt132.1⟩ : S40)), bt132.2.1, bt132.2.2)) else (none))) else (if bt114.1 = 3 then (spec_l05Bad.l0 k y111 s0_0 bt114.2.1 bt114.2.2) else (some (y111, bt114.2.1, bt114.2.2)))))))) else (none))) = some (r1, r2, r3) := h
 clear h
 obtain ⟨y108, hy108⟩ : ∃ y_ : List (S40), y_ = (([] : List (S40))) := ⟨_, rfl⟩
 replace H : (if y108.length + l1.length < 8796093022208 then ((some (y108 ++ l1 : List (S40))).bind fun y111 => ((spec_l01Next.f s0_0 s0_1 s0_2 40).bind fun bt114 => (if bt114.1 = 0 then (some ((([] : List (S40))), bt114.2.1, bt114.2.2)) else (if bt114.1 = 1 then (if 0 < (y111.length : Int) then ((spec_l01Pick.f s0_0 bt114.2.1 bt114.2.2 (([(-1), (rd_T40 y111 0).f1, 1099511627776] : List Int))).bind fun bt124 => (some ((y111.set (0 : Int).toNat (⟨bt124.1, (rd_T40 y111 0).f1⟩ : S40)), bt124.2.1, bt124.2.2))) else (none)) else (if bt114.1 = 2 then ((spec_l01Pick.f s0_0 bt114.2.1 bt114.2.2 (([0, 41, (-3)] : List Int))).bind fun bt132 => (if 0 < (y111.length : Int) then (some ((y111.set (0 : Int).toNat (⟨0, bt132.1⟩ : S40)), bt132.2.1, bt132.2.2)) else (none))) else (if bt114.1 = 3 then (spec_l05Bad.l0 k y111 s0_0 bt114.2.1 bt114.2.2) else (some (y111, bt114.2.1, bt114.2.2)))))))) else (none)) = some (r1, r2, r3) := by first | (rw [hy108]; with_reducible exact H) | (have H2_ := (Option.bind_some _ _).symm.trans H; rw [hy108]; with_reducible exact H2_) | (have H2_ := (Option.bind_some _ _).symm.trans H; with_reducible exact H2_) | with_reducible exact H | (rw [hy108]; exact H) | exact H
 have Ny108 := am hy108
 clear hy108
 by_cases c3 : y108.length + l1.length < 8796093022208
 ·rw [if_pos c3] at H
  have LMc3 := am c3
  clear c3
  obtain ⟨y111, hy111⟩ : ∃ y_ : List (S40), y_ = (y108 ++ l1) := ⟨_, rfl⟩
  replace H : ((spec_l01Next.f s0_0 s0_1 s0_2 40).bind fun bt114 => (if bt114.1 = 0 then (some ((([] : List (S40))), bt114.2.1, bt114.2.2)) else (if bt114.1 = 1 then (if 0 < (y111.length : Int) then ((spec_l01Pick.f s0_0 bt114.2.1 bt114.2.2 (([(-1), (rd_T40 y111 0).f1, 1099511627776] : List Int))).bind fun bt124 => (some ((y111.set (0 : Int).toNat (⟨bt124.1, (rd_T40 y111 0).f1⟩ : S40)), bt124.2.1, bt124.2.2))) else (none)) else (if bt114.1 = 2 then ((spec_l01Pick.f s0_0 bt114.2.1 bt114.2.2 (([0, 41, (-3)] : List Int))).bind fun bt132 => (if 0 < (y111.length : Int) then (some ((y111.set (0 : Int).toNat (⟨0, bt132.1⟩ : S40)), bt132.2.1, bt132.2.2)) else (none))) else (if bt114.1 = 3 then (spec_l05Bad.l0 k y111 s0_0 bt114.2.1 bt114.2.2) else (some (y111, bt114.2.1, bt114.2.2))))))) = some (r1, r2, r3) := by first | (rw [hy111]; with_reducible exact H) | (have H2_ := (Option.bind_some _ _).symm.trans H; rw [hy111]; with_reducible exact H2_) | (have H2_ := (Option.bind_some _ _).symm.trans H; with_reducible exact H2_) | with_reducible exact H | (rw [hy111]; exact H) | exact H
  have Ny111 := am hy111
  clear hy111
  replace H := Option.bind_eq_some_iff.mp H
  obtain ⟨⟨t114, t115, t116⟩, A40, H⟩ := H
  try dsimp only at H
  have A4 := am A40
  clear A40
  by_cases c5 : t114 = 0
  ·rw [if_pos c5] at H
   have c5b0 : (t114 == 0) = true := beq_iff_eq.mpr c5
   have c5b1 : (t114 != 0) = false := bne_eq_false_iff_eq.mpr c5
   clear c5
   obtain ⟨y117, hy117⟩ : ∃ y_ : List (S40), y_ = (([] : List (S40))) := ⟨_, rfl⟩
   replace H : (some (y117, t115, t116)) = some (r1, r2, r3) := by first | (rw [hy117]; with_reducible exact H) | (have H2_ := (Option.bind_some _ _).symm.trans H; rw [hy117]; with_reducible exact H2_) | (have H2_ := (Option.bind_some _ _).symm.trans H; with_reducible exact H2_) | with_reducible exact H | (rw [hy117]; exact H) | exact H
   have Ny117 := am hy117
   clear hy117
   simp only [Option.some.injEq, Prod.mk.injEq] at H
   obtain ⟨rfl, rfl, rfl⟩ := H
   go_enter Try.func62, Try.ntmps62
   go_wp2_with (first | ((with_reducible refine gate_dst (N := 6) rfl ?_); refine Kd.R_lit k40 _ 40 ?hg (N := 6) ?hd (xs := ([] : List (S40))) (inner := []) (ok := fun _ => True) (okp := fun _ => True) ?hr ?hp (fun _ hk => hk) trivial (Below.refl _ _) (Nat.le_refl _) (by simp) ?_; (case hd => rfl); (case hg => rfl); (case hr => first | (go_simp; done) | (go_simp; rfl)); (case hp => exact (Reps.none _ _)); intro v109 w6 ho7 hb hg_ hnew_; clear hg_ hnew_; (first | rw [← Ny108.out] at ho7 | (simp only [Int.reduceToNat] at ho7; rw [← Ny108.out] at ho7)); have n0_ := am (Kd.R_lower ho7 (keep_size (w := w) (g := g) (row := none) (kH HK))); have n1_ := am (IsS72.below (kI HI0) hb); have n2_ := am (KeepBut.trans (kH HK) (KeepBut.of_below hb g none) (.inl rfl)); have n3_ := am (below_step (kB1 HB (IsS72.ge HI0.out)) hb); clear HI0 HK HB; have HO110 := n0_; have HI0 := n1_; have HK := n2_; have HB := n3_; clear n0_ n1_ n2_ n3_; clear hb ho7) | ((with_reducible refine gate_builtin (b := .append) (xs := #[.tmp 6, .tmp 7]) rfl ?_); at_builtin; refine Kd.R_append_rows k40 w.heap.size rfl (.tmp 6) (.tmp 7) 24 40 (.agg #[(.int .i64 0), (.int .i64 0)]) 16 rfl Try.underlying24 info40 rfl (by decide) (by omega) v109 y108 l1 _ _ _ (fun _ => True) (fun _ => False) rfl rfl ?aO ?aR (fun _ _ h => h) (fun _ h => h.elim) ?aF (Below.refl _ _) ?aS ?aL ?_; (case aR => exact Kd.C_foot_now HR1.out (kH HK)); (case aF => exact (fun _ _ => trivial)); (case aO => exact (kR HO110)); (case aS => exact (keep_size (w := w) (g := g) (row := none) (kH HK))); (case aL => have := LMc3.out; omega); intro v112 w8 ho hb hg hat; rw [← Ny111.out] at ho; have n0_ := am (IsS72.grown (kI HI0) hg (IsS72.own_ne HI0.out HO110.out (by decide))); have n1_ := am (below_weaken (kB1 HB (IsS72.ge HI0.out)) HL.out hb); have n2_ := am (KeepBut.trans (kH HK) (KeepBut.of_grown hg g) (Kd.R_base2 HO110.out)); have n3_ := am (ho); clear HI0 HB HK HO110; have HI0 := n0_; have HB := n1_; have HK := n2_; have HO113 := n3_; clear n0_ n1_ n2_ n3_; clear ho hb hg hat) | ((with_reducible refine gate_callee (f := 56) rfl ?_); refine goesL_ (some 10) rfl rfl Try.func56 (by kernel_rfl) rfl #[.pointer (some ⟨g, 0, none⟩), .int .i64 40] rfl kA ?_; (with_reducible refine (spec_l01Next.calls g s0_0 s0_1 s0_2 40 t114 t115 t116 w0 _ ?side1 ?side2 A4.out).mono ?_); (case side1 => exact kI HI0); (case side2 => exact kB1 HB (IsS72.ge HI0.out)); rintro e w9 ⟨rfl, hi, hb, hk⟩; refine ⟨_, rfl, ?_⟩; have n0_ := am (Kd.R_mono (Kd.R_keep (IsS72.apart (show IsS72 w0 _ g s0_0 s0_1 s0_2 from kI HI0) (kR HO113) (by decide)) hk (fun _ h => h.2)) (fun _ h => h.1)); have n1_ := am (KeepBut.trans (kH HK) hk (.inl rfl)); have n2_ := am (hb); have n3_ := am (hi); clear HO113 HK HB HI0; have HO113 := n0_; have HK := n1_; have HB := n2_; have HI0 := n3_; clear n0_ n1_ n2_ n3_; (try clear hb); (try clear hb2); (try clear hk); (try clear hi)) | ((with_reducible refine gate_dst (N := 13) rfl ?_); refine Kd.R_lit k40 _ 40 ?hg (N := 13) ?hd (xs := ([] : List (S40))) (inner := []) (ok := fun _ => True) (okp := fun _ => True) ?hr ?hp (fun _ hk => hk) trivial (Below.refl _ _) (Nat.le_refl _) (by simp) ?_; (case hd => rfl); (case hg => rfl); (case hr => first | (go_simp; done) | (go_simp; rfl)); (case hp => exact (Reps.none _ _)); intro v118 w10 ho11 hb hg_ hnew_; clear hg_ hnew_; (first | rw [← Ny117.out] at ho11 | (simp only [Int.reduceToNat] at ho11; rw [← Ny117.out] at ho11)); have n0_ := am (Kd.R_elder' (kR HO113) (Kd.R_base ho11) hb); have n1_ := am (Kd.R_lower (Kd.R_new' ho11 (Kd.R_lt (kR HO113))) (keep_size (w := w) (g := g) (row := none) (kH HK))); have n2_ := am (IsS72.below (kI HI0) hb); have n3_ := am (KeepBut.trans (kH HK) (KeepBut.of_below hb g none) (.inl rfl)); have n4_ := am (below_step (kB1 HB (IsS72.ge HI0.out)) hb); clear HO113 HI0 HK HB; have HO113 := n0_; have HO119 := n1_; have HI0 := n2_; have HK := n3_; have HB := n4_; clear n0_ n1_ n2_ n3_ n4_; clear hb ho11))
   go_ret
   exact ⟨_, by first | rfl | (simp [errW_none, errW_some] <;> rfl) | (simp [*, errW_none, errW_some] <;> rfl), by (with_reducible repeat (first | apply Kd.R_alloc | apply Kd.R_drewN | apply Kd.R_drew)); exact Kd.R_mono HO119.out (fun _ hk => trivial), kI HI0, kB1 HB (IsS72.ge HI0.out), kH HK⟩
  ·rw [if_neg c5] at H
   have c5b0 : (t114 == 0) = false := beq_eq_false_iff_ne.mpr c5
   have c5b1 : (t114 != 0) = true := bne_iff_ne.mpr c5
   by_cases c12 : t114 = 1
   ·rw [if_pos c12] at H
    have c12b0 : (t114 == 1) = true := beq_iff_eq.mpr c12
    have c12b1 : (t114 != 1) = false := bne_eq_false_iff_eq.mpr c12
    clear c12
    by_cases c13 : 0 < (y111.length : Int)
    ·rw [if_pos c13] at H
     have c13b0 : decide (0 < (y111.length : Int)) = true := decide_eq_true c13
     have c13b1 : decide (0 < y111.length) = true := decide_eq_true (by omega)
     clear c13
     obtain ⟨y121, hy121⟩ : ∃ y_ : List Int, y_ = (([(-1), (rd_T40 y111 0).f1, 1099511627776] : List Int)) := ⟨_, rfl⟩
     replace H : ((spec_l01Pick.f s0_0 t115 t116 y121).bind fun bt124 => (some ((y111.set (0 : Int).toNat (⟨bt124.1, (rd_T40 y111 0).f1⟩ : S40)), bt124.2.1, bt124.2.2))) = some (r1, r2, r3) := by first | (rw [hy121]; with_reducible exact H) | (have H2_ := (Option.bind_some _ _).symm.trans H; rw [hy121]; with_reducible exact H2_) | (have H2_ := (Option.bind_some _ _).symm.trans H; with_reducible exact H2_) | with_reducible exact H | (rw [hy121]; exact H) | exact H
     have Ny121 := am hy121
     clear hy121
     replace H := Option.bind_eq_some_iff.mp H
     obtain ⟨⟨t124, t125, t126⟩, A140, H⟩ := H
     try dsimp only at H
     have A14 := am A140
     clear A140
     obtain ⟨y128, hy128⟩ : ∃ y_ : List (S40), y_ = (y111.set (0 : Int).toNat (⟨t124, (rd_T40 y111 0).f1⟩ : S40)) := ⟨_, rfl⟩
     replace H : (some (y128, t125, t126)) = some (r1, r2, r3) := by first | (rw [hy128]; with_reducible exact H) | (have H2_ := (Option.bind_some _ _).symm.trans H; rw [hy128]; with_reducible exact H2_) | (have H2_ := (Option.bind_some _ _).symm.trans H; with_reducible exact H2_) | with_reducible exact H | (rw [hy128]; exact H) | exact H
     have Ny128 := am hy128
     clear hy128
     simp only [Option.some.injEq, Prod.mk.injEq] at H
     obtain ⟨rfl, rfl, rfl⟩ := H
     go_enter Try.func62, Try.ntmps62
     try go_wp2_with (first | ((with_reducible refine gate_dst (N := 6) rfl ?_); refine Kd.R_lit k40 _ 40 ?hg (N := 6) ?hd (xs := ([] : List (S40))) (inner := []) (ok := fun _ => True) (okp := fun _ => True) ?hr ?hp (fun _ hk => hk) trivial (Below.refl _ _) (Nat.le_refl _) (by simp) ?_; (case hd => rfl); (case hg => rfl); (case hr => first | (go_simp; done) | (go_simp; rfl)); (case hp => exact (Reps.none _ _)); intro v109 w16 ho17 hb hg_ hnew_; clear hg_ hnew_; (first | rw [← Ny108.out] at ho17 | (simp only [Int.reduceToNat] at ho17; rw [← Ny108.out] at ho17)); have n0_ := am (Kd.R_lower ho17 (keep_size (w := w) (g := g) (row := none) (kH HK))); have n1_ := am (IsS72.below (kI HI0) hb); have n2_ := am (KeepBut.trans (kH HK) (KeepBut.of_below hb g none) (.inl rfl)); have n3_ := am (below_step (kB1 HB (IsS72.ge HI0.out)) hb); clear HI0 HK HB; have HO110 := n0_; have HI0 := n1_; have HK := n2_; have HB := n3_; clear n0_ n1_ n2_ n3_; clear hb ho17) | ((with_reducible refine gate_builtin (b := .append) (xs := #[.tmp 6, .tmp 7]) rfl ?_); at_builtin; refine Kd.R_append_rows k40 w.heap.size rfl (.tmp 6) (.tmp 7) 24 40 (.agg #[(.int .i64 0), (.int .i64 0)]) 16 rfl Try.underlying24 info40 rfl (by decide) (by omega) v109 y108 l1 _ _ _ (fun _ => True) (fun _ => False) rfl rfl ?aO ?aR (fun _ _ h => h) (fun _ h => h.elim) ?aF (Below.refl _ _) ?aS ?aL ?_; (case aR => exact Kd.C_foot_now HR1.out (kH HK)); (case aF => exact (fun _ _ => trivial)); (case aO => exact (kR HO110)); (case aS => exact (keep_size (w := w) (g := g) (row := none) (kH HK))); (case aL => have := LMc3.out; omega); intro v112 w18 ho hb hg hat; rw [← Ny111.out] at ho; have n0_ := am (IsS72.grown (kI HI0) hg (IsS72.own_ne HI0.out HO110.out (by decide))); have n1_ := am (below_weaken (kB1 HB (IsS72.ge HI0.out)) HL.out hb); have n2_ := am (KeepBut.trans (kH HK) (KeepBut.of_grown hg g) (Kd.R_base2 HO110.out)); have n3_ := am (ho); clear HI0 HB HK HO110; have HI0 := n0_; have HB := n1_; have HK := n2_; have HO113 := n3_; clear n0_ n1_ n2_ n3_; clear ho hb hg hat) | ((with_reducible refine gate_callee (f := 56) rfl ?_); refine goesL_ (some 10) rfl rfl Try.func56 (by kernel_rfl) rfl #[.pointer (some ⟨g, 0, none⟩), .int .i64 40] rfl kA ?_; (with_reducible refine (spec_l01Next.calls g s0_0 s0_1 s0_2 40 t114 t115 t116 w0 _ ?side1 ?side2 A4.out).mono ?_); (case side1 => exact kI HI0); (case side2 => exact kB1 HB (IsS72.ge HI0.out)); rintro e w19 ⟨rfl, hi, hb, hk⟩; refine ⟨_, rfl, ?_⟩; have n0_ := am (Kd.R_mono (Kd.R_keep (IsS72.apart (show IsS72 w0 _ g s0_0 s0_1 s0_2 from kI HI0) (kR HO113) (by decide)) hk (fun _ h => h.2)) (fun _ h => h.1)); have n1_ := am (KeepBut.trans (kH HK) hk (.inl rfl)); have n2_ := am (hb); have n3_ := am (hi); clear HO113 HK HB HI0; have HO113 := n0_; have HK := n1_; have HB := n2_; have HI0 := n3_; clear n0_ n1_ n2_ n3_; (try clear hb); (try clear hb2); (try clear hk); (try clear hi)))
     have n0_ := am (Kd.R_drew HO113.out)
     have n1_ := am (IsS72.drew HI0.out)
     have n2_ := am (keep_drew HK.out)
     have n3_ := am (below_drew1 HB.out)
     clear HO113
     clear HI0
     clear HK
     clear HB
     have HO113 := n0_
     have HI0 := n1_
     have HK := n2_
     have HB := n3_
     clear n0_ n1_ n2_ n3_
     obtain ⟨Ao21, co21, eo21⟩ := Kd.R_slice HO113.out
     (first | subst eo21 | (injection eo21 with f1_ f2_ f3_; have f4_ := f1_.symm; have f5_ := f3_.symm; clear f1_ f2_ f3_; subst f4_; subst f5_))
     have p120 : 0 ≤ (0 : Int) := (by omega)
     have q120 : 0 < (y111.length : Int) := of_decide_eq_true kM
     obtain ⟨ad120, e120, hx120_0, hx120_1⟩ := at_T40 (Kd.R_reads' HO113.out).2.2 0 p120 q120
     cases e120
     have qi120 : (0 < y111.length) = True := eq_true (by omega)
     (try rw [show ((0 : Int)).toNat = 0 from rfl] at hx120_0)
     (try rw [show 0 * 2 = 0 from rfl] at hx120_0)
     (try rw [Addr.add_zero'] at hx120_0)
     (try rw [show ((0 : Int)).toNat = 0 from rfl] at hx120_1)
     (try rw [show 0 * 2 = 0 from rfl] at hx120_1)
     (try rw [Addr.add_zero'] at hx120_1)
     replace p120 := eq_true p120
     replace q120 := eq_true q120
     have p127 : 0 ≤ (0 : Int) := (by omega)
     have q127 : 0 < (y111.length : Int) := of_decide_eq_true kM
     obtain ⟨ad127, e127, hx127_0, hx127_1⟩ := at_T40 (Kd.R_reads' HO113.out).2.2 0 p127 q127
     obtain rfl : ad120 = ad127 := (by injection e127)
     have qi127 : (0 < y111.length) = True := eq_true (by omega)
     (try rw [show ((0 : Int)).toNat = 0 from rfl] at hx127_0)
     (try rw [show 0 * 2 = 0 from rfl] at hx127_0)
     (try rw [Addr.add_zero'] at hx127_0)
     (try rw [show ((0 : Int)).toNat = 0 from rfl] at hx127_1)
     (try rw [show 0 * 2 = 0 from rfl] at hx127_1)
     (try rw [Addr.add_zero'] at hx127_1)
     replace p127 := eq_true p127
     replace q127 := eq_true q127
     refine start_ (n := 15) (S := fun w' => w'.cell? ad120 = some (.int .i64 ((rd_T40 y111 0).f0)) ∧ w'.cell? ⟨ad120.block, ad120.off + 1, none⟩ = some (.int .i64 ((rd_T40 y111 0).f1)) ∧ w'.cell? ad120 = some (.int .i64 ((rd_T40 y111 0).f0)) ∧ w'.cell? ⟨ad120.block, ad120.off + 1, none⟩ = some (.int .i64 ((rd_T40 y111 0).f1))) (ds := [14]) #[false, false, false, false, false, false, false, false, false, false, false, false, false, false, false] (by kernel_rfl) rfl rfl ⟨hx120_0, hx120_1, hx127_0, hx127_1⟩ (fun hHeld => ?_); refine with_tabW spec_l05Bad.tab6 spec_l05Bad.bits6 (fun HT_ HW_ => ?_)
     generalize w19.drew = w20 at HO113 HI0 HK HB hx120_0 hx120_1 hx127_0 hx127_1 hHeld ⊢
     refine pure_ (i := 0) (N := some 16) (v := ?_) (a' := ?_) #[true, false, false, false, false, false, false, false, false, false, false, false, false, false, false] rfl rfl (any_of HT_.out (by kernel_rfl)) (fun _ _ _ h => h) (Or.inl ⟨by rfl, ?_⟩) ?_ ?_
     rotate_left
     ·intro w'
      go_simp
      with_reducible rfl
     rotate_left
     ·simp only [Act.put, List.setIfInBounds_toArray, List.set_cons_zero, List.set_cons_succ, i64_w, i32_w]
      rfl
     refine pure_ (i := 1) (N := some 17) (v := ?_) (a' := ?_) #[true, true, false, false, false, false, false, false, false, false, false, false, false, false, false] rfl rfl (any_of HT_.out (by kernel_rfl)) (fun _ _ _ h => h) (Or.inl ⟨by rfl, ?_⟩) ?_ ?_
     rotate_left
     ·intro w'
      go_simp
      with_reducible rfl
     rotate_left
     ·simp only [Act.put, List.setIfInBounds_toArray, List.set_cons_zero, List.set_cons_succ, i64_w, i32_w]
      rfl
     refine pure_ (i := 2) (N := some 18) (v := ?_) (a' := ?_) #[true, true, true, false, false, false, false, false, false, false, false, false, false, false, false] rfl rfl (any_of HT_.out (by kernel_rfl)) (fun _ _ _ h => h) (Or.inl ⟨by rfl, ?_⟩) ?_ ?_
     rotate_left
     ·intro w'
      go_simp
      with_reducible rfl
     rotate_left
     ·simp only [Act.put, List.setIfInBounds_toArray, List.set_cons_zero, List.set_cons_succ, i64_w, i32_w]
      rfl
     refine pure_ (i := 3) (N := some 19) (v := ?_) (a' := ?_) #[true, true, true, true, false, false, false, false, false, false, false, false, false, false, false] rfl rfl (any_of HT_.out (by kernel_rfl)) (fun _ _ _ h => h) (Or.inl ⟨by rfl, ?_⟩) ?_ ?_
     rotate_left
     ·intro w'
      go_simp
      with_reducible rfl
     rotate_left
     ·simp only [Act.put, List.setIfInBounds_toArray, List.set_cons_zero, List.set_cons_succ, i64_w, i32_w]
      rfl
     refine pure_ (i := 4) (N := some 20) (v := ?_) (a' := ?_) #[true, true, true, true, true, false, false, false, false, false, false, false, false, false, false] rfl rfl (any_of HT_.out (by kernel_rfl)) (fun _ _ _ h => h) (Or.inl ⟨by rfl, ?_⟩) ?_ ?_
     rotate_left
     ·intro w'
      go_simp
      with_reducible rfl
     rotate_left
     ·simp only [Act.put, List.setIfInBounds_toArray, List.set_cons_zero, List.set_cons_succ, i64_w, i32_w]
      rfl
     refine pure_ (i := 8) (N := some 24) (v := ?_) (a' := ?_) #[true, true, true, true, true, false, false, false, true, false, false, false, false, false, false] rfl rfl (any_of HT_.out (by kernel_rfl)) (fun _ _ _ h => h) (Or.inl ⟨by rfl, ?_⟩) ?_ ?_
     rotate_left
     ·intro w'
      go_simp
      with_reducible rfl
     rotate_left
     ·simp only [Act.put, List.setIfInBounds_toArray, List.set_cons_zero, List.set_cons_succ, i64_w, i32_w]
      rfl
     refine pure_ (i := 9) (N := some 25) (v := ?_) (a' := ?_) #[true, true, true, true, true, false, false, false, true, true, false, false, false, false, false] rfl rfl (any_of HT_.out (by kernel_rfl)) (fun _ _ _ h => h) (Or.inl ⟨by rfl, ?_⟩) ?_ ?_
     rotate_left
     ·intro w'
      go_simp
      with_reducible rfl
     rotate_left
     ·simp only [Act.put, List.setIfInBounds_toArray, List.set_cons_zero, List.set_cons_succ, i64_w, i32_w]
      rfl
     refine pure_ (i := 10) (N := some 26) (v := ?_) (a' := ?_) #[true, true, true, true, true, false, false, false, true, true, true, false, false, false, false] rfl rfl (any_of HT_.out (by kernel_rfl)) (fun _ _ _ h => h) (Or.inl ⟨by rfl, ?_⟩) ?_ ?_
     rotate_left
     ·intro w'
      go_simp
      with_reducible rfl
     rotate_left
     ·simp only [Act.put, List.setIfInBounds_toArray, List.set_cons_zero, List.set_cons_succ, i64_w, i32_w]
      rfl
     refine take_ (i := 5) (N := some 21) (v := ?_) (a' := ?_) #[true, true, true, true, true, true, false, false, true, true, true, false, false, false, false] rfl rfl (take_ofW HT_.out HW_.out (by kernel_rfl)) (fun _ _ _ h => h) (Or.inl ⟨by rfl, ?_⟩) hHeld ?_ ?_
     rotate_left
     ·rintro w' ⟨s0, s1, s2, s3⟩
      go_simp
      with_reducible rfl
     rotate_left
     ·simp only [Act.put, List.setIfInBounds_toArray, List.set_cons_zero, List.set_cons_succ, i64_w, i32_w]
      rfl
     refine take_ (i := 11) (N := some 27) (v := ?_) (a' := ?_) #[true, true, true, true, true, true, false, false, true, true, true, true, false, false, false] rfl rfl (take_ofW HT_.out HW_.out (by kernel_rfl)) (fun _ _ _ h => h) (Or.inl ⟨by rfl, ?_⟩) hHeld ?_ ?_
     rotate_left
     ·rintro w' ⟨s0, s1, s2, s3⟩
      go_simp
      with_reducible rfl
     rotate_left
     ·simp only [Act.put, List.setIfInBounds_toArray, List.set_cons_zero, List.set_cons_succ, i64_w, i32_w]
      rfl
     refine one_ (i := 6) (N := some 22) #[true, true, true, true, true, true, true, false, true, true, true, true, false, false, false] rfl rfl (one_of HT_.out (by kernel_rfl)) (by decide) (fun K hK => ?_)
     refine Kd.R_lit_step (Kd.int .i64) _ 2 ?hg (N := 22) ?hd (xs := ([(-1), (rd_T40 y111 0).f1, 1099511627776] : List Int)) (inner := [.int .i64 (-1), .int .i64 ((rd_T40 y111 0).f1), .int .i64 1099511627776]) (ok := fun _ => True) (okp := fun _ => True) ?hr ?hp (fun _ hk => hk) trivial (Below.refl _ _) (Nat.le_refl _) (by simp) ?_; (case hd => rfl); (case hg => rfl); (case hr => first | (go_simp; done) | (go_simp; rfl)); (case hp => exact (Reps.one (show Kd.M (Kd.int .i64) _ _ _ (-1) [.int .i64 (-1)] from rfl) (Reps.one (show Kd.M (Kd.int .i64) _ _ _ ((rd_T40 y111 0).f1) [.int .i64 ((rd_T40 y111 0).f1)] from rfl) (Reps.one (show Kd.M (Kd.int .i64) _ _ _ 1099511627776 [.int .i64 1099511627776] from rfl) (Reps.none _ _)))))
     intro v122 w22 ho23 hb hg_ hnew_
     have HS0_ := (hb.cell (World.block_lt_of_cell? _ _ (hHeld.1))).trans (hHeld.1)
     have HS1_ := (hb.cell (World.block_lt_of_cell? _ _ (hHeld.2.1))).trans (hHeld.2.1)
     have HS2_ := (hb.cell (World.block_lt_of_cell? _ _ (hHeld.2.2.1))).trans (hHeld.2.2.1)
     have HS3_ := (hb.cell (World.block_lt_of_cell? _ _ (hHeld.2.2.2))).trans (hHeld.2.2.2)
     clear hg_ hnew_
     (first | rw [← Ny121.out] at ho23 | (simp only [Int.reduceToNat] at ho23; rw [← Ny121.out] at ho23))
     have n0_ := am (Kd.R_below (kR HO113) hb)
     have n1_ := am (Kd.R_lower ho23 (keep_size (w := w) (g := g) (row := none) (kH HK)))
     have n2_ := am (IsS72.below (kI HI0) hb)
     have n3_ := am (KeepBut.trans (kH HK) (KeepBut.of_below hb g none) (.inl rfl))
     have n4_ := am (below_step (kB1 HB (IsS72.ge HI0.out)) hb)
     clear HO113
     clear HI0
     clear HK
     clear HB
     have HO113 := n0_
     have HO123 := n1_
     have HI0 := n2_
     have HK := n3_
     have HB := n4_
     clear n0_ n1_ n2_ n3_ n4_
     clear hb ho23
     obtain ⟨Ao24, co24, eo24⟩ := Kd.R_slice HO123.out
     (first | subst eo24 | (injection eo24 with f1_ f2_ f3_; have f4_ := f1_.symm; have f5_ := f3_.symm; clear f1_ f2_ f3_; subst f4_; subst f5_))
     refine hK.out _ _ ⟨HS0_, HS1_, HS2_, HS3_⟩ (fun hHeld => ?_)
     clear hK K
     refine norm_ (a' := ?_) ?_ ?_
     rotate_left
     ·show Act.put _ (some 22) _ = _
      simp only [Act.put, List.setIfInBounds_toArray, List.set_cons_zero, List.set_cons_succ, i64_w, i32_w]
      rfl
     refine one_ (i := 7) (N := some 23) #[true, true, true, true, true, true, true, true, true, true, true, true, false, false, false] rfl rfl (one_of HT_.out (by kernel_rfl)) (by decide) (fun K hK => ?_)
     refine goes_ Try.func57 (by kernel_rfl) rfl #[.pointer (some ⟨g, 0, none⟩), .slice Ao24 y121.length co24] (by rfl) rfl rfl kA ?_
     with_reducible refine (spec_l01Pick.calls g s0_0 t115 t116 _ _ y121 t124 t125 t126 w0 _ ?side1 ?side2 ?side3 ?side4 ?side5 A14.out).mono ?_
     (case side1 => exact kI HI0)
     (case side2 => exact kB1 HB (IsS72.ge HI0.out))
     (case side3 => exact kC (Kd.R_reads' HO123.out).2.2)
     (case side4 => exact (Kd.R_reads' HO123.out).2.1)
     (case side5 => first | exact far_slice (IsS72.own_ne HI0.out HO123.out (by decide)) | exact (fun ad hq_ hl_ => far_slice (IsS72.own_ne HI0.out HO123.out (by decide)) ad hq_ (by rw [(Kd.R_reads' HO123.out).1]; exact hl_)))
     rintro e w25 ⟨rfl, hi, hb, hk⟩
     have HS0_ := keep_cell hk (hHeld.1) (by first | (rw [add_block]; exact Kd.own_blk (IsS72.own_ne HI0.out HO113.out (by decide))) | (show (Addr.add _ _).block ≠ _; rw [add_block]; exact Kd.own_blk (IsS72.own_ne HI0.out HO113.out (by decide))) | exact Kd.own_blk (IsS72.own_ne HI0.out HO113.out (by decide)) | (have q_ := Kd.own_blk (IsS72.own_ne HI0.out HO113.out (by decide)); exact q_))
     have HS1_ := keep_cell hk (hHeld.2.1) (by first | (rw [add_block]; exact Kd.own_blk (IsS72.own_ne HI0.out HO113.out (by decide))) | (show (Addr.add _ _).block ≠ _; rw [add_block]; exact Kd.own_blk (IsS72.own_ne HI0.out HO113.out (by decide))) | exact Kd.own_blk (IsS72.own_ne HI0.out HO113.out (by decide)) | (have q_ := Kd.own_blk (IsS72.own_ne HI0.out HO113.out (by decide)); exact q_))
     have HS2_ := keep_cell hk (hHeld.2.2.1) (by first | (rw [add_block]; exact Kd.own_blk (IsS72.own_ne HI0.out HO113.out (by decide))) | (show (Addr.add _ _).block ≠ _; rw [add_block]; exact Kd.own_blk (IsS72.own_ne HI0.out HO113.out (by decide))) | exact Kd.own_blk (IsS72.own_ne HI0.out HO113.out (by decide)) | (have q_ := Kd.own_blk (IsS72.own_ne HI0.out HO113.out (by decide)); exact q_))
     have HS3_ := keep_cell hk (hHeld.2.2.2) (by first | (rw [add_block]; exact Kd.own_blk (IsS72.own_ne HI0.out HO113.out (by decide))) | (show (Addr.add _ _).block ≠ _; rw [add_block]; exact Kd.own_blk (IsS72.own_ne HI0.out HO113.out (by decide))) | exact Kd.own_blk (IsS72.own_ne HI0.out HO113.out (by decide)) | (have q_ := Kd.own_blk (IsS72.own_ne HI0.out HO113.out (by decide)); exact q_))
     refine ⟨_, rfl, ?_⟩
     have n0_ := am (Kd.R_mono (Kd.R_keep (IsS72.apart (show IsS72 w0 _ g s0_0 t115 t116 from kI HI0) (kR HO113) (by decide)) hk (fun _ h => h.2)) (fun _ h => h.1))
     have n1_ := am (Kd.R_mono (Kd.R_keep (IsS72.apart (show IsS72 w0 _ g s0_0 t115 t116 from kI HI0) (kR HO123) (by decide)) hk (fun _ h => h.2)) (fun _ h => h.1))
     have n2_ := am (KeepBut.trans (kH HK) hk (.inl rfl))
     have n3_ := am (hb)
     have n4_ := am (hi)
     clear HO113
     clear HO123
     clear HK
     clear HB
     clear HI0
     have HO113 := n0_
     have HO123 := n1_
     have HK := n2_
     have HB := n3_
     have HI0 := n4_
     clear n0_ n1_ n2_ n3_ n4_
     (try clear hb)
     (try clear hb2)
     (try clear hk)
     (try clear hi)
     have p15 : 0 ≤ (0 : Int) := (by omega)
     have q15 : (0 : Int) < ((y111.length : Int) : Int) := of_decide_eq_true kM
     have qi15 : (0 < y111.length) = True := eq_true (by omega)
     obtain ⟨go15, co15, eo15, gb15, gl15, cl15, HG15⟩ := Kd.R_form HO113.out (by omega)
     (first | cases eo15 | (injection eo15 with ea_ en_ ec_; (first | subst ea_ | (injection ea_ with ea_; subst ea_)); subst ec_; clear en_))
     have GB15 := am gb15
     have GG15 := am HG15
     clear gb15 gl15 HG15
     (first | simp only [add_plain] at hx120_0 | skip)
     (first | simp only [add_plain] at hx120_1 | skip)
     (first | simp only [add_plain] at hx127_0 | skip)
     (first | simp only [add_plain] at hx127_1 | skip)
     obtain ⟨ce15, hcl15, hM15, hcc15, hfr15⟩ := Kd.R_elem HO113.out z40 (0 : Int) p15 q15
     obtain rfl := k40_openM hM15
     have hx15_0 : World.cell? _ ⟨go15, (0 : Int).toNat * 2, none⟩ = some (.int .i64 ((rd_T40 y111 0).f0)) := hcc15 0 _ rfl
     have hx15_1 : World.cell? _ ⟨go15, (0 : Int).toNat * 2 + 1, none⟩ = some (.int .i64 ((rd_T40 y111 0).f1)) := hcc15 1 _ rfl
     have hf15_0 : World.frozen? _ ⟨go15, (0 : Int).toNat * 2, none⟩ = false := hfr15 0
     have hf15_1 : World.frozen? _ ⟨go15, (0 : Int).toNat * 2 + 1, none⟩ = false := hfr15 1
     clear hcl15 hcc15 hfr15 hM15
     (try rw [show ((0 : Int)).toNat = 0 from rfl] at hx15_0)
     (try simp only [Nat.reduceMul, Nat.zero_mul, Nat.zero_add, Nat.reduceAdd] at hx15_0)
     (try rw [show ((0 : Int)).toNat = 0 from rfl] at hf15_0)
     (try simp only [Nat.reduceMul, Nat.zero_mul, Nat.zero_add, Nat.reduceAdd] at hf15_0)
     (try rw [show ((0 : Int)).toNat = 0 from rfl] at hx15_1)
     (try simp only [Nat.reduceMul, Nat.zero_mul, Nat.zero_add, Nat.reduceAdd] at hx15_1)
     (try rw [show ((0 : Int)).toNat = 0 from rfl] at hf15_1)
     (try simp only [Nat.reduceMul, Nat.zero_mul, Nat.zero_add, Nat.reduceAdd] at hf15_1)
     replace p15 := eq_true p15
     replace q15 := eq_true q15
     have HN0_go15 := am (show g ≠ go15 from by have h_ := IsS72.own_ne HI0.out HO113.out (by decide); intro e_; exact h_ (by rw [e_]; rfl))
     obtain ⟨ce26, hcl26, hM26, hcc26, hfr26⟩ := Kd.R_elem HO113.out z40 (0 : Int) (by omega) (by have h_ : (0 : Int) < ((y111.length : Int) : Int) := of_decide_eq_true kM; first | exact h_ | (have e_ := (Kd.R_reads' HO113.out).1; omega) | simpa using h_)
     obtain rfl := k40_openM hM26
     have HP26 := (Kd.R_seg HO113.out (0 : Int) (by omega) (by have h_ : (0 : Int) < ((y111.length : Int) : Int) := of_decide_eq_true kM; first | exact h_ | (have e_ := (Kd.R_reads' HO113.out).1; omega) | simpa using h_) (seg := [.int .i64 t124, .int .i64 ((rd_T40 y111 0).f1)]) (j := 0) hcl26 hcc26 (show 2 ≤ 2 from by decide) (x' := (⟨t124, (rd_T40 y111 0).f1⟩ : S40)) (k40_mkM _ _ _ (⟨t124, (rd_T40 y111 0).f1⟩ : S40) ) (fun _ hk => hk)).1
     rw [← Ny128.out] at HP26
     have HQ26 := am HP26
     clear hcl26 hcc26 hfr26 hM26 HP26
     refine hK.out _ _ ⟨HS0_, HS1_, HS2_, HS3_⟩ (fun hHeld => ?_)
     clear hK K
     refine norm_ (a' := ?_) ?_ ?_
     rotate_left
     ·show Act.put _ (some 23) _ = _
      simp only [Act.put, List.setIfInBounds_toArray, List.set_cons_zero, List.set_cons_succ, i64_w, i32_w]
      rfl
     refine pure_ (i := 12) (N := some 28) (v := ?_) (a' := ?_) #[true, true, true, true, true, true, true, true, true, true, true, true, true, false, false] rfl rfl (any_of HT_.out (by kernel_rfl)) (fun _ _ _ h => h) (Or.inl ⟨by rfl, ?_⟩) ?_ ?_
     rotate_left
     ·intro w'
      go_simp
      with_reducible rfl
     rotate_left
     ·simp only [Act.put, List.setIfInBounds_toArray, List.set_cons_zero, List.set_cons_succ, i64_w, i32_w]
      rfl
     refine pure_ (i := 13) (N := some 29) (v := ?_) (a' := ?_) #[true, true, true, true, true, true, true, true, true, true, true, true, true, true, false] rfl rfl (any_of HT_.out (by kernel_rfl)) (fun _ _ _ h => h) (Or.inl ⟨by rfl, ?_⟩) ?_ ?_
     rotate_left
     ·intro w'
      go_simp
      with_reducible rfl
     rotate_left
     ·simp only [Act.put, List.setIfInBounds_toArray, List.set_cons_zero, List.set_cons_succ, i64_w, i32_w]
      rfl
     refine last_ (i := 14) (N := none) #[true, true, true, true, true, true, true, true, true, true, true, true, true, true, true] rfl rfl (one_of HT_.out (by kernel_rfl)) (by decide) (fun K hK => ?_)
     refine skip_ (w1 := ?_) (by rfl) rfl ?_ ?_
     rotate_left
     ·go_simp
      rfl
     refine hK.out _ _ ?_
     clear hK K
     refine done_ (done_of HT_.out (by kernel_rfl)) ?_
     try go_wp2
     go_ret
     exact ⟨_, by first | rfl | (simp [errW_none, errW_some] <;> rfl) | (simp [*, errW_none, errW_some] <;> rfl), kR HQ26, by repeat (first | (with_reducible first | exact HI0.out | apply IsS72.alloc | apply IsS72.drewN | apply IsS72.drew | apply IsS72.set_1 | apply IsS72.set_2 | refine IsS72.far ?_ HN0_go15.out _ | refine IsS72.far ?_ HN0_go15.out _) | exact HI0.out), kB3 HB (Nat.le_trans HL.out GB15.out) (Nat.le_trans HL.out GB15.out) (IsS72.ge HI0.out), by repeat (first | (with_reducible first | exact HK.out | apply KeepBut.set_ | apply keep_drewN | apply keep_drew | apply keep_alloc | refine keep_far ?_ GB15.out _ | refine keep_far ?_ GB15.out _) | exact HK.out)⟩
    ·rw [if_neg c13] at H
     exact absurd H (by simp)
   ·rw [if_neg c12] at H
    have c12b0 : (t114 == 1) = false := beq_eq_false_iff_ne.mpr c12
    have c12b1 : (t114 != 1) = true := bne_iff_ne.mpr c12
    by_cases c27 : t114 = 2
    ·rw [if_pos c27] at H
     have c27b0 : (t114 == 2) = true := beq_iff_eq.mpr c27
     have c27b1 : (t114 != 2) = false := bne_eq_false_iff_eq.mpr c27
     clear c27
     obtain ⟨y129, hy129⟩ : ∃ y_ : List Int, y_ = (([0, 41, (-3)] : List Int)) := ⟨_, rfl⟩
     replace H : ((spec_l01Pick.f s0_0 t115 t116 y129).bind fun bt132 => (if 0 < (y111.length : Int) then (some ((y111.set (0 : Int).toNat (⟨0, bt132.1⟩ : S40)), bt132.2.1, bt132.2.2)) else (none))) = some (r1, r2, r3) := by first | (rw [hy129]; with_reducible exact H) | (have H2_ := (Option.bind_some _ _).symm.trans H; rw [hy129]; with_reducible exact H2_) | (have H2_ := (Option.bind_some _ _).symm.trans H; with_reducible exact H2_) | with_reducible exact H | (rw [hy129]; exact H) | exact H
     have Ny129 := am hy129
     clear hy129
     replace H := Option.bind_eq_some_iff.mp H
     obtain ⟨⟨t132, t133, t134⟩, A280, H⟩ := H
     try dsimp only at H
     have A28 := am A280
     clear A280
     by_cases c29 : 0 < (y111.length : Int)
     ·rw [if_pos c29] at H
      have c29b0 : decide (0 < (y111.length : Int)) = true := decide_eq_true c29
      have c29b1 : decide (0 < y111.length) = true := decide_eq_true (by omega)
      clear c29
      obtain ⟨y135, hy135⟩ : ∃ y_ : List (S40), y_ = (y111.set (0 : Int).toNat (⟨0, t132⟩ : S40)) := ⟨_, rfl⟩
      replace H : (some (y135, t133, t134)) = some (r1, r2, r3) := by first | (rw [hy135]; with_reducible exact H) | (have H2_ := (Option.bind_some _ _).symm.trans H; rw [hy135]; with_reducible exact H2_) | (have H2_ := (Option.bind_some _ _).symm.trans H; with_reducible exact H2_) | with_reducible exact H | (rw [hy135]; exact H) | exact H
      have Ny135 := am hy135
      clear hy135
      simp only [Option.some.injEq, Prod.mk.injEq] at H
      obtain ⟨rfl, rfl, rfl⟩ := H
      go_enter Try.func62, Try.ntmps62
      go_wp2_with (first | ((with_reducible refine gate_dst (N := 6) rfl ?_); refine Kd.R_lit k40 _ 40 ?hg (N := 6) ?hd (xs := ([] : List (S40))) (inner := []) (ok := fun _ => True) (okp := fun _ => True) ?hr ?hp (fun _ hk => hk) trivial (Below.refl _ _) (Nat.le_refl _) (by simp) ?_; (case hd => rfl); (case hg => rfl); (case hr => first | (go_simp; done) | (go_simp; rfl)); (case hp => exact (Reps.none _ _)); intro v109 w31 ho32 hb hg_ hnew_; clear hg_ hnew_; (first | rw [← Ny108.out] at ho32 | (simp only [Int.reduceToNat] at ho32; rw [← Ny108.out] at ho32)); have n0_ := am (Kd.R_lower ho32 (keep_size (w := w) (g := g) (row := none) (kH HK))); have n1_ := am (IsS72.below (kI HI0) hb); have n2_ := am (KeepBut.trans (kH HK) (KeepBut.of_below hb g none) (.inl rfl)); have n3_ := am (below_step (kB1 HB (IsS72.ge HI0.out)) hb); clear HI0 HK HB; have HO110 := n0_; have HI0 := n1_; have HK := n2_; have HB := n3_; clear n0_ n1_ n2_ n3_; clear hb ho32) | ((with_reducible refine gate_builtin (b := .append) (xs := #[.tmp 6, .tmp 7]) rfl ?_); at_builtin; refine Kd.R_append_rows k40 w.heap.size rfl (.tmp 6) (.tmp 7) 24 40 (.agg #[(.int .i64 0), (.int .i64 0)]) 16 rfl Try.underlying24 info40 rfl (by decide) (by omega) v109 y108 l1 _ _ _ (fun _ => True) (fun _ => False) rfl rfl ?aO ?aR (fun _ _ h => h) (fun _ h => h.elim) ?aF (Below.refl _ _) ?aS ?aL ?_; (case aR => exact Kd.C_foot_now HR1.out (kH HK)); (case aF => exact (fun _ _ => trivial)); (case aO => exact (kR HO110)); (case aS => exact (keep_size (w := w) (g := g) (row := none) (kH HK))); (case aL => have := LMc3.out; omega); intro v112 w33 ho hb hg hat; rw [← Ny111.out] at ho; have n0_ := am (IsS72.grown (kI HI0) hg (IsS72.own_ne HI0.out HO110.out (by decide))); have n1_ := am (below_weaken (kB1 HB (IsS72.ge HI0.out)) HL.out hb); have n2_ := am (KeepBut.trans (kH HK) (KeepBut.of_grown hg g) (Kd.R_base2 HO110.out)); have n3_ := am (ho); clear HI0 HB HK HO110; have HI0 := n0_; have HB := n1_; have HK := n2_; have HO113 := n3_; clear n0_ n1_ n2_ n3_; clear ho hb hg hat) | ((with_reducible refine gate_callee (f := 56) rfl ?_); refine goesL_ (some 10) rfl rfl Try.func56 (by kernel_rfl) rfl #[.pointer (some ⟨g, 0, none⟩), .int .i64 40] rfl kA ?_; (with_reducible refine (spec_l01Next.calls g s0_0 s0_1 s0_2 40 t114 t115 t116 w0 _ ?side1 ?side2 A4.out).mono ?_); (case side1 => exact kI HI0); (case side2 => exact kB1 HB (IsS72.ge HI0.out)); rintro e w34 ⟨rfl, hi, hb, hk⟩; refine ⟨_, rfl, ?_⟩; have n0_ := am (Kd.R_mono (Kd.R_keep (IsS72.apart (show IsS72 w0 _ g s0_0 s0_1 s0_2 from kI HI0) (kR HO113) (by decide)) hk (fun _ h => h.2)) (fun _ h => h.1)); have n1_ := am (KeepBut.trans (kH HK) hk (.inl rfl)); have n2_ := am (hb); have n3_ := am (hi); clear HO113 HK HB HI0; have HO113 := n0_; have HK := n1_; have HB := n2_; have HI0 := n3_; clear n0_ n1_ n2_ n3_; (try clear hb); (try clear hb2); (try clear hk); (try clear hi)) | ((with_reducible refine gate_dst (N := 34) rfl ?_); refine Kd.R_lit (Kd.int .i64) _ 2 ?hg (N := 34) ?hd (xs := ([0, 41, (-3)] : List Int)) (inner := [.int .i64 0, .int .i64 41, .int .i64 (-3)]) (ok := fun _ => True) (okp := fun _ => True) ?hr ?hp (fun _ hk => hk) trivial (Below.refl _ _) (Nat.le_refl _) (by simp) ?_; (case hd => rfl); (case hg => rfl); (case hr => first | (go_simp; done) | (go_simp; rfl)); (case hp => exact (Reps.one (show Kd.M (Kd.int .i64) _ _ _ 0 [.int .i64 0] from rfl) (Reps.one (show Kd.M (Kd.int .i64) _ _ _ 41 [.int .i64 41] from rfl) (Reps.one (show Kd.M (Kd.int .i64) _ _ _ (-3) [.int .i64 (-3)] from rfl) (Reps.none _ _))))); intro v130 w35 ho36 hb hg_ hnew_; clear hg_ hnew_; (first | rw [← Ny129.out] at ho36 | (simp only [Int.reduceToNat] at ho36; rw [← Ny129.out] at ho36)); have n0_ := am (Kd.R_below (kR HO113) hb); have n1_ := am (Kd.R_lower ho36 (keep_size (w := w) (g := g) (row := none) (kH HK))); have n2_ := am (IsS72.below (kI HI0) hb); have n3_ := am (KeepBut.trans (kH HK) (KeepBut.of_below hb g none) (.inl rfl)); have n4_ := am (below_step (kB1 HB (IsS72.ge HI0.out)) hb); clear HO113 HI0 HK HB; have HO113 := n0_; have HO131 := n1_; have HI0 := n2_; have HK := n3_; have HB := n4_; clear n0_ n1_ n2_ n3_ n4_ hb ho36; obtain ⟨Ao37, co37, eo37⟩ := Kd.R_slice HO131.out; subst eo37) | ((with_reducible refine gate_callee (f := 57) rfl ?_); refine goesL_ (some 35) rfl rfl Try.func57 (by kernel_rfl) rfl #[.pointer (some ⟨g, 0, none⟩), .slice Ao37 y129.length co37] rfl kA ?_; (with_reducible refine (spec_l01Pick.calls g s0_0 t115 t116 _ _ y129 t132 t133 t134 w0 _ ?side1 ?side2 ?side3 ?side4 ?side5 A28.out).mono ?_); (case side1 => exact kI HI0); (case side2 => exact kB1 HB (IsS72.ge HI0.out)); (case side3 => exact kC (Kd.R_reads' HO131.out).2.2); (case side4 => exact (Kd.R_reads' HO131.out).2.1); (case side5 => first | exact far_slice (IsS72.own_ne HI0.out HO131.out (by decide)) | exact (fun ad hq_ hl_ => far_slice (IsS72.own_ne HI0.out HO131.out (by decide)) ad hq_ (by rw [(Kd.R_reads' HO131.out).1]; exact hl_))); rintro e w38 ⟨rfl, hi, hb, hk⟩; refine ⟨_, rfl, ?_⟩; have n0_ := am (Kd.R_mono (Kd.R_keep (IsS72.apart (show IsS72 w0 _ g s0_0 t115 t116 from kI HI0) (kR HO113) (by decide)) hk (fun _ h => h.2)) (fun _ h => h.1)); have n1_ := am (Kd.R_mono (Kd.R_keep (IsS72.apart (show IsS72 w0 _ g s0_0 t115 t116 from kI HI0) (kR HO131) (by decide)) hk (fun _ h => h.2)) (fun _ h => h.1)); have n2_ := am (KeepBut.trans (kH HK) hk (.inl rfl)); have n3_ := am (hb); have n4_ := am (hi); clear HO113 HO131 HK HB HI0; have HO113 := n0_; have HO131 := n1_; have HK := n2_; have HB := n3_; have HI0 := n4_; clear n0_ n1_ n2_ n3_ n4_; (try clear hb); (try clear hb2); (try clear hk); (try clear hi); have p30 : 0 ≤ (0 : Int) := (by omega); have q30 : (0 : Int) < ((y111.length : Int) : Int) := of_decide_eq_true kM; have qi30 : (0 < y111.length) = True := eq_true (by omega); obtain ⟨go30, co30, eo30, gb30, gl30, cl30, HG30⟩ := Kd.R_form HO113.out (by omega); (first | cases eo30 | (injection eo30 with ea_ en_ ec_; (first | subst ea_ | (injection ea_ with ea_; subst ea_)); subst ec_; clear en_)); have GB30 := am gb30; have GG30 := am HG30; clear gb30 gl30 HG30; obtain ⟨ce30, hcl30, hM30, hcc30, hfr30⟩ := Kd.R_elem HO113.out z40 (0 : Int) p30 q30; obtain rfl := k40_openM hM30; have hx30_0 : w38.cell? ⟨go30, (0 : Int).toNat * 2, none⟩ = some (.int .i64 ((rd_T40 y111 0).f0)) := hcc30 0 _ rfl; have hx30_1 : w38.cell? ⟨go30, (0 : Int).toNat * 2 + 1, none⟩ = some (.int .i64 ((rd_T40 y111 0).f1)) := hcc30 1 _ rfl; have hf30_0 : w38.frozen? ⟨go30, (0 : Int).toNat * 2, none⟩ = false := hfr30 0; have hf30_1 : w38.frozen? ⟨go30, (0 : Int).toNat * 2 + 1, none⟩ = false := hfr30 1; clear hcl30 hcc30 hfr30 hM30; (try rw [show ((0 : Int)).toNat = 0 from rfl] at hx30_0); (try simp only [Nat.reduceMul, Nat.zero_mul, Nat.zero_add, Nat.reduceAdd] at hx30_0); (try rw [show ((0 : Int)).toNat = 0 from rfl] at hf30_0); (try simp only [Nat.reduceMul, Nat.zero_mul, Nat.zero_add, Nat.reduceAdd] at hf30_0); (try rw [show ((0 : Int)).toNat = 0 from rfl] at hx30_1); (try simp only [Nat.reduceMul, Nat.zero_mul, Nat.zero_add, Nat.reduceAdd] at hx30_1); (try rw [show ((0 : Int)).toNat = 0 from rfl] at hf30_1); (try simp only [Nat.reduceMul, Nat.zero_mul, Nat.zero_add, Nat.reduceAdd] at hf30_1); replace p30 := eq_true p30; replace q30 := eq_true q30; have HX39 := am (show Kd.R k40 40 w38 w.heap.size (fun _ => True) (.slice (some ⟨go30, 0, none⟩) y111.length co30) y111 from (kR HO113)); obtain ⟨ce39, hcl39, hM39, hcc39, hfr39⟩ := Kd.R_elem HX39.out z40 (0 : Int) (by omega) (by have h_ : (0 : Int) < ((y111.length : Int) : Int) := of_decide_eq_true kM; first | exact h_ | (have e_ := (Kd.R_reads' HO113.out).1; omega) | simpa using h_); obtain rfl := k40_openM hM39; have HP39 := Kd.R_seg HX39.out (0 : Int) (by omega) (by have h_ : (0 : Int) < ((y111.length : Int) : Int) := of_decide_eq_true kM; first | exact h_ | (have e_ := (Kd.R_reads' HO113.out).1; omega) | simpa using h_) (seg := [.int .i64 0, .int .i64 t132]) (j := 0) hcl39 hcc39 (show 2 ≤ 2 from by decide) (x' := (⟨0, t132⟩ : S40)) (k40_mkM _ _ _ (⟨0, t132⟩ : S40) ) (fun _ hk => hk); have hx39_0 := hcc39 0 _ rfl; (try simp only [show (k40).sz = 2 from rfl, Nat.mul_one, Nat.add_zero] at hx39_0); (try rw [show ((0 : Int)).toNat = 0 from rfl] at hx39_0); (try simp only [Nat.reduceMul, Nat.zero_mul, Nat.zero_add, Nat.reduceAdd] at hx39_0); have hf39_0 := hfr39 0; (try simp only [show (k40).sz = 2 from rfl, Nat.mul_one, Nat.add_zero] at hf39_0); (try rw [show ((0 : Int)).toNat = 0 from rfl] at hf39_0); (try simp only [Nat.reduceMul, Nat.zero_mul, Nat.zero_add, Nat.reduceAdd] at hf39_0); have hx39_1 := hcc39 1 _ rfl; (try simp only [show (k40).sz = 2 from rfl, Nat.mul_one, Nat.add_zero] at hx39_1); (try rw [show ((0 : Int)).toNat = 0 from rfl] at hx39_1); (try simp only [Nat.reduceMul, Nat.zero_mul, Nat.zero_add, Nat.reduceAdd] at hx39_1); have hf39_1 := hfr39 1; (try simp only [show (k40).sz = 2 from rfl, Nat.mul_one, Nat.add_zero] at hf39_1); (try rw [show ((0 : Int)).toNat = 0 from rfl] at hf39_1); (try simp only [Nat.reduceMul, Nat.zero_mul, Nat.zero_add, Nat.reduceAdd] at hf39_1); clear hcl39 hcc39 hfr39 hM39) | ((with_reducible refine gate_store (t := 40) (p := 37) rfl ?_); refine store_event (t := 40) (p := 37) (v := ?vo_w40) (w1 := ((w38.setCell ⟨go30, 0, none⟩ (.int .i64 0)).setCell ⟨go30, 1, none⟩ (.int .i64 t132))) ?hg ?ho ?hn ?hr ?_; (case ho => rfl); (case hg => rfl); (case hn => rfl); (case hr => first | (go_simp; done) | (go_simp; rfl)); intro w40 hw; have hg : w38.grownBy w40 (some go30) := (by rw [hw]; exact HP39.2); have hp_ : Kd.R k40 40 w40 w.heap.size (fun _ => True) (.slice (some ⟨go30, 0, none⟩) y111.length co30) y135 := (by rw [hw, Ny135.out]; exact HP39.1); clear HP39; have n0_ := am (IsS72.grown (kI HI0) hg (IsS72.own_ne HI0.out HO113.out (by decide))); have n1_ := am (hp_); have n2_ := am (Kd.R_over' (v := (.slice (some ⟨go30, 0, none⟩) y111.length co30)) (kR HO131) (Kd.R_typed HO113.out) (by decide) hg); have n3_ := am ((by rw [hw]; exact below_set (below_set (HB.out) (Nat.le_trans HL.out GB30.out)) (Nat.le_trans HL.out GB30.out) : Below w0.heap.size w0 w40)); have n4_ := am (KeepBut.trans (kH HK) (KeepBut.of_grown hg g) (Kd.R_base2 HO113.out)); clear HI0 HO113 HO131 HB HK; have HI0 := n0_; have HO113 := n1_; have HO131 := n2_; have HB := n3_; have HK := n4_; clear n0_ n1_ n2_ n3_ n4_; clear hg hw hp_))
      go_ret
      exact ⟨_, by first | rfl | (simp [errW_none, errW_some] <;> rfl) | (simp [*, errW_none, errW_some] <;> rfl), kR HO113, kI HI0, kB1 HB (IsS72.ge HI0.out), kH HK⟩
     ·rw [if_neg c29] at H
      exact absurd H (by simp)
    ·rw [if_neg c27] at H
     have c27b0 : (t114 == 2) = false := beq_eq_false_iff_ne.mpr c27
     have c27b1 : (t114 != 2) = true := bne_iff_ne.mpr c27
     by_cases c41 : t114 = 3
     ·rw [if_pos c41] at H
      have c41b0 : (t114 == 3) = true := beq_iff_eq.mpr c41
      have c41b1 : (t114 != 3) = false := bne_eq_false_iff_eq.mpr c41
      clear c41
      have H' := am H
      clear H
      go_enter Try.func62, Try.ntmps62
      go_wp2_with (first | ((with_reducible refine gate_dst (N := 6) rfl ?_); refine Kd.R_lit k40 _ 40 ?hg (N := 6) ?hd (xs := ([] : List (S40))) (inner := []) (ok := fun _ => True) (okp := fun _ => True) ?hr ?hp (fun _ hk => hk) trivial (Below.refl _ _) (Nat.le_refl _) (by simp) ?_; (case hd => rfl); (case hg => rfl); (case hr => first | (go_simp; done) | (go_simp; rfl)); (case hp => exact (Reps.none _ _)); intro v109 w42 ho43 hb hg_ hnew_; clear hg_ hnew_; (first | rw [← Ny108.out] at ho43 | (simp only [Int.reduceToNat] at ho43; rw [← Ny108.out] at ho43)); have n0_ := am (Kd.R_lower ho43 (keep_size (w := w) (g := g) (row := none) (kH HK))); have n1_ := am (IsS72.below (kI HI0) hb); have n2_ := am (KeepBut.trans (kH HK) (KeepBut.of_below hb g none) (.inl rfl)); have n3_ := am (below_step (kB1 HB (IsS72.ge HI0.out)) hb); clear HI0 HK HB; have HO110 := n0_; have HI0 := n1_; have HK := n2_; have HB := n3_; clear n0_ n1_ n2_ n3_; clear hb ho43) | ((with_reducible refine gate_builtin (b := .append) (xs := #[.tmp 6, .tmp 7]) rfl ?_); at_builtin; refine Kd.R_append_rows k40 w.heap.size rfl (.tmp 6) (.tmp 7) 24 40 (.agg #[(.int .i64 0), (.int .i64 0)]) 16 rfl Try.underlying24 info40 rfl (by decide) (by omega) v109 y108 l1 _ _ _ (fun _ => True) (fun _ => False) rfl rfl ?aO ?aR (fun _ _ h => h) (fun _ h => h.elim) ?aF (Below.refl _ _) ?aS ?aL ?_; (case aR => exact Kd.C_foot_now HR1.out (kH HK)); (case aF => exact (fun _ _ => trivial)); (case aO => exact (kR HO110)); (case aS => exact (keep_size (w := w) (g := g) (row := none) (kH HK))); (case aL => have := LMc3.out; omega); intro v112 w44 ho hb hg hat; rw [← Ny111.out] at ho; have n0_ := am (IsS72.grown (kI HI0) hg (IsS72.own_ne HI0.out HO110.out (by decide))); have n1_ := am (below_weaken (kB1 HB (IsS72.ge HI0.out)) HL.out hb); have n2_ := am (KeepBut.trans (kH HK) (KeepBut.of_grown hg g) (Kd.R_base2 HO110.out)); have n3_ := am (ho); clear HI0 HB HK HO110; have HI0 := n0_; have HB := n1_; have HK := n2_; have HO113 := n3_; clear n0_ n1_ n2_ n3_; clear ho hb hg hat) | ((with_reducible refine gate_callee (f := 56) rfl ?_); refine goesL_ (some 10) rfl rfl Try.func56 (by kernel_rfl) rfl #[.pointer (some ⟨g, 0, none⟩), .int .i64 40] rfl kA ?_; (with_reducible refine (spec_l01Next.calls g s0_0 s0_1 s0_2 40 t114 t115 t116 w0 _ ?side1 ?side2 A4.out).mono ?_); (case side1 => exact kI HI0); (case side2 => exact kB1 HB (IsS72.ge HI0.out)); rintro e w45 ⟨rfl, hi, hb, hk⟩; refine ⟨_, rfl, ?_⟩; have n0_ := am (Kd.R_mono (Kd.R_keep (IsS72.apart (show IsS72 w0 _ g s0_0 s0_1 s0_2 from kI HI0) (kR HO113) (by decide)) hk (fun _ h => h.2)) (fun _ h => h.1)); have n1_ := am (KeepBut.trans (kH HK) hk (.inl rfl)); have n2_ := am (hb); have n3_ := am (hi); clear HO113 HK HB HI0; have HO113 := n0_; have HK := n1_; have HB := n2_; have HI0 := n3_; clear n0_ n1_ n2_ n3_; (try clear hb); (try clear hb2); (try clear hk); (try clear hi)))
      go_loopg [5] k (fun kq v5 w' => ∃ (x5_1 : List (S40)), Aside0 (spec_l05Bad.l0 kq x5_1 s0_0 t115 t116 = some (r1, r2, r3)) ∧ Aside0 (kq ≤ k) ∧ Aside0 (Kd.R k40 40 w' w.heap.size (fun _ => True) v5 x5_1) ∧ Aside0 (IsS72 w0 w' g s0_0 t115 t116) ∧ Aside0 (KeepBut w w' g none) ∧ Aside0 (Below w0.heap.size w0 w'))
      case atStart => exact ⟨(y111), H', ⟨Nat.le_refl _⟩, ⟨kR HO113⟩, ⟨kI HI0⟩, ⟨kH HK⟩, ⟨kB1 HB (IsS72.ge HI0.out)⟩⟩
      case round =>
       clear H'
       try clear c1
       try clear c3
       try clear c5
       try clear c5b0
       try clear c5b1
       try clear c12
       try clear c12b0
       try clear c12b1
       try clear c27
       try clear c27b0
       try clear c27b1
       try clear c41
       try clear c41b0
       try clear c41b1
       obtain ⟨x5_1, HA, HK1, HO_5, HI0, HK, HB⟩ := hrel
       cases gk with
       | zero => exact absurd HA.out (by simp [spec_l05Bad.l0])
       | succ k1 =>
        have H := HA.out
        clear HA
        simp only [spec_l05Bad.l0] at H
        by_cases c46 : (x5_1.length : Int) ≤ 8
        ·rw [if_pos c46] at H
         have c46b0 : decide ((x5_1.length : Int) ≤ 8) = true := decide_eq_true c46
         have c46b1 : decide (x5_1.length ≤ 8) = true := decide_eq_true (by omega)
         clear c46
         by_cases c47 : x5_1.length < 8796093022208
         ·rw [if_pos c47] at H
          have LMc47 := am c47
          clear c47
          obtain ⟨y136, hy136⟩ : ∃ y_ : List (S40), y_ = (x5_1 ++ [(⟨0, 9⟩ : S40)]) := ⟨_, rfl⟩
          replace H : (spec_l05Bad.l0 k1 y136 s0_0 t115 t116) = some (r1, r2, r3) := by first | (rw [hy136]; with_reducible exact H) | (have H2_ := (Option.bind_some _ _).symm.trans H; rw [hy136]; with_reducible exact H2_) | (have H2_ := (Option.bind_some _ _).symm.trans H; with_reducible exact H2_) | with_reducible exact H | (rw [hy136]; exact H) | exact H
          have Ny136 := am hy136
          clear hy136
          have H' := am H
          clear H
          obtain ⟨Ao48, co48, eo48⟩ := Kd.R_slice HO_5.out
          subst eo48
          go_wp2_with (first | ((with_reducible refine gate_builtin (b := .append) (xs := #[.tmp 43, .tmp 45]) rfl ?_); at_builtin; refine Kd.R_append k40 w.heap.size rfl (.tmp 43) (.tmp 45) 24 40 (.agg #[(.int .i64 0), (.int .i64 0)]) 16 rfl Try.underlying24 info40 rfl (by decide) (by omega) (.slice Ao48 x5_1.length co48) x5_1 (⟨0, 9⟩ : S40) [.int .i64 0, .int .i64 9] (fun _ => True) (fun _ => False) rfl rfl ?aP (fun _ hk => hk.elim) ?aF ?aO (Below.refl _ _) ?aS ?aL ?_; (case aP => exact k40_mkM _ _ _ (⟨0, 9⟩ : S40)); (case aF => exact (fun _ _ => trivial)); (case aO => exact (kR HO_5)); (case aS => exact (keep_size (w := w) (g := g) (row := none) (kH HK))); (case aL => have := LMc47.out; omega); intro v137 w49 ho hb hg hat; rw [← Ny136.out] at ho; have n0_ := am (IsS72.grown (kI HI0) hg (IsS72.own_ne HI0.out HO_5.out (by decide))); have n1_ := am (below_weaken (kB1 HB (IsS72.ge HI0.out)) HL.out hb); have n2_ := am (KeepBut.trans (kH HK) (KeepBut.of_grown hg g) (Kd.R_base2 HO_5.out)); have n3_ := am (ho); clear HI0 HB HK HO_5; have HI0 := n0_; have HB := n1_; have HK := n2_; have HO138 := n3_; clear n0_ n1_ n2_ n3_; clear ho hb hg hat))
          go_roundg k1
          case measure => have := HK1.out; omega
          case rel => exact ⟨(y136), H', ⟨by have := HK1.out; omega⟩, ⟨kR HO138⟩, ⟨kI HI0⟩, ⟨kH HK⟩, ⟨kB1 HB (IsS72.ge HI0.out)⟩⟩
         ·rw [if_neg c47] at H
          exact absurd H (by simp)
        ·rw [if_neg c46] at H
         have c46b0 : decide ((x5_1.length : Int) ≤ 8) = false := decide_eq_false c46
         have c46b1 : decide (x5_1.length ≤ 8) = false := decide_eq_false (by omega)
         clear c46
         simp only [Option.some.injEq, Prod.mk.injEq] at H
         obtain ⟨rfl, rfl, rfl⟩ := H
         obtain ⟨Ao50, co50, eo50⟩ := Kd.R_slice HO_5.out
         subst eo50
         go_wp2
         go_ret
         exact ⟨_, by first | rfl | (simp [errW_none, errW_some] <;> rfl) | (simp [*, errW_none, errW_some] <;> rfl), kR HO_5, kI HI0, kB1 HB (IsS72.ge HI0.out), kH HK⟩
     ·rw [if_neg c41] at H
      have c41b0 : (t114 == 3) = false := beq_eq_false_iff_ne.mpr c41
      have c41b1 : (t114 != 3) = true := bne_iff_ne.mpr c41
      simp only [Option.some.injEq, Prod.mk.injEq] at H
      obtain ⟨rfl, rfl, rfl⟩ := H
      go_enter Try.func62, Try.ntmps62
      go_wp2_with (first | ((with_reducible refine gate_dst (N := 6) rfl ?_); refine Kd.R_lit k40 _ 40 ?hg (N := 6) ?hd (xs := ([] : List (S40))) (inner := []) (ok := fun _ => True) (okp := fun _ => True) ?hr ?hp (fun _ hk => hk) trivial (Below.refl _ _) (Nat.le_refl _) (by simp) ?_; (case hd => rfl); (case hg => rfl); (case hr => first | (go_simp; done) | (go_simp; rfl)); (case hp => exact (Reps.none _ _)); intro v109 w51 ho52 hb hg_ hnew_; clear hg_ hnew_; (first | rw [← Ny108.out] at ho52 | (simp only [Int.reduceToNat] at ho52; rw [← Ny108.out] at ho52)); have n0_ := am (Kd.R_lower ho52 (keep_size (w := w) (g := g) (row := none) (kH HK))); have n1_ := am (IsS72.below (kI HI0) hb); have n2_ := am (KeepBut.trans (kH HK) (KeepBut.of_below hb g none) (.inl rfl)); have n3_ := am (below_step (kB1 HB (IsS72.ge HI0.out)) hb); clear HI0 HK HB; have HO110 := n0_; have HI0 := n1_; have HK := n2_; have HB := n3_; clear n0_ n1_ n2_ n3_; clear hb ho52) | ((with_reducible refine gate_builtin (b := .append) (xs := #[.tmp 6, .tmp 7]) rfl ?_); at_builtin; refine Kd.R_append_rows k40 w.heap.size rfl (.tmp 6) (.tmp 7) 24 40 (.agg #[(.int .i64 0), (.int .i64 0)]) 16 rfl Try.underlying24 info40 rfl (by decide) (by omega) v109 y108 l1 _ _ _ (fun _ => True) (fun _ => False) rfl rfl ?aO ?aR (fun _ _ h => h) (fun _ h => h.elim) ?aF (Below.refl _ _) ?aS ?aL ?_; (case aR => exact Kd.C_foot_now HR1.out (kH HK)); (case aF => exact (fun _ _ => trivial)); (case aO => exact (kR HO110)); (case aS => exact (keep_size (w := w) (g := g) (row := none) (kH HK))); (case aL => have := LMc3.out; omega); intro v112 w53 ho hb hg hat; rw [← Ny111.out] at ho; have n0_ := am (IsS72.grown (kI HI0) hg (IsS72.own_ne HI0.out HO110.out (by decide))); have n1_ := am (below_weaken (kB1 HB (IsS72.ge HI0.out)) HL.out hb); have n2_ := am (KeepBut.trans (kH HK) (KeepBut.of_grown hg g) (Kd.R_base2 HO110.out)); have n3_ := am (ho); clear HI0 HB HK HO110; have HI0 := n0_; have HB := n1_; have HK := n2_; have HO113 := n3_; clear n0_ n1_ n2_ n3_; clear ho hb hg hat) | ((with_reducible refine gate_callee (f := 56) rfl ?_); refine goesL_ (some 10) rfl rfl Try.func56 (by kernel_rfl) rfl #[.pointer (some ⟨g, 0, none⟩), .int .i64 40] rfl kA ?_; (with_reducible refine (spec_l01Next.calls g s0_0 s0_1 s0_2 40 t114 t115 t116 w0 _ ?side1 ?side2 A4.out).mono ?_); (case side1 => exact kI HI0); (case side2 => exact kB1 HB (IsS72.ge HI0.out)); rintro e w54 ⟨rfl, hi, hb, hk⟩; refine ⟨_, rfl, ?_⟩; have n0_ := am (Kd.R_mono (Kd.R_keep (IsS72.apart (show IsS72 w0 _ g s0_0 s0_1 s0_2 from kI HI0) (kR HO113) (by decide)) hk (fun _ h => h.2)) (fun _ h => h.1)); have n1_ := am (KeepBut.trans (kH HK) hk (.inl rfl)); have n2_ := am (hb); have n3_ := am (hi); clear HO113 HK HB HI0; have HO113 := n0_; have HK := n1_; have HB := n2_; have HI0 := n3_; clear n0_ n1_ n2_ n3_; (try clear hb); (try clear hb2); (try clear hk); (try clear hi)))
      go_ret
      exact ⟨_, by first | rfl | (simp [errW_none, errW_some] <;> rfl) | (simp [*, errW_none, errW_some] <;> rfl), kR HO113, kI HI0, kB1 HB (IsS72.ge HI0.out), kH HK⟩
 ·rw [if_neg c3] at H
  exact absurd H (by simp)
end Go.Proofs.Ytdkhecebffjpjaa.X
