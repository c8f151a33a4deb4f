import Derived.Test.YtdkhecebffjpjaaU
import Derived.Test.YtdkhecebffjpjaaY0
import Derived.Test.YtdkhecebffjpjaaY2
import Derived.Test.YtdkhecebffjpjaaY6
import Derived.Test.YtdkhecebffjpjaaY10
import Derived.Test.YtdkhecebffjpjaaY11
import Derived.Test.YtdkhecebffjpjaaY12
import Derived.Test.YtdkhecebffjpjaaY22
namespace Go.Proofs.Ytdkhecebffjpjaa.X
open Go.RowKit Go.Proofs.YtdkhecebffjpjaaW.PrintWords Go.Proofs.YtdkhecebffjpjaaW.PrintLast Go.Proofs.YtdkhecebffjpjaaW.PrintMore
attribute [local go_sem] max2_int min2_int max_two min_two max_three min_three max_four min_four
set_option linter.unusedVariables false
set_option linter.unusedSimpArgs false
/-! ### spec_DrawClassesOfTurns: function 24 -/
def spec_DrawClassesOfTurns.l0 : Nat → List (S40) → List Int → Int → Int → List Int → Int → Int → Option (List Int × Int)
 | 0, _, _, _, _, _, _, _ => none
 | k + 1, x5, x6, x7, x8, x502000, x502001, x502002 => (spec_l05Span.f k x5).bind fun t510 => (if x8 < (mn t510 120) then ((spec_l05In.f k x5 x8).bind fun t511 => (if x6.length < 17592186044416 then (spec_DrawClassesOfTurns.l0 k x5 (x6 ++ [t511]) x7 (wrap64 (x8 + 1)) x502000 x502001 x502002) else (none))) else ((spec_l01Next.f x502000 x502001 x502002 6).bind fun bt515 => (if bt515.1 = 0 then ((spec_l01Next.f x502000 bt515.2.1 bt515.2.2 (x6.length : Int)).bind fun bt518 => ((spec_l01Next.f x502000 bt518.2.1 bt518.2.2 (wrap64 (x7 + 1))).bind fun bt521 => (if 0 ≤ bt518.1 then (if bt518.1 < (x6.length : Int) then ((spec_l01BadTurns.f k x502000 bt521.2.1 bt521.2.2 (x6.set (bt518.1 : Int).toNat (wrap64 (bt521.1 - 1)))).bind fun bt525 => (some (bt525.1, x7))) else (none)) else (none)))) else (if bt515.1 = 1 then ((spec_l01Pick.f x502000 bt515.2.1 bt515.2.2 (([1, 8, wrap64 (x7 + 1), 0, 9] : List Int))).bind fun bt533 => ((spec_l01BadTurns.f k x502000 bt533.2.1 bt533.2.2 x6).bind fun bt536 => (some (bt536.1, bt533.1)))) else ((spec_l01BadTurns.f k x502000 bt515.2.1 bt515.2.2 x6).bind fun bt541 => (some (bt541.1, x7)))))))
def spec_DrawClassesOfTurns.f (k : Nat) (l0 : List Int) : Option (List Int × Int) := (spec_l01From.f k l0).bind fun bt498 => ((spec_l05DrawNatural.f k bt498.1 bt498.2.1 bt498.2.2).bind fun bt502 => (spec_DrawClassesOfTurns.l0 k bt502.1 (([] : List Int)) (bt502.1.length : Int) 0 bt498.1 bt502.2.1 bt502.2.2))
theorem spec_DrawClassesOfTurns.mono_l : ∀ k, (∀ y0 y1 y2 y3 y4 y5 y6, LeO (spec_DrawClassesOfTurns.l0 k y0 y1 y2 y3 y4 y5 y6) (spec_DrawClassesOfTurns.l0 (k + 1) y0 y1 y2 y3 y4 y5 y6))
 | 0 => fun _ _ _ _ _ _ _ r h => by simp [spec_DrawClassesOfTurns.l0] at h
 | k + 1 => by
  have ih0 := spec_DrawClassesOfTurns.mono_l k
  ·intro y0 y1 y2 y3 y4 y5 y6
   unfold spec_DrawClassesOfTurns.l0
   repeat' first
   | with_reducible first | exact ih0 _ _ _ _ _ _ _ | exact spec_l01BadTurns.mono _ _ _ _ _ | exact spec_l01From.mono _ _ | exact spec_l05DrawNatural.mono _ _ _ _ | exact spec_l05In.mono _ _ _ | exact spec_l05Span.mono _ _ | exact LeO.refl _ | exact LeO.none _ | refine LeO.ite ?_ ?_ | refine LeO.bind ?_ (fun _ => ?_)
   | exact ih0 _ _ _ _ _ _ _
   | exact spec_l01BadTurns.mono _ _ _ _ _
   | exact spec_l01From.mono _ _
   | exact spec_l05DrawNatural.mono _ _ _ _
   | exact spec_l05In.mono _ _ _
   | exact spec_l05Span.mono _ _
   | exact LeO.none _
   | refine LeO.ite ?_ ?_
   | refine LeO.bind ?_ (fun _ => ?_)
theorem spec_DrawClassesOfTurns.mono : ∀ a0 k, LeO (spec_DrawClassesOfTurns.f k a0) (spec_DrawClassesOfTurns.f (k + 1) a0) := by
 intro a0 k
 have ih0 := spec_DrawClassesOfTurns.mono_l k
 unfold spec_DrawClassesOfTurns.f
 repeat' first
   | with_reducible first | exact ih0 _ _ _ _ _ _ _ | exact spec_l01BadTurns.mono _ _ _ _ _ | exact spec_l01From.mono _ _ | exact spec_l05DrawNatural.mono _ _ _ _ | exact spec_l05In.mono _ _ _ | exact spec_l05Span.mono _ _ | exact LeO.refl _ | exact LeO.none _ | refine LeO.ite ?_ ?_ | refine LeO.bind ?_ (fun _ => ?_)
   | exact ih0 _ _ _ _ _ _ _
   | exact spec_l01BadTurns.mono _ _ _ _ _
   | exact spec_l01From.mono _ _
   | exact spec_l05DrawNatural.mono _ _ _ _
   | exact spec_l05In.mono _ _ _
   | exact spec_l05Span.mono _ _
   | exact LeO.none _
   | refine LeO.ite ?_ ?_
   | refine LeO.bind ?_ (fun _ => ?_)
set_option maxHeartbeats 8000000 in
set_option maxRecDepth 100000 in
theorem spec_DrawClassesOfTurns.calls (k : Nat) (A0 : Option Addr) (c0 : Nat) (l0 : List Int) (r1 : List Int) (r2 : Int) (w : World) (hr0 : Kd.C (Kd.int .u8) w A0 l0.length l0) (hc0 : l0.length ≤ c0) (h : spec_DrawClassesOfTurns.f k l0 = some (r1, r2)) :
  Calls Try.prog 24 #[.slice A0 l0.length c0] w fun e w' => ∃ v0_ : Value, e = .returned (.tuple #[v0_, .int .i64 r2]) ∧ Kd.R (Kd.int .i64) 2 w' w.heap.size (fun _ => True) v0_ r1 ∧ Below w.heap.size w w' := by
 have HR0 := am hr0
 have HC0 := am hc0
 clear hr0 hc0
 have HB := am (Below.refl w.heap.size w)
 have H : ((spec_l01From.f k l0).bind fun bt498 => ((spec_l05DrawNatural.f k bt498.1 bt498.2.1 bt498.2.2).bind fun bt502 => (spec_DrawClassesOfTurns.l0 k bt502.1 (([] : List Int)) (bt502.1.length : Int) 0 bt498.1 bt502.2.1 bt502.2.2))) = some (r1, r2) := h
 clear h
 replace H := Option.bind_eq_some_iff.mp H
 obtain ⟨⟨t498, t499, t500⟩, A20, H⟩ := H
 try dsimp only at H
 have A2 := am A20
 clear A20
 replace H := Option.bind_eq_some_iff.mp H
 obtain ⟨⟨t502, t505, t506⟩, A30, H⟩ := H
 try dsimp only at H
 have A3 := am A30
 clear A30
 obtain ⟨y507, hy507⟩ : ∃ y_ : List Int, y_ = (([] : List Int)) := ⟨_, rfl⟩
 replace H : (spec_DrawClassesOfTurns.l0 k t502 y507 (t502.length : Int) 0 t498 t505 t506) = some (r1, r2) := by first | (rw [hy507]; with_reducible exact H) | (have H2_ := (Option.bind_some _ _).symm.trans H; rw [hy507]; with_reducible exact H2_) | (have H2_ := (Option.bind_some _ _).symm.trans H; with_reducible exact H2_) | with_reducible exact H | (rw [hy507]; exact H) | exact H
 have Ny507 := am hy507
 clear hy507
 have H' := am H
 clear H
 go_enter Try.func24, Try.ntmps24
 go_wp2_with (first | ((with_reducible refine gate_callee (f := 54) rfl ?_); refine goesL_ (some 10) rfl rfl Try.func54 (by kernel_rfl) rfl #[.slice A0 l0.length c0] rfl kA ?_; (with_reducible refine (spec_l01From.calls k _ _ l0 t498 t499 t500 w _ ?side1 ?side2 ?side3 A2.out).mono ?_); (case side1 => exact kB HB); (case side2 => exact HR0.out); (case side3 => exact HC0.out); rintro e w4 ⟨g501, rfl, hi, hb, hb2⟩; refine ⟨_, rfl, ?_⟩; have n0_ := am (hb); have n1_ := am (hi); clear HB; have HB := n0_; have HI501 := n1_; clear n0_ n1_; (try clear hb); (try clear hb2); (try clear hk); (try clear hi)) | ((with_reducible refine gate_callee (f := 55) rfl ?_); refine goesL_ (some 12) rfl rfl Try.func55 (by kernel_rfl) rfl #[.pointer (some ⟨g501, 0, none⟩)] rfl kA ?_; (with_reducible refine (spec_l05DrawNatural.calls k g501 t498 t499 t500 t502 t505 t506 w _ ?side1 ?side2 A3.out).mono ?_); (case side1 => exact kI HI501); (case side2 => exact kB1 HB (IsS72.ge HI501.out)); rintro e w5 ⟨v503, rfl, ho0, hi, hb, hk⟩; refine ⟨_, rfl, ?_⟩; have n0_ := am (Kd.R_lower ho0 (below_size (kB1 HB (IsS72.ge HI501.out)))); have n1_ := am (hb); have n2_ := am (hi); clear HB HI501; have HO504 := n0_; have HB := n1_; have HI501 := n2_; clear n0_ n1_ n2_; (try clear hb); (try clear hb2); (try clear hk); (try clear hi); (try clear ho0)) | ((with_reducible refine gate_dst (N := 13) rfl ?_); refine Kd.R_lit (Kd.int .i64) _ 2 ?hg (N := 13) ?hd (xs := ([] : List Int)) (inner := []) (ok := fun _ => True) (okp := fun _ => True) ?hr ?hp (fun _ hk => hk) trivial (Below.refl _ _) (Nat.le_refl _) (by simp) ?_; (case hd => rfl); (case hg => rfl); (case hr => first | (go_simp; done) | (go_simp; rfl)); (case hp => exact (Reps.none _ _)); intro v508 w6 ho7 hb hg_ hnew_; clear hg_ hnew_; (first | rw [← Ny507.out] at ho7 | (simp only [Int.reduceToNat] at ho7; rw [← Ny507.out] at ho7)); have n0_ := am (Kd.R_below (kR HO504) hb); have n1_ := am (Kd.R_lower ho7 (below_size (kB1 HB (IsS72.ge HI501.out)))); have n2_ := am (IsS72.below (kI HI501) hb); have n3_ := am (below_step (kB1 HB (IsS72.ge HI501.out)) hb); clear HO504 HI501 HB; have HO504 := n0_; have HO509 := n1_; have HI501 := n2_; have HB := n3_; clear n0_ n1_ n2_ n3_ hb ho7; obtain ⟨Ao8, co8, eo8⟩ := Kd.R_slice HO504.out; subst eo8))
 go_loopg [6, 8] k (fun kq v6 v8 w' => ∃ (x6_1 : List Int) (x8_1 : Int), v8 = .int .i64 x8_1 ∧ Aside0 (spec_DrawClassesOfTurns.l0 kq t502 x6_1 (t502.length : Int) x8_1 t498 t505 t506 = some (r1, r2)) ∧ Aside0 (kq ≤ k) ∧ Aside0 (Kd.R k40 40 w' w.heap.size (fun _ => True) (.slice Ao8 t502.length co8) t502) ∧ Aside0 (Kd.R (Kd.int .i64) 2 w' w.heap.size (fun _ => True) v6 x6_1) ∧ Aside0 (IsS72 w w' g501 t498 t505 t506) ∧ Aside0 (Below w.heap.size w w'))
 case atStart => exact ⟨(y507), (0), (by first | rfl | (simp; done) | (simp [*]; done)), H', ⟨Nat.le_refl _⟩, ⟨kR HO504⟩, ⟨kR HO509⟩, ⟨kI HI501⟩, ⟨kB1 HB (IsS72.ge HI501.out)⟩⟩
 case round =>
  clear H'
  obtain ⟨x6_1, x8_1, rfl, HA, HK1, HO_5, HO_6, HI501, HB⟩ := hrel
  cases gk with
  | zero => exact absurd HA.out (by simp [spec_DrawClassesOfTurns.l0])
  | succ k1 =>
   have H := HA.out
   clear HA
   simp only [spec_DrawClassesOfTurns.l0] at H
   replace H := Option.bind_eq_some_iff.mp H
   obtain ⟨t510, A90, H⟩ := H
   try dsimp only at H
   have A9 := am A90
   clear A90
   obtain ⟨ji10, hji10⟩ : ∃ j_ : Int, (mn t510 120) = j_ := ⟨_, rfl⟩
   replace H : (if x8_1 < (ji10) then ((spec_l05In.f k1 t502 x8_1).bind fun t511 => (if x6_1.length < 17592186044416 then (spec_DrawClassesOfTurns.l0 k1 t502 (x6_1 ++ [t511]) (t502.length : Int) (wrap64 (x8_1 + 1)) t498 t505 t506) else (none))) else ((spec_l01Next.f t498 t505 t506 6).bind fun bt515 => (if bt515.1 = 0 then ((spec_l01Next.f t498 bt515.2.1 bt515.2.2 (x6_1.length : Int)).bind fun bt518 => ((spec_l01Next.f t498 bt518.2.1 bt518.2.2 (wrap64 ((t502.length : Int) + 1))).bind fun bt521 => (if 0 ≤ bt518.1 then (if bt518.1 < (x6_1.length : Int) then ((spec_l01BadTurns.f k1 t498 bt521.2.1 bt521.2.2 (x6_1.set (bt518.1 : Int).toNat (wrap64 (bt521.1 - 1)))).bind fun bt525 => (some (bt525.1, (t502.length : Int)))) else (none)) else (none)))) else (if bt515.1 = 1 then ((spec_l01Pick.f t498 bt515.2.1 bt515.2.2 (([1, 8, wrap64 ((t502.length : Int) + 1), 0, 9] : List Int))).bind fun bt533 => ((spec_l01BadTurns.f k1 t498 bt533.2.1 bt533.2.2 x6_1).bind fun bt536 => (some (bt536.1, bt533.1)))) else ((spec_l01BadTurns.f k1 t498 bt515.2.1 bt515.2.2 x6_1).bind fun bt541 => (some (bt541.1, (t502.length : Int)))))))) = some (r1, r2) := by first | (rw [hji10] at H; exact H) | (simp only [hji10] at H ⊢; exact H)
   (try rw [hji10] at A9)
   (try (have hji10h : ji10 ≤ 120 := by (rw [← hji10]; unfold mn; (repeat' split) <;> omega)))
   (try (have hji10g : ji10 ≤ 64 := by omega))
   have hji10_ : (if 120 < t510 then 120 else t510) = ji10 := hji10
   by_cases c11 : x8_1 < (ji10)
   ·rw [if_pos c11] at H
    have c11b0 : decide (x8_1 < (ji10)) = true := decide_eq_true c11
    clear c11
    replace H := Option.bind_eq_some_iff.mp H
    obtain ⟨t511, A120, H⟩ := H
    try dsimp only at H
    have A12 := am A120
    clear A120
    by_cases c13 : x6_1.length < 17592186044416
    ·rw [if_pos c13] at H
     have LMc13 := am c13
     clear c13
     obtain ⟨y512, hy512⟩ : ∃ y_ : List Int, y_ = (x6_1 ++ [t511]) := ⟨_, rfl⟩
     replace H : (spec_DrawClassesOfTurns.l0 k1 t502 y512 (t502.length : Int) (wrap64 (x8_1 + 1)) t498 t505 t506) = some (r1, r2) := by first | (rw [hy512]; with_reducible exact H) | (have H2_ := (Option.bind_some _ _).symm.trans H; rw [hy512]; with_reducible exact H2_) | (have H2_ := (Option.bind_some _ _).symm.trans H; with_reducible exact H2_) | with_reducible exact H | (rw [hy512]; exact H) | exact H
     have Ny512 := am hy512
     clear hy512
     have H' := am H
     clear H
     go_wp2_with (first | ((with_reducible refine gate_callee (f := 35) rfl ?_); refine goesL_ (some 18) rfl rfl Try.func35 (by kernel_rfl) rfl #[.slice Ao8 t502.length co8] rfl kA ?_; (with_reducible refine (spec_l05Span.calls k1 _ _ t502 t510 _ ?side1 ?side2 A9.out).mono ?_); (case side1 => exact kC (Kd.R_reads' HO_5.out).2.2); (case side2 => exact (Kd.R_reads' HO_5.out).2.1); rintro e w' ⟨rfl, ⟨nd, rfl⟩⟩; refine ⟨_, rfl, ?_⟩) | ((with_reducible refine gate_callee (f := 36) rfl ?_); refine goesL_ (some 26) rfl rfl Try.func36 (by kernel_rfl) rfl #[.slice Ao8 t502.length co8, .int .i64 x8_1] rfl kA ?_; (with_reducible refine (spec_l05In.calls k1 _ _ t502 x8_1 t511 _ ?side1 ?side2 A12.out).mono ?_); (case side1 => exact kC (Kd.R_reads' HO_5.out).2.2); (case side2 => exact (Kd.R_reads' HO_5.out).2.1); rintro e w' ⟨rfl, ⟨nd, rfl⟩⟩; refine ⟨_, rfl, ?_⟩) | ((with_reducible refine gate_builtin (b := .append) (xs := #[.tmp 23, .tmp 27]) rfl ?_); at_builtin; refine Kd.R_append (Kd.int .i64) (w0 := w) w.heap.size rfl (.tmp 23) (.tmp 27) 26 2 (.int .i64 0) 8 rfl Try.underlying26 info2 rfl (by decide) (by omega) u6 x6_1 t511 [.int .i64 t511] (fun _ => True) (fun _ => False) rfl rfl ?aP (fun _ hk => hk.elim) ?aF ?aO ?aB ?aS ?aL ?_; (case aP => exact rfl); (case aB => exact (kB1 HB (IsS72.ge HI501.out))); (case aF => exact (fun _ _ => trivial)); (case aO => exact (kR HO_6)); (case aS => exact (below_size (kB1 HB (IsS72.ge HI501.out)))); (case aL => have := LMc13.out; omega); intro v513 w14 ho hb hg hat; rw [← Ny512.out] at ho; have n0_ := am (Kd.R_over' (kR HO_5) (Kd.R_typed (kR HO_6)) (by decide) hg); have n1_ := am (IsS72.grown (kI HI501) hg (IsS72.own_ne HI501.out HO_6.out (by decide))); have n2_ := am (hb); have n3_ := am (ho); clear HO_5 HI501 HB HO_6; have HO_5 := n0_; have HI501 := n1_; have HB := n2_; have HO514 := n3_; clear n0_ n1_ n2_ n3_; clear ho hb hg hat))
     go_roundg k1
     case measure => have := HK1.out; omega
     case rel => exact ⟨(y512), (wrap64 (x8_1 + 1)), (by first | rfl | (simp; done) | (simp [*]; done)), H', ⟨by have := HK1.out; omega⟩, ⟨kR HO_5⟩, ⟨kR HO514⟩, ⟨kI HI501⟩, ⟨kB1 HB (IsS72.ge HI501.out)⟩⟩
    ·rw [if_neg c13] at H
     exact absurd H (by simp)
   ·rw [if_neg c11] at H
    have c11b0 : decide (x8_1 < (ji10)) = false := decide_eq_false c11
    clear c11
    replace H := Option.bind_eq_some_iff.mp H
    obtain ⟨⟨t515, t516, t517⟩, A150, H⟩ := H
    try dsimp only at H
    have A15 := am A150
    clear A150
    by_cases c16 : t515 = 0
    ·rw [if_pos c16] at H
     have c16b0 : (t515 == 0) = true := beq_iff_eq.mpr c16
     have c16b1 : (t515 != 0) = false := bne_eq_false_iff_eq.mpr c16
     clear c16
     replace H := Option.bind_eq_some_iff.mp H
     obtain ⟨⟨t518, t519, t520⟩, A170, H⟩ := H
     try dsimp only at H
     have A17 := am A170
     clear A170
     replace H := Option.bind_eq_some_iff.mp H
     obtain ⟨⟨t521, t522, t523⟩, A180, H⟩ := H
     try dsimp only at H
     have A18 := am A180
     clear A180
     by_cases c19 : 0 ≤ t518
     ·rw [if_pos c19] at H
      have c19b0 : decide (0 ≤ t518) = true := decide_eq_true c19
      clear c19
      by_cases c20 : t518 < (x6_1.length : Int)
      ·rw [if_pos c20] at H
       have c20b0 : decide (t518 < (x6_1.length : Int)) = true := decide_eq_true c20
       clear c20
       obtain ⟨y524, hy524⟩ : ∃ y_ : List Int, y_ = (x6_1.set (t518 : Int).toNat (wrap64 (t521 - 1))) := ⟨_, rfl⟩
       replace H : ((spec_l01BadTurns.f k1 t498 t522 t523 y524).bind fun bt525 => (some (bt525.1, (t502.length : Int)))) = some (r1, r2) := by first | (rw [hy524]; with_reducible exact H) | (have H2_ := (Option.bind_some _ _).symm.trans H; rw [hy524]; with_reducible exact H2_) | (have H2_ := (Option.bind_some _ _).symm.trans H; with_reducible exact H2_) | with_reducible exact H | (rw [hy524]; exact H) | exact H
       have Ny524 := am hy524
       clear hy524
       replace H := Option.bind_eq_some_iff.mp H
       obtain ⟨⟨t525, t528, t529⟩, A220, H⟩ := H
       try dsimp only at H
       have A22 := am A220
       clear A220
       simp only [Option.some.injEq, Prod.mk.injEq] at H
       obtain ⟨rfl, rfl⟩ := H
       go_wp2_with (first | ((with_reducible refine gate_callee (f := 35) rfl ?_); refine goesL_ (some 18) rfl rfl Try.func35 (by kernel_rfl) rfl #[.slice Ao8 t502.length co8] rfl kA ?_; (with_reducible refine (spec_l05Span.calls k1 _ _ t502 t510 _ ?side1 ?side2 A9.out).mono ?_); (case side1 => exact kC (Kd.R_reads' HO_5.out).2.2); (case side2 => exact (Kd.R_reads' HO_5.out).2.1); rintro e w' ⟨rfl, ⟨nd, rfl⟩⟩; refine ⟨_, rfl, ?_⟩; (try (rw [drewN_self wr]; generalize hq_ : World.drewN wr _ = wr; have n0_ : Aside0 (Kd.R k40 40 wr w.heap.size (fun _ => True) (.slice Ao8 t502.length co8) t502) := ⟨by rw [← hq_]; exact (kR HO_5)⟩; have n1_ : Aside0 (Kd.R (Kd.int .i64) 2 wr w.heap.size (fun _ => True) u6 x6_1) := ⟨by rw [← hq_]; exact (kR HO_6)⟩; have n2_ : Aside0 (IsS72 w wr g501 t498 t505 t506) := ⟨by rw [← hq_]; exact (kI HI501)⟩; have n3_ : Aside0 (Below w.heap.size w wr) := ⟨by rw [← hq_]; exact (kB1 HB (IsS72.ge HI501.out))⟩; clear HO_5 HO_6 HI501 HB hq_; have HO_5 := n0_; have HO_6 := n1_; have HI501 := n2_; have HB := n3_; clear n0_ n1_ n2_ n3_))) | ((with_reducible refine gate_callee (f := 56) rfl ?_); refine goesL_ (some 30) rfl rfl Try.func56 (by kernel_rfl) rfl #[.pointer (some ⟨g501, 0, none⟩), .int .i64 6] rfl kA ?_; (with_reducible refine (spec_l01Next.calls g501 t498 t505 t506 6 t515 t516 t517 w _ ?side1 ?side2 A15.out).mono ?_); (case side1 => exact kI HI501); (case side2 => exact kB1 HB (IsS72.ge HI501.out)); rintro e w23 ⟨rfl, hi, hb, hk⟩; refine ⟨_, rfl, ?_⟩; have n0_ := am (Kd.R_mono (Kd.R_keep (IsS72.apart (show IsS72 w _ g501 t498 t505 t506 from kI HI501) (kR HO_5) (by decide)) hk (fun _ h => h.2)) (fun _ h => h.1)); have n1_ := am (Kd.R_mono (Kd.R_keep (IsS72.apart (show IsS72 w _ g501 t498 t505 t506 from kI HI501) (kR HO_6) (by decide)) hk (fun _ h => h.2)) (fun _ h => h.1)); have n2_ := am (hb); have n3_ := am (hi); clear HO_5 HO_6 HB HI501; have HO_5 := n0_; have HO_6 := n1_; have HB := n2_; have HI501 := n3_; clear n0_ n1_ n2_ n3_; (try clear hb); (try clear hb2); (try clear hk); (try clear hi); obtain ⟨Ao24, co24, eo24⟩ := Kd.R_slice HO_6.out; subst eo24) | ((with_reducible refine gate_callee (f := 56) rfl ?_); refine goesL_ (some 37) rfl rfl Try.func56 (by kernel_rfl) rfl #[.pointer (some ⟨g501, 0, none⟩), .int .i64 (x6_1.length : Int)] rfl kA ?_; (with_reducible refine (spec_l01Next.calls g501 t498 t516 t517 (x6_1.length : Int) t518 t519 t520 w _ ?side1 ?side2 A17.out).mono ?_); (case side1 => exact kI HI501); (case side2 => exact kB1 HB (IsS72.ge HI501.out)); rintro e w25 ⟨rfl, hi, hb, hk⟩; refine ⟨_, rfl, ?_⟩; have n0_ := am (Kd.R_mono (Kd.R_keep (IsS72.apart (show IsS72 w _ g501 t498 t516 t517 from kI HI501) (kR HO_5) (by decide)) hk (fun _ h => h.2)) (fun _ h => h.1)); have n1_ := am (Kd.R_mono (Kd.R_keep (IsS72.apart (show IsS72 w _ g501 t498 t516 t517 from kI HI501) (kR HO_6) (by decide)) hk (fun _ h => h.2)) (fun _ h => h.1)); have n2_ := am (hb); have n3_ := am (hi); clear HO_5 HO_6 HB HI501; have HO_5 := n0_; have HO_6 := n1_; have HB := n2_; have HI501 := n3_; clear n0_ n1_ n2_ n3_; (try clear hb); (try clear hb2); (try clear hk); (try clear hi)) | ((with_reducible refine gate_callee (f := 56) rfl ?_); refine goesL_ (some 41) rfl rfl Try.func56 (by kernel_rfl) rfl #[.pointer (some ⟨g501, 0, none⟩), .int .i64 (wrap64 ((t502.length : Int) + 1))] rfl kA ?_; (with_reducible refine (spec_l01Next.calls g501 t498 t519 t520 (wrap64 ((t502.length : Int) + 1)) t521 t522 t523 w _ ?side1 ?side2 A18.out).mono ?_); (case side1 => exact kI HI501); (case side2 => exact kB1 HB (IsS72.ge HI501.out)); rintro e w26 ⟨rfl, hi, hb, hk⟩; refine ⟨_, rfl, ?_⟩; have n0_ := am (Kd.R_mono (Kd.R_keep (IsS72.apart (show IsS72 w _ g501 t498 t519 t520 from kI HI501) (kR HO_5) (by decide)) hk (fun _ h => h.2)) (fun _ h => h.1)); have n1_ := am (Kd.R_mono (Kd.R_keep (IsS72.apart (show IsS72 w _ g501 t498 t519 t520 from kI HI501) (kR HO_6) (by decide)) hk (fun _ h => h.2)) (fun _ h => h.1)); have n2_ := am (hb); have n3_ := am (hi); clear HO_5 HO_6 HB HI501; have HO_5 := n0_; have HO_6 := n1_; have HB := n2_; have HI501 := n3_; clear n0_ n1_ n2_ n3_; (try clear hb); (try clear hb2); (try clear hk); (try clear hi); have p21 : 0 ≤ (t518 : Int) := of_decide_eq_true kM; have q21 : (t518 : Int) < ((x6_1.length : Int) : Int) := of_decide_eq_true kM; obtain ⟨go21, co21, eo21, gb21, gl21, cl21, HG21⟩ := Kd.R_form HO_6.out (by omega); (first | cases eo21 | (injection eo21 with ea_ en_ ec_; (first | subst ea_ | (injection ea_ with ea_; subst ea_)); subst ec_; clear en_)); have GB21 := am gb21; have GG21 := am HG21; clear gb21 gl21 HG21; obtain ⟨hx21_0, hf21_0⟩ := Kd.R_celln 0 HO_6.out (t518 : Int) p21 q21; replace p21 := eq_true p21; replace q21 := eq_true q21; obtain ⟨hy27_, hz27_⟩ := Kd.R_celln 0 HO_6.out (t518 : Int) (of_decide_eq_true kM) (of_decide_eq_true kM); have HP27 := Kd.R_putg HO_6.out (t518 : Int) (wrap64 (t521 - 1))) | ((with_reducible refine gate_store (t := 2) (p := 43) rfl ?_); refine store_event (t := 2) (p := 43) (v := ?vo_w28) (w1 := (w26.setCell ⟨go21, (t518 : Int).toNat, none⟩ (.int .i64 (wrap64 (t521 - 1))))) ?hg ?ho ?hn ?hr ?_; (case ho => rfl); (case hg => rfl); (case hn => rfl); (case hr => first | (go_simp; done) | (go_simp; rfl)); intro w28 hw; have hg : w26.grownBy w28 (some go21) := (by rw [hw]; exact HP27.2); have hp_ : Kd.R (Kd.int .i64) 2 w28 w.heap.size (fun _ => True) (.slice (some ⟨go21, 0, none⟩) x6_1.length co24) y524 := (by rw [hw, Ny524.out]; exact HP27.1); clear HP27; have n0_ := am (Kd.R_over' (v := (.slice (some ⟨go21, 0, none⟩) x6_1.length co24)) (kR HO_5) (Kd.R_typed HO_6.out) (by decide) hg); have n1_ := am (hp_); have n2_ := am (IsS72.grown (kI HI501) hg (IsS72.own_ne HI501.out HO_6.out (by decide))); have n3_ := am ((by rw [hw]; exact below_set (HB.out) GB21.out : Below w.heap.size w w28)); clear HO_5 HO_6 HI501 HB; have HO_5 := n0_; have HO_6 := n1_; have HI501 := n2_; have HB := n3_; clear n0_ n1_ n2_ n3_; clear hg hw hp_) | ((with_reducible refine gate_callee (f := 58) rfl ?_); refine goesL_ (some 53) rfl rfl Try.func58 (by kernel_rfl) rfl #[.pointer (some ⟨g501, 0, none⟩), .slice (some ⟨go21, 0, none⟩) y524.length co24] rfl (by (try simp only [List.map_toArray, List.map_cons, List.map_nil]); first | done | (rw [show y524.length = x6_1.length from (Kd.R_reads' HO_6.out).1.symm] <;> rfl) | rfl | (simp only [List.length_drop, List.length_take]; rfl)) ?_; (with_reducible refine (spec_l01BadTurns.calls k1 g501 t498 t522 t523 _ _ y524 t525 t528 t529 w _ ?side1 ?side2 ?side3 ?side4 ?side5 A22.out).mono ?_); (case side1 => exact kI HI501); (case side2 => exact kB1 HB (IsS72.ge HI501.out)); (case side3 => exact kC (Kd.R_reads' HO_6.out).2.2); (case side4 => rw [show y524.length = x6_1.length from (Kd.R_reads' HO_6.out).1.symm]; exact (Kd.R_reads' HO_6.out).2.1); (case side5 => first | exact far_slice (IsS72.own_ne HI501.out HO_6.out (by decide)) | exact (fun ad hq_ hl_ => far_slice (IsS72.own_ne HI501.out HO_6.out (by decide)) ad hq_ (by rw [(Kd.R_reads' HO_6.out).1]; exact hl_))); rintro e w29 ⟨v526, rfl, ho0, hi, hb, hk⟩; refine ⟨_, rfl, ?_⟩; have n0_ := am (Kd.R_mono (Kd.R_keep (IsS72.apart (show IsS72 w _ g501 t498 t522 t523 from kI HI501) (kR HO_5) (by decide)) hk (fun _ h => h.2)) (fun _ h => h.1)); have n1_ := am (Kd.R_mono (Kd.R_told (Kd.R_oldK (IsS72.apart (show IsS72 w _ g501 t498 t522 t523 from kI HI501) (kR HO_6) (by decide)) hk) (Kd.R_base ho0)) (fun _ h_ => h_.1)); have n2_ := am (Kd.R_lower (Kd.R_new' ho0 (Kd.R_lt (kR HO_6))) (below_size (kB1 HB (IsS72.ge HI501.out)))); have n3_ := am (hb); have n4_ := am (hi); clear HO_5 HO_6 HB HI501; have HO_5 := n0_; have HO_6 := n1_; have HO527 := n2_; have HB := n3_; have HI501 := n4_; clear n0_ n1_ n2_ n3_ n4_; (try clear hb); (try clear hb2); (try clear hk); (try clear hi); (try clear ho0)))
       go_ret2
       exact ⟨_, by first | rfl | (simp [errW_none, errW_some] <;> rfl) | (simp only [← hji10]; first | rfl | (simp [errW_none, errW_some] <;> rfl)) | (simp [*, errW_none, errW_some] <;> rfl), by (with_reducible repeat (first | apply Kd.R_alloc | apply Kd.R_drewN | apply Kd.R_drew)); exact Kd.R_mono HO527.out (fun _ hk => trivial), kB1 HB (IsS72.ge HI501.out)⟩
      ·rw [if_neg c20] at H
       exact absurd H (by simp)
     ·rw [if_neg c19] at H
      exact absurd H (by simp)
    ·rw [if_neg c16] at H
     have c16b0 : (t515 == 0) = false := beq_eq_false_iff_ne.mpr c16
     have c16b1 : (t515 != 0) = true := bne_iff_ne.mpr c16
     by_cases c30 : t515 = 1
     ·rw [if_pos c30] at H
      have c30b0 : (t515 == 1) = true := beq_iff_eq.mpr c30
      have c30b1 : (t515 != 1) = false := bne_eq_false_iff_eq.mpr c30
      clear c30
      obtain ⟨y530, hy530⟩ : ∃ y_ : List Int, y_ = (([1, 8, wrap64 ((t502.length : Int) + 1), 0, 9] : List Int)) := ⟨_, rfl⟩
      replace H : ((spec_l01Pick.f t498 t516 t517 y530).bind fun bt533 => ((spec_l01BadTurns.f k1 t498 bt533.2.1 bt533.2.2 x6_1).bind fun bt536 => (some (bt536.1, bt533.1)))) = some (r1, r2) := by first | (rw [hy530]; with_reducible exact H) | (have H2_ := (Option.bind_some _ _).symm.trans H; rw [hy530]; with_reducible exact H2_) | (have H2_ := (Option.bind_some _ _).symm.trans H; with_reducible exact H2_) | with_reducible exact H | (rw [hy530]; exact H) | exact H
      have Ny530 := am hy530
      clear hy530
      replace H := Option.bind_eq_some_iff.mp H
      obtain ⟨⟨t533, t534, t535⟩, A310, H⟩ := H
      try dsimp only at H
      have A31 := am A310
      clear A310
      replace H := Option.bind_eq_some_iff.mp H
      obtain ⟨⟨t536, t539, t540⟩, A320, H⟩ := H
      try dsimp only at H
      have A32 := am A320
      clear A320
      simp only [Option.some.injEq, Prod.mk.injEq] at H
      obtain ⟨rfl, rfl⟩ := H
      go_wp2_with (first | ((with_reducible refine gate_callee (f := 35) rfl ?_); refine goesL_ (some 18) rfl rfl Try.func35 (by kernel_rfl) rfl #[.slice Ao8 t502.length co8] rfl kA ?_; (with_reducible refine (spec_l05Span.calls k1 _ _ t502 t510 _ ?side1 ?side2 A9.out).mono ?_); (case side1 => exact kC (Kd.R_reads' HO_5.out).2.2); (case side2 => exact (Kd.R_reads' HO_5.out).2.1); rintro e w' ⟨rfl, ⟨nd, rfl⟩⟩; refine ⟨_, rfl, ?_⟩) | ((with_reducible refine gate_callee (f := 56) rfl ?_); refine goesL_ (some 30) rfl rfl Try.func56 (by kernel_rfl) rfl #[.pointer (some ⟨g501, 0, none⟩), .int .i64 6] rfl kA ?_; (with_reducible refine (spec_l01Next.calls g501 t498 t505 t506 6 t515 t516 t517 w _ ?side1 ?side2 A15.out).mono ?_); (case side1 => exact kI HI501); (case side2 => exact kB1 HB (IsS72.ge HI501.out)); rintro e w33 ⟨rfl, hi, hb, hk⟩; refine ⟨_, rfl, ?_⟩; have n0_ := am (Kd.R_mono (Kd.R_keep (IsS72.apart (show IsS72 w _ g501 t498 t505 t506 from kI HI501) (kR HO_5) (by decide)) hk (fun _ h => h.2)) (fun _ h => h.1)); have n1_ := am (Kd.R_mono (Kd.R_keep (IsS72.apart (show IsS72 w _ g501 t498 t505 t506 from kI HI501) (kR HO_6) (by decide)) hk (fun _ h => h.2)) (fun _ h => h.1)); have n2_ := am (hb); have n3_ := am (hi); clear HO_5 HO_6 HB HI501; have HO_5 := n0_; have HO_6 := n1_; have HB := n2_; have HI501 := n3_; clear n0_ n1_ n2_ n3_; (try clear hb); (try clear hb2); (try clear hk); (try clear hi)) | ((with_reducible refine gate_dst (N := 49) rfl ?_); refine Kd.R_lit (Kd.int .i64) _ 2 ?hg (N := 49) ?hd (xs := ([1, 8, wrap64 ((t502.length : Int) + 1), 0, 9] : List Int)) (inner := [.int .i64 1, .int .i64 8, .int .i64 (wrap64 ((t502.length : Int) + 1)), .int .i64 0, .int .i64 9]) (ok := fun _ => True) (okp := fun _ => True) ?hr ?hp (fun _ hk => hk) trivial (Below.refl _ _) (Nat.le_refl _) (by simp) ?_; (case hd => rfl); (case hg => rfl); (case hr => first | (go_simp; done) | (go_simp; rfl)); (case hp => exact (Reps.one (show Kd.M (Kd.int .i64) _ _ _ 1 [.int .i64 1] from rfl) (Reps.one (show Kd.M (Kd.int .i64) _ _ _ 8 [.int .i64 8] from rfl) (Reps.one (show Kd.M (Kd.int .i64) _ _ _ (wrap64 ((t502.length : Int) + 1)) [.int .i64 (wrap64 ((t502.length : Int) + 1))] from rfl) (Reps.one (show Kd.M (Kd.int .i64) _ _ _ 0 [.int .i64 0] from rfl) (Reps.one (show Kd.M (Kd.int .i64) _ _ _ 9 [.int .i64 9] from rfl) (Reps.none _ _))))))); intro v531 w34 ho35 hb hg_ hnew_; clear hg_ hnew_; (first | rw [← Ny530.out] at ho35 | (simp only [Int.reduceToNat] at ho35; rw [← Ny530.out] at ho35)); have n0_ := am (Kd.R_below (kR HO_5) hb); have n1_ := am (Kd.R_elder' (kR HO_6) (Kd.R_base ho35) hb); have n2_ := am (Kd.R_lower (Kd.R_new' ho35 (Kd.R_lt (kR HO_6))) (below_size (kB1 HB (IsS72.ge HI501.out)))); have n3_ := am (IsS72.below (kI HI501) hb); have n4_ := am (below_step (kB1 HB (IsS72.ge HI501.out)) hb); clear HO_5 HO_6 HI501 HB; have HO_5 := n0_; have HO_6 := n1_; have HO532 := n2_; have HI501 := n3_; have HB := n4_; clear n0_ n1_ n2_ n3_ n4_ hb ho35; obtain ⟨Ao36, co36, eo36⟩ := Kd.R_slice HO532.out; subst eo36) | ((with_reducible refine gate_callee (f := 57) rfl ?_); refine goesL_ (some 50) rfl rfl Try.func57 (by kernel_rfl) rfl #[.pointer (some ⟨g501, 0, none⟩), .slice Ao36 y530.length co36] rfl kA ?_; (with_reducible refine (spec_l01Pick.calls g501 t498 t516 t517 _ _ y530 t533 t534 t535 w _ ?side1 ?side2 ?side3 ?side4 ?side5 A31.out).mono ?_); (case side1 => exact kI HI501); (case side2 => exact kB1 HB (IsS72.ge HI501.out)); (case side3 => exact kC (Kd.R_reads' HO532.out).2.2); (case side4 => exact (Kd.R_reads' HO532.out).2.1); (case side5 => first | exact far_slice (IsS72.own_ne HI501.out HO532.out (by decide)) | exact (fun ad hq_ hl_ => far_slice (IsS72.own_ne HI501.out HO532.out (by decide)) ad hq_ (by rw [(Kd.R_reads' HO532.out).1]; exact hl_))); rintro e w37 ⟨rfl, hi, hb, hk⟩; refine ⟨_, rfl, ?_⟩; have n0_ := am (Kd.R_mono (Kd.R_keep (IsS72.apart (show IsS72 w _ g501 t498 t516 t517 from kI HI501) (kR HO_5) (by decide)) hk (fun _ h => h.2)) (fun _ h => h.1)); have n1_ := am (Kd.R_mono (Kd.R_keep (IsS72.apart (show IsS72 w _ g501 t498 t516 t517 from kI HI501) (kR HO_6) (by decide)) hk (fun _ h => h.2)) (fun _ h => h.1)); have n2_ := am (Kd.R_mono (Kd.R_keep (IsS72.apart (show IsS72 w _ g501 t498 t516 t517 from kI HI501) (kR HO532) (by decide)) hk (fun _ h => h.2)) (fun _ h => h.1)); have n3_ := am (hb); have n4_ := am (hi); clear HO_5 HO_6 HO532 HB HI501; have HO_5 := n0_; have HO_6 := n1_; have HO532 := n2_; have HB := n3_; have HI501 := n4_; clear n0_ n1_ n2_ n3_ n4_; (try clear hb); (try clear hb2); (try clear hk); (try clear hi); obtain ⟨Ao38, co38, eo38⟩ := Kd.R_slice HO_6.out; subst eo38) | ((with_reducible refine gate_callee (f := 58) rfl ?_); refine goesL_ (some 53) rfl rfl Try.func58 (by kernel_rfl) rfl #[.pointer (some ⟨g501, 0, none⟩), .slice Ao38 x6_1.length co38] rfl kA ?_; (with_reducible refine (spec_l01BadTurns.calls k1 g501 t498 t534 t535 _ _ x6_1 t536 t539 t540 w _ ?side1 ?side2 ?side3 ?side4 ?side5 A32.out).mono ?_); (case side1 => exact kI HI501); (case side2 => exact kB1 HB (IsS72.ge HI501.out)); (case side3 => exact kC (Kd.R_reads' HO_6.out).2.2); (case side4 => exact (Kd.R_reads' HO_6.out).2.1); (case side5 => first | exact far_slice (IsS72.own_ne HI501.out HO_6.out (by decide)) | exact (fun ad hq_ hl_ => far_slice (IsS72.own_ne HI501.out HO_6.out (by decide)) ad hq_ (by rw [(Kd.R_reads' HO_6.out).1]; exact hl_))); rintro e w39 ⟨v537, rfl, ho0, hi, hb, hk⟩; refine ⟨_, rfl, ?_⟩; have n0_ := am (Kd.R_mono (Kd.R_keep (IsS72.apart (show IsS72 w _ g501 t498 t534 t535 from kI HI501) (kR HO_5) (by decide)) hk (fun _ h => h.2)) (fun _ h => h.1)); have n1_ := am (Kd.R_mono (Kd.R_told (Kd.R_oldK (IsS72.apart (show IsS72 w _ g501 t498 t534 t535 from kI HI501) (kR HO_6) (by decide)) hk) (Kd.R_base ho0)) (fun _ h_ => h_.1)); have n2_ := am (Kd.R_mono (Kd.R_told (Kd.R_oldK (IsS72.apart (show IsS72 w _ g501 t498 t534 t535 from kI HI501) (kR HO532) (by decide)) hk) (Kd.R_base ho0)) (fun _ h_ => h_.1)); have n3_ := am (Kd.R_lower (Kd.R_new' (Kd.R_new' ho0 (Kd.R_lt (kR HO_6))) (Kd.R_lt (kR HO532))) (below_size (kB1 HB (IsS72.ge HI501.out)))); have n4_ := am (hb); have n5_ := am (hi); clear HO_5 HO_6 HO532 HB HI501; have HO_5 := n0_; have HO_6 := n1_; have HO532 := n2_; have HO538 := n3_; have HB := n4_; have HI501 := n5_; clear n0_ n1_ n2_ n3_ n4_ n5_; (try clear hb); (try clear hb2); (try clear hk); (try clear hi); (try clear ho0)))
      go_ret2
      exact ⟨_, by first | rfl | (simp [errW_none, errW_some] <;> rfl) | (simp only [← hji10]; first | rfl | (simp [errW_none, errW_some] <;> rfl)) | (simp [*, errW_none, errW_some] <;> rfl), by (with_reducible repeat (first | apply Kd.R_alloc | apply Kd.R_drewN | apply Kd.R_drew)); exact Kd.R_mono HO538.out (fun _ hk => trivial), kB1 HB (IsS72.ge HI501.out)⟩
     ·rw [if_neg c30] at H
      have c30b0 : (t515 == 1) = false := beq_eq_false_iff_ne.mpr c30
      have c30b1 : (t515 != 1) = true := bne_iff_ne.mpr c30
      replace H := Option.bind_eq_some_iff.mp H
      obtain ⟨⟨t541, t544, t545⟩, A400, H⟩ := H
      try dsimp only at H
      have A40 := am A400
      clear A400
      simp only [Option.some.injEq, Prod.mk.injEq] at H
      obtain ⟨rfl, rfl⟩ := H
      go_wp2_with (first | ((with_reducible refine gate_callee (f := 35) rfl ?_); refine goesL_ (some 18) rfl rfl Try.func35 (by kernel_rfl) rfl #[.slice Ao8 t502.length co8] rfl kA ?_; (with_reducible refine (spec_l05Span.calls k1 _ _ t502 t510 _ ?side1 ?side2 A9.out).mono ?_); (case side1 => exact kC (Kd.R_reads' HO_5.out).2.2); (case side2 => exact (Kd.R_reads' HO_5.out).2.1); rintro e w' ⟨rfl, ⟨nd, rfl⟩⟩; refine ⟨_, rfl, ?_⟩) | ((with_reducible refine gate_callee (f := 56) rfl ?_); refine goesL_ (some 30) rfl rfl Try.func56 (by kernel_rfl) rfl #[.pointer (some ⟨g501, 0, none⟩), .int .i64 6] rfl kA ?_; (with_reducible refine (spec_l01Next.calls g501 t498 t505 t506 6 t515 t516 t517 w _ ?side1 ?side2 A15.out).mono ?_); (case side1 => exact kI HI501); (case side2 => exact kB1 HB (IsS72.ge HI501.out)); rintro e w41 ⟨rfl, hi, hb, hk⟩; refine ⟨_, rfl, ?_⟩; have n0_ := am (Kd.R_mono (Kd.R_keep (IsS72.apart (show IsS72 w _ g501 t498 t505 t506 from kI HI501) (kR HO_5) (by decide)) hk (fun _ h => h.2)) (fun _ h => h.1)); have n1_ := am (Kd.R_mono (Kd.R_keep (IsS72.apart (show IsS72 w _ g501 t498 t505 t506 from kI HI501) (kR HO_6) (by decide)) hk (fun _ h => h.2)) (fun _ h => h.1)); have n2_ := am (hb); have n3_ := am (hi); clear HO_5 HO_6 HB HI501; have HO_5 := n0_; have HO_6 := n1_; have HB := n2_; have HI501 := n3_; clear n0_ n1_ n2_ n3_; (try clear hb); (try clear hb2); (try clear hk); (try clear hi); obtain ⟨Ao42, co42, eo42⟩ := Kd.R_slice HO_6.out; subst eo42) | ((with_reducible refine gate_callee (f := 58) rfl ?_); refine goesL_ (some 53) rfl rfl Try.func58 (by kernel_rfl) rfl #[.pointer (some ⟨g501, 0, none⟩), .slice Ao42 x6_1.length co42] rfl kA ?_; (with_reducible refine (spec_l01BadTurns.calls k1 g501 t498 t516 t517 _ _ x6_1 t541 t544 t545 w _ ?side1 ?side2 ?side3 ?side4 ?side5 A40.out).mono ?_); (case side1 => exact kI HI501); (case side2 => exact kB1 HB (IsS72.ge HI501.out)); (case side3 => exact kC (Kd.R_reads' HO_6.out).2.2); (case side4 => exact (Kd.R_reads' HO_6.out).2.1); (case side5 => first | exact far_slice (IsS72.own_ne HI501.out HO_6.out (by decide)) | exact (fun ad hq_ hl_ => far_slice (IsS72.own_ne HI501.out HO_6.out (by decide)) ad hq_ (by rw [(Kd.R_reads' HO_6.out).1]; exact hl_))); rintro e w43 ⟨v542, rfl, ho0, hi, hb, hk⟩; refine ⟨_, rfl, ?_⟩; have n0_ := am (Kd.R_mono (Kd.R_keep (IsS72.apart (show IsS72 w _ g501 t498 t516 t517 from kI HI501) (kR HO_5) (by decide)) hk (fun _ h => h.2)) (fun _ h => h.1)); have n1_ := am (Kd.R_mono (Kd.R_told (Kd.R_oldK (IsS72.apart (show IsS72 w _ g501 t498 t516 t517 from kI HI501) (kR HO_6) (by decide)) hk) (Kd.R_base ho0)) (fun _ h_ => h_.1)); have n2_ := am (Kd.R_lower (Kd.R_new' ho0 (Kd.R_lt (kR HO_6))) (below_size (kB1 HB (IsS72.ge HI501.out)))); have n3_ := am (hb); have n4_ := am (hi); clear HO_5 HO_6 HB HI501; have HO_5 := n0_; have HO_6 := n1_; have HO543 := n2_; have HB := n3_; have HI501 := n4_; clear n0_ n1_ n2_ n3_ n4_; (try clear hb); (try clear hb2); (try clear hk); (try clear hi); (try clear ho0)))
      go_ret2
      exact ⟨_, by first | rfl | (simp [errW_none, errW_some] <;> rfl) | (simp only [← hji10]; first | rfl | (simp [errW_none, errW_some] <;> rfl)) | (simp [*, errW_none, errW_some] <;> rfl), by (with_reducible repeat (first | apply Kd.R_alloc | apply Kd.R_drewN | apply Kd.R_drew)); exact Kd.R_mono HO543.out (fun _ hk => trivial), kB1 HB (IsS72.ge HI501.out)⟩
/-! ### spec_l01Turns: function 60 -/
def spec_l01Turns.l0 : Nat → List Int → Int → Int → Option (Bool)
 | 0, _, _, _ => none
 | k + 1, x0, x1, x5 => if x5 < (x0.length : Int) then (if 0 ≤ x5 then ((spec_l01In.f (rd x0 x5) (-1) (wrap64 (x1 - 1))).bind fun t547 => (if t547 = true then (spec_l01Turns.l0 k x0 x1 (wrap64 (x5 + 1))) else (some false))) else (none)) else ((spec_l01In.f (x0.length : Int) 1 120).bind fun t548 => (some t548))
def spec_l01Turns.f (k : Nat) (l0 : List Int) (a1 : Int) : Option (Bool) := spec_l01Turns.l0 k l0 a1 0
theorem spec_l01Turns.mono_l : ∀ k, (∀ y0 y1 y2, LeO (spec_l01Turns.l0 k y0 y1 y2) (spec_l01Turns.l0 (k + 1) y0 y1 y2))
 | 0 => fun _ _ _ r h => by simp [spec_l01Turns.l0] at h
 | k + 1 => by
  have ih0 := spec_l01Turns.mono_l k
  ·intro y0 y1 y2
   unfold spec_l01Turns.l0
   repeat' first
   | with_reducible first | exact ih0 _ _ _ | exact LeO.refl _ | exact LeO.none _ | refine LeO.ite ?_ ?_ | refine LeO.bind ?_ (fun _ => ?_)
   | exact ih0 _ _ _
   | exact LeO.none _
   | refine LeO.ite ?_ ?_
   | refine LeO.bind ?_ (fun _ => ?_)
theorem spec_l01Turns.mono : ∀ a0 a1 k, LeO (spec_l01Turns.f k a0 a1) (spec_l01Turns.f (k + 1) a0 a1) := by
 intro a0 a1 k
 have ih0 := spec_l01Turns.mono_l k
 unfold spec_l01Turns.f
 repeat' first
   | with_reducible first | exact ih0 _ _ _ | exact LeO.refl _ | exact LeO.none _ | refine LeO.ite ?_ ?_ | refine LeO.bind ?_ (fun _ => ?_)
   | exact ih0 _ _ _
   | exact LeO.none _
   | refine LeO.ite ?_ ?_
   | refine LeO.bind ?_ (fun _ => ?_)
set_option maxHeartbeats 8000000 in
set_option maxRecDepth 100000 in
theorem spec_l01Turns.calls (k : Nat) (A0 : Option Addr) (c0 : Nat) (l0 : List Int) (a1 : Int) (r : Bool) (w : World) (hr0 : Kd.C (Kd.int .i64) w A0 l0.length l0) (hc0 : l0.length ≤ c0) (h : spec_l01Turns.f k l0 a1 = some r) :
  Calls Try.prog 60 #[.slice A0 l0.length c0, .int .i64 a1] w fun e w' => e = .returned (.bool r) ∧ Drawn0 w w' := by
 have HR0 := am hr0
 have HC0 := am hc0
 clear hr0 hc0
 have H : (spec_l01Turns.l0 k l0 a1 0) = some r := h
 clear h
 have H' := am H
 clear H
 go_enter Try.func60, Try.ntmps60
 go_wp2
 go_loopg [5] k (fun kq v5 w' => ∃ (x5_1 : Int), v5 = .int .i64 x5_1 ∧ Aside0 (spec_l01Turns.l0 kq l0 a1 x5_1 = some r) ∧ Aside0 (kq ≤ k) ∧ Drawn0 w w')
 case atStart => exact ⟨(0), (by first | rfl | (simp; done) | (simp [*]; done)), H', ⟨Nat.le_refl _⟩, by repeat (first | exact Drawn0.refl _ | apply Drawn0.step)⟩
 case round =>
  clear H'
  obtain ⟨x5_1, rfl, HA, HK1, ⟨m1, rfl⟩⟩ := hrel
  cases gk with
  | zero => exact absurd HA.out (by simp [spec_l01Turns.l0])
  | succ k1 =>
   have H := HA.out
   clear HA
   simp only [spec_l01Turns.l0] at H
   by_cases c3 : x5_1 < (l0.length : Int)
   ·rw [if_pos c3] at H
    have c3b0 : decide (x5_1 < (l0.length : Int)) = true := decide_eq_true c3
    clear c3
    by_cases c4 : 0 ≤ x5_1
    ·rw [if_pos c4] at H
     have c4b0 : decide (0 ≤ x5_1) = true := decide_eq_true c4
     clear c4
     replace H := Option.bind_eq_some_iff.mp H
     obtain ⟨t547, A50, H⟩ := H
     try dsimp only at H
     have A5 := am A50
     clear A50
     by_cases c6 : t547 = true
     ·subst c6
      rw [if_pos rfl] at H
      have H' := am H
      clear H
      have p546 : 0 ≤ (x5_1 : Int) := of_decide_eq_true kM
      have q546 : x5_1 < (l0.length : Int) := of_decide_eq_true kM
      obtain ⟨ad546, e546, hx546_0⟩ := Kd.at_int HR0.out x5_1 p546 q546
      cases e546
      replace p546 := eq_true p546
      replace q546 := eq_true q546
      go_wp2_with (first | ((with_reducible refine gate_callee (f := 59) rfl ?_); refine goesL_ (some 18) rfl rfl Try.func59 (by kernel_rfl) rfl #[.int .i64 (rd l0 x5_1), .int .i64 (-1), .int .i64 (wrap64 (a1 - 1))] rfl kA ?_; (with_reducible refine (spec_l01In.calls (rd l0 x5_1) (-1) (wrap64 (a1 - 1)) true _ A5.out).mono ?_); rintro e w' ⟨rfl, ⟨nd, rfl⟩⟩; refine ⟨_, rfl, ?_⟩))
      go_roundg k1
      case measure => have := HK1.out; omega
      case rel => exact ⟨(wrap64 (x5_1 + 1)), (by first | rfl | (simp; done) | (simp [*]; done)), H', ⟨by have := HK1.out; omega⟩, by repeat (first | exact Drawn0.refl _ | apply Drawn0.step)⟩
     ·replace c6 := Bool.eq_false_iff.mpr c6
      subst c6
      rw [if_neg (show ¬ (false = true) by decide)] at H
      obtain rfl := Option.some.inj H
      have p546 : 0 ≤ (x5_1 : Int) := of_decide_eq_true kM
      have q546 : x5_1 < (l0.length : Int) := of_decide_eq_true kM
      obtain ⟨ad546, e546, hx546_0⟩ := Kd.at_int HR0.out x5_1 p546 q546
      cases e546
      replace p546 := eq_true p546
      replace q546 := eq_true q546
      go_wp2_with (first | ((with_reducible refine gate_callee (f := 59) rfl ?_); refine goesL_ (some 18) rfl rfl Try.func59 (by kernel_rfl) rfl #[.int .i64 (rd l0 x5_1), .int .i64 (-1), .int .i64 (wrap64 (a1 - 1))] rfl kA ?_; (with_reducible refine (spec_l01In.calls (rd l0 x5_1) (-1) (wrap64 (a1 - 1)) false _ A5.out).mono ?_); rintro e w' ⟨rfl, ⟨nd, rfl⟩⟩; refine ⟨_, rfl, ?_⟩))
      go_ret
      exact ⟨by first | rfl | (simp; done) | (simp [*]; done), by repeat (first | exact Drawn0.refl _ | apply Drawn0.step)⟩
    ·rw [if_neg c4] at H
     exact absurd H (by simp)
   ·rw [if_neg c3] at H
    have c3b0 : decide (x5_1 < (l0.length : Int)) = false := decide_eq_false c3
    clear c3
    replace H := Option.bind_eq_some_iff.mp H
    obtain ⟨t548, A70, H⟩ := H
    try dsimp only at H
    have A7 := am A70
    clear A70
    obtain rfl := Option.some.inj H
    go_wp2_with (first | ((with_reducible refine gate_callee (f := 59) rfl ?_); refine goesL_ (some 22) rfl rfl Try.func59 (by kernel_rfl) rfl #[.int .i64 (l0.length : Int), .int .i64 1, .int .i64 120] rfl kA ?_; (with_reducible refine (spec_l01In.calls (l0.length : Int) 1 120 t548 _ A7.out).mono ?_); rintro e w' ⟨rfl, ⟨nd, rfl⟩⟩; refine ⟨_, rfl, ?_⟩))
    go_ret
    exact ⟨by first | rfl | (simp; done) | (simp [*]; done), by repeat (first | exact Drawn0.refl _ | apply Drawn0.step)⟩
/-! ### spec_l01Waits: function 61 -/
def spec_l01Waits.l0 : Nat → List Int → Int → List Int → Int → Int → Int → Option (List Int)
 | 0, _, _, _, _, _, _ => none
 | k + 1, x0, x1, x5, x6, x7, x8 => if x8 < (x0.length : Int) then (if 0 ≤ x8 then (if (rd x0 x8) = x1 then (if x6 < 0 then (spec_l01Waits.l0 k x0 x1 x5 x8 x8 (wrap64 (x8 + 1))) else (if x5.length < 17592186044416 then (spec_l01Waits.l0 k x0 x1 (x5 ++ [wrap64 (x8 - x7)]) x6 x8 (wrap64 (x8 + 1))) else (none))) else (spec_l01Waits.l0 k x0 x1 x5 x6 x7 (wrap64 (x8 + 1)))) else (none)) else (if x6 ≥ 0 then (if x5.length < 17592186044416 then (some (x5 ++ [wrap64 ((wrap64 ((x0.length : Int) - x7)) + x6)])) else (none)) else (some x5))
def spec_l01Waits.f (k : Nat) (l0 : List Int) (a1 : Int) : Option (List Int) := spec_l01Waits.l0 k l0 a1 (([] : List Int)) (-1) (-1) 0
theorem spec_l01Waits.mono_l : ∀ k, (∀ y0 y1 y2 y3 y4 y5, LeO (spec_l01Waits.l0 k y0 y1 y2 y3 y4 y5) (spec_l01Waits.l0 (k + 1) y0 y1 y2 y3 y4 y5))
 | 0 => fun _ _ _ _ _ _ r h => by simp [spec_l01Waits.l0] at h
 | k + 1 => by
  have ih0 := spec_l01Waits.mono_l k
  ·intro y0 y1 y2 y3 y4 y5
   unfold spec_l01Waits.l0
   repeat' first
   | with_reducible first | exact ih0 _ _ _ _ _ _ | exact LeO.refl _ | exact LeO.none _ | refine LeO.ite ?_ ?_ | refine LeO.bind ?_ (fun _ => ?_)
   | exact ih0 _ _ _ _ _ _
   | exact LeO.none _
   | refine LeO.ite ?_ ?_
   | refine LeO.bind ?_ (fun _ => ?_)
theorem spec_l01Waits.mono : ∀ a0 a1 k, LeO (spec_l01Waits.f k a0 a1) (spec_l01Waits.f (k + 1) a0 a1) := by
 intro a0 a1 k
 have ih0 := spec_l01Waits.mono_l k
 unfold spec_l01Waits.f
 repeat' first
   | with_reducible first | exact ih0 _ _ _ _ _ _ | exact LeO.refl _ | exact LeO.none _ | refine LeO.ite ?_ ?_ | refine LeO.bind ?_ (fun _ => ?_)
   | exact ih0 _ _ _ _ _ _
   | exact LeO.none _
   | refine LeO.ite ?_ ?_
   | refine LeO.bind ?_ (fun _ => ?_)
set_option maxHeartbeats 8000000 in
set_option maxRecDepth 100000 in
theorem spec_l01Waits.calls (k : Nat) (A0 : Option Addr) (c0 : Nat) (l0 : List Int) (a1 : Int) (r : List Int) (w : World) (hr0 : Kd.C (Kd.int .i64) w A0 l0.length l0) (hc0 : l0.length ≤ c0) (h : spec_l01Waits.f k l0 a1 = some r) :
  Calls Try.prog 61 #[.slice A0 l0.length c0, .int .i64 a1] w fun e w' => ∃ v0_ : Value, e = .returned (v0_) ∧ Kd.R (Kd.int .i64) 2 w' w.heap.size (fun _ => True) v0_ r ∧ Below w.heap.size w w' := by
 have HR0 := am hr0
 have HC0 := am hc0
 clear hr0 hc0
 have HB := am (Below.refl w.heap.size w)
 have H : (spec_l01Waits.l0 k l0 a1 (([] : List Int)) (-1) (-1) 0) = some r := h
 clear h
 obtain ⟨y549, hy549⟩ : ∃ y_ : List Int, y_ = (([] : List Int)) := ⟨_, rfl⟩
 replace H : (spec_l01Waits.l0 k l0 a1 y549 (-1) (-1) 0) = some r := by first | (rw [hy549]; with_reducible exact H) | (have H2_ := (Option.bind_some _ _).symm.trans H; rw [hy549]; with_reducible exact H2_) | (have H2_ := (Option.bind_some _ _).symm.trans H; with_reducible exact H2_) | with_reducible exact H | (rw [hy549]; exact H) | exact H
 have Ny549 := am hy549
 clear hy549
 have H' := am H
 clear H
 go_enter Try.func61, Try.ntmps61
 go_wp2_with (first | ((with_reducible refine gate_dst (N := 9) rfl ?_); refine Kd.R_lit (Kd.int .i64) _ 2 ?hg (N := 9) ?hd (xs := ([] : List Int)) (inner := []) (ok := fun _ => True) (okp := fun _ => True) ?hr ?hp (fun _ hk => hk) trivial (Below.refl _ _) (Nat.le_refl _) (by simp) ?_; (case hd => rfl); (case hg => rfl); (case hr => first | (go_simp; done) | (go_simp; rfl)); (case hp => exact (Reps.none _ _)); intro v550 w3 ho4 hb hg_ hnew_; clear hg_ hnew_; (first | rw [← Ny549.out] at ho4 | (simp only [Int.reduceToNat] at ho4; rw [← Ny549.out] at ho4)); have n0_ := am (Kd.R_lower ho4 (below_size (kB HB))); have n1_ := am (below_step (kB HB) hb); clear HB; have HO551 := n0_; have HB := n1_; clear n0_ n1_; clear hb ho4))
 go_loopg [5, 6, 7, 8] k (fun kq v5 v6 v7 v8 w' => ∃ (x5_1 : List Int) (x6_1 : Int) (x7_1 : Int) (x8_1 : Int), v6 = .int .i64 x6_1 ∧ v7 = .int .i64 x7_1 ∧ v8 = .int .i64 x8_1 ∧ Aside0 (spec_l01Waits.l0 kq l0 a1 x5_1 x6_1 x7_1 x8_1 = some r) ∧ Aside0 (kq ≤ k) ∧ Aside0 (Kd.R (Kd.int .i64) 2 w' w.heap.size (fun _ => True) v5 x5_1) ∧ Aside0 (Below w.heap.size w w'))
 case atStart => exact ⟨(y549), ((-1)), ((-1)), (0), (by first | rfl | (simp; done) | (simp [*]; done)), (by first | rfl | (simp; done) | (simp [*]; done)), (by first | rfl | (simp; done) | (simp [*]; done)), H', ⟨Nat.le_refl _⟩, ⟨kR HO551⟩, ⟨kB HB⟩⟩
 case round =>
  clear H'
  obtain ⟨x5_1, x6_1, x7_1, x8_1, rfl, rfl, rfl, HA, HK1, HO_5, HB⟩ := hrel
  cases gk with
  | zero => exact absurd HA.out (by simp [spec_l01Waits.l0])
  | succ k1 =>
   have H := HA.out
   clear HA
   simp only [spec_l01Waits.l0] at H
   by_cases c5 : x8_1 < (l0.length : Int)
   ·rw [if_pos c5] at H
    have c5b0 : decide (x8_1 < (l0.length : Int)) = true := decide_eq_true c5
    clear c5
    by_cases c6 : 0 ≤ x8_1
    ·rw [if_pos c6] at H
     have c6b0 : decide (0 ≤ x8_1) = true := decide_eq_true c6
     clear c6
     by_cases c7 : (rd l0 x8_1) = a1
     ·rw [if_pos c7] at H
      have c7b0 : ((rd l0 x8_1) == a1) = true := beq_iff_eq.mpr c7
      have c7b1 : ((rd l0 x8_1) != a1) = false := bne_eq_false_iff_eq.mpr c7
      clear c7
      by_cases c8 : x6_1 < 0
      ·rw [if_pos c8] at H
       have c8b0 : decide (x6_1 < 0) = true := decide_eq_true c8
       clear c8
       have H' := am H
       clear H
       have p555 : 0 ≤ (x8_1 : Int) := of_decide_eq_true kM
       have q555 : x8_1 < (l0.length : Int) := of_decide_eq_true kM
       obtain ⟨ad555, e555, hx555_0⟩ := Kd.at_int HR0.out x8_1 p555 q555
       cases e555
       replace hx555_0 := (HB.out.cell (World.block_lt_of_cell? w _ hx555_0)).trans hx555_0
       replace p555 := eq_true p555
       replace q555 := eq_true q555
       go_wp2
       go_roundg k1
       case measure => have := HK1.out; omega
       case rel => exact ⟨(x5_1), (x8_1), (x8_1), (wrap64 (x8_1 + 1)), (by first | rfl | (simp; done) | (simp [*]; done)), (by first | rfl | (simp; done) | (simp [*]; done)), (by first | rfl | (simp; done) | (simp [*]; done)), H', ⟨by have := HK1.out; omega⟩, ⟨kR HO_5⟩, ⟨kB HB⟩⟩
      ·rw [if_neg c8] at H
       have c8b0 : decide (x6_1 < 0) = false := decide_eq_false c8
       clear c8
       by_cases c9 : x5_1.length < 17592186044416
       ·rw [if_pos c9] at H
        have LMc9 := am c9
        clear c9
        obtain ⟨y556, hy556⟩ : ∃ y_ : List Int, y_ = (x5_1 ++ [wrap64 (x8_1 - x7_1)]) := ⟨_, rfl⟩
        replace H : (spec_l01Waits.l0 k1 l0 a1 y556 x6_1 x8_1 (wrap64 (x8_1 + 1))) = some r := by first | (rw [hy556]; with_reducible exact H) | (have H2_ := (Option.bind_some _ _).symm.trans H; rw [hy556]; with_reducible exact H2_) | (have H2_ := (Option.bind_some _ _).symm.trans H; with_reducible exact H2_) | with_reducible exact H | (rw [hy556]; exact H) | exact H
        have Ny556 := am hy556
        clear hy556
        have H' := am H
        clear H
        have p555 : 0 ≤ (x8_1 : Int) := of_decide_eq_true kM
        have q555 : x8_1 < (l0.length : Int) := of_decide_eq_true kM
        obtain ⟨ad555, e555, hx555_0⟩ := Kd.at_int HR0.out x8_1 p555 q555
        cases e555
        replace hx555_0 := (HB.out.cell (World.block_lt_of_cell? w _ hx555_0)).trans hx555_0
        replace p555 := eq_true p555
        replace q555 := eq_true q555
        go_wp2_with (first | ((with_reducible refine gate_builtin (b := .append) (xs := #[.tmp 25, .tmp 29]) rfl ?_); at_builtin; refine Kd.R_append (Kd.int .i64) (w0 := w) w.heap.size rfl (.tmp 25) (.tmp 29) 26 2 (.int .i64 0) 8 rfl Try.underlying26 info2 rfl (by decide) (by omega) u5 x5_1 (wrap64 (x8_1 - x7_1)) [.int .i64 (wrap64 (x8_1 - x7_1))] (fun _ => True) (fun _ => False) rfl rfl ?aP (fun _ hk => hk.elim) ?aF ?aO ?aB ?aS ?aL ?_; (case aP => exact rfl); (case aB => exact (kB HB)); (case aF => exact (fun _ _ => trivial)); (case aO => exact (kR HO_5)); (case aS => exact (below_size (kB HB))); (case aL => have := LMc9.out; omega); intro v557 w10 ho hb hg hat; rw [← Ny556.out] at ho; have n0_ := am (hb); have n1_ := am (ho); clear HB HO_5; have HB := n0_; have HO558 := n1_; clear n0_ n1_; clear ho hb hg hat))
        go_roundg k1
        case measure => have := HK1.out; omega
        case rel => exact ⟨(y556), (x6_1), (x8_1), (wrap64 (x8_1 + 1)), (by first | rfl | (simp; done) | (simp [*]; done)), (by first | rfl | (simp; done) | (simp [*]; done)), (by first | rfl | (simp; done) | (simp [*]; done)), H', ⟨by have := HK1.out; omega⟩, ⟨kR HO558⟩, ⟨kB HB⟩⟩
       ·rw [if_neg c9] at H
        exact absurd H (by simp)
     ·rw [if_neg c7] at H
      have c7b0 : ((rd l0 x8_1) == a1) = false := beq_eq_false_iff_ne.mpr c7
      have c7b1 : ((rd l0 x8_1) != a1) = true := bne_iff_ne.mpr c7
      have H' := am H
      clear H
      have p555 : 0 ≤ (x8_1 : Int) := of_decide_eq_true kM
      have q555 : x8_1 < (l0.length : Int) := of_decide_eq_true kM
      obtain ⟨ad555, e555, hx555_0⟩ := Kd.at_int HR0.out x8_1 p555 q555
      cases e555
      replace hx555_0 := (HB.out.cell (World.block_lt_of_cell? w _ hx555_0)).trans hx555_0
      replace p555 := eq_true p555
      replace q555 := eq_true q555
      go_wp2
      go_roundg k1
      case measure => have := HK1.out; omega
      case rel => exact ⟨(x5_1), (x6_1), (x7_1), (wrap64 (x8_1 + 1)), (by first | rfl | (simp; done) | (simp [*]; done)), (by first | rfl | (simp; done) | (simp [*]; done)), (by first | rfl | (simp; done) | (simp [*]; done)), H', ⟨by have := HK1.out; omega⟩, ⟨kR HO_5⟩, ⟨kB HB⟩⟩
    ·rw [if_neg c6] at H
     exact absurd H (by simp)
   ·rw [if_neg c5] at H
    have c5b0 : decide (x8_1 < (l0.length : Int)) = false := decide_eq_false c5
    clear c5
    by_cases c11 : x6_1 ≥ 0
    ·rw [if_pos c11] at H
     have c11b0 : decide (0 ≤ x6_1) = true := decide_eq_true c11
     clear c11
     by_cases c12 : x5_1.length < 17592186044416
     ·rw [if_pos c12] at H
      have LMc12 := am c12
      clear c12
      obtain ⟨y552, hy552⟩ : ∃ y_ : List Int, y_ = (x5_1 ++ [wrap64 ((wrap64 ((l0.length : Int) - x7_1)) + x6_1)]) := ⟨_, rfl⟩
      replace H : (some y552) = some r := by first | (rw [hy552]; with_reducible exact H) | (have H2_ := (Option.bind_some _ _).symm.trans H; rw [hy552]; with_reducible exact H2_) | (have H2_ := (Option.bind_some _ _).symm.trans H; with_reducible exact H2_) | with_reducible exact H | (rw [hy552]; exact H) | exact H
      have Ny552 := am hy552
      clear hy552
      obtain rfl := Option.some.inj H
      go_wp2_with (first | ((with_reducible refine gate_builtin (b := .append) (xs := #[.tmp 34, .tmp 41]) rfl ?_); at_builtin; refine Kd.R_append (Kd.int .i64) (w0 := w) w.heap.size rfl (.tmp 34) (.tmp 41) 26 2 (.int .i64 0) 8 rfl Try.underlying26 info2 rfl (by decide) (by omega) u5 x5_1 (wrap64 ((wrap64 ((l0.length : Int) - x7_1)) + x6_1)) [.int .i64 (wrap64 ((wrap64 ((l0.length : Int) - x7_1)) + x6_1))] (fun _ => True) (fun _ => False) rfl rfl ?aP (fun _ hk => hk.elim) ?aF ?aO ?aB ?aS ?aL ?_; (case aP => exact rfl); (case aB => exact (kB HB)); (case aF => exact (fun _ _ => trivial)); (case aO => exact (kR HO_5)); (case aS => exact (below_size (kB HB))); (case aL => have := LMc12.out; omega); intro v553 w13 ho hb hg hat; rw [← Ny552.out] at ho; have n0_ := am (hb); have n1_ := am (ho); clear HB HO_5; have HB := n0_; have HO554 := n1_; clear n0_ n1_; clear ho hb hg hat))
      go_ret
      exact ⟨_, by first | rfl | (simp [errW_none, errW_some] <;> rfl) | (simp [*, errW_none, errW_some] <;> rfl), kR HO554, kB HB⟩
     ·rw [if_neg c12] at H
      exact absurd H (by simp)
    ·rw [if_neg c11] at H
     have c11b0 : decide (0 ≤ x6_1) = false := decide_eq_false c11
     clear c11
     obtain rfl := Option.some.inj H
     go_wp2
     go_ret
     exact ⟨_, by first | rfl | (simp [errW_none, errW_some] <;> rfl) | (simp [*, errW_none, errW_some] <;> rfl), kR HO_5, kB HB⟩
end Go.Proofs.Ytdkhecebffjpjaa.X
