import Derived.Test.YtdkhecebffjpjaaU
import Derived.Test.YtdkhecebffjpjaaY0
import Derived.Test.YtdkhecebffjpjaaY2
import Derived.Test.YtdkhecebffjpjaaY3
import Derived.Test.YtdkhecebffjpjaaY6
namespace Go.Proofs.Ytdkhecebffjpjaa.X
open Go.RowKit Go.Proofs.YtdkhecebffjpjaaW.PrintWords Go.Proofs.YtdkhecebffjpjaaW.PrintLast Go.Proofs.YtdkhecebffjpjaaW.PrintMore
attribute [local go_sem] max2_int min2_int max_two min_two max_three min_three max_four min_four
set_option linter.unusedVariables false
set_option linter.unusedSimpArgs false
/-! ### spec_l05Draw: function 63 -/
def spec_l05Draw.l0 : Nat → List (S40) → Int → List Int → Int → Int → Option ((List (S40)) × Int × Int)
 | 0, _, _, _, _, _ => none
 | k + 1, x5, x6, x1000, x1001, x1002 => if x6 > 0 then ((spec_l01Pick.f x1000 x1001 x1002 (([4, 10, 40] : List Int))).bind fun bt261 => ((spec_l01Next.f x1000 bt261.2.1 bt261.2.2 bt261.1).bind fun bt264 => ((spec_l01Next.f x1000 bt264.2.1 bt264.2.2 (wrap64 (1 + bt264.1))).bind fun bt267 => (if x5.length < 8796093022208 then (spec_l05Draw.l0 k (x5 ++ [(⟨bt267.1, wrap64 (1 + bt264.1)⟩ : S40)]) (wrap64 (x6 - 1)) x1000 bt267.2.1 bt267.2.2) else (none))))) else (some (x5, x1001, x1002))
def spec_l05Draw.f (k : Nat) (s0_0 : List Int) (s0_1 : Int) (s0_2 : Int) : Option ((List (S40)) × Int × Int) := (spec_l01Next.f s0_0 s0_1 s0_2 4).bind fun bt229 => (if bt229.1 > 0 then ((spec_l05DrawNatural.f k s0_0 bt229.2.1 bt229.2.2).bind fun bt232 => ((spec_l01Next.f s0_0 bt232.2.1 bt232.2.2 4).bind fun bt237 => (if bt237.1 = 0 then (if (bt232.1.length : Int) > 1 then (if 1 ≤ (bt232.1.length : Int) then (some ((bt232.1.drop (1 : Int).toNat), bt237.2.1, bt237.2.2)) else (none)) else (some (bt232.1, bt237.2.1, bt237.2.2))) else (if bt237.1 = 1 then ((spec_l01Next.f s0_0 bt237.2.1 bt237.2.2 (bt232.1.length : Int)).bind fun bt243 => (if 0 ≤ bt243.1 then (if bt243.1 < (bt232.1.length : Int) then ((spec_l01Next.f s0_0 bt243.2.1 bt243.2.2 ((rd_T40 bt232.1 bt243.1).f1)).bind fun bt247 => (some ((bt232.1.set (bt243.1 : Int).toNat (⟨bt247.1, (rd_T40 bt232.1 bt243.1).f1⟩ : S40)), bt247.2.1, bt247.2.2))) else (none)) else (none))) else (some (bt232.1, bt237.2.1, bt237.2.2)))))) else ((spec_l01Next.f s0_0 bt229.2.1 bt229.2.2 6).bind fun bt255 => (spec_l05Draw.l0 k (([] : List (S40))) (wrap64 (1 + bt255.1)) s0_0 bt255.2.1 bt255.2.2)))
theorem spec_l05Draw.mono_l : ∀ k, (∀ y0 y1 y2 y3 y4, LeO (spec_l05Draw.l0 k y0 y1 y2 y3 y4) (spec_l05Draw.l0 (k + 1) y0 y1 y2 y3 y4))
 | 0 => fun _ _ _ _ _ r h => by simp [spec_l05Draw.l0] at h
 | k + 1 => by
  have ih0 := spec_l05Draw.mono_l k
  ·intro y0 y1 y2 y3 y4
   unfold spec_l05Draw.l0
   repeat' first
   | with_reducible first | exact ih0 _ _ _ _ _ | exact spec_l05DrawNatural.mono _ _ _ _ | exact LeO.refl _ | exact LeO.none _ | refine LeO.ite ?_ ?_ | refine LeO.bind ?_ (fun _ => ?_)
   | exact ih0 _ _ _ _ _
   | exact spec_l05DrawNatural.mono _ _ _ _
   | exact LeO.none _
   | refine LeO.ite ?_ ?_
   | refine LeO.bind ?_ (fun _ => ?_)
theorem spec_l05Draw.mono : ∀ a0 a1 a2 k, LeO (spec_l05Draw.f k a0 a1 a2) (spec_l05Draw.f (k + 1) a0 a1 a2) := by
 intro a0 a1 a2 k
 have ih0 := spec_l05Draw.mono_l k
 unfold spec_l05Draw.f
 repeat' first
   | with_reducible first | exact ih0 _ _ _ _ _ | exact spec_l05DrawNatural.mono _ _ _ _ | exact LeO.refl _ | exact LeO.none _ | refine LeO.ite ?_ ?_ | refine LeO.bind ?_ (fun _ => ?_)
   | exact ih0 _ _ _ _ _
   | exact spec_l05DrawNatural.mono _ _ _ _
   | exact LeO.none _
   | refine LeO.ite ?_ ?_
   | refine LeO.bind ?_ (fun _ => ?_)
def spec_l05Draw.T9 : Bool × List (List Nat × List Nat) := (true, [([], []), ([], []), ([], []), ([], []), ([], []), ([3, 4], [3, 4]), ([5], [5]), ([6], [6]), ([2, 7], [2, 7]), ([], []), ([], []), ([9, 10], [9, 10]), ([11], [11]), ([12], [12]), ([8, 13], [8, 13]), ([0, 1, 0, 1, 2, 3, 4, 5, 6, 7, 8, 9, 10, 11, 12, 13, 14], [0, 1]), ([15, 14, 8, 0, 1, 2, 3, 4, 5, 6, 7, 8, 9, 10, 11, 12, 13, 14], [14, 15])])
def spec_l05Draw.B9 : List Nat := [0, 0, 0, 0, 0, 24, 56, 120, 252, 0, 0, 1536, 3584, 7680, 16380, 32767, 65535]
theorem spec_l05Draw.tab9 : rtab .any (opsOf Try.f63 9) = spec_l05Draw.T9 := by kernel_rfl
theorem spec_l05Draw.bits9 : waitsOk spec_l05Draw.T9.2 spec_l05Draw.B9 = true := by kernel_rfl
set_option maxHeartbeats 8000000 in
set_option maxRecDepth 100000 in
theorem spec_l05Draw.calls (k : Nat) (g : Nat) (s0_0 : List Int) (s0_1 : Int) (s0_2 : Int) (r1 : List (S40)) (r2 : Int) (r3 : Int) (w0 w : World) (hI : IsS72 w0 w g s0_0 s0_1 s0_2) (hB : Below w0.heap.size w0 w) (h : spec_l05Draw.f k s0_0 s0_1 s0_2 = some (r1, r2, r3)) :
  Calls Try.prog 63 #[.pointer (some ⟨g, 0, none⟩)] w fun e w' => ∃ v0_ : Value, e = .returned (v0_) ∧ Kd.Q k40 40 w' w.heap.size (fun _ => True) v0_ r1 ∧ IsS72 w0 w' g s0_0 r2 r3 ∧ Below w0.heap.size w0 w' ∧ KeepBut w w' g none := by
 have hu40 := Try.underlying40
 have HI0 := am hI
 have HK := am (KeepBut.refl w g none)
 have HL := am hB.size
 clear hI
 have HW0 := am hB.size
 have HB := am hB
 clear hB
 have H : ((spec_l01Next.f s0_0 s0_1 s0_2 4).bind fun bt229 => (if bt229.1 > 0 then ((spec_l05DrawNatural.f k s0_0 bt229.2.1 bt229.2.2).bind fun bt232 => ((spec_l01Next.f s0_0 bt232.2.1 bt232.2.2 4).bind fun bt237 => (if bt237.1 = 0 then (if (bt232.1.length : Int) > 1 then (if 1 ≤ (bt232.1.length : Int) then (some ((bt232.1.drop (1 : Int).toNat), bt237.2.1, bt237.2.2)) else (none)) else (some (bt232.1, bt237.2.1, bt237.2.2))) else (if bt237.1 = 1 then ((spec_l01Next.f s0_0 bt237.2.1 bt237.2.2 (bt232.1.length : Int)).bind fun bt243 => (if 0 ≤ bt243.1 then (if bt243.1 < (bt232.1.length : Int) then ((spec_l01Next.f s0_0 bt243.2.1 bt243.2.2 ((rd_T40 bt232.1 bt243.1).f1)).bind fun bt247 => (some ((bt232.1.set (bt243.1 : Int).toNat (⟨bt247.1, (rd_T40 bt232.1 bt243.1).f1⟩ : S40)), bt247.2.1, bt247.2.2))) else (none)) else (none))) else (some (bt232.1, bt237.2.1, bt237.2.2)))))) else ((spec_l01Next.f s0_0 bt229.2.1 bt229.2.2 6).bind fun bt255 => (spec_l05Draw.l0 k (([] : List (S40))) (wrap64 (1 + bt255.1)) s0_0 bt255.2.1 bt255.2.2)))) = some (r1, r2, r3) := h
 clear h
 replace H := Option.bind_eq_some_iff.mp H
 obtain ⟨⟨t229, t230, t231⟩, A20, H⟩ := H
 try dsimp only at H
 have A2 := am A20
 clear A20
 by_cases c3 : t229 > 0
 ·rw [if_pos c3] at H
  have c3b0 : decide (0 < t229) = true := decide_eq_true c3
  clear c3
  replace H := Option.bind_eq_some_iff.mp H
  obtain ⟨⟨t232, t235, t236⟩, A40, H⟩ := H
  try dsimp only at H
  have A4 := am A40
  clear A40
  replace H := Option.bind_eq_some_iff.mp H
  obtain ⟨⟨t237, t238, t239⟩, A50, H⟩ := H
  try dsimp only at H
  have A5 := am A50
  clear A50
  by_cases c6 : t237 = 0
  ·rw [if_pos c6] at H
   have c6b0 : (t237 == 0) = true := beq_iff_eq.mpr c6
   have c6b1 : (t237 != 0) = false := bne_eq_false_iff_eq.mpr c6
   clear c6
   by_cases c7 : (t232.length : Int) > 1
   ·rw [if_pos c7] at H
    have c7b0 : decide (1 < (t232.length : Int)) = true := decide_eq_true c7
    have c7b1 : decide (1 < t232.length) = true := decide_eq_true (by omega)
    clear c7
    by_cases c8 : 1 ≤ (t232.length : Int)
    ·rw [if_pos c8] at H
     have c8b0 := eq_true c8
     have c8b1 : decide (1 ≤ (t232.length : Int)) = true := decide_eq_true c8
     clear c8
     obtain ⟨y240, hy240⟩ : ∃ y_ : List (S40), y_ = (t232.drop (1 : Int).toNat) := ⟨_, rfl⟩
     replace H : (some (y240, t238, t239)) = some (r1, r2, r3) := by first | (rw [hy240]; with_reducible exact H) | (have H2_ := (Option.bind_some _ _).symm.trans H; rw [hy240]; with_reducible exact H2_) | (have H2_ := (Option.bind_some _ _).symm.trans H; with_reducible exact H2_) | with_reducible exact H | (rw [hy240]; exact H) | exact H
     have Ny240 := am hy240
     clear hy240
     simp only [Option.some.injEq, Prod.mk.injEq] at H
     obtain ⟨rfl, rfl, rfl⟩ := H
     go_enter Try.func63, Try.ntmps63
     go_wp2_with (first | ((with_reducible refine gate_callee (f := 56) rfl ?_); refine goesL_ (some 9) rfl rfl Try.func56 (by kernel_rfl) rfl #[.pointer (some ⟨g, 0, none⟩), .int .i64 4] rfl kA ?_; (with_reducible refine (spec_l01Next.calls g s0_0 s0_1 s0_2 4 t229 t230 t231 w0 _ ?side1 ?side2 A2.out).mono ?_); (case side1 => exact kI HI0); (case side2 => exact kB1 HB (IsS72.ge HI0.out)); rintro e w9 ⟨rfl, hi, hb, hk⟩; refine ⟨_, rfl, ?_⟩; have n0_ := am (KeepBut.trans (kH HK) hk (.inl rfl)); have n1_ := am (hb); have n2_ := am (hi); clear HK HB HI0; have HK := n0_; have HB := n1_; have HI0 := n2_; clear n0_ n1_ n2_; (try clear hb); (try clear hb2); (try clear hk); (try clear hi)) | ((with_reducible refine gate_callee (f := 55) rfl ?_); refine goesL_ (some 12) rfl rfl Try.func55 (by kernel_rfl) rfl #[.pointer (some ⟨g, 0, none⟩)] rfl kA ?_; (with_reducible refine (spec_l05DrawNatural.calls k g s0_0 t230 t231 t232 t235 t236 w0 _ ?side1 ?side2 A4.out).mono ?_); (case side1 => exact kI HI0); (case side2 => exact kB1 HB (IsS72.ge HI0.out)); rintro e w10 ⟨v233, rfl, ho0, hi, hb, hk⟩; refine ⟨_, rfl, ?_⟩; have n0_ := am (Kd.R_lower ho0 (keep_size (w := w) (g := g) (row := none) (kH HK))); have n1_ := am (KeepBut.trans (kH HK) hk (.inl rfl)); have n2_ := am (hb); have n3_ := am (hi); clear HK HB HI0; have HO234 := n0_; have HK := n1_; have HB := n2_; have HI0 := n3_; clear n0_ n1_ n2_ n3_; (try clear hb); (try clear hb2); (try clear hk); (try clear hi); (try clear ho0)) | ((with_reducible refine gate_callee (f := 56) rfl ?_); refine goesL_ (some 14) rfl rfl Try.func56 (by kernel_rfl) rfl #[.pointer (some ⟨g, 0, none⟩), .int .i64 4] rfl kA ?_; (with_reducible refine (spec_l01Next.calls g s0_0 t235 t236 4 t237 t238 t239 w0 _ ?side1 ?side2 A5.out).mono ?_); (case side1 => exact kI HI0); (case side2 => exact kB1 HB (IsS72.ge HI0.out)); rintro e w11 ⟨rfl, hi, hb, hk⟩; refine ⟨_, rfl, ?_⟩; have n0_ := am (Kd.R_mono (Kd.R_keep (IsS72.apart (show IsS72 w0 _ g s0_0 t235 t236 from kI HI0) (kR HO234) (by decide)) hk (fun _ h => h.2)) (fun _ h => h.1)); have n1_ := am (KeepBut.trans (kH HK) hk (.inl rfl)); have n2_ := am (hb); have n3_ := am (hi); clear HO234 HK HB HI0; have HO234 := n0_; have HK := n1_; have HB := n2_; have HI0 := n3_; clear n0_ n1_ n2_ n3_; (try clear hb); (try clear hb2); (try clear hk); (try clear hi); obtain ⟨Ao12, co12, eo12⟩ := Kd.R_slice HO234.out; subst eo12; have q13 : (1 : Int) ≤ ((t232.length : Int) : Int) := of_decide_eq_true kM; obtain ⟨i013, hi013, _, hsz13, _⟩ := info_parts info40; have hcut13 := cut_from (P := Try.prog) 24 40 .i64 Try.underlying24 hi013 2 hsz13 Ao12 t232.length co12 1 (by omega) q13; have hr13 := Kd.Q_drop (k := (1 : Int).toNat) (Kd.Q_of_R HO234.out) (by omega); obtain ⟨A13, hA13⟩ : ∃ A1, A1 = (if co12 = (1 : Int).toNat then Ao12 else (Ao12 : Option Addr).map (·.add ((1 : Int).toNat * 2))) := ⟨_, rfl⟩; obtain ⟨c13, hc13⟩ : ∃ c1, c1 = co12 - (1 : Int).toNat := ⟨_, rfl⟩; have hy13 : y240.length = t232.length - (1 : Int).toNat := (by rw [Ny240.out, List.length_drop]); rw [← Ny240.out] at hr13; rw [← hy13, ← hA13, ← hc13] at hcut13; replace hr13 : Kd.Q k40 40 w11 w.heap.size (fun _ => True) (.slice A13 y240.length c13) y240 := (by rw [hA13, hc13, hy13]; exact hr13); have HE13 : Aside0 ((Value.slice A13 y240.length c13).ownBlock = (.slice Ao12 t232.length co12 : Value).ownBlock) := ⟨by rw [hA13]; split <;> (cases (Ao12 : Option Addr) <;> rfl)⟩; clear hy13 hi013 hsz13 HO234 hA13 hc13; have HO242 := am hr13; clear hr13; replace q13 := eq_true q13))
     go_ret
     exact ⟨_, by first | rfl | (simp [errW_none, errW_some] <;> rfl) | (simp [*, errW_none, errW_some] <;> rfl), kQ HO242, kI HI0, kB1 HB (IsS72.ge HI0.out), kH HK⟩
    ·rw [if_neg c8] at H
     exact absurd H (by simp)
   ·rw [if_neg c7] at H
    have c7b0 : decide (1 < (t232.length : Int)) = false := decide_eq_false c7
    have c7b1 : decide (1 < t232.length) = false := decide_eq_false (by omega)
    clear c7
    simp only [Option.some.injEq, Prod.mk.injEq] at H
    obtain ⟨rfl, rfl, rfl⟩ := H
    go_enter Try.func63, Try.ntmps63
    go_wp2_with (first | ((with_reducible refine gate_callee (f := 56) rfl ?_); refine goesL_ (some 9) rfl rfl Try.func56 (by kernel_rfl) rfl #[.pointer (some ⟨g, 0, none⟩), .int .i64 4] rfl kA ?_; (with_reducible refine (spec_l01Next.calls g s0_0 s0_1 s0_2 4 t229 t230 t231 w0 _ ?side1 ?side2 A2.out).mono ?_); (case side1 => exact kI HI0); (case side2 => exact kB1 HB (IsS72.ge HI0.out)); rintro e w14 ⟨rfl, hi, hb, hk⟩; refine ⟨_, rfl, ?_⟩; have n0_ := am (KeepBut.trans (kH HK) hk (.inl rfl)); have n1_ := am (hb); have n2_ := am (hi); clear HK HB HI0; have HK := n0_; have HB := n1_; have HI0 := n2_; clear n0_ n1_ n2_; (try clear hb); (try clear hb2); (try clear hk); (try clear hi)) | ((with_reducible refine gate_callee (f := 55) rfl ?_); refine goesL_ (some 12) rfl rfl Try.func55 (by kernel_rfl) rfl #[.pointer (some ⟨g, 0, none⟩)] rfl kA ?_; (with_reducible refine (spec_l05DrawNatural.calls k g s0_0 t230 t231 t232 t235 t236 w0 _ ?side1 ?side2 A4.out).mono ?_); (case side1 => exact kI HI0); (case side2 => exact kB1 HB (IsS72.ge HI0.out)); rintro e w15 ⟨v233, rfl, ho0, hi, hb, hk⟩; refine ⟨_, rfl, ?_⟩; have n0_ := am (Kd.R_lower ho0 (keep_size (w := w) (g := g) (row := none) (kH HK))); have n1_ := am (KeepBut.trans (kH HK) hk (.inl rfl)); have n2_ := am (hb); have n3_ := am (hi); clear HK HB HI0; have HO234 := n0_; have HK := n1_; have HB := n2_; have HI0 := n3_; clear n0_ n1_ n2_ n3_; (try clear hb); (try clear hb2); (try clear hk); (try clear hi); (try clear ho0)) | ((with_reducible refine gate_callee (f := 56) rfl ?_); refine goesL_ (some 14) rfl rfl Try.func56 (by kernel_rfl) rfl #[.pointer (some ⟨g, 0, none⟩), .int .i64 4] rfl kA ?_; (with_reducible refine (spec_l01Next.calls g s0_0 t235 t236 4 t237 t238 t239 w0 _ ?side1 ?side2 A5.out).mono ?_); (case side1 => exact kI HI0); (case side2 => exact kB1 HB (IsS72.ge HI0.out)); rintro e w16 ⟨rfl, hi, hb, hk⟩; refine ⟨_, rfl, ?_⟩; have n0_ := am (Kd.R_mono (Kd.R_keep (IsS72.apart (show IsS72 w0 _ g s0_0 t235 t236 from kI HI0) (kR HO234) (by decide)) hk (fun _ h => h.2)) (fun _ h => h.1)); have n1_ := am (KeepBut.trans (kH HK) hk (.inl rfl)); have n2_ := am (hb); have n3_ := am (hi); clear HO234 HK HB HI0; have HO234 := n0_; have HK := n1_; have HB := n2_; have HI0 := n3_; clear n0_ n1_ n2_ n3_; (try clear hb); (try clear hb2); (try clear hk); (try clear hi); obtain ⟨Ao17, co17, eo17⟩ := Kd.R_slice HO234.out; subst eo17))
    go_ret
    exact ⟨_, by first | rfl | (simp [errW_none, errW_some] <;> rfl) | (simp [*, errW_none, errW_some] <;> rfl), Kd.Q_of_R (kR HO234), kI HI0, kB1 HB (IsS72.ge HI0.out), kH HK⟩
  ·rw [if_neg c6] at H
   have c6b0 : (t237 == 0) = false := beq_eq_false_iff_ne.mpr c6
   have c6b1 : (t237 != 0) = true := bne_iff_ne.mpr c6
   by_cases c18 : t237 = 1
   ·rw [if_pos c18] at H
    have c18b0 : (t237 == 1) = true := beq_iff_eq.mpr c18
    have c18b1 : (t237 != 1) = false := bne_eq_false_iff_eq.mpr c18
    clear c18
    replace H := Option.bind_eq_some_iff.mp H
    obtain ⟨⟨t243, t244, t245⟩, A190, H⟩ := H
    try dsimp only at H
    have A19 := am A190
    clear A190
    by_cases c20 : 0 ≤ t243
    ·rw [if_pos c20] at H
     have c20b0 : decide (0 ≤ t243) = true := decide_eq_true c20
     clear c20
     by_cases c21 : t243 < (t232.length : Int)
     ·rw [if_pos c21] at H
      have c21b0 : decide (t243 < (t232.length : Int)) = true := decide_eq_true c21
      clear c21
      replace H := Option.bind_eq_some_iff.mp H
      obtain ⟨⟨t247, t248, t249⟩, A220, H⟩ := H
      try dsimp only at H
      have A22 := am A220
      clear A220
      obtain ⟨y251, hy251⟩ : ∃ y_ : List (S40), y_ = (t232.set (t243 : Int).toNat (⟨t247, (rd_T40 t232 t243).f1⟩ : S40)) := ⟨_, rfl⟩
      replace H : (some (y251, t248, t249)) = some (r1, r2, r3) := by first | (rw [hy251]; with_reducible exact H) | (have H2_ := (Option.bind_some _ _).symm.trans H; rw [hy251]; with_reducible exact H2_) | (have H2_ := (Option.bind_some _ _).symm.trans H; with_reducible exact H2_) | with_reducible exact H | (rw [hy251]; exact H) | exact H
      have Ny251 := am hy251
      clear hy251
      simp only [Option.some.injEq, Prod.mk.injEq] at H
      obtain ⟨rfl, rfl, rfl⟩ := H
      go_enter Try.func63, Try.ntmps63
      try go_wp2_with (first | ((with_reducible refine gate_callee (f := 56) rfl ?_); refine goesL_ (some 9) rfl rfl Try.func56 (by kernel_rfl) rfl #[.pointer (some ⟨g, 0, none⟩), .int .i64 4] rfl kA ?_; (with_reducible refine (spec_l01Next.calls g s0_0 s0_1 s0_2 4 t229 t230 t231 w0 _ ?side1 ?side2 A2.out).mono ?_); (case side1 => exact kI HI0); (case side2 => exact kB1 HB (IsS72.ge HI0.out)); rintro e w24 ⟨rfl, hi, hb, hk⟩; refine ⟨_, rfl, ?_⟩; have n0_ := am (KeepBut.trans (kH HK) hk (.inl rfl)); have n1_ := am (hb); have n2_ := am (hi); clear HK HB HI0; have HK := n0_; have HB := n1_; have HI0 := n2_; clear n0_ n1_ n2_; (try clear hb); (try clear hb2); (try clear hk); (try clear hi)) | ((with_reducible refine gate_callee (f := 55) rfl ?_); refine goesL_ (some 12) rfl rfl Try.func55 (by kernel_rfl) rfl #[.pointer (some ⟨g, 0, none⟩)] rfl kA ?_; (with_reducible refine (spec_l05DrawNatural.calls k g s0_0 t230 t231 t232 t235 t236 w0 _ ?side1 ?side2 A4.out).mono ?_); (case side1 => exact kI HI0); (case side2 => exact kB1 HB (IsS72.ge HI0.out)); rintro e w25 ⟨v233, rfl, ho0, hi, hb, hk⟩; refine ⟨_, rfl, ?_⟩; have n0_ := am (Kd.R_lower ho0 (keep_size (w := w) (g := g) (row := none) (kH HK))); have n1_ := am (KeepBut.trans (kH HK) hk (.inl rfl)); have n2_ := am (hb); have n3_ := am (hi); clear HK HB HI0; have HO234 := n0_; have HK := n1_; have HB := n2_; have HI0 := n3_; clear n0_ n1_ n2_ n3_; (try clear hb); (try clear hb2); (try clear hk); (try clear hi); (try clear ho0)) | ((with_reducible refine gate_callee (f := 56) rfl ?_); refine goesL_ (some 14) rfl rfl Try.func56 (by kernel_rfl) rfl #[.pointer (some ⟨g, 0, none⟩), .int .i64 4] rfl kA ?_; (with_reducible refine (spec_l01Next.calls g s0_0 t235 t236 4 t237 t238 t239 w0 _ ?side1 ?side2 A5.out).mono ?_); (case side1 => exact kI HI0); (case side2 => exact kB1 HB (IsS72.ge HI0.out)); rintro e w26 ⟨rfl, hi, hb, hk⟩; refine ⟨_, rfl, ?_⟩; have n0_ := am (Kd.R_mono (Kd.R_keep (IsS72.apart (show IsS72 w0 _ g s0_0 t235 t236 from kI HI0) (kR HO234) (by decide)) hk (fun _ h => h.2)) (fun _ h => h.1)); have n1_ := am (KeepBut.trans (kH HK) hk (.inl rfl)); have n2_ := am (hb); have n3_ := am (hi); clear HO234 HK HB HI0; have HO234 := n0_; have HK := n1_; have HB := n2_; have HI0 := n3_; clear n0_ n1_ n2_ n3_; (try clear hb); (try clear hb2); (try clear hk); (try clear hi); obtain ⟨Ao27, co27, eo27⟩ := Kd.R_slice HO234.out; subst eo27) | ((with_reducible refine gate_callee (f := 56) rfl ?_); refine goesL_ (some 27) rfl rfl Try.func56 (by kernel_rfl) rfl #[.pointer (some ⟨g, 0, none⟩), .int .i64 (t232.length : Int)] rfl kA ?_; (with_reducible refine (spec_l01Next.calls g s0_0 t238 t239 (t232.length : Int) t243 t244 t245 w0 _ ?side1 ?side2 A19.out).mono ?_); (case side1 => exact kI HI0); (case side2 => exact kB1 HB (IsS72.ge HI0.out)); rintro e w28 ⟨rfl, hi, hb, hk⟩; refine ⟨_, rfl, ?_⟩; have n0_ := am (Kd.R_mono (Kd.R_keep (IsS72.apart (show IsS72 w0 _ g s0_0 t238 t239 from kI HI0) (kR HO234) (by decide)) hk (fun _ h => h.2)) (fun _ h => h.1)); have n1_ := am (KeepBut.trans (kH HK) hk (.inl rfl)); have n2_ := am (hb); have n3_ := am (hi); clear HO234 HK HB HI0; have HO234 := n0_; have HK := n1_; have HB := n2_; have HI0 := n3_; clear n0_ n1_ n2_ n3_; (try clear hb); (try clear hb2); (try clear hk); (try clear hi)))
      have n0_ := am (Kd.R_drew HO234.out)
      have n1_ := am (IsS72.drew HI0.out)
      have n2_ := am (keep_drew HK.out)
      have n3_ := am (below_drew1 HB.out)
      clear HO234
      clear HI0
      clear HK
      clear HB
      have HO234 := n0_
      have HI0 := n1_
      have HK := n2_
      have HB := n3_
      clear n0_ n1_ n2_ n3_
      have p246 : 0 ≤ (t243 : Int) := of_decide_eq_true kM
      have q246 : t243 < (t232.length : Int) := of_decide_eq_true kM
      obtain ⟨ad246, e246, hx246_0, hx246_1⟩ := at_T40 (Kd.R_reads' HO234.out).2.2 t243 p246 q246
      cases e246
      replace p246 := eq_true p246
      replace q246 := eq_true q246
      have p250 : 0 ≤ (t243 : Int) := of_decide_eq_true kM
      have q250 : t243 < (t232.length : Int) := of_decide_eq_true kM
      obtain ⟨ad250, e250, hx250_0, hx250_1⟩ := at_T40 (Kd.R_reads' HO234.out).2.2 t243 p250 q250
      obtain rfl : ad246 = ad250 := (by injection e250)
      replace p250 := eq_true p250
      replace q250 := eq_true q250
      refine start_ (n := 17) (S := fun w' => w'.cell? (ad246.add ((t243).toNat * 2)) = some (.int .i64 ((rd_T40 t232 t243).f0)) ∧ w'.cell? ⟨(ad246.add ((t243).toNat * 2)).block, (ad246.add ((t243).toNat * 2)).off + 1, none⟩ = some (.int .i64 ((rd_T40 t232 t243).f1)) ∧ w'.cell? (ad246.add ((t243).toNat * 2)) = some (.int .i64 ((rd_T40 t232 t243).f0)) ∧ w'.cell? ⟨(ad246.add ((t243).toNat * 2)).block, (ad246.add ((t243).toNat * 2)).off + 1, none⟩ = some (.int .i64 ((rd_T40 t232 t243).f1))) (ds := [16]) #[false, false, false, false, false, false, false, false, false, false, false, false, false, false, false, false, false] (by kernel_rfl) rfl rfl ⟨hx246_0, hx246_1, hx250_0, hx250_1⟩ (fun hHeld => ?_); refine with_tabW spec_l05Draw.tab9 spec_l05Draw.bits9 (fun HT_ HW_ => ?_)
      generalize w28.drew = w29 at HO234 HI0 HK HB hx246_0 hx246_1 hx250_0 hx250_1 hHeld ⊢
      refine pure_ (i := 0) (N := some 28) (v := ?_) (a' := ?_) #[true, false, false, false, false, false, false, false, false, false, false, false, false, false, false, false, false] rfl rfl (any_of HT_.out (by kernel_rfl)) (fun _ _ _ h => h) (Or.inl ⟨by rfl, ?_⟩) ?_ ?_
      rotate_left
      ·intro w'
       go_simp
       with_reducible rfl
      rotate_left
      ·simp only [Act.put, List.setIfInBounds_toArray, List.set_cons_zero, List.set_cons_succ, i64_w, i32_w]
       rfl
      refine pure_ (i := 1) (N := some 29) (v := ?_) (a' := ?_) #[true, true, false, false, false, false, false, false, false, false, false, false, false, false, false, false, false] rfl rfl (any_of HT_.out (by kernel_rfl)) (fun _ _ _ h => h) (Or.inl ⟨by rfl, ?_⟩) ?_ ?_
      rotate_left
      ·intro w'
       go_simp
       with_reducible rfl
      rotate_left
      ·simp only [Act.put, List.setIfInBounds_toArray, List.set_cons_zero, List.set_cons_succ, i64_w, i32_w]
       rfl
      refine pure_ (i := 2) (N := some 30) (v := ?_) (a' := ?_) #[true, true, true, false, false, false, false, false, false, false, false, false, false, false, false, false, false] rfl rfl (any_of HT_.out (by kernel_rfl)) (fun _ _ _ h => h) (Or.inl ⟨by rfl, ?_⟩) ?_ ?_
      rotate_left
      ·intro w'
       go_simp
       with_reducible rfl
      rotate_left
      ·simp only [Act.put, List.setIfInBounds_toArray, List.set_cons_zero, List.set_cons_succ, i64_w, i32_w]
       rfl
      refine pure_ (i := 3) (N := some 31) (v := ?_) (a' := ?_) #[true, true, true, true, false, false, false, false, false, false, false, false, false, false, false, false, false] rfl rfl (any_of HT_.out (by kernel_rfl)) (fun _ _ _ h => h) (Or.inl ⟨by rfl, ?_⟩) ?_ ?_
      rotate_left
      ·intro w'
       go_simp
       with_reducible rfl
      rotate_left
      ·simp only [Act.put, List.setIfInBounds_toArray, List.set_cons_zero, List.set_cons_succ, i64_w, i32_w]
       rfl
      refine pure_ (i := 4) (N := some 32) (v := ?_) (a' := ?_) #[true, true, true, true, true, false, false, false, false, false, false, false, false, false, false, false, false] rfl rfl (any_of HT_.out (by kernel_rfl)) (fun _ _ _ h => h) (Or.inl ⟨by rfl, ?_⟩) ?_ ?_
      rotate_left
      ·intro w'
       go_simp
       with_reducible rfl
      rotate_left
      ·simp only [Act.put, List.setIfInBounds_toArray, List.set_cons_zero, List.set_cons_succ, i64_w, i32_w]
       rfl
      refine pure_ (i := 5) (N := some 33) (v := ?_) (a' := ?_) #[true, true, true, true, true, true, false, false, false, false, false, false, false, false, false, false, false] rfl rfl (any_of HT_.out (by kernel_rfl)) (fun _ _ _ h => h) (Or.inl ⟨by rfl, ?_⟩) ?_ ?_
      rotate_left
      ·intro w'
       go_simp
       with_reducible rfl
      rotate_left
      ·simp only [Act.put, List.setIfInBounds_toArray, List.set_cons_zero, List.set_cons_succ, i64_w, i32_w]
       rfl
      refine pure_ (i := 6) (N := some 34) (v := ?_) (a' := ?_) #[true, true, true, true, true, true, true, false, false, false, false, false, false, false, false, false, false] rfl rfl (any_of HT_.out (by kernel_rfl)) (fun _ _ _ h => h) (Or.inl ⟨by rfl, ?_⟩) ?_ ?_
      rotate_left
      ·intro w'
       go_simp
       with_reducible rfl
      rotate_left
      ·simp only [Act.put, List.setIfInBounds_toArray, List.set_cons_zero, List.set_cons_succ, i64_w, i32_w]
       rfl
      refine pure_ (i := 9) (N := some 37) (v := ?_) (a' := ?_) #[true, true, true, true, true, true, true, false, false, true, false, false, false, false, false, false, false] rfl rfl (any_of HT_.out (by kernel_rfl)) (fun _ _ _ h => h) (Or.inl ⟨by rfl, ?_⟩) ?_ ?_
      rotate_left
      ·intro w'
       go_simp
       with_reducible rfl
      rotate_left
      ·simp only [Act.put, List.setIfInBounds_toArray, List.set_cons_zero, List.set_cons_succ, i64_w, i32_w]
       rfl
      refine pure_ (i := 10) (N := some 38) (v := ?_) (a' := ?_) #[true, true, true, true, true, true, true, false, false, true, true, false, false, false, false, false, false] rfl rfl (any_of HT_.out (by kernel_rfl)) (fun _ _ _ h => h) (Or.inl ⟨by rfl, ?_⟩) ?_ ?_
      rotate_left
      ·intro w'
       go_simp
       with_reducible rfl
      rotate_left
      ·simp only [Act.put, List.setIfInBounds_toArray, List.set_cons_zero, List.set_cons_succ, i64_w, i32_w]
       rfl
      refine pure_ (i := 11) (N := some 39) (v := ?_) (a' := ?_) #[true, true, true, true, true, true, true, false, false, true, true, true, false, false, false, false, false] rfl rfl (any_of HT_.out (by kernel_rfl)) (fun _ _ _ h => h) (Or.inl ⟨by rfl, ?_⟩) ?_ ?_
      rotate_left
      ·intro w'
       go_simp
       with_reducible rfl
      rotate_left
      ·simp only [Act.put, List.setIfInBounds_toArray, List.set_cons_zero, List.set_cons_succ, i64_w, i32_w]
       rfl
      refine pure_ (i := 12) (N := some 40) (v := ?_) (a' := ?_) #[true, true, true, true, true, true, true, false, false, true, true, true, true, false, false, false, false] rfl rfl (any_of HT_.out (by kernel_rfl)) (fun _ _ _ h => h) (Or.inl ⟨by rfl, ?_⟩) ?_ ?_
      rotate_left
      ·intro w'
       go_simp
       with_reducible rfl
      rotate_left
      ·simp only [Act.put, List.setIfInBounds_toArray, List.set_cons_zero, List.set_cons_succ, i64_w, i32_w]
       rfl
      refine take_ (i := 7) (N := some 35) (v := ?_) (a' := ?_) #[true, true, true, true, true, true, true, true, false, true, true, true, true, false, false, false, false] rfl rfl (take_ofW HT_.out HW_.out (by kernel_rfl)) (fun _ _ _ h => h) (Or.inl ⟨by rfl, ?_⟩) hHeld ?_ ?_
      rotate_left
      ·rintro w' ⟨s0, s1, s2, s3⟩
       go_simp
       with_reducible rfl
      rotate_left
      ·simp only [Act.put, List.setIfInBounds_toArray, List.set_cons_zero, List.set_cons_succ, i64_w, i32_w]
       rfl
      refine take_ (i := 13) (N := some 41) (v := ?_) (a' := ?_) #[true, true, true, true, true, true, true, true, false, true, true, true, true, true, false, false, false] rfl rfl (take_ofW HT_.out HW_.out (by kernel_rfl)) (fun _ _ _ h => h) (Or.inl ⟨by rfl, ?_⟩) hHeld ?_ ?_
      rotate_left
      ·rintro w' ⟨s0, s1, s2, s3⟩
       go_simp
       with_reducible rfl
      rotate_left
      ·simp only [Act.put, List.setIfInBounds_toArray, List.set_cons_zero, List.set_cons_succ, i64_w, i32_w]
       rfl
      refine one_ (i := 8) (N := some 36) #[true, true, true, true, true, true, true, true, true, true, true, true, true, true, false, false, false] rfl rfl (one_of HT_.out (by kernel_rfl)) (by decide) (fun K hK => ?_)
      refine goes_ Try.func56 (by kernel_rfl) rfl #[.pointer (some ⟨g, 0, none⟩), .int .i64 ((rd_T40 t232 t243).f1)] (by rfl) rfl rfl kA ?_
      with_reducible refine (spec_l01Next.calls g s0_0 t244 t245 ((rd_T40 t232 t243).f1) t247 t248 t249 w0 _ ?side1 ?side2 A22.out).mono ?_
      (case side1 => exact kI HI0)
      (case side2 => exact kB1 HB (IsS72.ge HI0.out))
      rintro e w30 ⟨rfl, hi, hb, hk⟩
      have HS0_ := keep_cell hk (hHeld.1) (by first | (rw [add_block]; exact Kd.own_blk (IsS72.own_ne HI0.out HO234.out (by decide))) | (show (Addr.add _ _).block ≠ _; rw [add_block]; exact Kd.own_blk (IsS72.own_ne HI0.out HO234.out (by decide))) | exact Kd.own_blk (IsS72.own_ne HI0.out HO234.out (by decide)) | (have q_ := Kd.own_blk (IsS72.own_ne HI0.out HO234.out (by decide)); exact q_))
      have HS1_ := keep_cell hk (hHeld.2.1) (by first | (rw [add_block]; exact Kd.own_blk (IsS72.own_ne HI0.out HO234.out (by decide))) | (show (Addr.add _ _).block ≠ _; rw [add_block]; exact Kd.own_blk (IsS72.own_ne HI0.out HO234.out (by decide))) | exact Kd.own_blk (IsS72.own_ne HI0.out HO234.out (by decide)) | (have q_ := Kd.own_blk (IsS72.own_ne HI0.out HO234.out (by decide)); exact q_))
      have HS2_ := keep_cell hk (hHeld.2.2.1) (by first | (rw [add_block]; exact Kd.own_blk (IsS72.own_ne HI0.out HO234.out (by decide))) | (show (Addr.add _ _).block ≠ _; rw [add_block]; exact Kd.own_blk (IsS72.own_ne HI0.out HO234.out (by decide))) | exact Kd.own_blk (IsS72.own_ne HI0.out HO234.out (by decide)) | (have q_ := Kd.own_blk (IsS72.own_ne HI0.out HO234.out (by decide)); exact q_))
      have HS3_ := keep_cell hk (hHeld.2.2.2) (by first | (rw [add_block]; exact Kd.own_blk (IsS72.own_ne HI0.out HO234.out (by decide))) | (show (Addr.add _ _).block ≠ _; rw [add_block]; exact Kd.own_blk (IsS72.own_ne HI0.out HO234.out (by decide))) | exact Kd.own_blk (IsS72.own_ne HI0.out HO234.out (by decide)) | (have q_ := Kd.own_blk (IsS72.own_ne HI0.out HO234.out (by decide)); exact q_))
      refine ⟨_, rfl, ?_⟩
      have n0_ := am (Kd.R_mono (Kd.R_keep (IsS72.apart (show IsS72 w0 _ g s0_0 t244 t245 from kI HI0) (kR HO234) (by decide)) hk (fun _ h => h.2)) (fun _ h => h.1))
      have n1_ := am (KeepBut.trans (kH HK) hk (.inl rfl))
      have n2_ := am (hb)
      have n3_ := am (hi)
      clear HO234
      clear HK
      clear HB
      clear HI0
      have HO234 := n0_
      have HK := n1_
      have HB := n2_
      have HI0 := n3_
      clear n0_ n1_ n2_ n3_
      (try clear hb)
      (try clear hb2)
      (try clear hk)
      (try clear hi)
      have p23 : 0 ≤ (t243 : Int) := of_decide_eq_true kM
      have q23 : (t243 : Int) < ((t232.length : Int) : Int) := of_decide_eq_true kM
      obtain ⟨go23, co23, eo23, gb23, gl23, cl23, HG23⟩ := Kd.R_form HO234.out (by omega)
      (first | cases eo23 | (injection eo23 with ea_ en_ ec_; (first | subst ea_ | (injection ea_ with ea_; subst ea_)); subst ec_; clear en_))
      have GB23 := am gb23
      have GG23 := am HG23
      clear gb23 gl23 HG23
      (first | simp only [add_plain] at hx246_0 | skip)
      (first | simp only [add_plain] at hx246_1 | skip)
      (first | simp only [add_plain] at hx250_0 | skip)
      (first | simp only [add_plain] at hx250_1 | skip)
      obtain ⟨ce23, hcl23, hM23, hcc23, hfr23⟩ := Kd.R_elem HO234.out z40 (t243 : Int) p23 q23
      obtain rfl := k40_openM hM23
      have hx23_0 : World.cell? _ ⟨go23, (t243 : Int).toNat * 2, none⟩ = some (.int .i64 ((rd_T40 t232 t243).f0)) := hcc23 0 _ rfl
      have hx23_1 : World.cell? _ ⟨go23, (t243 : Int).toNat * 2 + 1, none⟩ = some (.int .i64 ((rd_T40 t232 t243).f1)) := hcc23 1 _ rfl
      have hf23_0 : World.frozen? _ ⟨go23, (t243 : Int).toNat * 2, none⟩ = false := hfr23 0
      have hf23_1 : World.frozen? _ ⟨go23, (t243 : Int).toNat * 2 + 1, none⟩ = false := hfr23 1
      clear hcl23 hcc23 hfr23 hM23
      replace p23 := eq_true p23
      replace q23 := eq_true q23
      have HN0_go23 := am (show g ≠ go23 from by have h_ := IsS72.own_ne HI0.out HO234.out (by decide); intro e_; exact h_ (by rw [e_]; rfl))
      obtain ⟨ce31, hcl31, hM31, hcc31, hfr31⟩ := Kd.R_elem HO234.out z40 (t243 : Int) (of_decide_eq_true kM) (by have h_ : (t243 : Int) < ((t232.length : Int) : Int) := of_decide_eq_true kM; first | exact h_ | (have e_ := (Kd.R_reads' HO234.out).1; omega) | simpa using h_)
      obtain rfl := k40_openM hM31
      have HP31 := (Kd.R_seg HO234.out (t243 : Int) (of_decide_eq_true kM) (by have h_ : (t243 : Int) < ((t232.length : Int) : Int) := of_decide_eq_true kM; first | exact h_ | (have e_ := (Kd.R_reads' HO234.out).1; omega) | simpa using h_) (seg := [.int .i64 t247, .int .i64 ((rd_T40 t232 t243).f1)]) (j := 0) hcl31 hcc31 (show 2 ≤ 2 from by decide) (x' := (⟨t247, (rd_T40 t232 t243).f1⟩ : S40)) (k40_mkM _ _ _ (⟨t247, (rd_T40 t232 t243).f1⟩ : S40) ) (fun _ hk => hk)).1
      rw [← Ny251.out] at HP31
      have HQ31 := am HP31
      clear hcl31 hcc31 hfr31 hM31 HP31
      refine hK.out _ _ ⟨HS0_, HS1_, HS2_, HS3_⟩ (fun hHeld => ?_)
      clear hK K
      refine norm_ (a' := ?_) ?_ ?_
      rotate_left
      ·show Act.put _ (some 36) _ = _
       simp only [Act.put, List.setIfInBounds_toArray, List.set_cons_zero, List.set_cons_succ, i64_w, i32_w]
       rfl
      refine pure_ (i := 14) (N := some 42) (v := ?_) (a' := ?_) #[true, true, true, true, true, true, true, true, true, true, true, true, true, true, true, false, false] rfl rfl (any_of HT_.out (by kernel_rfl)) (fun _ _ _ h => h) (Or.inl ⟨by rfl, ?_⟩) ?_ ?_
      rotate_left
      ·intro w'
       go_simp
       with_reducible rfl
      rotate_left
      ·simp only [Act.put, List.setIfInBounds_toArray, List.set_cons_zero, List.set_cons_succ, i64_w, i32_w]
       rfl
      refine pure_ (i := 15) (N := some 43) (v := ?_) (a' := ?_) #[true, true, true, true, true, true, true, true, true, true, true, true, true, true, true, true, false] rfl rfl (any_of HT_.out (by kernel_rfl)) (fun _ _ _ h => h) (Or.inl ⟨by rfl, ?_⟩) ?_ ?_
      rotate_left
      ·intro w'
       go_simp
       with_reducible rfl
      rotate_left
      ·simp only [Act.put, List.setIfInBounds_toArray, List.set_cons_zero, List.set_cons_succ, i64_w, i32_w]
       rfl
      refine last_ (i := 16) (N := none) #[true, true, true, true, true, true, true, true, true, true, true, true, true, true, true, true, true] rfl rfl (one_of HT_.out (by kernel_rfl)) (by decide) (fun K hK => ?_)
      refine skip_ (w1 := ?_) (by rfl) rfl ?_ ?_
      rotate_left
      ·go_simp
       rfl
      refine hK.out _ _ ?_
      clear hK K
      refine done_ (done_of HT_.out (by kernel_rfl)) ?_
      try go_wp2
      go_ret
      exact ⟨_, by first | rfl | (simp [errW_none, errW_some] <;> rfl) | (simp [*, errW_none, errW_some] <;> rfl), Kd.Q_of_R (kR HQ31), by repeat (first | (with_reducible first | exact HI0.out | apply IsS72.alloc | apply IsS72.drewN | apply IsS72.drew | apply IsS72.set_1 | apply IsS72.set_2 | refine IsS72.far ?_ HN0_go23.out _ | refine IsS72.far ?_ HN0_go23.out _) | exact HI0.out), kB3 HB (Nat.le_trans HL.out GB23.out) (Nat.le_trans HL.out GB23.out) (IsS72.ge HI0.out), by repeat (first | (with_reducible first | exact HK.out | apply KeepBut.set_ | apply keep_drewN | apply keep_drew | apply keep_alloc | refine keep_far ?_ GB23.out _ | refine keep_far ?_ GB23.out _) | exact HK.out)⟩
     ·rw [if_neg c21] at H
      exact absurd H (by simp)
    ·rw [if_neg c20] at H
     exact absurd H (by simp)
   ·rw [if_neg c18] at H
    have c18b0 : (t237 == 1) = false := beq_eq_false_iff_ne.mpr c18
    have c18b1 : (t237 != 1) = true := bne_iff_ne.mpr c18
    simp only [Option.some.injEq, Prod.mk.injEq] at H
    obtain ⟨rfl, rfl, rfl⟩ := H
    go_enter Try.func63, Try.ntmps63
    go_wp2_with (first | ((with_reducible refine gate_callee (f := 56) rfl ?_); refine goesL_ (some 9) rfl rfl Try.func56 (by kernel_rfl) rfl #[.pointer (some ⟨g, 0, none⟩), .int .i64 4] rfl kA ?_; (with_reducible refine (spec_l01Next.calls g s0_0 s0_1 s0_2 4 t229 t230 t231 w0 _ ?side1 ?side2 A2.out).mono ?_); (case side1 => exact kI HI0); (case side2 => exact kB1 HB (IsS72.ge HI0.out)); rintro e w32 ⟨rfl, hi, hb, hk⟩; refine ⟨_, rfl, ?_⟩; have n0_ := am (KeepBut.trans (kH HK) hk (.inl rfl)); have n1_ := am (hb); have n2_ := am (hi); clear HK HB HI0; have HK := n0_; have HB := n1_; have HI0 := n2_; clear n0_ n1_ n2_; (try clear hb); (try clear hb2); (try clear hk); (try clear hi)) | ((with_reducible refine gate_callee (f := 55) rfl ?_); refine goesL_ (some 12) rfl rfl Try.func55 (by kernel_rfl) rfl #[.pointer (some ⟨g, 0, none⟩)] rfl kA ?_; (with_reducible refine (spec_l05DrawNatural.calls k g s0_0 t230 t231 t232 t235 t236 w0 _ ?side1 ?side2 A4.out).mono ?_); (case side1 => exact kI HI0); (case side2 => exact kB1 HB (IsS72.ge HI0.out)); rintro e w33 ⟨v233, rfl, ho0, hi, hb, hk⟩; refine ⟨_, rfl, ?_⟩; have n0_ := am (Kd.R_lower ho0 (keep_size (w := w) (g := g) (row := none) (kH HK))); have n1_ := am (KeepBut.trans (kH HK) hk (.inl rfl)); have n2_ := am (hb); have n3_ := am (hi); clear HK HB HI0; have HO234 := n0_; have HK := n1_; have HB := n2_; have HI0 := n3_; clear n0_ n1_ n2_ n3_; (try clear hb); (try clear hb2); (try clear hk); (try clear hi); (try clear ho0)) | ((with_reducible refine gate_callee (f := 56) rfl ?_); refine goesL_ (some 14) rfl rfl Try.func56 (by kernel_rfl) rfl #[.pointer (some ⟨g, 0, none⟩), .int .i64 4] rfl kA ?_; (with_reducible refine (spec_l01Next.calls g s0_0 t235 t236 4 t237 t238 t239 w0 _ ?side1 ?side2 A5.out).mono ?_); (case side1 => exact kI HI0); (case side2 => exact kB1 HB (IsS72.ge HI0.out)); rintro e w34 ⟨rfl, hi, hb, hk⟩; refine ⟨_, rfl, ?_⟩; have n0_ := am (Kd.R_mono (Kd.R_keep (IsS72.apart (show IsS72 w0 _ g s0_0 t235 t236 from kI HI0) (kR HO234) (by decide)) hk (fun _ h => h.2)) (fun _ h => h.1)); have n1_ := am (KeepBut.trans (kH HK) hk (.inl rfl)); have n2_ := am (hb); have n3_ := am (hi); clear HO234 HK HB HI0; have HO234 := n0_; have HK := n1_; have HB := n2_; have HI0 := n3_; clear n0_ n1_ n2_ n3_; (try clear hb); (try clear hb2); (try clear hk); (try clear hi)))
    go_ret
    exact ⟨_, by first | rfl | (simp [errW_none, errW_some] <;> rfl) | (simp [*, errW_none, errW_some] <;> rfl), Kd.Q_of_R (kR HO234), kI HI0, kB1 HB (IsS72.ge HI0.out), kH HK⟩
 ·rw [if_neg c3] at H
  have c3b0 : decide (0 < t229) = false := decide_eq_false c3
  clear c3
  obtain ⟨y252, hy252⟩ : ∃ y_ : List (S40), y_ = (([] : List (S40))) := ⟨_, rfl⟩
  replace H : ((spec_l01Next.f s0_0 t230 t231 6).bind fun bt255 => (spec_l05Draw.l0 k y252 (wrap64 (1 + bt255.1)) s0_0 bt255.2.1 bt255.2.2)) = some (r1, r2, r3) := by first | (rw [hy252]; with_reducible exact H) | (have H2_ := (Option.bind_some _ _).symm.trans H; rw [hy252]; with_reducible exact H2_) | (have H2_ := (Option.bind_some _ _).symm.trans H; with_reducible exact H2_) | with_reducible exact H | (rw [hy252]; exact H) | exact H
  have Ny252 := am hy252
  clear hy252
  replace H := Option.bind_eq_some_iff.mp H
  obtain ⟨⟨t255, t256, t257⟩, A350, H⟩ := H
  try dsimp only at H
  have A35 := am A350
  clear A350
  have H' := am H
  clear H
  go_enter Try.func63, Try.ntmps63
  go_wp2_with (first | ((with_reducible refine gate_callee (f := 56) rfl ?_); refine goesL_ (some 9) rfl rfl Try.func56 (by kernel_rfl) rfl #[.pointer (some ⟨g, 0, none⟩), .int .i64 4] rfl kA ?_; (with_reducible refine (spec_l01Next.calls g s0_0 s0_1 s0_2 4 t229 t230 t231 w0 _ ?side1 ?side2 A2.out).mono ?_); (case side1 => exact kI HI0); (case side2 => exact kB1 HB (IsS72.ge HI0.out)); rintro e w36 ⟨rfl, hi, hb, hk⟩; refine ⟨_, rfl, ?_⟩; have n0_ := am (KeepBut.trans (kH HK) hk (.inl rfl)); have n1_ := am (hb); have n2_ := am (hi); clear HK HB HI0; have HK := n0_; have HB := n1_; have HI0 := n2_; clear n0_ n1_ n2_; (try clear hb); (try clear hb2); (try clear hk); (try clear hi)) | ((with_reducible refine gate_dst (N := 45) rfl ?_); refine Kd.R_lit k40 _ 40 ?hg (N := 45) ?hd (xs := ([] : List (S40))) (inner := []) (ok := fun _ => True) (okp := fun _ => True) ?hr ?hp (fun _ hk => hk) trivial (Below.refl _ _) (Nat.le_refl _) (by simp) ?_; (case hd => rfl); (case hg => rfl); (case hr => first | (go_simp; done) | (go_simp; rfl)); (case hp => exact (Reps.none _ _)); intro v253 w37 ho38 hb hg_ hnew_; clear hg_ hnew_; (first | rw [← Ny252.out] at ho38 | (simp only [Int.reduceToNat] at ho38; rw [← Ny252.out] at ho38)); have n0_ := am (Kd.R_lower ho38 (keep_size (w := w) (g := g) (row := none) (kH HK))); have n1_ := am (IsS72.below (kI HI0) hb); have n2_ := am (KeepBut.trans (kH HK) (KeepBut.of_below hb g none) (.inl rfl)); have n3_ := am (below_step (kB1 HB (IsS72.ge HI0.out)) hb); clear HI0 HK HB; have HO254 := n0_; have HI0 := n1_; have HK := n2_; have HB := n3_; clear n0_ n1_ n2_ n3_; clear hb ho38) | ((with_reducible refine gate_callee (f := 56) rfl ?_); refine goesL_ (some 47) rfl rfl Try.func56 (by kernel_rfl) rfl #[.pointer (some ⟨g, 0, none⟩), .int .i64 6] rfl kA ?_; (with_reducible refine (spec_l01Next.calls g s0_0 t230 t231 6 t255 t256 t257 w0 _ ?side1 ?side2 A35.out).mono ?_); (case side1 => exact kI HI0); (case side2 => exact kB1 HB (IsS72.ge HI0.out)); rintro e w39 ⟨rfl, hi, hb, hk⟩; refine ⟨_, rfl, ?_⟩; have n0_ := am (Kd.R_mono (Kd.R_keep (IsS72.apart (show IsS72 w0 _ g s0_0 t230 t231 from kI HI0) (kR HO254) (by decide)) hk (fun _ h => h.2)) (fun _ h => h.1)); have n1_ := am (KeepBut.trans (kH HK) hk (.inl rfl)); have n2_ := am (hb); have n3_ := am (hi); clear HO254 HK HB HI0; have HO254 := n0_; have HK := n1_; have HB := n2_; have HI0 := n3_; clear n0_ n1_ n2_ n3_; (try clear hb); (try clear hb2); (try clear hk); (try clear hi)))
  go_loopg [5, 6] k (fun kq v5 v6 w' => ∃ (x5_1 : List (S40)) (x6_1 : Int) (x1001_1 : Int) (x1002_1 : Int), v6 = .int .i64 x6_1 ∧ Aside0 (spec_l05Draw.l0 kq x5_1 x6_1 s0_0 x1001_1 x1002_1 = some (r1, r2, r3)) ∧ Aside0 (kq ≤ k) ∧ Aside0 (Kd.R k40 40 w' w.heap.size (fun _ => True) v5 x5_1) ∧ Aside0 (IsS72 w0 w' g s0_0 x1001_1 x1002_1) ∧ Aside0 (KeepBut w w' g none) ∧ Aside0 (Below w0.heap.size w0 w'))
  case atStart => exact ⟨(y252), (wrap64 (1 + t255)), (t256), (t257), (by first | rfl | (simp; done) | (simp [*]; done)), H', ⟨Nat.le_refl _⟩, ⟨kR HO254⟩, ⟨kI HI0⟩, ⟨kH HK⟩, ⟨kB1 HB (IsS72.ge HI0.out)⟩⟩
  case round =>
   clear H'
   try clear c3
   try clear c3b0
   obtain ⟨x5_1, x6_1, x1001_1, x1002_1, rfl, HA, HK1, HO_5, HI0, HK, HB⟩ := hrel
   cases gk with
   | zero => exact absurd HA.out (by simp [spec_l05Draw.l0])
   | succ k1 =>
    have H := HA.out
    clear HA
    simp only [spec_l05Draw.l0] at H
    by_cases c40 : x6_1 > 0
    ·rw [if_pos c40] at H
     have c40b0 : decide (0 < x6_1) = true := decide_eq_true c40
     clear c40
     obtain ⟨y258, hy258⟩ : ∃ y_ : List Int, y_ = (([4, 10, 40] : List Int)) := ⟨_, rfl⟩
     replace H : ((spec_l01Pick.f s0_0 x1001_1 x1002_1 y258).bind fun bt261 => ((spec_l01Next.f s0_0 bt261.2.1 bt261.2.2 bt261.1).bind fun bt264 => ((spec_l01Next.f s0_0 bt264.2.1 bt264.2.2 (wrap64 (1 + bt264.1))).bind fun bt267 => (if x5_1.length < 8796093022208 then (spec_l05Draw.l0 k1 (x5_1 ++ [(⟨bt267.1, wrap64 (1 + bt264.1)⟩ : S40)]) (wrap64 (x6_1 - 1)) s0_0 bt267.2.1 bt267.2.2) else (none))))) = some (r1, r2, r3) := by first | (rw [hy258]; with_reducible exact H) | (have H2_ := (Option.bind_some _ _).symm.trans H; rw [hy258]; with_reducible exact H2_) | (have H2_ := (Option.bind_some _ _).symm.trans H; with_reducible exact H2_) | with_reducible exact H | (rw [hy258]; exact H) | exact H
     have Ny258 := am hy258
     clear hy258
     replace H := Option.bind_eq_some_iff.mp H
     obtain ⟨⟨t261, t262, t263⟩, A410, H⟩ := H
     try dsimp only at H
     have A41 := am A410
     clear A410
     replace H := Option.bind_eq_some_iff.mp H
     obtain ⟨⟨t264, t265, t266⟩, A420, H⟩ := H
     try dsimp only at H
     have A42 := am A420
     clear A420
     replace H := Option.bind_eq_some_iff.mp H
     obtain ⟨⟨t267, t268, t269⟩, A430, H⟩ := H
     try dsimp only at H
     have A43 := am A430
     clear A430
     by_cases c44 : x5_1.length < 8796093022208
     ·rw [if_pos c44] at H
      have LMc44 := am c44
      clear c44
      obtain ⟨y270, hy270⟩ : ∃ y_ : List (S40), y_ = (x5_1 ++ [(⟨t267, wrap64 (1 + t264)⟩ : S40)]) := ⟨_, rfl⟩
      replace H : (spec_l05Draw.l0 k1 y270 (wrap64 (x6_1 - 1)) s0_0 t268 t269) = some (r1, r2, r3) := by first | (rw [hy270]; with_reducible exact H) | (have H2_ := (Option.bind_some _ _).symm.trans H; rw [hy270]; with_reducible exact H2_) | (have H2_ := (Option.bind_some _ _).symm.trans H; with_reducible exact H2_) | with_reducible exact H | (rw [hy270]; exact H) | exact H
      have Ny270 := am hy270
      clear hy270
      have H' := am H
      clear H
      go_wp2_with (first | ((with_reducible refine gate_dst (N := 55) rfl ?_); refine Kd.R_lit (Kd.int .i64) _ 2 ?hg (N := 55) ?hd (xs := ([4, 10, 40] : List Int)) (inner := [.int .i64 4, .int .i64 10, .int .i64 40]) (ok := fun _ => True) (okp := fun _ => True) ?hr ?hp (fun _ hk => hk) trivial (Below.refl _ _) (Nat.le_refl _) (by simp) ?_; (case hd => rfl); (case hg => rfl); (case hr => first | (go_simp; done) | (go_simp; rfl)); (case hp => exact (Reps.one (show Kd.M (Kd.int .i64) _ _ _ 4 [.int .i64 4] from rfl) (Reps.one (show Kd.M (Kd.int .i64) _ _ _ 10 [.int .i64 10] from rfl) (Reps.one (show Kd.M (Kd.int .i64) _ _ _ 40 [.int .i64 40] from rfl) (Reps.none _ _))))); intro v259 w45 ho46 hb hg_ hnew_; clear hg_ hnew_; (first | rw [← Ny258.out] at ho46 | (simp only [Int.reduceToNat] at ho46; rw [← Ny258.out] at ho46)); have n0_ := am (Kd.R_below (kR HO_5) hb); have n1_ := am (Kd.R_lower ho46 (keep_size (w := w) (g := g) (row := none) (kH HK))); have n2_ := am (IsS72.below (kI HI0) hb); have n3_ := am (KeepBut.trans (kH HK) (KeepBut.of_below hb g none) (.inl rfl)); have n4_ := am (below_step (kB1 HB (IsS72.ge HI0.out)) hb); clear HO_5 HI0 HK HB; have HO_5 := n0_; have HO260 := n1_; have HI0 := n2_; have HK := n3_; have HB := n4_; clear n0_ n1_ n2_ n3_ n4_ hb ho46; obtain ⟨Ao47, co47, eo47⟩ := Kd.R_slice HO260.out; subst eo47) | ((with_reducible refine gate_callee (f := 57) rfl ?_); refine goesL_ (some 56) rfl rfl Try.func57 (by kernel_rfl) rfl #[.pointer (some ⟨g, 0, none⟩), .slice Ao47 y258.length co47] rfl kA ?_; (with_reducible refine (spec_l01Pick.calls g s0_0 x1001_1 x1002_1 _ _ y258 t261 t262 t263 w0 _ ?side1 ?side2 ?side3 ?side4 ?side5 A41.out).mono ?_); (case side1 => exact kI HI0); (case side2 => exact kB1 HB (IsS72.ge HI0.out)); (case side3 => exact kC (Kd.R_reads' HO260.out).2.2); (case side4 => exact (Kd.R_reads' HO260.out).2.1); (case side5 => first | exact far_slice (IsS72.own_ne HI0.out HO260.out (by decide)) | exact (fun ad hq_ hl_ => far_slice (IsS72.own_ne HI0.out HO260.out (by decide)) ad hq_ (by rw [(Kd.R_reads' HO260.out).1]; exact hl_))); rintro e w48 ⟨rfl, hi, hb, hk⟩; refine ⟨_, rfl, ?_⟩; have n0_ := am (Kd.R_mono (Kd.R_keep (IsS72.apart (show IsS72 w0 _ g s0_0 x1001_1 x1002_1 from kI HI0) (kR HO_5) (by decide)) hk (fun _ h => h.2)) (fun _ h => h.1)); have n1_ := am (Kd.R_mono (Kd.R_keep (IsS72.apart (show IsS72 w0 _ g s0_0 x1001_1 x1002_1 from kI HI0) (kR HO260) (by decide)) hk (fun _ h => h.2)) (fun _ h => h.1)); have n2_ := am (KeepBut.trans (kH HK) hk (.inl rfl)); have n3_ := am (hb); have n4_ := am (hi); clear HO_5 HO260 HK HB HI0; have HO_5 := n0_; have HO260 := n1_; have HK := n2_; have HB := n3_; have HI0 := n4_; clear n0_ n1_ n2_ n3_ n4_; (try clear hb); (try clear hb2); (try clear hk); (try clear hi)) | ((with_reducible refine gate_callee (f := 56) rfl ?_); refine goesL_ (some 57) rfl rfl Try.func56 (by kernel_rfl) rfl #[.pointer (some ⟨g, 0, none⟩), .int .i64 t261] rfl kA ?_; (with_reducible refine (spec_l01Next.calls g s0_0 t262 t263 t261 t264 t265 t266 w0 _ ?side1 ?side2 A42.out).mono ?_); (case side1 => exact kI HI0); (case side2 => exact kB1 HB (IsS72.ge HI0.out)); rintro e w49 ⟨rfl, hi, hb, hk⟩; refine ⟨_, rfl, ?_⟩; have n0_ := am (Kd.R_mono (Kd.R_keep (IsS72.apart (show IsS72 w0 _ g s0_0 t262 t263 from kI HI0) (kR HO_5) (by decide)) hk (fun _ h => h.2)) (fun _ h => h.1)); have n1_ := am (Kd.R_mono (Kd.R_keep (IsS72.apart (show IsS72 w0 _ g s0_0 t262 t263 from kI HI0) (kR HO260) (by decide)) hk (fun _ h => h.2)) (fun _ h => h.1)); have n2_ := am (KeepBut.trans (kH HK) hk (.inl rfl)); have n3_ := am (hb); have n4_ := am (hi); clear HO_5 HO260 HK HB HI0; have HO_5 := n0_; have HO260 := n1_; have HK := n2_; have HB := n3_; have HI0 := n4_; clear n0_ n1_ n2_ n3_ n4_; (try clear hb); (try clear hb2); (try clear hk); (try clear hi)) | ((with_reducible refine gate_callee (f := 56) rfl ?_); refine goesL_ (some 62) rfl rfl Try.func56 (by kernel_rfl) rfl #[.pointer (some ⟨g, 0, none⟩), .int .i64 (wrap64 (1 + t264))] rfl kA ?_; (with_reducible refine (spec_l01Next.calls g s0_0 t265 t266 (wrap64 (1 + t264)) t267 t268 t269 w0 _ ?side1 ?side2 A43.out).mono ?_); (case side1 => exact kI HI0); (case side2 => exact kB1 HB (IsS72.ge HI0.out)); rintro e w50 ⟨rfl, hi, hb, hk⟩; refine ⟨_, rfl, ?_⟩; have n0_ := am (Kd.R_mono (Kd.R_keep (IsS72.apart (show IsS72 w0 _ g s0_0 t265 t266 from kI HI0) (kR HO_5) (by decide)) hk (fun _ h => h.2)) (fun _ h => h.1)); have n1_ := am (Kd.R_mono (Kd.R_keep (IsS72.apart (show IsS72 w0 _ g s0_0 t265 t266 from kI HI0) (kR HO260) (by decide)) hk (fun _ h => h.2)) (fun _ h => h.1)); have n2_ := am (KeepBut.trans (kH HK) hk (.inl rfl)); have n3_ := am (hb); have n4_ := am (hi); clear HO_5 HO260 HK HB HI0; have HO_5 := n0_; have HO260 := n1_; have HK := n2_; have HB := n3_; have HI0 := n4_; clear n0_ n1_ n2_ n3_ n4_; (try clear hb); (try clear hb2); (try clear hk); (try clear hi)) | ((with_reducible refine gate_builtin (b := .append) (xs := #[.tmp 59, .tmp 65]) rfl ?_); at_builtin; refine Kd.R_append k40 w.heap.size rfl (.tmp 59) (.tmp 65) 24 40 (.agg #[(.int .i64 0), (.int .i64 0)]) 16 rfl Try.underlying24 info40 rfl (by decide) (by omega) u5 x5_1 (⟨t267, wrap64 (1 + t264)⟩ : S40) [.int .i64 t267, .int .i64 (wrap64 (1 + t264))] (fun _ => True) (fun _ => False) rfl rfl ?aP (fun _ hk => hk.elim) ?aF ?aO (Below.refl _ _) ?aS ?aL ?_; (case aP => exact k40_mkM _ _ _ (⟨t267, wrap64 (1 + t264)⟩ : S40)); (case aF => exact (fun _ _ => trivial)); (case aO => exact (kR HO_5)); (case aS => exact (keep_size (w := w) (g := g) (row := none) (kH HK))); (case aL => have := LMc44.out; omega); intro v271 w51 ho hb hg hat; rw [← Ny270.out] at ho; have n0_ := am (IsS72.grown (kI HI0) hg (IsS72.own_ne HI0.out HO_5.out (by decide))); have n1_ := am (Kd.R_over' (kR HO260) (Kd.R_typed (kR HO_5)) (by decide) hg); have n2_ := am (below_weaken (kB1 HB (IsS72.ge HI0.out)) HL.out hb); have n3_ := am (KeepBut.trans (kH HK) (KeepBut.of_grown hg g) (Kd.R_base2 HO_5.out)); have n4_ := am (ho); clear HI0 HO260 HB HK HO_5; have HI0 := n0_; have HO260 := n1_; have HB := n2_; have HK := n3_; have HO272 := n4_; clear n0_ n1_ n2_ n3_ n4_; clear ho hb hg hat))
      go_roundg k1
      case measure => have := HK1.out; omega
      case rel => exact ⟨(y270), (wrap64 (x6_1 - 1)), (t268), (t269), (by first | rfl | (simp; done) | (simp [*]; done)), H', ⟨by have := HK1.out; omega⟩, ⟨kR HO272⟩, ⟨kI HI0⟩, ⟨kH HK⟩, ⟨kB1 HB (IsS72.ge HI0.out)⟩⟩
     ·rw [if_neg c44] at H
      exact absurd H (by simp)
    ·rw [if_neg c40] at H
     have c40b0 : decide (0 < x6_1) = false := decide_eq_false c40
     clear c40
     simp only [Option.some.injEq, Prod.mk.injEq] at H
     obtain ⟨rfl, rfl, rfl⟩ := H
     go_wp2
     go_ret
     exact ⟨_, by first | rfl | (simp [errW_none, errW_some] <;> rfl) | (simp [*, errW_none, errW_some] <;> rfl), Kd.Q_of_R (kR HO_5), kI HI0, kB1 HB (IsS72.ge HI0.out), kH HK⟩
/-! ### spec_l05Spoil: function 26 -/
def spec_l05Spoil.f (k : Nat) (l0 : List Int) : Option ((List (S40))) := (spec_l01From.f k l0).bind fun bt273 => ((spec_l05Draw.f k bt273.1 bt273.2.1 bt273.2.2).bind fun bt277 => ((spec_l05Bad.f k bt273.1 bt277.2.1 bt277.2.2 bt277.1).bind fun bt282 => (some bt282.1)))
theorem spec_l05Spoil.mono : ∀ a0 k, LeO (spec_l05Spoil.f k a0) (spec_l05Spoil.f (k + 1) a0) := by
 intro a0 k
 unfold spec_l05Spoil.f
 repeat' first
   | with_reducible first | exact spec_l01From.mono _ _ | exact spec_l05Bad.mono _ _ _ _ _ | exact spec_l05Draw.mono _ _ _ _ | exact LeO.refl _ | exact LeO.none _ | refine LeO.ite ?_ ?_ | refine LeO.bind ?_ (fun _ => ?_)
   | exact spec_l01From.mono _ _
   | exact spec_l05Bad.mono _ _ _ _ _
   | exact spec_l05Draw.mono _ _ _ _
   | exact LeO.none _
   | refine LeO.ite ?_ ?_
   | refine LeO.bind ?_ (fun _ => ?_)
set_option maxHeartbeats 8000000 in
set_option maxRecDepth 100000 in
theorem spec_l05Spoil.calls (k : Nat) (A0 : Option Addr) (c0 : Nat) (l0 : List Int) (r : List (S40)) (w : World) (hr0 : Kd.C (Kd.int .u8) w A0 l0.length l0) (hc0 : l0.length ≤ c0) (h : spec_l05Spoil.f k l0 = some r) :
  Calls Try.prog 26 #[.slice A0 l0.length c0] w fun e w' => ∃ v0_ : Value, e = .returned (v0_) ∧ Kd.R k40 40 w' w.heap.size (fun _ => True) v0_ r ∧ Below w.heap.size w w' := by
 have HR0 := am hr0
 have HC0 := am hc0
 clear hr0 hc0
 have HB := am (Below.refl w.heap.size w)
 have H : ((spec_l01From.f k l0).bind fun bt273 => ((spec_l05Draw.f k bt273.1 bt273.2.1 bt273.2.2).bind fun bt277 => ((spec_l05Bad.f k bt273.1 bt277.2.1 bt277.2.2 bt277.1).bind fun bt282 => (some bt282.1)))) = some r := h
 clear h
 replace H := Option.bind_eq_some_iff.mp H
 obtain ⟨⟨t273, t274, t275⟩, A20, H⟩ := H
 try dsimp only at H
 have A2 := am A20
 clear A20
 replace H := Option.bind_eq_some_iff.mp H
 obtain ⟨⟨t277, t280, t281⟩, A30, H⟩ := H
 try dsimp only at H
 have A3 := am A30
 clear A30
 replace H := Option.bind_eq_some_iff.mp H
 obtain ⟨⟨t282, t285, t286⟩, A40, H⟩ := H
 try dsimp only at H
 have A4 := am A40
 clear A40
 obtain rfl := Option.some.inj H
 go_enter Try.func26, Try.ntmps26
 go_wp2_with (first | ((with_reducible refine gate_callee (f := 54) rfl ?_); refine goesL_ (some 5) rfl rfl Try.func54 (by kernel_rfl) rfl #[.slice A0 l0.length c0] rfl kA ?_; (with_reducible refine (spec_l01From.calls k _ _ l0 t273 t274 t275 w _ ?side1 ?side2 ?side3 A2.out).mono ?_); (case side1 => exact kB HB); (case side2 => exact HR0.out); (case side3 => exact HC0.out); rintro e w5 ⟨g276, rfl, hi, hb, hb2⟩; refine ⟨_, rfl, ?_⟩; have n0_ := am (hb); have n1_ := am (hi); clear HB; have HB := n0_; have HI276 := n1_; clear n0_ n1_; (try clear hb); (try clear hb2); (try clear hk); (try clear hi)) | ((with_reducible refine gate_callee (f := 63) rfl ?_); refine goesL_ (some 8) rfl rfl Try.func63 (by kernel_rfl) rfl #[.pointer (some ⟨g276, 0, none⟩)] rfl kA ?_; (with_reducible refine (spec_l05Draw.calls k g276 t273 t274 t275 t277 t280 t281 w _ ?side1 ?side2 A3.out).mono ?_); (case side1 => exact kI HI276); (case side2 => exact kB1 HB (IsS72.ge HI276.out)); rintro e w6 ⟨v278, rfl, ho0, hi, hb, hk⟩; refine ⟨_, rfl, ?_⟩; have n0_ := am (Kd.Q_lower ho0 (below_size (kB1 HB (IsS72.ge HI276.out)))); have n1_ := am (hb); have n2_ := am (hi); clear HB HI276; have HO279 := n0_; have HB := n1_; have HI276 := n2_; clear n0_ n1_ n2_; (try clear hb); (try clear hb2); (try clear hk); (try clear hi); (try clear ho0); obtain ⟨Ao7, co7, eo7, _⟩ := Kd.Q_slice HO279.out; subst eo7) | ((with_reducible refine gate_callee (f := 62) rfl ?_); refine goesL_ (some 9) rfl rfl Try.func62 (by kernel_rfl) rfl #[.pointer (some ⟨g276, 0, none⟩), .slice Ao7 t277.length co7] rfl kA ?_; (with_reducible refine (spec_l05Bad.calls k g276 t273 t280 t281 _ _ t277 t282 t285 t286 w _ ?side1 ?side2 ?side3 ?side4 A4.out).mono ?_); (case side1 => exact kI HI276); (case side2 => exact kB1 HB (IsS72.ge HI276.out)); (case side3 => exact Kd.C_foot_ownQ (IsS72.apartQ (show IsS72 w _ g276 t273 t280 t281 from kI HI276) (kQ HO279) (by decide)) (fun _ h_ => h_.2)); (case side4 => exact (Kd.Q_reads' HO279.out).2.1); rintro e w8 ⟨v283, rfl, ho0, hi, hb, hk⟩; refine ⟨_, rfl, ?_⟩; have n0_ := am (Kd.Q_mono (Kd.Q_told (Kd.Q_oldK (IsS72.apartQ (show IsS72 w _ g276 t273 t280 t281 from kI HI276) (kQ HO279) (by decide)) hk) (Kd.R_base ho0)) (fun _ h_ => h_.1)); have n1_ := am (Kd.R_lower (Kd.R_new' ho0 (Kd.Q_lt (kQ HO279))) (below_size (kB1 HB (IsS72.ge HI276.out)))); have n2_ := am (hb); have n3_ := am (hi); clear HO279 HB HI276; have HO279 := n0_; have HO284 := n1_; have HB := n2_; have HI276 := n3_; clear n0_ n1_ n2_ n3_; (try clear hb); (try clear hb2); (try clear hk); (try clear hi); (try clear ho0)))
 go_ret
 exact ⟨_, by first | rfl | (simp [errW_none, errW_some] <;> rfl) | (simp [*, errW_none, errW_some] <;> rfl), by (with_reducible repeat (first | apply Kd.R_alloc | apply Kd.R_drewN | apply Kd.R_drew)); exact Kd.R_mono HO284.out (fun _ hk => trivial), kB1 HB (IsS72.ge HI276.out)⟩
/-! ### spec_DrawTurnsOfClasses: function 5 -/
def spec_DrawTurnsOfClasses.f (k : Nat) (l0 : List Int) : Option ((List (S40))) := (spec_l05Spoil.f k l0).bind fun t287 => (some t287)
theorem spec_DrawTurnsOfClasses.mono : ∀ a0 k, LeO (spec_DrawTurnsOfClasses.f k a0) (spec_DrawTurnsOfClasses.f (k + 1) a0) := by
 intro a0 k
 unfold spec_DrawTurnsOfClasses.f
 repeat' first
   | with_reducible first | exact spec_l05Spoil.mono _ _ | exact LeO.refl _ | exact LeO.none _ | refine LeO.ite ?_ ?_ | refine LeO.bind ?_ (fun _ => ?_)
   | exact spec_l05Spoil.mono _ _
   | exact LeO.none _
   | refine LeO.ite ?_ ?_
   | refine LeO.bind ?_ (fun _ => ?_)
set_option maxHeartbeats 8000000 in
set_option maxRecDepth 100000 in
theorem spec_DrawTurnsOfClasses.calls (k : Nat) (A0 : Option Addr) (c0 : Nat) (l0 : List Int) (r : List (S40)) (w : World) (hr0 : Kd.C (Kd.int .u8) w A0 l0.length l0) (hc0 : l0.length ≤ c0) (h : spec_DrawTurnsOfClasses.f k l0 = some r) :
  Calls Try.prog 5 #[.slice A0 l0.length c0] w fun e w' => ∃ v0_ : Value, e = .returned (v0_) ∧ Kd.R k40 40 w' w.heap.size (fun _ => True) v0_ r ∧ Below w.heap.size w w' := by
 have HR0 := am hr0
 have HC0 := am hc0
 clear hr0 hc0
 have HB := am (Below.refl w.heap.size w)
 have H : ((spec_l05Spoil.f k l0).bind fun t287 => (some t287)) = some r := h
 clear h
 replace H := Option.bind_eq_some_iff.mp H
 obtain ⟨t287, A20, H⟩ := H
 try dsimp only at H
 have A2 := am A20
 clear A20
 obtain rfl := Option.some.inj H
 go_enter Try.func5, Try.ntmps5
 go_wp2_with (first | ((with_reducible refine gate_callee (f := 26) rfl ?_); refine goesL_ (some 4) rfl rfl Try.func26 (by kernel_rfl) rfl #[.slice A0 l0.length c0] rfl kA ?_; (with_reducible refine (spec_l05Spoil.calls k _ _ l0 t287 _ ?side1 ?side2 A2.out).mono ?_); (case side1 => exact kC HR0.out); (case side2 => exact HC0.out); rintro e w3 ⟨v288, rfl, ho0, hb⟩; refine ⟨_, rfl, ?_⟩; have n0_ := am (Kd.R_lower ho0 (below_size (kB HB))); have n1_ := am (below_step (kB HB) hb); clear HB; have HO289 := n0_; have HB := n1_; clear n0_ n1_; (try clear hb); (try clear hb2); (try clear hk); (try clear hi); (try clear ho0)))
 go_ret
 exact ⟨_, by first | rfl | (simp [errW_none, errW_some] <;> rfl) | (simp [*, errW_none, errW_some] <;> rfl), kR HO289, kB HB⟩
end Go.Proofs.Ytdkhecebffjpjaa.X
