import Derived.Test.YtdkhecebffjpjaaU
import Derived.Test.YtdkhecebffjpjaaY0
import Derived.Test.YtdkhecebffjpjaaY2
import Derived.Test.YtdkhecebffjpjaaY4
import Derived.Test.YtdkhecebffjpjaaY5
namespace Go.Proofs.Ytdkhecebffjpjaa.X
open Go.RowKit Go.Proofs.YtdkhecebffjpjaaW.PrintWords Go.Proofs.YtdkhecebffjpjaaW.PrintLast Go.Proofs.YtdkhecebffjpjaaW.PrintMore
attribute [local go_sem] max2_int min2_int max_two min_two max_three min_three max_four min_four
set_option linter.unusedVariables false
set_option linter.unusedSimpArgs false
/-! ### spec_l05DrawNatural: function 55 -/
mutual
def spec_l05DrawNatural.l0 : Nat → List (S40) → Int → List Int → Int → Int → Option ((List (S40)) × Int × Int)
 | 0, _, _, _, _, _ => none
 | k + 1, x3, x4, x1000, x1001, x1002 => if x4 > 0 then ((spec_l01Next.f x1000 x1001 x1002 (x3.length : Int)).bind fun bt197 => ((spec_l01Pick.f x1000 bt197.2.1 bt197.2.2 (([1, 2, 4] : List Int))).bind fun bt203 => ((spec_l01Next.f x1000 bt203.2.1 bt203.2.2 bt203.1).bind fun bt206 => (if (wrap64 ((wrap64 ((x3.length : Int) + (wrap64 (2 + bt206.1)))) - 1)) ≤ 8 then (if 0 ≤ bt197.1 then (if bt197.1 < (x3.length : Int) then (if (wrap64 ((wrap64 (2 + bt206.1)) * ((rd_T40 x3 bt197.1).f1))) ≤ 40 then ((spec_l05Split.f k x3 bt197.1 (wrap64 (2 + bt206.1))).bind fun t210 => (spec_l05DrawNatural.l0 k t210 (wrap64 (x4 - 1)) x1000 bt206.2.1 bt206.2.2)) else (spec_l05DrawNatural.l0 k x3 (wrap64 (x4 - 1)) x1000 bt206.2.1 bt206.2.2)) else (none)) else (none)) else (spec_l05DrawNatural.l0 k x3 (wrap64 (x4 - 1)) x1000 bt206.2.1 bt206.2.2))))) else ((spec_l01Next.f x1000 x1001 x1002 2).bind fun bt213 => (if bt213.1 = 0 then ((spec_l01DrawOrder.f k x1000 bt213.2.1 bt213.2.2 (x3.length : Int)).bind fun bt216 => (spec_l05DrawNatural.l1 k x3 bt216.1 (([] : List (S40))) (bt216.1.length : Int) 0 x1000 bt216.2.1 bt216.2.2)) else (some (x3, bt213.2.1, bt213.2.2))))
def spec_l05DrawNatural.l1 : Nat → List (S40) → List Int → List (S40) → Int → Int → List Int → Int → Int → Option ((List (S40)) × Int × Int)
 | 0, _, _, _, _, _, _, _, _ => none
 | k + 1, x3, x7, x8, x57, x58, x1000, x1001, x1002 => if x58 < x57 then (if 0 ≤ x58 then (if x58 < (x7.length : Int) then (if 0 ≤ (rd x7 x58) then (if (rd x7 x58) < (x3.length : Int) then (if x8.length < 8796093022208 then (spec_l05DrawNatural.l1 k x3 x7 (x8 ++ [(⟨(rd_T40 x3 (rd x7 x58)).f0, (rd_T40 x3 (rd x7 x58)).f1⟩ : S40)]) x57 (wrap64 (x58 + 1)) x1000 x1001 x1002) else (none)) else (none)) else (none)) else (none)) else (none)) else (some (x8, x1001, x1002))
end
def spec_l05DrawNatural.f (k : Nat) (s0_0 : List Int) (s0_1 : Int) (s0_2 : Int) : Option ((List (S40)) × Int × Int) := (spec_l01Next.f s0_0 s0_1 s0_2 5).bind fun bt194 => (spec_l05DrawNatural.l0 k (([(⟨0, 1⟩ : S40)] : List (S40))) bt194.1 s0_0 bt194.2.1 bt194.2.2)
theorem spec_l05DrawNatural.mono_l : ∀ k, (∀ y0 y1 y2 y3 y4, LeO (spec_l05DrawNatural.l0 k y0 y1 y2 y3 y4) (spec_l05DrawNatural.l0 (k + 1) y0 y1 y2 y3 y4)) ∧ (∀ y0 y1 y2 y3 y4 y5 y6 y7, LeO (spec_l05DrawNatural.l1 k y0 y1 y2 y3 y4 y5 y6 y7) (spec_l05DrawNatural.l1 (k + 1) y0 y1 y2 y3 y4 y5 y6 y7))
 | 0 => ⟨fun _ _ _ _ _ r h => by simp [spec_l05DrawNatural.l0] at h, fun _ _ _ _ _ _ _ _ r h => by simp [spec_l05DrawNatural.l1] at h⟩
 | k + 1 => by
  obtain ⟨ih0, ih1⟩ := spec_l05DrawNatural.mono_l k
  refine ⟨?_, ?_⟩
  ·intro y0 y1 y2 y3 y4
   unfold spec_l05DrawNatural.l0
   repeat' first
   | with_reducible first | exact ih0 _ _ _ _ _ | exact ih1 _ _ _ _ _ _ _ _ | exact spec_l01DrawOrder.mono _ _ _ _ _ | exact spec_l05Split.mono _ _ _ _ | exact LeO.refl _ | exact LeO.none _ | refine LeO.ite ?_ ?_ | refine LeO.bind ?_ (fun _ => ?_)
   | exact ih0 _ _ _ _ _
   | exact ih1 _ _ _ _ _ _ _ _
   | exact spec_l01DrawOrder.mono _ _ _ _ _
   | exact spec_l05Split.mono _ _ _ _
   | exact LeO.none _
   | refine LeO.ite ?_ ?_
   | refine LeO.bind ?_ (fun _ => ?_)
  ·intro y0 y1 y2 y3 y4 y5 y6 y7
   unfold spec_l05DrawNatural.l1
   repeat' first
   | with_reducible first | exact ih0 _ _ _ _ _ | exact ih1 _ _ _ _ _ _ _ _ | exact spec_l01DrawOrder.mono _ _ _ _ _ | exact spec_l05Split.mono _ _ _ _ | exact LeO.refl _ | exact LeO.none _ | refine LeO.ite ?_ ?_ | refine LeO.bind ?_ (fun _ => ?_)
   | exact ih0 _ _ _ _ _
   | exact ih1 _ _ _ _ _ _ _ _
   | exact spec_l01DrawOrder.mono _ _ _ _ _
   | exact spec_l05Split.mono _ _ _ _
   | exact LeO.none _
   | refine LeO.ite ?_ ?_
   | refine LeO.bind ?_ (fun _ => ?_)
theorem spec_l05DrawNatural.mono : ∀ a0 a1 a2 k, LeO (spec_l05DrawNatural.f k a0 a1 a2) (spec_l05DrawNatural.f (k + 1) a0 a1 a2) := by
 intro a0 a1 a2 k
 obtain ⟨ih0, ih1⟩ := spec_l05DrawNatural.mono_l k
 unfold spec_l05DrawNatural.f
 repeat' first
   | with_reducible first | exact ih0 _ _ _ _ _ | exact ih1 _ _ _ _ _ _ _ _ | exact spec_l01DrawOrder.mono _ _ _ _ _ | exact spec_l05Split.mono _ _ _ _ | exact LeO.refl _ | exact LeO.none _ | refine LeO.ite ?_ ?_ | refine LeO.bind ?_ (fun _ => ?_)
   | exact ih0 _ _ _ _ _
   | exact ih1 _ _ _ _ _ _ _ _
   | exact spec_l01DrawOrder.mono _ _ _ _ _
   | exact spec_l05Split.mono _ _ _ _
   | exact LeO.none _
   | refine LeO.ite ?_ ?_
   | refine LeO.bind ?_ (fun _ => ?_)
set_option maxHeartbeats 8000000 in
set_option maxRecDepth 100000 in
theorem spec_l05DrawNatural.calls (k : Nat) (g : Nat) (s0_0 : List Int) (s0_1 : Int) (s0_2 : Int) (r1 : List (S40)) (r2 : Int) (r3 : Int) (w0 w : World) (hI : IsS72 w0 w g s0_0 s0_1 s0_2) (hB : Below w0.heap.size w0 w) (h : spec_l05DrawNatural.f k s0_0 s0_1 s0_2 = some (r1, r2, r3)) :
  Calls Try.prog 55 #[.pointer (some ⟨g, 0, none⟩)] w fun e w' => ∃ v0_ : Value, e = .returned (v0_) ∧ Kd.R k40 40 w' w.heap.size (fun _ => True) v0_ r1 ∧ IsS72 w0 w' g s0_0 r2 r3 ∧ Below w0.heap.size w0 w' ∧ KeepBut w w' g none := by
 have hu40 := Try.underlying40
 have HI0 := am hI
 have HK := am (KeepBut.refl w g none)
 have HL := am hB.size
 clear hI
 have HW0 := am hB.size
 have HB := am hB
 clear hB
 have H : ((spec_l01Next.f s0_0 s0_1 s0_2 5).bind fun bt194 => (spec_l05DrawNatural.l0 k (([(⟨0, 1⟩ : S40)] : List (S40))) bt194.1 s0_0 bt194.2.1 bt194.2.2)) = some (r1, r2, r3) := h
 clear h
 obtain ⟨y191, hy191⟩ : ∃ y_ : List (S40), y_ = (([(⟨0, 1⟩ : S40)] : List (S40))) := ⟨_, rfl⟩
 replace H : ((spec_l01Next.f s0_0 s0_1 s0_2 5).bind fun bt194 => (spec_l05DrawNatural.l0 k y191 bt194.1 s0_0 bt194.2.1 bt194.2.2)) = some (r1, r2, r3) := by first | (rw [hy191]; with_reducible exact H) | (have H2_ := (Option.bind_some _ _).symm.trans H; rw [hy191]; with_reducible exact H2_) | (have H2_ := (Option.bind_some _ _).symm.trans H; with_reducible exact H2_) | with_reducible exact H | (rw [hy191]; exact H) | exact H
 have Ny191 := am hy191
 clear hy191
 replace H := Option.bind_eq_some_iff.mp H
 obtain ⟨⟨t194, t195, t196⟩, A20, H⟩ := H
 try dsimp only at H
 have A2 := am A20
 clear A20
 have H' := am H
 clear H
 go_enter Try.func55, Try.ntmps55
 go_wp2_with (first | ((with_reducible refine gate_dst (N := 11) rfl ?_); refine Kd.R_lit k40 _ 40 ?hg (N := 11) ?hd (xs := ([(⟨0, 1⟩ : S40)] : List (S40))) (inner := [.int .i64 0, .int .i64 1]) (ok := fun _ => True) (okp := fun _ => True) ?hr ?hp (fun _ hk => hk) trivial (Below.refl _ _) (Nat.le_refl _) (by simp) ?_; (case hd => rfl); (case hg => rfl); (case hr => first | (go_simp; done) | (go_simp; rfl)); (case hp => exact (Reps.c2 (show Kd.M k40 _ _ _ (⟨0, 1⟩ : S40) [.int .i64 0, .int .i64 1] from (k40_mkM _ _ _ (⟨0, 1⟩ : S40) )) (Reps.none _ _))); intro v192 w3 ho4 hb hg_ hnew_; clear hg_ hnew_; (first | rw [← Ny191.out] at ho4 | (simp only [Int.reduceToNat] at ho4; rw [← Ny191.out] at ho4)); have n0_ := am (Kd.R_lower ho4 (keep_size (w := w) (g := g) (row := none) (kH HK))); have n1_ := am (IsS72.below (kI HI0) hb); have n2_ := am (KeepBut.trans (kH HK) (KeepBut.of_below hb g none) (.inl rfl)); have n3_ := am (below_step (kB1 HB (IsS72.ge HI0.out)) hb); clear HI0 HK HB; have HO193 := n0_; have HI0 := n1_; have HK := n2_; have HB := n3_; clear n0_ n1_ n2_ n3_; clear hb ho4) | ((with_reducible refine gate_callee (f := 56) rfl ?_); refine goesL_ (some 13) rfl rfl Try.func56 (by kernel_rfl) rfl #[.pointer (some ⟨g, 0, none⟩), .int .i64 5] rfl kA ?_; (with_reducible refine (spec_l01Next.calls g s0_0 s0_1 s0_2 5 t194 t195 t196 w0 _ ?side1 ?side2 A2.out).mono ?_); (case side1 => exact kI HI0); (case side2 => exact kB1 HB (IsS72.ge HI0.out)); rintro e w5 ⟨rfl, hi, hb, hk⟩; refine ⟨_, rfl, ?_⟩; have n0_ := am (Kd.R_mono (Kd.R_keep (IsS72.apart (show IsS72 w0 _ g s0_0 s0_1 s0_2 from kI HI0) (kR HO193) (by decide)) hk (fun _ h => h.2)) (fun _ h => h.1)); have n1_ := am (KeepBut.trans (kH HK) hk (.inl rfl)); have n2_ := am (hb); have n3_ := am (hi); clear HO193 HK HB HI0; have HO193 := n0_; have HK := n1_; have HB := n2_; have HI0 := n3_; clear n0_ n1_ n2_ n3_; (try clear hb); (try clear hb2); (try clear hk); (try clear hi)))
 go_loopg [3, 4] k (fun kq v3 v4 w' => ∃ (x3_1 : List (S40)) (x4_1 : Int) (x1001_1 : Int) (x1002_1 : Int), v4 = .int .i64 x4_1 ∧ Aside0 (spec_l05DrawNatural.l0 kq x3_1 x4_1 s0_0 x1001_1 x1002_1 = some (r1, r2, r3)) ∧ Aside0 (kq ≤ k) ∧ Aside0 (Kd.R k40 40 w' w.heap.size (fun _ => True) v3 x3_1) ∧ Aside0 (IsS72 w0 w' g s0_0 x1001_1 x1002_1) ∧ Aside0 (KeepBut w w' g none) ∧ Aside0 (Below w0.heap.size w0 w'))
 case atStart => exact ⟨(y191), (t194), (t195), (t196), (by first | rfl | (simp; done) | (simp [*]; done)), H', ⟨Nat.le_refl _⟩, ⟨kR HO193⟩, ⟨kI HI0⟩, ⟨kH HK⟩, ⟨kB1 HB (IsS72.ge HI0.out)⟩⟩
 case round =>
  clear H'
  try clear c2
  obtain ⟨x3_1, x4_1, x1001_1, x1002_1, rfl, HA, HK1, HO_3, HI0, HK, HB⟩ := hrel
  cases gk with
  | zero => exact absurd HA.out (by simp [spec_l05DrawNatural.l0])
  | succ k1 =>
   have H := HA.out
   clear HA
   simp only [spec_l05DrawNatural.l0] at H
   by_cases c6 : x4_1 > 0
   ·rw [if_pos c6] at H
    have c6b0 : decide (0 < x4_1) = true := decide_eq_true c6
    clear c6
    replace H := Option.bind_eq_some_iff.mp H
    obtain ⟨⟨t197, t198, t199⟩, A70, H⟩ := H
    try dsimp only at H
    have A7 := am A70
    clear A70
    obtain ⟨y200, hy200⟩ : ∃ y_ : List Int, y_ = (([1, 2, 4] : List Int)) := ⟨_, rfl⟩
    replace H : ((spec_l01Pick.f s0_0 t198 t199 y200).bind fun bt203 => ((spec_l01Next.f s0_0 bt203.2.1 bt203.2.2 bt203.1).bind fun bt206 => (if (wrap64 ((wrap64 ((x3_1.length : Int) + (wrap64 (2 + bt206.1)))) - 1)) ≤ 8 then (if 0 ≤ t197 then (if t197 < (x3_1.length : Int) then (if (wrap64 ((wrap64 (2 + bt206.1)) * ((rd_T40 x3_1 t197).f1))) ≤ 40 then ((spec_l05Split.f k1 x3_1 t197 (wrap64 (2 + bt206.1))).bind fun t210 => (spec_l05DrawNatural.l0 k1 t210 (wrap64 (x4_1 - 1)) s0_0 bt206.2.1 bt206.2.2)) else (spec_l05DrawNatural.l0 k1 x3_1 (wrap64 (x4_1 - 1)) s0_0 bt206.2.1 bt206.2.2)) else (none)) else (none)) else (spec_l05DrawNatural.l0 k1 x3_1 (wrap64 (x4_1 - 1)) s0_0 bt206.2.1 bt206.2.2)))) = some (r1, r2, r3) := by first | (rw [hy200]; with_reducible exact H) | (have H2_ := (Option.bind_some _ _).symm.trans H; rw [hy200]; with_reducible exact H2_) | (have H2_ := (Option.bind_some _ _).symm.trans H; with_reducible exact H2_) | with_reducible exact H | (rw [hy200]; exact H) | exact H
    have Ny200 := am hy200
    clear hy200
    replace H := Option.bind_eq_some_iff.mp H
    obtain ⟨⟨t203, t204, t205⟩, A80, H⟩ := H
    try dsimp only at H
    have A8 := am A80
    clear A80
    replace H := Option.bind_eq_some_iff.mp H
    obtain ⟨⟨t206, t207, t208⟩, A90, H⟩ := H
    try dsimp only at H
    have A9 := am A90
    clear A90
    by_cases c10 : (wrap64 ((wrap64 ((x3_1.length : Int) + (wrap64 (2 + t206)))) - 1)) ≤ 8
    ·rw [if_pos c10] at H
     have c10b0 : decide ((wrap64 ((wrap64 ((x3_1.length : Int) + (wrap64 (2 + t206)))) - 1)) ≤ 8) = true := decide_eq_true c10
     clear c10
     by_cases c11 : 0 ≤ t197
     ·rw [if_pos c11] at H
      have c11b0 : decide (0 ≤ t197) = true := decide_eq_true c11
      clear c11
      by_cases c12 : t197 < (x3_1.length : Int)
      ·rw [if_pos c12] at H
       have c12b0 : decide (t197 < (x3_1.length : Int)) = true := decide_eq_true c12
       clear c12
       by_cases c13 : (wrap64 ((wrap64 (2 + t206)) * ((rd_T40 x3_1 t197).f1))) ≤ 40
       ·rw [if_pos c13] at H
        have c13b0 : decide ((wrap64 ((wrap64 (2 + t206)) * ((rd_T40 x3_1 t197).f1))) ≤ 40) = true := decide_eq_true c13
        clear c13
        replace H := Option.bind_eq_some_iff.mp H
        obtain ⟨t210, A140, H⟩ := H
        try dsimp only at H
        have A14 := am A140
        clear A140
        have H' := am H
        clear H
        obtain ⟨Ao15, co15, eo15⟩ := Kd.R_slice HO_3.out
        subst eo15
        go_wp2_with (first | ((with_reducible refine gate_callee (f := 56) rfl ?_); refine goesL_ (some 21) rfl rfl Try.func56 (by kernel_rfl) rfl #[.pointer (some ⟨g, 0, none⟩), .int .i64 (x3_1.length : Int)] rfl kA ?_; (with_reducible refine (spec_l01Next.calls g s0_0 x1001_1 x1002_1 (x3_1.length : Int) t197 t198 t199 w0 _ ?side1 ?side2 A7.out).mono ?_); (case side1 => exact kI HI0); (case side2 => exact kB1 HB (IsS72.ge HI0.out)); rintro e w16 ⟨rfl, hi, hb, hk⟩; refine ⟨_, rfl, ?_⟩; have n0_ := am (Kd.R_mono (Kd.R_keep (IsS72.apart (show IsS72 w0 _ g s0_0 x1001_1 x1002_1 from kI HI0) (kR HO_3) (by decide)) hk (fun _ h => h.2)) (fun _ h => h.1)); have n1_ := am (KeepBut.trans (kH HK) hk (.inl rfl)); have n2_ := am (hb); have n3_ := am (hi); clear HO_3 HK HB HI0; have HO_3 := n0_; have HK := n1_; have HB := n2_; have HI0 := n3_; clear n0_ n1_ n2_ n3_; (try clear hb); (try clear hb2); (try clear hk); (try clear hi)) | ((with_reducible refine gate_dst (N := 24) rfl ?_); refine Kd.R_lit (Kd.int .i64) _ 2 ?hg (N := 24) ?hd (xs := ([1, 2, 4] : List Int)) (inner := [.int .i64 1, .int .i64 2, .int .i64 4]) (ok := fun _ => True) (okp := fun _ => True) ?hr ?hp (fun _ hk => hk) trivial (Below.refl _ _) (Nat.le_refl _) (by simp) ?_; (case hd => rfl); (case hg => rfl); (case hr => first | (go_simp; done) | (go_simp; rfl)); (case hp => exact (Reps.one (show Kd.M (Kd.int .i64) _ _ _ 1 [.int .i64 1] from rfl) (Reps.one (show Kd.M (Kd.int .i64) _ _ _ 2 [.int .i64 2] from rfl) (Reps.one (show Kd.M (Kd.int .i64) _ _ _ 4 [.int .i64 4] from rfl) (Reps.none _ _))))); intro v201 w17 ho18 hb hg_ hnew_; clear hg_ hnew_; (first | rw [← Ny200.out] at ho18 | (simp only [Int.reduceToNat] at ho18; rw [← Ny200.out] at ho18)); have n0_ := am (Kd.R_below (kR HO_3) hb); have n1_ := am (Kd.R_lower ho18 (keep_size (w := w) (g := g) (row := none) (kH HK))); have n2_ := am (IsS72.below (kI HI0) hb); have n3_ := am (KeepBut.trans (kH HK) (KeepBut.of_below hb g none) (.inl rfl)); have n4_ := am (below_step (kB1 HB (IsS72.ge HI0.out)) hb); clear HO_3 HI0 HK HB; have HO_3 := n0_; have HO202 := n1_; have HI0 := n2_; have HK := n3_; have HB := n4_; clear n0_ n1_ n2_ n3_ n4_ hb ho18; obtain ⟨Ao19, co19, eo19⟩ := Kd.R_slice HO202.out; subst eo19) | ((with_reducible refine gate_callee (f := 57) rfl ?_); refine goesL_ (some 25) rfl rfl Try.func57 (by kernel_rfl) rfl #[.pointer (some ⟨g, 0, none⟩), .slice Ao19 y200.length co19] rfl kA ?_; (with_reducible refine (spec_l01Pick.calls g s0_0 t198 t199 _ _ y200 t203 t204 t205 w0 _ ?side1 ?side2 ?side3 ?side4 ?side5 A8.out).mono ?_); (case side1 => exact kI HI0); (case side2 => exact kB1 HB (IsS72.ge HI0.out)); (case side3 => exact kC (Kd.R_reads' HO202.out).2.2); (case side4 => exact (Kd.R_reads' HO202.out).2.1); (case side5 => first | exact far_slice (IsS72.own_ne HI0.out HO202.out (by decide)) | exact (fun ad hq_ hl_ => far_slice (IsS72.own_ne HI0.out HO202.out (by decide)) ad hq_ (by rw [(Kd.R_reads' HO202.out).1]; exact hl_))); rintro e w20 ⟨rfl, hi, hb, hk⟩; refine ⟨_, rfl, ?_⟩; have n0_ := am (Kd.R_mono (Kd.R_keep (IsS72.apart (show IsS72 w0 _ g s0_0 t198 t199 from kI HI0) (kR HO_3) (by decide)) hk (fun _ h => h.2)) (fun _ h => h.1)); have n1_ := am (Kd.R_mono (Kd.R_keep (IsS72.apart (show IsS72 w0 _ g s0_0 t198 t199 from kI HI0) (kR HO202) (by decide)) hk (fun _ h => h.2)) (fun _ h => h.1)); have n2_ := am (KeepBut.trans (kH HK) hk (.inl rfl)); have n3_ := am (hb); have n4_ := am (hi); clear HO_3 HO202 HK HB HI0; have HO_3 := n0_; have HO202 := n1_; have HK := n2_; have HB := n3_; have HI0 := n4_; clear n0_ n1_ n2_ n3_ n4_; (try clear hb); (try clear hb2); (try clear hk); (try clear hi)) | ((with_reducible refine gate_callee (f := 56) rfl ?_); refine goesL_ (some 26) rfl rfl Try.func56 (by kernel_rfl) rfl #[.pointer (some ⟨g, 0, none⟩), .int .i64 t203] rfl kA ?_; (with_reducible refine (spec_l01Next.calls g s0_0 t204 t205 t203 t206 t207 t208 w0 _ ?side1 ?side2 A9.out).mono ?_); (case side1 => exact kI HI0); (case side2 => exact kB1 HB (IsS72.ge HI0.out)); rintro e w21 ⟨rfl, hi, hb, hk⟩; refine ⟨_, rfl, ?_⟩; have n0_ := am (Kd.R_mono (Kd.R_keep (IsS72.apart (show IsS72 w0 _ g s0_0 t204 t205 from kI HI0) (kR HO_3) (by decide)) hk (fun _ h => h.2)) (fun _ h => h.1)); have n1_ := am (Kd.R_mono (Kd.R_keep (IsS72.apart (show IsS72 w0 _ g s0_0 t204 t205 from kI HI0) (kR HO202) (by decide)) hk (fun _ h => h.2)) (fun _ h => h.1)); have n2_ := am (KeepBut.trans (kH HK) hk (.inl rfl)); have n3_ := am (hb); have n4_ := am (hi); clear HO_3 HO202 HK HB HI0; have HO_3 := n0_; have HO202 := n1_; have HK := n2_; have HB := n3_; have HI0 := n4_; clear n0_ n1_ n2_ n3_ n4_; (try clear hb); (try clear hb2); (try clear hk); (try clear hi); have p209 : 0 ≤ (t197 : Int) := of_decide_eq_true kM; have q209 : t197 < (x3_1.length : Int) := of_decide_eq_true kM; obtain ⟨ad209, e209, hx209_0, hx209_1⟩ := at_T40 (Kd.R_reads' HO_3.out).2.2 t197 p209 q209; cases e209; replace p209 := eq_true p209; replace q209 := eq_true q209) | ((with_reducible refine gate_callee (f := 78) rfl ?_); refine goesL_ (some 47) rfl rfl Try.func78 (by kernel_rfl) rfl #[.slice (some ad209) x3_1.length co15, .int .i64 t197, .int .i64 (wrap64 (2 + t206))] rfl kA ?_; (with_reducible refine (spec_l05Split.calls k1 _ _ x3_1 t197 (wrap64 (2 + t206)) t210 _ ?side1 ?side2 A14.out).mono ?_); (case side1 => exact kC (Kd.R_reads' HO_3.out).2.2); (case side2 => exact (Kd.R_reads' HO_3.out).2.1); rintro e w22 ⟨v211, rfl, ho0, hb⟩; refine ⟨_, rfl, ?_⟩; have n0_ := am (Kd.R_elder' (kR HO_3) (Kd.R_base ho0) hb); have n1_ := am (Kd.R_below (kR HO202) hb); have n2_ := am (Kd.R_lower (Kd.R_new' ho0 (Kd.R_lt (kR HO_3))) (keep_size (w := w) (g := g) (row := none) (kH HK))); have n3_ := am (IsS72.below (kI HI0) hb); have n4_ := am (KeepBut.trans (kH HK) (KeepBut.of_below hb g none) (.inl rfl)); have n5_ := am (below_step (kB1 HB (IsS72.ge HI0.out)) hb); clear HO_3 HO202 HI0 HK HB; have HO_3 := n0_; have HO202 := n1_; have HO212 := n2_; have HI0 := n3_; have HK := n4_; have HB := n5_; clear n0_ n1_ n2_ n3_ n4_ n5_; (try clear hb); (try clear hb2); (try clear hk); (try clear hi); (try clear ho0)))
        go_roundg k1
        case measure => have := HK1.out; omega
        case rel => exact ⟨(t210), (wrap64 (x4_1 - 1)), (t207), (t208), (by first | rfl | (simp; done) | (simp [*]; done)), H', ⟨by have := HK1.out; omega⟩, ⟨by (with_reducible repeat (first | apply Kd.R_alloc | apply Kd.R_drewN | apply Kd.R_drew)); exact Kd.R_mono HO212.out (fun _ hk => trivial)⟩, ⟨kI HI0⟩, ⟨kH HK⟩, ⟨kB1 HB (IsS72.ge HI0.out)⟩⟩
       ·rw [if_neg c13] at H
        have c13b0 : decide ((wrap64 ((wrap64 (2 + t206)) * ((rd_T40 x3_1 t197).f1))) ≤ 40) = false := decide_eq_false c13
        clear c13
        have H' := am H
        clear H
        obtain ⟨Ao23, co23, eo23⟩ := Kd.R_slice HO_3.out
        subst eo23
        go_wp2_with (first | ((with_reducible refine gate_callee (f := 56) rfl ?_); refine goesL_ (some 21) rfl rfl Try.func56 (by kernel_rfl) rfl #[.pointer (some ⟨g, 0, none⟩), .int .i64 (x3_1.length : Int)] rfl kA ?_; (with_reducible refine (spec_l01Next.calls g s0_0 x1001_1 x1002_1 (x3_1.length : Int) t197 t198 t199 w0 _ ?side1 ?side2 A7.out).mono ?_); (case side1 => exact kI HI0); (case side2 => exact kB1 HB (IsS72.ge HI0.out)); rintro e w24 ⟨rfl, hi, hb, hk⟩; refine ⟨_, rfl, ?_⟩; have n0_ := am (Kd.R_mono (Kd.R_keep (IsS72.apart (show IsS72 w0 _ g s0_0 x1001_1 x1002_1 from kI HI0) (kR HO_3) (by decide)) hk (fun _ h => h.2)) (fun _ h => h.1)); have n1_ := am (KeepBut.trans (kH HK) hk (.inl rfl)); have n2_ := am (hb); have n3_ := am (hi); clear HO_3 HK HB HI0; have HO_3 := n0_; have HK := n1_; have HB := n2_; have HI0 := n3_; clear n0_ n1_ n2_ n3_; (try clear hb); (try clear hb2); (try clear hk); (try clear hi)) | ((with_reducible refine gate_dst (N := 24) rfl ?_); refine Kd.R_lit (Kd.int .i64) _ 2 ?hg (N := 24) ?hd (xs := ([1, 2, 4] : List Int)) (inner := [.int .i64 1, .int .i64 2, .int .i64 4]) (ok := fun _ => True) (okp := fun _ => True) ?hr ?hp (fun _ hk => hk) trivial (Below.refl _ _) (Nat.le_refl _) (by simp) ?_; (case hd => rfl); (case hg => rfl); (case hr => first | (go_simp; done) | (go_simp; rfl)); (case hp => exact (Reps.one (show Kd.M (Kd.int .i64) _ _ _ 1 [.int .i64 1] from rfl) (Reps.one (show Kd.M (Kd.int .i64) _ _ _ 2 [.int .i64 2] from rfl) (Reps.one (show Kd.M (Kd.int .i64) _ _ _ 4 [.int .i64 4] from rfl) (Reps.none _ _))))); intro v201 w25 ho26 hb hg_ hnew_; clear hg_ hnew_; (first | rw [← Ny200.out] at ho26 | (simp only [Int.reduceToNat] at ho26; rw [← Ny200.out] at ho26)); have n0_ := am (Kd.R_below (kR HO_3) hb); have n1_ := am (Kd.R_lower ho26 (keep_size (w := w) (g := g) (row := none) (kH HK))); have n2_ := am (IsS72.below (kI HI0) hb); have n3_ := am (KeepBut.trans (kH HK) (KeepBut.of_below hb g none) (.inl rfl)); have n4_ := am (below_step (kB1 HB (IsS72.ge HI0.out)) hb); clear HO_3 HI0 HK HB; have HO_3 := n0_; have HO202 := n1_; have HI0 := n2_; have HK := n3_; have HB := n4_; clear n0_ n1_ n2_ n3_ n4_ hb ho26; obtain ⟨Ao27, co27, eo27⟩ := Kd.R_slice HO202.out; subst eo27) | ((with_reducible refine gate_callee (f := 57) rfl ?_); refine goesL_ (some 25) rfl rfl Try.func57 (by kernel_rfl) rfl #[.pointer (some ⟨g, 0, none⟩), .slice Ao27 y200.length co27] rfl kA ?_; (with_reducible refine (spec_l01Pick.calls g s0_0 t198 t199 _ _ y200 t203 t204 t205 w0 _ ?side1 ?side2 ?side3 ?side4 ?side5 A8.out).mono ?_); (case side1 => exact kI HI0); (case side2 => exact kB1 HB (IsS72.ge HI0.out)); (case side3 => exact kC (Kd.R_reads' HO202.out).2.2); (case side4 => exact (Kd.R_reads' HO202.out).2.1); (case side5 => first | exact far_slice (IsS72.own_ne HI0.out HO202.out (by decide)) | exact (fun ad hq_ hl_ => far_slice (IsS72.own_ne HI0.out HO202.out (by decide)) ad hq_ (by rw [(Kd.R_reads' HO202.out).1]; exact hl_))); rintro e w28 ⟨rfl, hi, hb, hk⟩; refine ⟨_, rfl, ?_⟩; have n0_ := am (Kd.R_mono (Kd.R_keep (IsS72.apart (show IsS72 w0 _ g s0_0 t198 t199 from kI HI0) (kR HO_3) (by decide)) hk (fun _ h => h.2)) (fun _ h => h.1)); have n1_ := am (Kd.R_mono (Kd.R_keep (IsS72.apart (show IsS72 w0 _ g s0_0 t198 t199 from kI HI0) (kR HO202) (by decide)) hk (fun _ h => h.2)) (fun _ h => h.1)); have n2_ := am (KeepBut.trans (kH HK) hk (.inl rfl)); have n3_ := am (hb); have n4_ := am (hi); clear HO_3 HO202 HK HB HI0; have HO_3 := n0_; have HO202 := n1_; have HK := n2_; have HB := n3_; have HI0 := n4_; clear n0_ n1_ n2_ n3_ n4_; (try clear hb); (try clear hb2); (try clear hk); (try clear hi)) | ((with_reducible refine gate_callee (f := 56) rfl ?_); refine goesL_ (some 26) rfl rfl Try.func56 (by kernel_rfl) rfl #[.pointer (some ⟨g, 0, none⟩), .int .i64 t203] rfl kA ?_; (with_reducible refine (spec_l01Next.calls g s0_0 t204 t205 t203 t206 t207 t208 w0 _ ?side1 ?side2 A9.out).mono ?_); (case side1 => exact kI HI0); (case side2 => exact kB1 HB (IsS72.ge HI0.out)); rintro e w29 ⟨rfl, hi, hb, hk⟩; refine ⟨_, rfl, ?_⟩; have n0_ := am (Kd.R_mono (Kd.R_keep (IsS72.apart (show IsS72 w0 _ g s0_0 t204 t205 from kI HI0) (kR HO_3) (by decide)) hk (fun _ h => h.2)) (fun _ h => h.1)); have n1_ := am (Kd.R_mono (Kd.R_keep (IsS72.apart (show IsS72 w0 _ g s0_0 t204 t205 from kI HI0) (kR HO202) (by decide)) hk (fun _ h => h.2)) (fun _ h => h.1)); have n2_ := am (KeepBut.trans (kH HK) hk (.inl rfl)); have n3_ := am (hb); have n4_ := am (hi); clear HO_3 HO202 HK HB HI0; have HO_3 := n0_; have HO202 := n1_; have HK := n2_; have HB := n3_; have HI0 := n4_; clear n0_ n1_ n2_ n3_ n4_; (try clear hb); (try clear hb2); (try clear hk); (try clear hi); have p209 : 0 ≤ (t197 : Int) := of_decide_eq_true kM; have q209 : t197 < (x3_1.length : Int) := of_decide_eq_true kM; obtain ⟨ad209, e209, hx209_0, hx209_1⟩ := at_T40 (Kd.R_reads' HO_3.out).2.2 t197 p209 q209; cases e209; replace p209 := eq_true p209; replace q209 := eq_true q209))
        go_roundg k1
        case measure => have := HK1.out; omega
        case rel => exact ⟨(x3_1), (wrap64 (x4_1 - 1)), (t207), (t208), (by first | rfl | (simp; done) | (simp [*]; done)), H', ⟨by have := HK1.out; omega⟩, ⟨kR HO_3⟩, ⟨kI HI0⟩, ⟨kH HK⟩, ⟨kB1 HB (IsS72.ge HI0.out)⟩⟩
      ·rw [if_neg c12] at H
       exact absurd H (by simp)
     ·rw [if_neg c11] at H
      exact absurd H (by simp)
    ·rw [if_neg c10] at H
     have c10b0 : decide ((wrap64 ((wrap64 ((x3_1.length : Int) + (wrap64 (2 + t206)))) - 1)) ≤ 8) = false := decide_eq_false c10
     clear c10
     have H' := am H
     clear H
     obtain ⟨Ao30, co30, eo30⟩ := Kd.R_slice HO_3.out
     subst eo30
     go_wp2_with (first | ((with_reducible refine gate_callee (f := 56) rfl ?_); refine goesL_ (some 21) rfl rfl Try.func56 (by kernel_rfl) rfl #[.pointer (some ⟨g, 0, none⟩), .int .i64 (x3_1.length : Int)] rfl kA ?_; (with_reducible refine (spec_l01Next.calls g s0_0 x1001_1 x1002_1 (x3_1.length : Int) t197 t198 t199 w0 _ ?side1 ?side2 A7.out).mono ?_); (case side1 => exact kI HI0); (case side2 => exact kB1 HB (IsS72.ge HI0.out)); rintro e w31 ⟨rfl, hi, hb, hk⟩; refine ⟨_, rfl, ?_⟩; have n0_ := am (Kd.R_mono (Kd.R_keep (IsS72.apart (show IsS72 w0 _ g s0_0 x1001_1 x1002_1 from kI HI0) (kR HO_3) (by decide)) hk (fun _ h => h.2)) (fun _ h => h.1)); have n1_ := am (KeepBut.trans (kH HK) hk (.inl rfl)); have n2_ := am (hb); have n3_ := am (hi); clear HO_3 HK HB HI0; have HO_3 := n0_; have HK := n1_; have HB := n2_; have HI0 := n3_; clear n0_ n1_ n2_ n3_; (try clear hb); (try clear hb2); (try clear hk); (try clear hi)) | ((with_reducible refine gate_dst (N := 24) rfl ?_); refine Kd.R_lit (Kd.int .i64) _ 2 ?hg (N := 24) ?hd (xs := ([1, 2, 4] : List Int)) (inner := [.int .i64 1, .int .i64 2, .int .i64 4]) (ok := fun _ => True) (okp := fun _ => True) ?hr ?hp (fun _ hk => hk) trivial (Below.refl _ _) (Nat.le_refl _) (by simp) ?_; (case hd => rfl); (case hg => rfl); (case hr => first | (go_simp; done) | (go_simp; rfl)); (case hp => exact (Reps.one (show Kd.M (Kd.int .i64) _ _ _ 1 [.int .i64 1] from rfl) (Reps.one (show Kd.M (Kd.int .i64) _ _ _ 2 [.int .i64 2] from rfl) (Reps.one (show Kd.M (Kd.int .i64) _ _ _ 4 [.int .i64 4] from rfl) (Reps.none _ _))))); intro v201 w32 ho33 hb hg_ hnew_; clear hg_ hnew_; (first | rw [← Ny200.out] at ho33 | (simp only [Int.reduceToNat] at ho33; rw [← Ny200.out] at ho33)); have n0_ := am (Kd.R_below (kR HO_3) hb); have n1_ := am (Kd.R_lower ho33 (keep_size (w := w) (g := g) (row := none) (kH HK))); have n2_ := am (IsS72.below (kI HI0) hb); have n3_ := am (KeepBut.trans (kH HK) (KeepBut.of_below hb g none) (.inl rfl)); have n4_ := am (below_step (kB1 HB (IsS72.ge HI0.out)) hb); clear HO_3 HI0 HK HB; have HO_3 := n0_; have HO202 := n1_; have HI0 := n2_; have HK := n3_; have HB := n4_; clear n0_ n1_ n2_ n3_ n4_ hb ho33; obtain ⟨Ao34, co34, eo34⟩ := Kd.R_slice HO202.out; subst eo34) | ((with_reducible refine gate_callee (f := 57) rfl ?_); refine goesL_ (some 25) rfl rfl Try.func57 (by kernel_rfl) rfl #[.pointer (some ⟨g, 0, none⟩), .slice Ao34 y200.length co34] rfl kA ?_; (with_reducible refine (spec_l01Pick.calls g s0_0 t198 t199 _ _ y200 t203 t204 t205 w0 _ ?side1 ?side2 ?side3 ?side4 ?side5 A8.out).mono ?_); (case side1 => exact kI HI0); (case side2 => exact kB1 HB (IsS72.ge HI0.out)); (case side3 => exact kC (Kd.R_reads' HO202.out).2.2); (case side4 => exact (Kd.R_reads' HO202.out).2.1); (case side5 => first | exact far_slice (IsS72.own_ne HI0.out HO202.out (by decide)) | exact (fun ad hq_ hl_ => far_slice (IsS72.own_ne HI0.out HO202.out (by decide)) ad hq_ (by rw [(Kd.R_reads' HO202.out).1]; exact hl_))); rintro e w35 ⟨rfl, hi, hb, hk⟩; refine ⟨_, rfl, ?_⟩; have n0_ := am (Kd.R_mono (Kd.R_keep (IsS72.apart (show IsS72 w0 _ g s0_0 t198 t199 from kI HI0) (kR HO_3) (by decide)) hk (fun _ h => h.2)) (fun _ h => h.1)); have n1_ := am (Kd.R_mono (Kd.R_keep (IsS72.apart (show IsS72 w0 _ g s0_0 t198 t199 from kI HI0) (kR HO202) (by decide)) hk (fun _ h => h.2)) (fun _ h => h.1)); have n2_ := am (KeepBut.trans (kH HK) hk (.inl rfl)); have n3_ := am (hb); have n4_ := am (hi); clear HO_3 HO202 HK HB HI0; have HO_3 := n0_; have HO202 := n1_; have HK := n2_; have HB := n3_; have HI0 := n4_; clear n0_ n1_ n2_ n3_ n4_; (try clear hb); (try clear hb2); (try clear hk); (try clear hi)) | ((with_reducible refine gate_callee (f := 56) rfl ?_); refine goesL_ (some 26) rfl rfl Try.func56 (by kernel_rfl) rfl #[.pointer (some ⟨g, 0, none⟩), .int .i64 t203] rfl kA ?_; (with_reducible refine (spec_l01Next.calls g s0_0 t204 t205 t203 t206 t207 t208 w0 _ ?side1 ?side2 A9.out).mono ?_); (case side1 => exact kI HI0); (case side2 => exact kB1 HB (IsS72.ge HI0.out)); rintro e w36 ⟨rfl, hi, hb, hk⟩; refine ⟨_, rfl, ?_⟩; have n0_ := am (Kd.R_mono (Kd.R_keep (IsS72.apart (show IsS72 w0 _ g s0_0 t204 t205 from kI HI0) (kR HO_3) (by decide)) hk (fun _ h => h.2)) (fun _ h => h.1)); have n1_ := am (Kd.R_mono (Kd.R_keep (IsS72.apart (show IsS72 w0 _ g s0_0 t204 t205 from kI HI0) (kR HO202) (by decide)) hk (fun _ h => h.2)) (fun _ h => h.1)); have n2_ := am (KeepBut.trans (kH HK) hk (.inl rfl)); have n3_ := am (hb); have n4_ := am (hi); clear HO_3 HO202 HK HB HI0; have HO_3 := n0_; have HO202 := n1_; have HK := n2_; have HB := n3_; have HI0 := n4_; clear n0_ n1_ n2_ n3_ n4_; (try clear hb); (try clear hb2); (try clear hk); (try clear hi)))
     go_roundg k1
     case measure => have := HK1.out; omega
     case rel => exact ⟨(x3_1), (wrap64 (x4_1 - 1)), (t207), (t208), (by first | rfl | (simp; done) | (simp [*]; done)), H', ⟨by have := HK1.out; omega⟩, ⟨kR HO_3⟩, ⟨kI HI0⟩, ⟨kH HK⟩, ⟨kB1 HB (IsS72.ge HI0.out)⟩⟩
   ·rw [if_neg c6] at H
    have c6b0 : decide (0 < x4_1) = false := decide_eq_false c6
    clear c6
    replace H := Option.bind_eq_some_iff.mp H
    obtain ⟨⟨t213, t214, t215⟩, A370, H⟩ := H
    try dsimp only at H
    have A37 := am A370
    clear A370
    by_cases c38 : t213 = 0
    ·rw [if_pos c38] at H
     have c38b0 : (t213 == 0) = true := beq_iff_eq.mpr c38
     have c38b1 : (t213 != 0) = false := bne_eq_false_iff_eq.mpr c38
     clear c38
     replace H := Option.bind_eq_some_iff.mp H
     obtain ⟨⟨t216, t219, t220⟩, A390, H⟩ := H
     try dsimp only at H
     have A39 := am A390
     clear A390
     obtain ⟨y221, hy221⟩ : ∃ y_ : List (S40), y_ = (([] : List (S40))) := ⟨_, rfl⟩
     replace H : (spec_l05DrawNatural.l1 k1 x3_1 t216 y221 (t216.length : Int) 0 s0_0 t219 t220) = some (r1, r2, r3) := by first | (rw [hy221]; with_reducible exact H) | (have H2_ := (Option.bind_some _ _).symm.trans H; rw [hy221]; with_reducible exact H2_) | (have H2_ := (Option.bind_some _ _).symm.trans H; with_reducible exact H2_) | with_reducible exact H | (rw [hy221]; exact H) | exact H
     have Ny221 := am hy221
     clear hy221
     have H' := am H
     clear H
     go_wp2_with (first | ((with_reducible refine gate_callee (f := 56) rfl ?_); refine goesL_ (some 49) rfl rfl Try.func56 (by kernel_rfl) rfl #[.pointer (some ⟨g, 0, none⟩), .int .i64 2] rfl kA ?_; (with_reducible refine (spec_l01Next.calls g s0_0 x1001_1 x1002_1 2 t213 t214 t215 w0 _ ?side1 ?side2 A37.out).mono ?_); (case side1 => exact kI HI0); (case side2 => exact kB1 HB (IsS72.ge HI0.out)); rintro e w40 ⟨rfl, hi, hb, hk⟩; refine ⟨_, rfl, ?_⟩; have n0_ := am (Kd.R_mono (Kd.R_keep (IsS72.apart (show IsS72 w0 _ g s0_0 x1001_1 x1002_1 from kI HI0) (kR HO_3) (by decide)) hk (fun _ h => h.2)) (fun _ h => h.1)); have n1_ := am (KeepBut.trans (kH HK) hk (.inl rfl)); have n2_ := am (hb); have n3_ := am (hi); clear HO_3 HK HB HI0; have HO_3 := n0_; have HK := n1_; have HB := n2_; have HI0 := n3_; clear n0_ n1_ n2_ n3_; (try clear hb); (try clear hb2); (try clear hk); (try clear hi); obtain ⟨Ao41, co41, eo41⟩ := Kd.R_slice HO_3.out; subst eo41) | ((with_reducible refine gate_callee (f := 79) rfl ?_); refine goesL_ (some 54) rfl rfl Try.func79 (by kernel_rfl) rfl #[.pointer (some ⟨g, 0, none⟩), .int .i64 (x3_1.length : Int)] rfl kA ?_; (with_reducible refine (spec_l01DrawOrder.calls k1 g s0_0 t214 t215 (x3_1.length : Int) t216 t219 t220 w0 _ ?side1 ?side2 A39.out).mono ?_); (case side1 => exact kI HI0); (case side2 => exact kB1 HB (IsS72.ge HI0.out)); rintro e w42 ⟨v217, rfl, ho0, hi, hb, hk⟩; refine ⟨_, rfl, ?_⟩; have n0_ := am (Kd.R_mono (Kd.R_keep (IsS72.apart (show IsS72 w0 _ g s0_0 t214 t215 from kI HI0) (kR HO_3) (by decide)) hk (fun _ h => h.2)) (fun _ h => h.1)); have n1_ := am (Kd.R_lower ho0 (keep_size (w := w) (g := g) (row := none) (kH HK))); have n2_ := am (KeepBut.trans (kH HK) hk (.inl rfl)); have n3_ := am (hb); have n4_ := am (hi); clear HO_3 HK HB HI0; have HO_3 := n0_; have HO218 := n1_; have HK := n2_; have HB := n3_; have HI0 := n4_; clear n0_ n1_ n2_ n3_ n4_; (try clear hb); (try clear hb2); (try clear hk); (try clear hi); (try clear ho0)) | ((with_reducible refine gate_dst (N := 55) rfl ?_); refine Kd.R_lit k40 _ 40 ?hg (N := 55) ?hd (xs := ([] : List (S40))) (inner := []) (ok := fun _ => True) (okp := fun _ => True) ?hr ?hp (fun _ hk => hk) trivial (Below.refl _ _) (Nat.le_refl _) (by simp) ?_; (case hd => rfl); (case hg => rfl); (case hr => first | (go_simp; done) | (go_simp; rfl)); (case hp => exact (Reps.none _ _)); intro v222 w43 ho44 hb hg_ hnew_; clear hg_ hnew_; (first | rw [← Ny221.out] at ho44 | (simp only [Int.reduceToNat] at ho44; rw [← Ny221.out] at ho44)); have n0_ := am (Kd.R_elder' (kR HO_3) (Kd.R_base ho44) hb); have n1_ := am (Kd.R_below (kR HO218) hb); have n2_ := am (Kd.R_lower (Kd.R_new' ho44 (Kd.R_lt (kR HO_3))) (keep_size (w := w) (g := g) (row := none) (kH HK))); have n3_ := am (IsS72.below (kI HI0) hb); have n4_ := am (KeepBut.trans (kH HK) (KeepBut.of_below hb g none) (.inl rfl)); have n5_ := am (below_step (kB1 HB (IsS72.ge HI0.out)) hb); clear HO_3 HO218 HI0 HK HB; have HO_3 := n0_; have HO218 := n1_; have HO223 := n2_; have HI0 := n3_; have HK := n4_; have HB := n5_; clear n0_ n1_ n2_ n3_ n4_ n5_ hb ho44; obtain ⟨Ao45, co45, eo45⟩ := Kd.R_slice HO218.out; subst eo45))
     go_loopg [8, 58] k1 (fun kq v8 v58 w' => ∃ (x8_2 : List (S40)) (x58_2 : Int), v58 = .int .i64 x58_2 ∧ Aside0 (spec_l05DrawNatural.l1 kq x3_1 t216 x8_2 (t216.length : Int) x58_2 s0_0 t219 t220 = some (r1, r2, r3)) ∧ Aside0 (kq ≤ k1) ∧ Aside0 (Kd.R k40 40 w' w.heap.size (fun k_ => some k_ ≠ (v8 : Value).ownBlock) (.slice Ao41 x3_1.length co41) x3_1) ∧ Aside0 (Kd.R (Kd.int .i64) 2 w' w.heap.size (fun _ => True) (.slice Ao45 t216.length co45) t216) ∧ Aside0 (Kd.R k40 40 w' w.heap.size (fun k_ => some k_ ≠ ((.slice Ao41 x3_1.length co41) : Value).ownBlock) v8 x8_2) ∧ Aside0 (IsS72 w0 w' g s0_0 t219 t220) ∧ Aside0 (KeepBut w w' g none) ∧ Aside0 (Below w0.heap.size w0 w'))
     case atStart => exact ⟨(y221), (0), (by first | rfl | (simp; done) | (simp [*]; done)), H', ⟨Nat.le_refl _⟩, ⟨by (with_reducible repeat (first | apply Kd.R_alloc | apply Kd.R_drewN | apply Kd.R_drew)); exact Kd.R_mono HO_3.out (fun _ hk => hk.2)⟩, ⟨kR HO218⟩, ⟨by (with_reducible repeat (first | apply Kd.R_alloc | apply Kd.R_drewN | apply Kd.R_drew)); exact Kd.R_mono HO223.out (fun _ hk => hk.2)⟩, ⟨kI HI0⟩, ⟨kH HK⟩, ⟨kB1 HB (IsS72.ge HI0.out)⟩⟩
     case round =>
      clear H'
      try clear c2
      try clear c6
      try clear c6b0
      try clear c38
      try clear c38b0
      try clear c38b1
      obtain ⟨x8_2, x58_2, rfl, HA, HK2, HO_3, HO_7, HO_8, HI0, HK, HB⟩ := hrel
      cases gk with
      | zero => exact absurd HA.out (by simp [spec_l05DrawNatural.l1])
      | succ k2 =>
       have H := HA.out
       clear HA
       simp only [spec_l05DrawNatural.l1] at H
       by_cases c46 : x58_2 < (t216.length : Int)
       ·rw [if_pos c46] at H
        have c46b0 : decide (x58_2 < (t216.length : Int)) = true := decide_eq_true c46
        clear c46
        by_cases c47 : 0 ≤ x58_2
        ·rw [if_pos c47] at H
         have c47b0 : decide (0 ≤ x58_2) = true := decide_eq_true c47
         clear c47
         by_cases c48 : x58_2 < (t216.length : Int)
         ·rw [if_pos c48] at H
          have c48b0 : decide (x58_2 < (t216.length : Int)) = true := decide_eq_true c48
          clear c48
          by_cases c49 : 0 ≤ (rd t216 x58_2)
          ·rw [if_pos c49] at H
           have c49b0 : decide (0 ≤ (rd t216 x58_2)) = true := decide_eq_true c49
           clear c49
           by_cases c50 : (rd t216 x58_2) < (x3_1.length : Int)
           ·rw [if_pos c50] at H
            have c50b0 : decide ((rd t216 x58_2) < (x3_1.length : Int)) = true := decide_eq_true c50
            clear c50
            by_cases c51 : x8_2.length < 8796093022208
            ·rw [if_pos c51] at H
             have LMc51 := am c51
             clear c51
             obtain ⟨y226, hy226⟩ : ∃ y_ : List (S40), y_ = (x8_2 ++ [(⟨(rd_T40 x3_1 (rd t216 x58_2)).f0, (rd_T40 x3_1 (rd t216 x58_2)).f1⟩ : S40)]) := ⟨_, rfl⟩
             replace H : (spec_l05DrawNatural.l1 k2 x3_1 t216 y226 (t216.length : Int) (wrap64 (x58_2 + 1)) s0_0 t219 t220) = some (r1, r2, r3) := by first | (rw [hy226]; with_reducible exact H) | (have H2_ := (Option.bind_some _ _).symm.trans H; rw [hy226]; with_reducible exact H2_) | (have H2_ := (Option.bind_some _ _).symm.trans H; with_reducible exact H2_) | with_reducible exact H | (rw [hy226]; exact H) | exact H
             have Ny226 := am hy226
             clear hy226
             have H' := am H
             clear H
             have p224 : 0 ≤ (x58_2 : Int) := of_decide_eq_true kM
             have q224 : x58_2 < (t216.length : Int) := of_decide_eq_true kM
             obtain ⟨ad224, e224, hx224_0⟩ := Kd.at_int (Kd.R_reads' HO_7.out).2.2 x58_2 p224 q224
             cases e224
             replace p224 := eq_true p224
             replace q224 := eq_true q224
             have p225 : 0 ≤ ((rd t216 x58_2) : Int) := of_decide_eq_true kM
             have q225 : (rd t216 x58_2) < (x3_1.length : Int) := of_decide_eq_true kM
             obtain ⟨ad225, e225, hx225_0, hx225_1⟩ := at_T40 (Kd.R_reads' HO_3.out).2.2 (rd t216 x58_2) p225 q225
             cases e225
             replace p225 := eq_true p225
             replace q225 := eq_true q225
             go_wp2_with (first | ((with_reducible refine gate_builtin (b := .append) (xs := #[.tmp 61, .tmp 69]) rfl ?_); at_builtin; refine Kd.R_append k40 w.heap.size rfl (.tmp 61) (.tmp 69) 24 40 (.agg #[(.int .i64 0), (.int .i64 0)]) 16 rfl Try.underlying24 info40 rfl (by decide) (by omega) u8 x8_2 (⟨(rd_T40 x3_1 (rd t216 x58_2)).f0, (rd_T40 x3_1 (rd t216 x58_2)).f1⟩ : S40) [.int .i64 ((rd_T40 x3_1 (rd t216 x58_2)).f0), .int .i64 ((rd_T40 x3_1 (rd t216 x58_2)).f1)] (fun k_ => some k_ ≠ (.slice (some ad225) x3_1.length co41 : Value).ownBlock) (fun _ => False) rfl rfl ?aP (fun _ hk => hk.elim) ?aF ?aO (Below.refl _ _) ?aS ?aL ?_; (case aP => exact k40_mkM _ _ _ (⟨(rd_T40 x3_1 (rd t216 x58_2)).f0, (rd_T40 x3_1 (rd t216 x58_2)).f1⟩ : S40)); (case aF => exact (fun k_ hk => Kd.fresh' (Kd.R_lt (kR HO_3)) k_ hk)); (case aO => exact (kR HO_8)); (case aS => exact (keep_size (w := w) (g := g) (row := none) (kH HK))); (case aL => have := LMc51.out; omega); intro v227 w52 ho hb hg hat; rw [← Ny226.out] at ho; have n0_ := am (Kd.R_after (ok := (fun _ => True)) (by (with_reducible repeat (first | apply Kd.R_alloc | apply Kd.R_drewN | apply Kd.R_drew)); exact Kd.R_mono HO_3.out (fun _ hk => ⟨trivial, hk⟩)) hg hat); have n1_ := am (Kd.R_over' (kR HO_7) (Kd.R_typed (kR HO_8)) (by decide) hg); have n2_ := am (IsS72.grown (kI HI0) hg (IsS72.own_ne HI0.out HO_8.out (by decide))); have n3_ := am (below_weaken (kB1 HB (IsS72.ge HI0.out)) HL.out hb); have n4_ := am (KeepBut.trans (kH HK) (KeepBut.of_grown hg g) (Kd.R_base2 HO_8.out)); have n5_ := am (ho); clear HO_3 HO_7 HI0 HB HK HO_8; have HO_3 := n0_; have HO_7 := n1_; have HI0 := n2_; have HB := n3_; have HK := n4_; have HO228 := n5_; clear n0_ n1_ n2_ n3_ n4_ n5_; clear ho hb hg hat))
             go_roundg k2
             case measure => have := HK1.out; have := HK2.out; omega
             case rel => exact ⟨(y226), (wrap64 (x58_2 + 1)), (by first | rfl | (simp; done) | (simp [*]; done)), H', ⟨by have := HK1.out; have := HK2.out; omega⟩, ⟨by (with_reducible repeat (first | apply Kd.R_alloc | apply Kd.R_drewN | apply Kd.R_drew)); exact Kd.R_mono HO_3.out (fun _ hk => hk.2)⟩, ⟨kR HO_7⟩, ⟨kR HO228⟩, ⟨kI HI0⟩, ⟨kH HK⟩, ⟨kB1 HB (IsS72.ge HI0.out)⟩⟩
            ·rw [if_neg c51] at H
             exact absurd H (by simp)
           ·rw [if_neg c50] at H
            exact absurd H (by simp)
          ·rw [if_neg c49] at H
           exact absurd H (by simp)
         ·rw [if_neg c48] at H
          exact absurd H (by simp)
        ·rw [if_neg c47] at H
         exact absurd H (by simp)
       ·rw [if_neg c46] at H
        have c46b0 : decide (x58_2 < (t216.length : Int)) = false := decide_eq_false c46
        clear c46
        simp only [Option.some.injEq, Prod.mk.injEq] at H
        obtain ⟨rfl, rfl, rfl⟩ := H
        go_wp2
        go_ret
        exact ⟨_, by first | rfl | (simp [errW_none, errW_some] <;> rfl) | (simp [*, errW_none, errW_some] <;> rfl), by (with_reducible repeat (first | apply Kd.R_alloc | apply Kd.R_drewN | apply Kd.R_drew)); exact Kd.R_mono HO_8.out (fun _ hk => trivial), kI HI0, kB1 HB (IsS72.ge HI0.out), kH HK⟩
    ·rw [if_neg c38] at H
     have c38b0 : (t213 == 0) = false := beq_eq_false_iff_ne.mpr c38
     have c38b1 : (t213 != 0) = true := bne_iff_ne.mpr c38
     simp only [Option.some.injEq, Prod.mk.injEq] at H
     obtain ⟨rfl, rfl, rfl⟩ := H
     go_wp2_with (first | ((with_reducible refine gate_callee (f := 56) rfl ?_); refine goesL_ (some 49) rfl rfl Try.func56 (by kernel_rfl) rfl #[.pointer (some ⟨g, 0, none⟩), .int .i64 2] rfl kA ?_; (with_reducible refine (spec_l01Next.calls g s0_0 x1001_1 x1002_1 2 t213 t214 t215 w0 _ ?side1 ?side2 A37.out).mono ?_); (case side1 => exact kI HI0); (case side2 => exact kB1 HB (IsS72.ge HI0.out)); rintro e w53 ⟨rfl, hi, hb, hk⟩; refine ⟨_, rfl, ?_⟩; have n0_ := am (Kd.R_mono (Kd.R_keep (IsS72.apart (show IsS72 w0 _ g s0_0 x1001_1 x1002_1 from kI HI0) (kR HO_3) (by decide)) hk (fun _ h => h.2)) (fun _ h => h.1)); have n1_ := am (KeepBut.trans (kH HK) hk (.inl rfl)); have n2_ := am (hb); have n3_ := am (hi); clear HO_3 HK HB HI0; have HO_3 := n0_; have HK := n1_; have HB := n2_; have HI0 := n3_; clear n0_ n1_ n2_ n3_; (try clear hb); (try clear hb2); (try clear hk); (try clear hi)))
     go_ret
     exact ⟨_, by first | rfl | (simp [errW_none, errW_some] <;> rfl) | (simp [*, errW_none, errW_some] <;> rfl), kR HO_3, kI HI0, kB1 HB (IsS72.ge HI0.out), kH HK⟩
end Go.Proofs.Ytdkhecebffjpjaa.X
