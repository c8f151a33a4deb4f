import Derived.Test.YtdkhecebffjpjaaU
import Derived.Test.YtdkhecebffjpjaaY0
import Derived.Test.YtdkhecebffjpjaaY8
import Derived.Test.YtdkhecebffjpjaaY9
import Derived.Test.YtdkhecebffjpjaaY10
import Derived.Test.YtdkhecebffjpjaaY11
namespace Go.Proofs.Ytdkhecebffjpjaa.X
open Go.RowKit Go.Proofs.YtdkhecebffjpjaaW.PrintWords Go.Proofs.YtdkhecebffjpjaaW.PrintLast Go.Proofs.YtdkhecebffjpjaaW.PrintMore
attribute [local go_sem] max2_int min2_int max_two min_two max_three min_three max_four min_four
set_option linter.unusedVariables false
set_option linter.unusedSimpArgs false
/-! ### spec_l05In: function 36 -/
def spec_l05In.l0 : Nat → List (S40) → Int → Int → Option (Int)
 | 0, _, _, _ => none
 | k + 1, x0, x1, x5 => if x5 < (x0.length : Int) then (if 0 ≤ x5 then (if ((rd_T40 x0 x5).f1) = 0 then (none) else (if (Int.tmod x1 ((rd_T40 x0 x5).f1)) = ((rd_T40 x0 x5).f0) then (some x5) else (spec_l05In.l0 k x0 x1 (wrap64 (x5 + 1))))) else (none)) else (some (-1))
def spec_l05In.f (k : Nat) (l0 : List (S40)) (a1 : Int) : Option (Int) := spec_l05In.l0 k l0 a1 0
theorem spec_l05In.mono_l : ∀ k, (∀ y0 y1 y2, LeO (spec_l05In.l0 k y0 y1 y2) (spec_l05In.l0 (k + 1) y0 y1 y2))
 | 0 => fun _ _ _ r h => by simp [spec_l05In.l0] at h
 | k + 1 => by
  have ih0 := spec_l05In.mono_l k
  ·intro y0 y1 y2
   unfold spec_l05In.l0
   repeat' first
   | with_reducible first | exact ih0 _ _ _ | exact LeO.refl _ | exact LeO.none _ | refine LeO.ite ?_ ?_ | refine LeO.bind ?_ (fun _ => ?_)
   | exact ih0 _ _ _
   | exact LeO.none _
   | refine LeO.ite ?_ ?_
   | refine LeO.bind ?_ (fun _ => ?_)
theorem spec_l05In.mono : ∀ a0 a1 k, LeO (spec_l05In.f k a0 a1) (spec_l05In.f (k + 1) a0 a1) := by
 intro a0 a1 k
 have ih0 := spec_l05In.mono_l k
 unfold spec_l05In.f
 repeat' first
   | with_reducible first | exact ih0 _ _ _ | exact LeO.refl _ | exact LeO.none _ | refine LeO.ite ?_ ?_ | refine LeO.bind ?_ (fun _ => ?_)
   | exact ih0 _ _ _
   | exact LeO.none _
   | refine LeO.ite ?_ ?_
   | refine LeO.bind ?_ (fun _ => ?_)
set_option maxHeartbeats 8000000 in
set_option maxRecDepth 100000 in
theorem spec_l05In.calls (k : Nat) (A0 : Option Addr) (c0 : Nat) (l0 : List (S40)) (a1 : Int) (r : Int) (w : World) (hr0 : Kd.C k40 w A0 l0.length l0) (hc0 : l0.length ≤ c0) (h : spec_l05In.f k l0 a1 = some r) :
  Calls Try.prog 36 #[.slice A0 l0.length c0, .int .i64 a1] w fun e w' => e = .returned (.int .i64 r) ∧ Drawn0 w w' := by
 have HR0 := am hr0
 have HC0 := am hc0
 clear hr0 hc0
 have H : (spec_l05In.l0 k l0 a1 0) = some r := h
 clear h
 have H' := am H
 clear H
 go_enter Try.func36, Try.ntmps36
 go_wp2
 repeat (go_quiet (fail); try go_wp2)
 go_loopg [5] k (fun kq v5 w' => ∃ (x5_1 : Int), v5 = .int .i64 x5_1 ∧ Aside0 (spec_l05In.l0 kq l0 a1 x5_1 = some r) ∧ Aside0 (kq ≤ k) ∧ Drawn0 w w')
 case atStart => exact ⟨(0), (by first | rfl | (simp; done) | (simp [*]; done)), H', ⟨Nat.le_refl _⟩, by repeat (first | exact Drawn0.refl _ | apply Drawn0.step)⟩
 case round =>
  clear H'
  obtain ⟨x5_1, rfl, HA, HK1, ⟨m1, rfl⟩⟩ := hrel
  cases gk with
  | zero => exact absurd HA.out (by simp [spec_l05In.l0])
  | succ k1 =>
   have H := HA.out
   clear HA
   simp only [spec_l05In.l0] at H
   by_cases c3 : x5_1 < (l0.length : Int)
   ·rw [if_pos c3] at H
    have c3b0 : decide (x5_1 < (l0.length : Int)) = true := decide_eq_true c3
    clear c3
    by_cases c4 : 0 ≤ x5_1
    ·rw [if_pos c4] at H
     have c4b0 : decide (0 ≤ x5_1) = true := decide_eq_true c4
     clear c4
     by_cases c5 : ((rd_T40 l0 x5_1).f1) = 0
     ·rw [if_pos c5] at H
      exact absurd H (by simp)
     ·rw [if_neg c5] at H
      have c5b0 : (((rd_T40 l0 x5_1).f1) == 0) = false := beq_eq_false_iff_ne.mpr c5
      have c5b1 : (((rd_T40 l0 x5_1).f1) != 0) = true := bne_iff_ne.mpr c5
      by_cases c6 : (Int.tmod a1 ((rd_T40 l0 x5_1).f1)) = ((rd_T40 l0 x5_1).f0)
      ·rw [if_pos c6] at H
       have c6b0 : ((Int.tmod a1 ((rd_T40 l0 x5_1).f1)) == ((rd_T40 l0 x5_1).f0)) = true := beq_iff_eq.mpr c6
       have c6b1 : ((Int.tmod a1 ((rd_T40 l0 x5_1).f1)) != ((rd_T40 l0 x5_1).f0)) = false := bne_eq_false_iff_eq.mpr c6
       clear c6
       obtain rfl := Option.some.inj H
       have p337 : 0 ≤ (x5_1 : Int) := of_decide_eq_true kM
       have q337 : x5_1 < (l0.length : Int) := of_decide_eq_true kM
       obtain ⟨ad337, e337, hx337_0, hx337_1⟩ := at_T40 HR0.out x5_1 p337 q337
       cases e337
       replace p337 := eq_true p337
       replace q337 := eq_true q337
       have p338 : 0 ≤ (x5_1 : Int) := of_decide_eq_true kM
       have q338 : x5_1 < (l0.length : Int) := of_decide_eq_true kM
       obtain ⟨ad338, e338, hx338_0, hx338_1⟩ := at_T40 HR0.out x5_1 p338 q338
       obtain rfl : ad337 = ad338 := (by injection e338)
       replace p338 := eq_true p338
       replace q338 := eq_true q338
       go_wp2
       repeat (go_quiet (fail); try go_wp2)
       go_ret
       exact ⟨by first | rfl | (simp; done) | (simp [*]; done), by repeat (first | exact Drawn0.refl _ | apply Drawn0.step)⟩
      ·rw [if_neg c6] at H
       have c6b0 : ((Int.tmod a1 ((rd_T40 l0 x5_1).f1)) == ((rd_T40 l0 x5_1).f0)) = false := beq_eq_false_iff_ne.mpr c6
       have c6b1 : ((Int.tmod a1 ((rd_T40 l0 x5_1).f1)) != ((rd_T40 l0 x5_1).f0)) = true := bne_iff_ne.mpr c6
       have H' := am H
       clear H
       have p337 : 0 ≤ (x5_1 : Int) := of_decide_eq_true kM
       have q337 : x5_1 < (l0.length : Int) := of_decide_eq_true kM
       obtain ⟨ad337, e337, hx337_0, hx337_1⟩ := at_T40 HR0.out x5_1 p337 q337
       cases e337
       replace p337 := eq_true p337
       replace q337 := eq_true q337
       have p338 : 0 ≤ (x5_1 : Int) := of_decide_eq_true kM
       have q338 : x5_1 < (l0.length : Int) := of_decide_eq_true kM
       obtain ⟨ad338, e338, hx338_0, hx338_1⟩ := at_T40 HR0.out x5_1 p338 q338
       obtain rfl : ad337 = ad338 := (by injection e338)
       replace p338 := eq_true p338
       replace q338 := eq_true q338
       go_wp2
       repeat (go_quiet (fail); try go_wp2)
       go_roundg k1
       case measure => have := HK1.out; omega
       case rel => exact ⟨(wrap64 (x5_1 + 1)), (by first | rfl | (simp; done) | (simp [*]; done)), H', ⟨by have := HK1.out; omega⟩, by repeat (first | exact Drawn0.refl _ | apply Drawn0.step)⟩
    ·rw [if_neg c4] at H
     exact absurd H (by simp)
   ·rw [if_neg c3] at H
    have c3b0 : decide (x5_1 < (l0.length : Int)) = false := decide_eq_false c3
    clear c3
    obtain rfl := Option.some.inj H
    go_wp2
    repeat (go_quiet (fail); try go_wp2)
    go_ret
    exact ⟨by first | rfl | (simp; done) | (simp [*]; done), by repeat (first | exact Drawn0.refl _ | apply Drawn0.step)⟩
/-! ### spec_TurnsOfClasses: function 7 -/
def spec_TurnsOfClasses.l0 : Nat → List (S40) → List Int → Int → Option (List Int × Int)
 | 0, _, _, _ => none
 | k + 1, x0, x4, x5 => (spec_l05Span.f k x0).bind fun t345 => (if x5 < t345 then ((spec_l05In.f k x0 x5).bind fun t346 => (if x4.length < 17592186044416 then (spec_TurnsOfClasses.l0 k x0 (x4 ++ [t346]) (wrap64 (x5 + 1))) else (none))) else (some (x4, 0)))
def spec_TurnsOfClasses.f (k : Nat) (l0 : List (S40)) : Option (List Int × Int) := (spec_l05Are.f k l0).bind fun t339 => (if t339 = true then ((spec_l05Apart.f k l0).bind fun t340 => (if t340 = true then ((spec_l05Span.f k l0).bind fun t341 => (if t341 > 120 then (some (([] : List Int), 3)) else (spec_TurnsOfClasses.l0 k l0 (([] : List Int)) 0))) else (some (([] : List Int), 5)))) else (some (([] : List Int), 1)))
theorem spec_TurnsOfClasses.mono_l : ∀ k, (∀ y0 y1 y2, LeO (spec_TurnsOfClasses.l0 k y0 y1 y2) (spec_TurnsOfClasses.l0 (k + 1) y0 y1 y2))
 | 0 => fun _ _ _ r h => by simp [spec_TurnsOfClasses.l0] at h
 | k + 1 => by
  have ih0 := spec_TurnsOfClasses.mono_l k
  ·intro y0 y1 y2
   unfold spec_TurnsOfClasses.l0
   repeat' first
   | with_reducible first | exact ih0 _ _ _ | exact spec_l05Apart.mono _ _ | exact spec_l05Are.mono _ _ | exact spec_l05In.mono _ _ _ | exact spec_l05Span.mono _ _ | exact LeO.refl _ | exact LeO.none _ | refine LeO.ite ?_ ?_ | refine LeO.bind ?_ (fun _ => ?_)
   | exact ih0 _ _ _
   | exact spec_l05Apart.mono _ _
   | exact spec_l05Are.mono _ _
   | exact spec_l05In.mono _ _ _
   | exact spec_l05Span.mono _ _
   | exact LeO.none _
   | refine LeO.ite ?_ ?_
   | refine LeO.bind ?_ (fun _ => ?_)
theorem spec_TurnsOfClasses.mono : ∀ a0 k, LeO (spec_TurnsOfClasses.f k a0) (spec_TurnsOfClasses.f (k + 1) a0) := by
 intro a0 k
 have ih0 := spec_TurnsOfClasses.mono_l k
 unfold spec_TurnsOfClasses.f
 repeat' first
   | with_reducible first | exact ih0 _ _ _ | exact spec_l05Apart.mono _ _ | exact spec_l05Are.mono _ _ | exact spec_l05In.mono _ _ _ | exact spec_l05Span.mono _ _ | exact LeO.refl _ | exact LeO.none _ | refine LeO.ite ?_ ?_ | refine LeO.bind ?_ (fun _ => ?_)
   | exact ih0 _ _ _
   | exact spec_l05Apart.mono _ _
   | exact spec_l05Are.mono _ _
   | exact spec_l05In.mono _ _ _
   | exact spec_l05Span.mono _ _
   | exact LeO.none _
   | refine LeO.ite ?_ ?_
   | refine LeO.bind ?_ (fun _ => ?_)
set_option maxHeartbeats 8000000 in
set_option maxRecDepth 100000 in
theorem spec_TurnsOfClasses.calls (k : Nat) (A0 : Option Addr) (c0 : Nat) (l0 : List (S40)) (r1 : List Int) (r2 : Int) (w : World) (hr0 : Kd.C k40 w A0 l0.length l0) (hc0 : l0.length ≤ c0) (h : spec_TurnsOfClasses.f k l0 = some (r1, r2)) :
  Calls Try.prog 7 #[.slice A0 l0.length c0] w fun e w' => ∃ v0_ : Value, e = .returned (.tuple #[v0_, .int .i64 r2]) ∧ Kd.R (Kd.int .i64) 2 w' w.heap.size (fun _ => True) v0_ r1 ∧ Below w.heap.size w w' := by
 have HR0 := am hr0
 have HC0 := am hc0
 clear hr0 hc0
 have HB := am (Below.refl w.heap.size w)
 have H : ((spec_l05Are.f k l0).bind fun t339 => (if t339 = true then ((spec_l05Apart.f k l0).bind fun t340 => (if t340 = true then ((spec_l05Span.f k l0).bind fun t341 => (if t341 > 120 then (some (([] : List Int), 3)) else (spec_TurnsOfClasses.l0 k l0 (([] : List Int)) 0))) else (some (([] : List Int), 5)))) else (some (([] : List Int), 1)))) = some (r1, r2) := h
 clear h
 replace H := Option.bind_eq_some_iff.mp H
 obtain ⟨t339, A20, H⟩ := H
 try dsimp only at H
 have A2 := am A20
 clear A20
 by_cases c3 : t339 = true
 ·subst c3
  rw [if_pos rfl] at H
  replace H := Option.bind_eq_some_iff.mp H
  obtain ⟨t340, A40, H⟩ := H
  try dsimp only at H
  have A4 := am A40
  clear A40
  by_cases c5 : t340 = true
  ·subst c5
   rw [if_pos rfl] at H
   replace H := Option.bind_eq_some_iff.mp H
   obtain ⟨t341, A60, H⟩ := H
   try dsimp only at H
   have A6 := am A60
   clear A60
   by_cases c7 : t341 > 120
   ·rw [if_pos c7] at H
    have c7b0 : decide (120 < t341) = true := decide_eq_true c7
    clear c7
    simp only [Option.some.injEq, Prod.mk.injEq] at H
    obtain ⟨rfl, rfl⟩ := H
    go_enter Try.func7, Try.ntmps7
    go_wp2_with (first | ((with_reducible refine gate_callee (f := 33) rfl ?_); refine goesL_ (some 8) rfl rfl Try.func33 (by kernel_rfl) rfl #[.slice A0 l0.length c0] rfl kA ?_; (with_reducible refine (spec_l05Are.calls k _ _ l0 true _ ?side1 ?side2 A2.out).mono ?_); (case side1 => exact kC HR0.out); (case side2 => exact HC0.out); rintro e w' ⟨rfl, ⟨nd, rfl⟩⟩; refine ⟨_, rfl, ?_⟩) | ((with_reducible refine gate_callee (f := 34) rfl ?_); refine goesL_ (some 12) rfl rfl Try.func34 (by kernel_rfl) rfl #[.slice A0 l0.length c0] rfl kA ?_; (with_reducible refine (spec_l05Apart.calls k _ _ l0 true _ ?side1 ?side2 A4.out).mono ?_); (case side1 => exact kC HR0.out); (case side2 => exact HC0.out); rintro e w8 ⟨rfl, hb⟩; refine ⟨_, rfl, ?_⟩; have n0_ := am (below_step (kB HB) hb); clear HB; have HB := n0_; clear n0_; (try clear hb); (try clear hb2); (try clear hk); (try clear hi)) | ((with_reducible refine gate_callee (f := 35) rfl ?_); refine goesL_ (some 16) rfl rfl Try.func35 (by kernel_rfl) rfl #[.slice A0 l0.length c0] rfl kA ?_; (with_reducible refine (spec_l05Span.calls k _ _ l0 t341 _ ?side1 ?side2 A6.out).mono ?_); (case side1 => exact kC (Kd.C_below HR0.out HB.out)); (case side2 => exact HC0.out); rintro e w' ⟨rfl, ⟨nd, rfl⟩⟩; refine ⟨_, rfl, ?_⟩))
    go_ret2
    exact ⟨_, by first | rfl | (simp [errW_none, errW_some] <;> rfl) | (simp [*, errW_none, errW_some] <;> rfl), by first | exact Kd.R_nil _ _ _ _ _ | exact Kd.N_nil _ _ _ _ _ | exact Kd.V_nil _ _ _ _ _ | exact Kd.Q_nil _ _ _ _ _ | exact Kd.S_nil _ _ _ _ _, kB HB⟩
   ·rw [if_neg c7] at H
    have c7b0 : decide (120 < t341) = false := decide_eq_false c7
    clear c7
    obtain ⟨y342, hy342⟩ : ∃ y_ : List Int, y_ = (([] : List Int)) := ⟨_, rfl⟩
    replace H : (spec_TurnsOfClasses.l0 k l0 y342 0) = some (r1, r2) := by first | (rw [hy342]; with_reducible exact H) | (have H2_ := (Option.bind_some _ _).symm.trans H; rw [hy342]; with_reducible exact H2_) | (have H2_ := (Option.bind_some _ _).symm.trans H; with_reducible exact H2_) | with_reducible exact H | (rw [hy342]; exact H) | exact H
    have Ny342 := am hy342
    clear hy342
    have H' := am H
    clear H
    go_enter Try.func7, Try.ntmps7
    go_wp2_with (first | ((with_reducible refine gate_callee (f := 33) rfl ?_); refine goesL_ (some 8) rfl rfl Try.func33 (by kernel_rfl) rfl #[.slice A0 l0.length c0] rfl kA ?_; (with_reducible refine (spec_l05Are.calls k _ _ l0 true _ ?side1 ?side2 A2.out).mono ?_); (case side1 => exact kC HR0.out); (case side2 => exact HC0.out); rintro e w' ⟨rfl, ⟨nd, rfl⟩⟩; refine ⟨_, rfl, ?_⟩) | ((with_reducible refine gate_callee (f := 34) rfl ?_); refine goesL_ (some 12) rfl rfl Try.func34 (by kernel_rfl) rfl #[.slice A0 l0.length c0] rfl kA ?_; (with_reducible refine (spec_l05Apart.calls k _ _ l0 true _ ?side1 ?side2 A4.out).mono ?_); (case side1 => exact kC HR0.out); (case side2 => exact HC0.out); rintro e w9 ⟨rfl, hb⟩; refine ⟨_, rfl, ?_⟩; have n0_ := am (below_step (kB HB) hb); clear HB; have HB := n0_; clear n0_; (try clear hb); (try clear hb2); (try clear hk); (try clear hi)) | ((with_reducible refine gate_callee (f := 35) rfl ?_); refine goesL_ (some 16) rfl rfl Try.func35 (by kernel_rfl) rfl #[.slice A0 l0.length c0] rfl kA ?_; (with_reducible refine (spec_l05Span.calls k _ _ l0 t341 _ ?side1 ?side2 A6.out).mono ?_); (case side1 => exact kC (Kd.C_below HR0.out HB.out)); (case side2 => exact HC0.out); rintro e w' ⟨rfl, ⟨nd, rfl⟩⟩; refine ⟨_, rfl, ?_⟩) | ((with_reducible refine gate_dst (N := 18) rfl ?_); refine Kd.R_lit (Kd.int .i64) _ 2 ?hg (N := 18) ?hd (xs := ([] : List Int)) (inner := []) (ok := fun _ => True) (okp := fun _ => True) ?hr ?hp (fun _ hk => hk) trivial (Below.refl _ _) (Nat.le_refl _) (by simp) ?_; (case hd => rfl); (case hg => rfl); (case hr => first | (go_simp; done) | (go_simp; rfl)); (case hp => exact (Reps.none _ _)); intro v343 w10 ho11 hb hg_ hnew_; clear hg_ hnew_; (first | rw [← Ny342.out] at ho11 | (simp only [Int.reduceToNat] at ho11; rw [← Ny342.out] at ho11)); have n0_ := am (Kd.R_lower ho11 (below_size (kB HB))); have n1_ := am (below_step (kB HB) hb); clear HB; have HO344 := n0_; have HB := n1_; clear n0_ n1_; clear hb ho11))
    go_loopg [4, 5] k (fun kq v4 v5 w' => ∃ (x4_1 : List Int) (x5_1 : Int), v5 = .int .i64 x5_1 ∧ Aside0 (spec_TurnsOfClasses.l0 kq l0 x4_1 x5_1 = some (r1, r2)) ∧ Aside0 (kq ≤ k) ∧ Aside0 (Kd.R (Kd.int .i64) 2 w' w.heap.size (fun _ => True) v4 x4_1) ∧ Aside0 (Below w.heap.size w w'))
    case atStart => exact ⟨(y342), (0), (by first | rfl | (simp; done) | (simp [*]; done)), H', ⟨Nat.le_refl _⟩, ⟨kR HO344⟩, ⟨kB HB⟩⟩
    case round =>
     clear H'
     try clear c3
     try clear c5
     try clear c7
     try clear c7b0
     obtain ⟨x4_1, x5_1, rfl, HA, HK1, HO_4, HB⟩ := hrel
     cases gk with
     | zero => exact absurd HA.out (by simp [spec_TurnsOfClasses.l0])
     | succ k1 =>
      have H := HA.out
      clear HA
      simp only [spec_TurnsOfClasses.l0] at H
      replace H := Option.bind_eq_some_iff.mp H
      obtain ⟨t345, A120, H⟩ := H
      try dsimp only at H
      have A12 := am A120
      clear A120
      by_cases c13 : x5_1 < t345
      ·rw [if_pos c13] at H
       have c13b0 : decide (x5_1 < t345) = true := decide_eq_true c13
       clear c13
       replace H := Option.bind_eq_some_iff.mp H
       obtain ⟨t346, A140, H⟩ := H
       try dsimp only at H
       have A14 := am A140
       clear A140
       by_cases c15 : x4_1.length < 17592186044416
       ·rw [if_pos c15] at H
        have LMc15 := am c15
        clear c15
        obtain ⟨y347, hy347⟩ : ∃ y_ : List Int, y_ = (x4_1 ++ [t346]) := ⟨_, rfl⟩
        replace H : (spec_TurnsOfClasses.l0 k1 l0 y347 (wrap64 (x5_1 + 1))) = some (r1, r2) := by first | (rw [hy347]; with_reducible exact H) | (have H2_ := (Option.bind_some _ _).symm.trans H; rw [hy347]; with_reducible exact H2_) | (have H2_ := (Option.bind_some _ _).symm.trans H; with_reducible exact H2_) | with_reducible exact H | (rw [hy347]; exact H) | exact H
        have Ny347 := am hy347
        clear hy347
        have H' := am H
        clear H
        go_wp2_with (first | ((with_reducible refine gate_callee (f := 35) rfl ?_); refine goesL_ (some 21) rfl rfl Try.func35 (by kernel_rfl) rfl #[.slice A0 l0.length c0] rfl kA ?_; (with_reducible refine (spec_l05Span.calls k1 _ _ l0 t345 _ ?side1 ?side2 A12.out).mono ?_); (case side1 => exact kC (Kd.C_below HR0.out HB.out)); (case side2 => exact HC0.out); rintro e w' ⟨rfl, ⟨nd, rfl⟩⟩; refine ⟨_, rfl, ?_⟩) | ((with_reducible refine gate_callee (f := 36) rfl ?_); refine goesL_ (some 28) rfl rfl Try.func36 (by kernel_rfl) rfl #[.slice A0 l0.length c0, .int .i64 x5_1] rfl kA ?_; (with_reducible refine (spec_l05In.calls k1 _ _ l0 x5_1 t346 _ ?side1 ?side2 A14.out).mono ?_); (case side1 => exact kC (Kd.C_below HR0.out (kB HB))); (case side2 => exact HC0.out); rintro e w' ⟨rfl, ⟨nd, rfl⟩⟩; refine ⟨_, rfl, ?_⟩) | ((with_reducible refine gate_builtin (b := .append) (xs := #[.tmp 25, .tmp 29]) rfl ?_); at_builtin; refine Kd.R_append (Kd.int .i64) (w0 := w) w.heap.size rfl (.tmp 25) (.tmp 29) 26 2 (.int .i64 0) 8 rfl Try.underlying26 info2 rfl (by decide) (by omega) u4 x4_1 t346 [.int .i64 t346] (fun _ => True) (fun _ => False) rfl rfl ?aP (fun _ hk => hk.elim) ?aF ?aO ?aB ?aS ?aL ?_; (case aP => exact rfl); (case aB => exact (kB HB)); (case aF => exact (fun _ _ => trivial)); (case aO => exact (kR HO_4)); (case aS => exact (below_size (kB HB))); (case aL => have := LMc15.out; omega); intro v348 w16 ho hb hg hat; rw [← Ny347.out] at ho; have n0_ := am (hb); have n1_ := am (ho); clear HB HO_4; have HB := n0_; have HO349 := n1_; clear n0_ n1_; clear ho hb hg hat))
        go_roundg k1
        case measure => have := HK1.out; omega
        case rel => exact ⟨(y347), (wrap64 (x5_1 + 1)), (by first | rfl | (simp; done) | (simp [*]; done)), H', ⟨by have := HK1.out; omega⟩, ⟨kR HO349⟩, ⟨kB HB⟩⟩
       ·rw [if_neg c15] at H
        exact absurd H (by simp)
      ·rw [if_neg c13] at H
       have c13b0 : decide (x5_1 < t345) = false := decide_eq_false c13
       clear c13
       simp only [Option.some.injEq, Prod.mk.injEq] at H
       obtain ⟨rfl, rfl⟩ := H
       go_wp2_with (first | ((with_reducible refine gate_callee (f := 35) rfl ?_); refine goesL_ (some 21) rfl rfl Try.func35 (by kernel_rfl) rfl #[.slice A0 l0.length c0] rfl kA ?_; (with_reducible refine (spec_l05Span.calls k1 _ _ l0 t345 _ ?side1 ?side2 A12.out).mono ?_); (case side1 => exact kC (Kd.C_below HR0.out HB.out)); (case side2 => exact HC0.out); rintro e w' ⟨rfl, ⟨nd, rfl⟩⟩; refine ⟨_, rfl, ?_⟩))
       go_ret2
       exact ⟨_, by first | rfl | (simp [errW_none, errW_some] <;> rfl) | (simp [*, errW_none, errW_some] <;> rfl), kR HO_4, kB HB⟩
  ·replace c5 := Bool.eq_false_iff.mpr c5
   subst c5
   rw [if_neg (show ¬ (false = true) by decide)] at H
   simp only [Option.some.injEq, Prod.mk.injEq] at H
   obtain ⟨rfl, rfl⟩ := H
   go_enter Try.func7, Try.ntmps7
   go_wp2_with (first | ((with_reducible refine gate_callee (f := 33) rfl ?_); refine goesL_ (some 8) rfl rfl Try.func33 (by kernel_rfl) rfl #[.slice A0 l0.length c0] rfl kA ?_; (with_reducible refine (spec_l05Are.calls k _ _ l0 true _ ?side1 ?side2 A2.out).mono ?_); (case side1 => exact kC HR0.out); (case side2 => exact HC0.out); rintro e w' ⟨rfl, ⟨nd, rfl⟩⟩; refine ⟨_, rfl, ?_⟩) | ((with_reducible refine gate_callee (f := 34) rfl ?_); refine goesL_ (some 12) rfl rfl Try.func34 (by kernel_rfl) rfl #[.slice A0 l0.length c0] rfl kA ?_; (with_reducible refine (spec_l05Apart.calls k _ _ l0 false _ ?side1 ?side2 A4.out).mono ?_); (case side1 => exact kC HR0.out); (case side2 => exact HC0.out); rintro e w17 ⟨rfl, hb⟩; refine ⟨_, rfl, ?_⟩; have n0_ := am (below_step (kB HB) hb); clear HB; have HB := n0_; clear n0_; (try clear hb); (try clear hb2); (try clear hk); (try clear hi)))
   go_ret2
   exact ⟨_, by first | rfl | (simp [errW_none, errW_some] <;> rfl) | (simp [*, errW_none, errW_some] <;> rfl), by first | exact Kd.R_nil _ _ _ _ _ | exact Kd.N_nil _ _ _ _ _ | exact Kd.V_nil _ _ _ _ _ | exact Kd.Q_nil _ _ _ _ _ | exact Kd.S_nil _ _ _ _ _, kB HB⟩
 ·replace c3 := Bool.eq_false_iff.mpr c3
  subst c3
  rw [if_neg (show ¬ (false = true) by decide)] at H
  simp only [Option.some.injEq, Prod.mk.injEq] at H
  obtain ⟨rfl, rfl⟩ := H
  go_enter Try.func7, Try.ntmps7
  go_wp2_with (first | ((with_reducible refine gate_callee (f := 33) rfl ?_); refine goesL_ (some 8) rfl rfl Try.func33 (by kernel_rfl) rfl #[.slice A0 l0.length c0] rfl kA ?_; (with_reducible refine (spec_l05Are.calls k _ _ l0 false _ ?side1 ?side2 A2.out).mono ?_); (case side1 => exact kC HR0.out); (case side2 => exact HC0.out); rintro e w' ⟨rfl, ⟨nd, rfl⟩⟩; refine ⟨_, rfl, ?_⟩))
  go_ret2
  exact ⟨_, by first | rfl | (simp [errW_none, errW_some] <;> rfl) | (simp [*, errW_none, errW_some] <;> rfl), by first | exact Kd.R_nil _ _ _ _ _ | exact Kd.N_nil _ _ _ _ _ | exact Kd.V_nil _ _ _ _ _ | exact Kd.Q_nil _ _ _ _ _ | exact Kd.S_nil _ _ _ _ _, kB HB⟩
/-! ### impl_AreApart: function 8 -/
def impl_AreApart.f (k : Nat) (l0 : List (S40)) : Option (Bool × Int) := (impl_AreClasses.f l0).bind fun t350 => (if t350 = true then ((impl_areApart.f k l0).bind fun t351 => (some (t351, 0))) else (some (false, 1)))
theorem impl_AreApart.mono : ∀ a0 k, LeO (impl_AreApart.f k a0) (impl_AreApart.f (k + 1) a0) := by
 intro a0 k
 unfold impl_AreApart.f
 repeat' first
   | with_reducible first | exact impl_areApart.mono _ _ | exact LeO.refl _ | exact LeO.none _ | refine LeO.ite ?_ ?_ | refine LeO.bind ?_ (fun _ => ?_)
   | exact impl_areApart.mono _ _
   | exact LeO.none _
   | refine LeO.ite ?_ ?_
   | refine LeO.bind ?_ (fun _ => ?_)
set_option maxHeartbeats 8000000 in
set_option maxRecDepth 100000 in
theorem impl_AreApart.calls (k : Nat) (A0 : Option Addr) (c0 : Nat) (l0 : List (S40)) (r1 : Bool) (r2 : Int) (w : World) (hr0 : Kd.C k40 w A0 l0.length l0) (hc0 : l0.length ≤ c0) (h : impl_AreApart.f k l0 = some (r1, r2)) :
  Calls Try.prog 8 #[.slice A0 l0.length c0] w fun e w' => e = .returned (.tuple #[.bool r1, .int .i64 r2]) ∧ Below w.heap.size w w' := by
 have HR0 := am hr0
 have HC0 := am hc0
 clear hr0 hc0
 have HB := am (Below.refl w.heap.size w)
 have H : ((impl_AreClasses.f l0).bind fun t350 => (if t350 = true then ((impl_areApart.f k l0).bind fun t351 => (some (t351, 0))) else (some (false, 1)))) = some (r1, r2) := h
 clear h
 replace H := Option.bind_eq_some_iff.mp H
 obtain ⟨t350, A20, H⟩ := H
 try dsimp only at H
 have A2 := am A20
 clear A20
 by_cases c3 : t350 = true
 ·subst c3
  rw [if_pos rfl] at H
  replace H := Option.bind_eq_some_iff.mp H
  obtain ⟨t351, A40, H⟩ := H
  try dsimp only at H
  have A4 := am A40
  clear A40
  simp only [Option.some.injEq, Prod.mk.injEq] at H
  obtain ⟨rfl, rfl⟩ := H
  go_enter Try.func8, Try.ntmps8
  go_wp2_with (first | ((with_reducible refine gate_callee (f := 19) rfl ?_); refine goesL_ (some 5) rfl rfl Try.func19 (by kernel_rfl) rfl #[.slice A0 l0.length c0] rfl kA ?_; (with_reducible refine (impl_AreClasses.calls _ _ l0 true _ ?side1 ?side2 A2.out).mono ?_); (case side1 => exact kC HR0.out); (case side2 => exact HC0.out); rintro e w5 ⟨rfl, hb⟩; refine ⟨_, rfl, ?_⟩; have n0_ := am (below_step (kB HB) hb); clear HB; have HB := n0_; clear n0_; (try clear hb); (try clear hb2); (try clear hk); (try clear hi)) | ((with_reducible refine gate_callee (f := 29) rfl ?_); refine goesL_ (some 8) rfl rfl Try.func29 (by kernel_rfl) rfl #[.slice A0 l0.length c0] rfl kA ?_; (with_reducible refine (impl_areApart.calls k _ _ l0 t351 _ ?side1 ?side2 A4.out).mono ?_); (case side1 => exact kC (Kd.C_below HR0.out HB.out)); (case side2 => exact HC0.out); rintro e w6 ⟨rfl, hb⟩; refine ⟨_, rfl, ?_⟩; have n0_ := am (below_step (kB HB) hb); clear HB; have HB := n0_; clear n0_; (try clear hb); (try clear hb2); (try clear hk); (try clear hi)))
  go_ret2
  exact ⟨by first | rfl | (simp [errW_none, errW_some] <;> rfl) | (simp [*, errW_none, errW_some] <;> rfl), kB HB⟩
 ·replace c3 := Bool.eq_false_iff.mpr c3
  subst c3
  rw [if_neg (show ¬ (false = true) by decide)] at H
  simp only [Option.some.injEq, Prod.mk.injEq] at H
  obtain ⟨rfl, rfl⟩ := H
  go_enter Try.func8, Try.ntmps8
  go_wp2_with (first | ((with_reducible refine gate_callee (f := 19) rfl ?_); refine goesL_ (some 5) rfl rfl Try.func19 (by kernel_rfl) rfl #[.slice A0 l0.length c0] rfl kA ?_; (with_reducible refine (impl_AreClasses.calls _ _ l0 false _ ?side1 ?side2 A2.out).mono ?_); (case side1 => exact kC HR0.out); (case side2 => exact HC0.out); rintro e w7 ⟨rfl, hb⟩; refine ⟨_, rfl, ?_⟩; have n0_ := am (below_step (kB HB) hb); clear HB; have HB := n0_; clear n0_; (try clear hb); (try clear hb2); (try clear hk); (try clear hi)))
  go_ret2
  exact ⟨by first | rfl | (simp [errW_none, errW_some] <;> rfl) | (simp [*, errW_none, errW_some] <;> rfl), kB HB⟩
/-! ### spec_AreApart: function 9 -/
def spec_AreApart.f (k : Nat) (l0 : List (S40)) : Option (Bool × Int) := (spec_l05Are.f k l0).bind fun t352 => (if t352 = true then ((spec_l05Apart.f k l0).bind fun t353 => (some (t353, 0))) else (some (false, 1)))
theorem spec_AreApart.mono : ∀ a0 k, LeO (spec_AreApart.f k a0) (spec_AreApart.f (k + 1) a0) := by
 intro a0 k
 unfold spec_AreApart.f
 repeat' first
   | with_reducible first | exact spec_l05Apart.mono _ _ | exact spec_l05Are.mono _ _ | exact LeO.refl _ | exact LeO.none _ | refine LeO.ite ?_ ?_ | refine LeO.bind ?_ (fun _ => ?_)
   | exact spec_l05Apart.mono _ _
   | exact spec_l05Are.mono _ _
   | exact LeO.none _
   | refine LeO.ite ?_ ?_
   | refine LeO.bind ?_ (fun _ => ?_)
set_option maxHeartbeats 8000000 in
set_option maxRecDepth 100000 in
theorem spec_AreApart.calls (k : Nat) (A0 : Option Addr) (c0 : Nat) (l0 : List (S40)) (r1 : Bool) (r2 : Int) (w : World) (hr0 : Kd.C k40 w A0 l0.length l0) (hc0 : l0.length ≤ c0) (h : spec_AreApart.f k l0 = some (r1, r2)) :
  Calls Try.prog 9 #[.slice A0 l0.length c0] w fun e w' => e = .returned (.tuple #[.bool r1, .int .i64 r2]) ∧ Below w.heap.size w w' := by
 have HR0 := am hr0
 have HC0 := am hc0
 clear hr0 hc0
 have HB := am (Below.refl w.heap.size w)
 have H : ((spec_l05Are.f k l0).bind fun t352 => (if t352 = true then ((spec_l05Apart.f k l0).bind fun t353 => (some (t353, 0))) else (some (false, 1)))) = some (r1, r2) := h
 clear h
 replace H := Option.bind_eq_some_iff.mp H
 obtain ⟨t352, A20, H⟩ := H
 try dsimp only at H
 have A2 := am A20
 clear A20
 by_cases c3 : t352 = true
 ·subst c3
  rw [if_pos rfl] at H
  replace H := Option.bind_eq_some_iff.mp H
  obtain ⟨t353, A40, H⟩ := H
  try dsimp only at H
  have A4 := am A40
  clear A40
  simp only [Option.some.injEq, Prod.mk.injEq] at H
  obtain ⟨rfl, rfl⟩ := H
  go_enter Try.func9, Try.ntmps9
  go_wp2_with (first | ((with_reducible refine gate_callee (f := 33) rfl ?_); refine goesL_ (some 5) rfl rfl Try.func33 (by kernel_rfl) rfl #[.slice A0 l0.length c0] rfl kA ?_; (with_reducible refine (spec_l05Are.calls k _ _ l0 true _ ?side1 ?side2 A2.out).mono ?_); (case side1 => exact kC HR0.out); (case side2 => exact HC0.out); rintro e w' ⟨rfl, ⟨nd, rfl⟩⟩; refine ⟨_, rfl, ?_⟩) | ((with_reducible refine gate_callee (f := 34) rfl ?_); refine goesL_ (some 8) rfl rfl Try.func34 (by kernel_rfl) rfl #[.slice A0 l0.length c0] rfl kA ?_; (with_reducible refine (spec_l05Apart.calls k _ _ l0 t353 _ ?side1 ?side2 A4.out).mono ?_); (case side1 => exact kC HR0.out); (case side2 => exact HC0.out); rintro e w5 ⟨rfl, hb⟩; refine ⟨_, rfl, ?_⟩; have n0_ := am (below_step (kB HB) hb); clear HB; have HB := n0_; clear n0_; (try clear hb); (try clear hb2); (try clear hk); (try clear hi)))
  go_ret2
  exact ⟨by first | rfl | (simp [errW_none, errW_some] <;> rfl) | (simp [*, errW_none, errW_some] <;> rfl), kB HB⟩
 ·replace c3 := Bool.eq_false_iff.mpr c3
  subst c3
  rw [if_neg (show ¬ (false = true) by decide)] at H
  simp only [Option.some.injEq, Prod.mk.injEq] at H
  obtain ⟨rfl, rfl⟩ := H
  go_enter Try.func9, Try.ntmps9
  go_wp2_with (first | ((with_reducible refine gate_callee (f := 33) rfl ?_); refine goesL_ (some 5) rfl rfl Try.func33 (by kernel_rfl) rfl #[.slice A0 l0.length c0] rfl kA ?_; (with_reducible refine (spec_l05Are.calls k _ _ l0 false _ ?side1 ?side2 A2.out).mono ?_); (case side1 => exact kC HR0.out); (case side2 => exact HC0.out); rintro e w' ⟨rfl, ⟨nd, rfl⟩⟩; refine ⟨_, rfl, ?_⟩))
  go_ret2
  exact ⟨by first | rfl | (simp [errW_none, errW_some] <;> rfl) | (simp [*, errW_none, errW_some] <;> rfl), kB HB⟩
/-! ### impl_Tasks_density: function 68 -/
def impl_Tasks_density.l0 : Nat → Int → Int → List Int → Int → Int → Option (Int × Int)
 | 0, _, _, _, _, _ => none
 | k + 1, x4, x5, x12, x13, x14 => if x14 < x13 then (if 0 ≤ x14 then (if x14 < (x12.length : Int) then (if (rd x12 x14) = 0 then (none) else (impl_Tasks_density.l0 k x4 (wrap64 (x5 + (wrap64 (Int.tdiv x4 (rd x12 x14))))) x12 x13 (wrap64 (x14 + 1)))) else (none)) else (none)) else ((impl_divisor.f k x5 x4).bind fun t357 => (if t357 = 0 then (none) else (some (wrap64 (Int.tdiv x5 t357), wrap64 (Int.tdiv x4 t357)))))
def impl_Tasks_density.f (k : Nat) (l0_0 : List Int) : Option (Int × Int) := (impl_Tasks_multiple.f k l0_0).bind fun t355 => (impl_Tasks_density.l0 k t355 0 l0_0 (l0_0.length : Int) 0)
theorem impl_Tasks_density.mono_l : ∀ k, (∀ y0 y1 y2 y3 y4, LeO (impl_Tasks_density.l0 k y0 y1 y2 y3 y4) (impl_Tasks_density.l0 (k + 1) y0 y1 y2 y3 y4))
 | 0 => fun _ _ _ _ _ r h => by simp [impl_Tasks_density.l0] at h
 | k + 1 => by
  have ih0 := impl_Tasks_density.mono_l k
  ·intro y0 y1 y2 y3 y4
   unfold impl_Tasks_density.l0
   repeat' first
   | with_reducible first | exact ih0 _ _ _ _ _ | exact impl_Tasks_multiple.mono _ _ | exact impl_divisor.mono _ _ _ | exact LeO.refl _ | exact LeO.none _ | refine LeO.ite ?_ ?_ | refine LeO.bind ?_ (fun _ => ?_)
   | exact ih0 _ _ _ _ _
   | exact impl_Tasks_multiple.mono _ _
   | exact impl_divisor.mono _ _ _
   | exact LeO.none _
   | refine LeO.ite ?_ ?_
   | refine LeO.bind ?_ (fun _ => ?_)
theorem impl_Tasks_density.mono : ∀ a0 k, LeO (impl_Tasks_density.f k a0) (impl_Tasks_density.f (k + 1) a0) := by
 intro a0 k
 have ih0 := impl_Tasks_density.mono_l k
 unfold impl_Tasks_density.f
 repeat' first
   | with_reducible first | exact ih0 _ _ _ _ _ | exact impl_Tasks_multiple.mono _ _ | exact impl_divisor.mono _ _ _ | exact LeO.refl _ | exact LeO.none _ | refine LeO.ite ?_ ?_ | refine LeO.bind ?_ (fun _ => ?_)
   | exact ih0 _ _ _ _ _
   | exact impl_Tasks_multiple.mono _ _
   | exact impl_divisor.mono _ _ _
   | exact LeO.none _
   | refine LeO.ite ?_ ?_
   | refine LeO.bind ?_ (fun _ => ?_)
set_option maxHeartbeats 8000000 in
set_option maxRecDepth 100000 in
theorem impl_Tasks_density.calls (k : Nat) (A0_0 : Option Addr) (c0_0 : Nat) (l0_0 : List Int) (r1 : Int) (r2 : Int) (w : World) (hr0_0 : Kd.C (Kd.int .i64) w A0_0 l0_0.length l0_0) (hc0_0 : l0_0.length ≤ c0_0) (h : impl_Tasks_density.f k l0_0 = some (r1, r2)) :
  Calls Try.prog 68 #[.agg #[.slice A0_0 l0_0.length c0_0]] w fun e w' => e = .returned (.tuple #[.int .i64 r1, .int .i64 r2]) ∧ Below w.heap.size w w' := by
 have hu43 := Try.underlying43
 have HR0_0 := am hr0_0
 have HC0_0 := am hc0_0
 clear hr0_0 hc0_0
 have HB := am (Below.refl w.heap.size w)
 have H : ((impl_Tasks_multiple.f k l0_0).bind fun t355 => (impl_Tasks_density.l0 k t355 0 l0_0 (l0_0.length : Int) 0)) = some (r1, r2) := h
 clear h
 replace H := Option.bind_eq_some_iff.mp H
 obtain ⟨t355, A20, H⟩ := H
 try dsimp only at H
 have A2 := am A20
 clear A20
 have H' := am H
 clear H
 go_enter Try.func68, Try.ntmps68
 go_wp2_with (first | ((with_reducible refine gate_dst (N := 1) rfl ?_); refine box_event ?hg (N := 1) ?hd (cs := #[.slice A0_0 l0_0.length c0_0]) (t := 43) ?hr ?_; (case hd => rfl); (case hg => rfl); (case hr => first | (go_simp; done) | (go_simp; rfl)); intro gb354 hg w3 hbox hb; have n0_ := am (below_step (kB HB) hb); have n1_ := am (hbox); have n2_ := am ((by rw [hg]; exact (below_size (kB HB)) : w.heap.size ≤ gb354)); have n3_ := am ((by rw [hg]; exact (below_size (kB HB)) : w.heap.size ≤ gb354)); clear HB; have HB := n0_; have BK354 := n1_; have GW354 := n2_; have GE354 := n3_; clear n0_ n1_ n2_ n3_ hb hbox hg; have hcz4_0 : w3.cell? ⟨gb354, 0, none⟩ = some (.slice A0_0 l0_0.length c0_0) := (blk_cell BK354.out 0).trans rfl; have hfz4_0 := blk_frozen BK354.out 0) | (go_at_call 28; (with_reducible refine (impl_Tasks_multiple.calls k _ _ l0_0 t355 _ ?side1 ?side2 A2.out).mono ?_); (case side1 => exact kC (Kd.C_below HR0_0.out HB.out)); (case side2 => exact HC0_0.out); rintro e w5 ⟨rfl, hb⟩; have n0_ := am (blk_below (g := gb354) (o := .cells #[.slice A0_0 l0_0.length c0_0] 43 (0, 0)) (kK BK354) hb); have n1_ := am (below_step (kB1 HB GE354.out) hb); clear BK354 HB; have BK354 := n0_; have HB := n1_; clear n0_ n1_; (try clear hb); (try clear hb2); (try clear hk); (try clear hi); have hcz6_0 : w5.cell? ⟨gb354, 0, none⟩ = some (.slice A0_0 l0_0.length c0_0) := (blk_cell BK354.out 0).trans rfl; have hfz6_0 := blk_frozen BK354.out 0))
 repeat (go_quiet (first | ((with_reducible refine gate_dst (N := 1) rfl ?_); refine box_event ?hg (N := 1) ?hd (cs := #[.slice A0_0 l0_0.length c0_0]) (t := 43) ?hr ?_; (case hd => rfl); (case hg => rfl); (case hr => first | (go_simp; done) | (go_simp; rfl)); intro gb354 hg w3 hbox hb; have n0_ := am (below_step (kB HB) hb); have n1_ := am (hbox); have n2_ := am ((by rw [hg]; exact (below_size (kB HB)) : w.heap.size ≤ gb354)); have n3_ := am ((by rw [hg]; exact (below_size (kB HB)) : w.heap.size ≤ gb354)); clear HB; have HB := n0_; have BK354 := n1_; have GW354 := n2_; have GE354 := n3_; clear n0_ n1_ n2_ n3_ hb hbox hg; have hcz4_0 : w3.cell? ⟨gb354, 0, none⟩ = some (.slice A0_0 l0_0.length c0_0) := (blk_cell BK354.out 0).trans rfl; have hfz4_0 := blk_frozen BK354.out 0) | (go_at_call 28; (try simp only [i64_w]); (with_reducible refine (impl_Tasks_multiple.calls k _ _ l0_0 t355 _ ?side1 ?side2 A2.out).mono ?_); (case side1 => exact kC (Kd.C_below HR0_0.out HB.out)); (case side2 => exact HC0_0.out); rintro e w5 ⟨rfl, hb⟩; have n0_ := am (blk_below (g := gb354) (o := .cells #[.slice A0_0 l0_0.length c0_0] 43 (0, 0)) (kK BK354) hb); have n1_ := am (below_step (kB1 HB GE354.out) hb); clear BK354 HB; have BK354 := n0_; have HB := n1_; clear n0_ n1_; (try clear hb); (try clear hb2); (try clear hk); (try clear hi); have hcz6_0 : w5.cell? ⟨gb354, 0, none⟩ = some (.slice A0_0 l0_0.length c0_0) := (blk_cell BK354.out 0).trans rfl; have hfz6_0 := blk_frozen BK354.out 0)); try go_wp2_with (first | ((with_reducible refine gate_dst (N := 1) rfl ?_); refine box_event ?hg (N := 1) ?hd (cs := #[.slice A0_0 l0_0.length c0_0]) (t := 43) ?hr ?_; (case hd => rfl); (case hg => rfl); (case hr => first | (go_simp; done) | (go_simp; rfl)); intro gb354 hg w3 hbox hb; have n0_ := am (below_step (kB HB) hb); have n1_ := am (hbox); have n2_ := am ((by rw [hg]; exact (below_size (kB HB)) : w.heap.size ≤ gb354)); have n3_ := am ((by rw [hg]; exact (below_size (kB HB)) : w.heap.size ≤ gb354)); clear HB; have HB := n0_; have BK354 := n1_; have GW354 := n2_; have GE354 := n3_; clear n0_ n1_ n2_ n3_ hb hbox hg; have hcz4_0 : w3.cell? ⟨gb354, 0, none⟩ = some (.slice A0_0 l0_0.length c0_0) := (blk_cell BK354.out 0).trans rfl; have hfz4_0 := blk_frozen BK354.out 0) | (go_at_call 28; (try simp only [i64_w]); (with_reducible refine (impl_Tasks_multiple.calls k _ _ l0_0 t355 _ ?side1 ?side2 A2.out).mono ?_); (case side1 => exact kC (Kd.C_below HR0_0.out HB.out)); (case side2 => exact HC0_0.out); rintro e w5 ⟨rfl, hb⟩; have n0_ := am (blk_below (g := gb354) (o := .cells #[.slice A0_0 l0_0.length c0_0] 43 (0, 0)) (kK BK354) hb); have n1_ := am (below_step (kB1 HB GE354.out) hb); clear BK354 HB; have BK354 := n0_; have HB := n1_; clear n0_ n1_; (try clear hb); (try clear hb2); (try clear hk); (try clear hi); have hcz6_0 : w5.cell? ⟨gb354, 0, none⟩ = some (.slice A0_0 l0_0.length c0_0) := (blk_cell BK354.out 0).trans rfl; have hfz6_0 := blk_frozen BK354.out 0)))
 go_loopg [5, 14] k (fun kq v5 v14 w' => ∃ (x5_1 : Int) (x14_1 : Int), v5 = .int .i64 x5_1 ∧ v14 = .int .i64 x14_1 ∧ Aside0 (impl_Tasks_density.l0 kq t355 x5_1 l0_0 (l0_0.length : Int) x14_1 = some (r1, r2)) ∧ Aside0 (kq ≤ k) ∧ Aside0 (w'.heap[gb354]? = some (.cells #[(.slice A0_0 l0_0.length c0_0)] 43 (0, 0))) ∧ Aside0 (Below w.heap.size w w'))
 case atStart => exact ⟨(0), (0), (by first | rfl | (simp; done) | (simp [*]; done)), (by first | rfl | (simp; done) | (simp [*]; done)), H', ⟨Nat.le_refl _⟩, ⟨kK BK354⟩, ⟨kB1 HB GE354.out⟩⟩
 case round =>
  clear H'
  try clear hcz4_0
  try clear hcz6_0
  try clear hfz4_0
  try clear hfz6_0
  obtain ⟨x5_1, x14_1, rfl, rfl, HA, HK1, BK354, HB⟩ := hrel
  cases gk with
  | zero => exact absurd HA.out (by simp [impl_Tasks_density.l0])
  | succ k1 =>
   have H := HA.out
   clear HA
   simp only [impl_Tasks_density.l0] at H
   by_cases c7 : x14_1 < (l0_0.length : Int)
   ·rw [if_pos c7] at H
    have c7b0 : decide (x14_1 < (l0_0.length : Int)) = true := decide_eq_true c7
    clear c7
    by_cases c8 : 0 ≤ x14_1
    ·rw [if_pos c8] at H
     have c8b0 : decide (0 ≤ x14_1) = true := decide_eq_true c8
     clear c8
     by_cases c9 : x14_1 < (l0_0.length : Int)
     ·rw [if_pos c9] at H
      have c9b0 : decide (x14_1 < (l0_0.length : Int)) = true := decide_eq_true c9
      clear c9
      by_cases c10 : (rd l0_0 x14_1) = 0
      ·rw [if_pos c10] at H
       exact absurd H (by simp)
      ·rw [if_neg c10] at H
       have c10b0 : ((rd l0_0 x14_1) == 0) = false := beq_eq_false_iff_ne.mpr c10
       have c10b1 : ((rd l0_0 x14_1) != 0) = true := bne_iff_ne.mpr c10
       have H' := am H
       clear H
       have p356 : 0 ≤ (x14_1 : Int) := of_decide_eq_true kM
       have q356 : x14_1 < (l0_0.length : Int) := of_decide_eq_true kM
       obtain ⟨ad356, e356, hx356_0⟩ := Kd.at_int HR0_0.out x14_1 p356 q356
       cases e356
       replace hx356_0 := (HB.out.cell (World.block_lt_of_cell? w _ hx356_0)).trans hx356_0
       replace p356 := eq_true p356
       replace q356 := eq_true q356
       go_wp2
       repeat (go_quiet (fail); try go_wp2)
       go_roundg k1
       case measure => have := HK1.out; omega
       case rel => exact ⟨(wrap64 (x5_1 + (wrap64 (Int.tdiv t355 (rd l0_0 x14_1))))), (wrap64 (x14_1 + 1)), (by first | rfl | (simp; done) | (simp [*]; done)), (by first | rfl | (simp; done) | (simp [*]; done)), H', ⟨by have := HK1.out; omega⟩, ⟨kK BK354⟩, ⟨kB1 HB GE354.out⟩⟩
     ·rw [if_neg c9] at H
      exact absurd H (by simp)
    ·rw [if_neg c8] at H
     exact absurd H (by simp)
   ·rw [if_neg c7] at H
    have c7b0 : decide (x14_1 < (l0_0.length : Int)) = false := decide_eq_false c7
    clear c7
    replace H := Option.bind_eq_some_iff.mp H
    obtain ⟨t357, A110, H⟩ := H
    try dsimp only at H
    have A11 := am A110
    clear A110
    by_cases c12 : t357 = 0
    ·rw [if_pos c12] at H
     exact absurd H (by simp)
    ·rw [if_neg c12] at H
     have c12b0 : (t357 == 0) = false := beq_eq_false_iff_ne.mpr c12
     have c12b1 : (t357 != 0) = true := bne_iff_ne.mpr c12
     simp only [Option.some.injEq, Prod.mk.injEq] at H
     obtain ⟨rfl, rfl⟩ := H
     go_wp2_with (first | (go_at_call 64; (with_reducible refine (impl_divisor.calls k1 x5_1 t355 t357 _ A11.out).mono ?_); rintro e w' ⟨rfl, ⟨nd, rfl⟩⟩; (try first | exact ⟨rfl, _, World.drewN_drewN _ _ _⟩ | exact ⟨rfl, _, Eq.trans (World.drewN_drewN _ _ _) (congrArg (World.drewN _) (Nat.add_assoc _ _ _))⟩)))
     repeat (go_quiet (first | (go_at_call 64; (try simp only [i64_w]); (with_reducible refine (impl_divisor.calls k1 x5_1 t355 t357 _ A11.out).mono ?_); rintro e w' ⟨rfl, ⟨nd, rfl⟩⟩; (try first | exact ⟨rfl, _, World.drewN_drewN _ _ _⟩ | exact ⟨rfl, _, Eq.trans (World.drewN_drewN _ _ _) (congrArg (World.drewN _) (Nat.add_assoc _ _ _))⟩))); try go_wp2_with (first | (go_at_call 64; (try simp only [i64_w]); (with_reducible refine (impl_divisor.calls k1 x5_1 t355 t357 _ A11.out).mono ?_); rintro e w' ⟨rfl, ⟨nd, rfl⟩⟩; (try first | exact ⟨rfl, _, World.drewN_drewN _ _ _⟩ | exact ⟨rfl, _, Eq.trans (World.drewN_drewN _ _ _) (congrArg (World.drewN _) (Nat.add_assoc _ _ _))⟩))))
     go_ret2
     exact ⟨by first | rfl | (simp [errW_none, errW_some] <;> rfl) | (simp [*, errW_none, errW_some] <;> rfl), kB1 HB GE354.out⟩
end Go.Proofs.Ytdkhecebffjpjaa.X
