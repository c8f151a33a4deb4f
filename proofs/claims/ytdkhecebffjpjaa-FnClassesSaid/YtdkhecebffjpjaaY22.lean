import Derived.Test.YtdkhecebffjpjaaU
import Derived.Test.YtdkhecebffjpjaaY0
import Derived.Test.YtdkhecebffjpjaaY1
import Derived.Test.YtdkhecebffjpjaaY2
import Derived.Test.YtdkhecebffjpjaaY4
import Derived.Test.YtdkhecebffjpjaaY8
import Derived.Test.YtdkhecebffjpjaaY19
import Derived.Test.YtdkhecebffjpjaaY20
namespace Go.Proofs.Ytdkhecebffjpjaa.X
open Go.RowKit Go.Proofs.YtdkhecebffjpjaaW.PrintWords Go.Proofs.YtdkhecebffjpjaaW.PrintLast Go.Proofs.YtdkhecebffjpjaaW.PrintMore
attribute [local go_sem] max2_int min2_int max_two min_two max_three min_three max_four min_four
set_option linter.unusedVariables false
set_option linter.unusedSimpArgs false
attribute [local go_sem high] eqA40
/-! ### laws_classes5: function 22 -/
def laws_classes5.l0 : Nat → List (S40) → List (S40) → Int → Option (Bool)
 | 0, _, _, _ => none
 | k + 1, x0, x1, x5 => if x5 < (x0.length : Int) then (if 0 ≤ x5 then (if x5 < (x1.length : Int) then (if (!(((rd_T40 x0 x5).f0) == ((rd_T40 x1 x5).f0)) || (!(((rd_T40 x0 x5).f1) == ((rd_T40 x1 x5).f1)))) = true then (some false) else (laws_classes5.l0 k x0 x1 (wrap64 (x5 + 1)))) else (none)) else (none)) else (some true)
def laws_classes5.f (k : Nat) (l0 : List (S40)) (l1 : List (S40)) : Option (Bool) := if (l0.length : Int) = (l1.length : Int) then (laws_classes5.l0 k l0 l1 0) else (some false)
theorem laws_classes5.mono_l : ∀ k, (∀ y0 y1 y2, LeO (laws_classes5.l0 k y0 y1 y2) (laws_classes5.l0 (k + 1) y0 y1 y2))
 | 0 => fun _ _ _ r h => by simp [laws_classes5.l0] at h
 | k + 1 => by
  have ih0 := laws_classes5.mono_l k
  ·intro y0 y1 y2
   unfold laws_classes5.l0
   repeat' first
   | with_reducible first | exact ih0 _ _ _ | exact LeO.refl _ | exact LeO.none _ | refine LeO.ite ?_ ?_ | refine LeO.bind ?_ (fun _ => ?_)
   | exact ih0 _ _ _
   | exact LeO.none _
   | refine LeO.ite ?_ ?_
   | refine LeO.bind ?_ (fun _ => ?_)
theorem laws_classes5.mono : ∀ a0 a1 k, LeO (laws_classes5.f k a0 a1) (laws_classes5.f (k + 1) a0 a1) := by
 intro a0 a1 k
 have ih0 := laws_classes5.mono_l k
 unfold laws_classes5.f
 repeat' first
   | with_reducible first | exact ih0 _ _ _ | exact LeO.refl _ | exact LeO.none _ | refine LeO.ite ?_ ?_ | refine LeO.bind ?_ (fun _ => ?_)
   | exact ih0 _ _ _
   | exact LeO.none _
   | refine LeO.ite ?_ ?_
   | refine LeO.bind ?_ (fun _ => ?_)
set_option maxHeartbeats 8000000 in
set_option maxRecDepth 100000 in
theorem laws_classes5.calls (k : Nat) (A0 : Option Addr) (c0 : Nat) (l0 : List (S40)) (A1 : Option Addr) (c1 : Nat) (l1 : List (S40)) (r : Bool) (w : World) (hr0 : Kd.C k40 w A0 l0.length l0) (hc0 : l0.length ≤ c0) (hr1 : Kd.C k40 w A1 l1.length l1) (hc1 : l1.length ≤ c1) (h : laws_classes5.f k l0 l1 = some r) :
  Calls Try.prog 22 #[.slice A0 l0.length c0, .slice A1 l1.length c1] w fun e w' => e = .returned (.bool r) ∧ Drawn0 w w' := by
 have hu40 := Try.underlying40
 have HR0 := am hr0
 have HC0 := am hc0
 clear hr0 hc0
 have HR1 := am hr1
 have HC1 := am hc1
 clear hr1 hc1
 have H : (if (l0.length : Int) = (l1.length : Int) then (laws_classes5.l0 k l0 l1 0) else (some false)) = some r := h
 clear h
 by_cases c3 : (l0.length : Int) = (l1.length : Int)
 ·rw [if_pos c3] at H
  have c3b0 : ((l0.length : Int) == (l1.length : Int)) = true := beq_iff_eq.mpr c3
  have c3b1 : ((l0.length : Int) != (l1.length : Int)) = false := bne_eq_false_iff_eq.mpr c3
  have c3b2 : (l0.length == l1.length) = true := by first | simpa using c3 | (simp at c3 ⊢; omega)
  clear c3
  have H' := am H
  clear H
  go_enter Try.func22, Try.ntmps22
  go_wp2
  repeat (go_quiet (fail); try go_wp2)
  go_loopg [5] k (fun kq v5 w' => ∃ (x5_1 : Int), v5 = .int .i64 x5_1 ∧ Aside0 (laws_classes5.l0 kq l0 l1 x5_1 = some r) ∧ Aside0 (kq ≤ k) ∧ Drawn0 w w')
  case atStart => exact ⟨(0), (by first | rfl | (simp; done) | (simp [*]; done)), H', ⟨Nat.le_refl _⟩, by repeat (first | exact Drawn0.refl _ | apply Drawn0.step)⟩
  case round =>
   clear H'
   try clear c1
   try clear c3
   try clear c3b0
   try clear c3b1
   try clear c3b2
   obtain ⟨x5_1, rfl, HA, HK1, ⟨m1, rfl⟩⟩ := hrel
   cases gk with
   | zero => exact absurd HA.out (by simp [laws_classes5.l0])
   | succ k1 =>
    have H := HA.out
    clear HA
    simp only [laws_classes5.l0] at H
    by_cases c4 : x5_1 < (l0.length : Int)
    ·rw [if_pos c4] at H
     have c4b0 : decide (x5_1 < (l0.length : Int)) = true := decide_eq_true c4
     clear c4
     by_cases c5 : 0 ≤ x5_1
     ·rw [if_pos c5] at H
      have c5b0 : decide (0 ≤ x5_1) = true := decide_eq_true c5
      clear c5
      by_cases c6 : x5_1 < (l1.length : Int)
      ·rw [if_pos c6] at H
       have c6b0 : decide (x5_1 < (l1.length : Int)) = true := decide_eq_true c6
       clear c6
       by_cases c7 : (!(((rd_T40 l0 x5_1).f0) == ((rd_T40 l1 x5_1).f0)) || (!(((rd_T40 l0 x5_1).f1) == ((rd_T40 l1 x5_1).f1)))) = true
       ·rw [if_pos c7] at H
        have c7b0 : (!(((rd_T40 l0 x5_1).f0) == ((rd_T40 l1 x5_1).f0)) || (!(((rd_T40 l0 x5_1).f1) == ((rd_T40 l1 x5_1).f1)))) = true := c7
        clear c7
        obtain rfl := Option.some.inj H
        have p469 : 0 ≤ (x5_1 : Int) := of_decide_eq_true kM
        have q469 : x5_1 < (l0.length : Int) := of_decide_eq_true kM
        obtain ⟨ad469, e469, hx469_0, hx469_1⟩ := at_T40 HR0.out x5_1 p469 q469
        cases e469
        replace p469 := eq_true p469
        replace q469 := eq_true q469
        have p470 : 0 ≤ (x5_1 : Int) := of_decide_eq_true kM
        have q470 : x5_1 < (l1.length : Int) := of_decide_eq_true kM
        obtain ⟨ad470, e470, hx470_0, hx470_1⟩ := at_T40 HR1.out x5_1 p470 q470
        cases e470
        replace p470 := eq_true p470
        replace q470 := eq_true q470
        go_wp2
        repeat (go_quiet (fail); try go_wp2)
        go_ret
        exact ⟨by first | rfl | (simp; done) | (simp [*]; done), by repeat (first | exact Drawn0.refl _ | apply Drawn0.step)⟩
       ·rw [if_neg c7] at H
        have c7b0 : (!(((rd_T40 l0 x5_1).f0) == ((rd_T40 l1 x5_1).f0)) || (!(((rd_T40 l0 x5_1).f1) == ((rd_T40 l1 x5_1).f1)))) = false := by simpa using c7
        clear c7
        have H' := am H
        clear H
        have p469 : 0 ≤ (x5_1 : Int) := of_decide_eq_true kM
        have q469 : x5_1 < (l0.length : Int) := of_decide_eq_true kM
        obtain ⟨ad469, e469, hx469_0, hx469_1⟩ := at_T40 HR0.out x5_1 p469 q469
        cases e469
        replace p469 := eq_true p469
        replace q469 := eq_true q469
        have p470 : 0 ≤ (x5_1 : Int) := of_decide_eq_true kM
        have q470 : x5_1 < (l1.length : Int) := of_decide_eq_true kM
        obtain ⟨ad470, e470, hx470_0, hx470_1⟩ := at_T40 HR1.out x5_1 p470 q470
        cases e470
        replace p470 := eq_true p470
        replace q470 := eq_true q470
        go_wp2
        repeat (go_quiet (fail); try go_wp2)
        go_roundg k1
        case measure => have := HK1.out; omega
        case rel => exact ⟨(wrap64 (x5_1 + 1)), (by first | rfl | (simp; done) | (simp [*]; done)), H', ⟨by have := HK1.out; omega⟩, by repeat (first | exact Drawn0.refl _ | apply Drawn0.step)⟩
      ·rw [if_neg c6] at H
       exact absurd H (by simp)
     ·rw [if_neg c5] at H
      exact absurd H (by simp)
    ·rw [if_neg c4] at H
     have c4b0 : decide (x5_1 < (l0.length : Int)) = false := decide_eq_false c4
     clear c4
     obtain rfl := Option.some.inj H
     go_wp2
     repeat (go_quiet (fail); try go_wp2)
     go_ret
     exact ⟨by first | rfl | (simp; done) | (simp [*]; done), by repeat (first | exact Drawn0.refl _ | apply Drawn0.step)⟩
 ·rw [if_neg c3] at H
  have c3b0 : ((l0.length : Int) == (l1.length : Int)) = false := beq_eq_false_iff_ne.mpr c3
  have c3b1 : ((l0.length : Int) != (l1.length : Int)) = true := bne_iff_ne.mpr c3
  have c3b2 : (l0.length == l1.length) = false := by first | simpa using c3 | (simp at c3 ⊢; omega)
  obtain rfl := Option.some.inj H
  go_enter Try.func22, Try.ntmps22
  go_wp2
  repeat (go_quiet (fail); try go_wp2)
  go_ret
  exact ⟨by first | rfl | (simp; done) | (simp [*]; done), by repeat (first | exact Drawn0.refl _ | apply Drawn0.step)⟩
/-! ### impl_WaitsOf: function 23 -/
def impl_WaitsOf.f (k : Nat) (l0 : List Int) (a1 : Int) : Option (List Int × Int) := (impl_areTurns.f l0 8).bind fun t471 => (if t471 = true then ((impl_within.f a1 0 7).bind fun t472 => (if t472 = true then ((impl_waits.f k l0 a1).bind fun t473 => (some (t473, 0))) else (some (([] : List Int), 2)))) else (some (([] : List Int), 2)))
theorem impl_WaitsOf.mono : ∀ a0 a1 k, LeO (impl_WaitsOf.f k a0 a1) (impl_WaitsOf.f (k + 1) a0 a1) := by
 intro a0 a1 k
 unfold impl_WaitsOf.f
 repeat' first
   | with_reducible first | exact impl_waits.mono _ _ _ | exact LeO.refl _ | exact LeO.none _ | refine LeO.ite ?_ ?_ | refine LeO.bind ?_ (fun _ => ?_)
   | exact impl_waits.mono _ _ _
   | exact LeO.none _
   | refine LeO.ite ?_ ?_
   | refine LeO.bind ?_ (fun _ => ?_)
set_option maxHeartbeats 8000000 in
set_option maxRecDepth 100000 in
theorem impl_WaitsOf.calls (k : Nat) (A0 : Option Addr) (c0 : Nat) (l0 : List Int) (a1 : Int) (r1 : List Int) (r2 : Int) (w : World) (hr0 : Kd.C (Kd.int .i64) w A0 l0.length l0) (hc0 : l0.length ≤ c0) (h : impl_WaitsOf.f k l0 a1 = some (r1, r2)) :
  Calls Try.prog 23 #[.slice A0 l0.length c0, .int .i64 a1] w fun e w' => ∃ v0_ : Value, e = .returned (.tuple #[v0_, .int .i64 r2]) ∧ Kd.R (Kd.int .i64) 2 w' w.heap.size (fun _ => True) v0_ r1 ∧ Below w.heap.size w w' := by
 have HR0 := am hr0
 have HC0 := am hc0
 clear hr0 hc0
 have HB := am (Below.refl w.heap.size w)
 have H : ((impl_areTurns.f l0 8).bind fun t471 => (if t471 = true then ((impl_within.f a1 0 7).bind fun t472 => (if t472 = true then ((impl_waits.f k l0 a1).bind fun t473 => (some (t473, 0))) else (some (([] : List Int), 2)))) else (some (([] : List Int), 2)))) = some (r1, r2) := h
 clear h
 replace H := Option.bind_eq_some_iff.mp H
 obtain ⟨t471, A30, H⟩ := H
 try dsimp only at H
 have A3 := am A30
 clear A30
 by_cases c4 : t471 = true
 ·subst c4
  rw [if_pos rfl] at H
  replace H := Option.bind_eq_some_iff.mp H
  obtain ⟨t472, A50, H⟩ := H
  try dsimp only at H
  have A5 := am A50
  clear A50
  by_cases c6 : t472 = true
  ·subst c6
   rw [if_pos rfl] at H
   replace H := Option.bind_eq_some_iff.mp H
   obtain ⟨t473, A70, H⟩ := H
   try dsimp only at H
   have A7 := am A70
   clear A70
   simp only [Option.some.injEq, Prod.mk.injEq] at H
   obtain ⟨rfl, rfl⟩ := H
   go_enter Try.func23, Try.ntmps23
   go_wp2_with (first | ((with_reducible refine gate_callee (f := 48) rfl ?_); refine goesL_ (some 7) rfl rfl Try.func48 (by kernel_rfl) rfl #[.slice A0 l0.length c0, .int .i64 8] rfl kA ?_; (with_reducible refine (impl_areTurns.calls _ _ l0 8 true _ ?side1 ?side2 A3.out).mono ?_); (case side1 => exact kC HR0.out); (case side2 => exact HC0.out); rintro e w8 ⟨rfl, hb⟩; refine ⟨_, rfl, ?_⟩; have n0_ := am (below_step (kB HB) hb); clear HB; have HB := n0_; clear n0_; (try clear hb); (try clear hb2); (try clear hk); (try clear hi)) | (go_at_call 45; (with_reducible refine (impl_within.calls a1 0 7 true _ A5.out).mono ?_); rintro e w' ⟨rfl, ⟨nd, rfl⟩⟩) | ((with_reducible refine gate_callee (f := 49) rfl ?_); refine goesL_ (some 16) rfl rfl Try.func49 (by kernel_rfl) rfl #[.slice A0 l0.length c0, .int .i64 a1] rfl kA ?_; (with_reducible refine (impl_waits.calls k _ _ l0 a1 t473 _ ?side1 ?side2 A7.out).mono ?_); (case side1 => exact kC (Kd.C_below HR0.out (kB HB))); (case side2 => exact HC0.out); rintro e w9 ⟨v474, rfl, ho0, hb⟩; refine ⟨_, rfl, ?_⟩; have n0_ := am (Kd.R_lower ho0 (below_size (kB HB))); have n1_ := am (below_step (kB HB) hb); clear HB; have HO475 := n0_; have HB := n1_; clear n0_ n1_; (try clear hb); (try clear hb2); (try clear hk); (try clear hi); (try clear ho0)))
   go_ret2
   exact ⟨_, by first | rfl | (simp [errW_none, errW_some] <;> rfl) | (simp [*, errW_none, errW_some] <;> rfl), kR HO475, kB HB⟩
  ·replace c6 := Bool.eq_false_iff.mpr c6
   subst c6
   rw [if_neg (show ¬ (false = true) by decide)] at H
   simp only [Option.some.injEq, Prod.mk.injEq] at H
   obtain ⟨rfl, rfl⟩ := H
   go_enter Try.func23, Try.ntmps23
   go_wp2_with (first | ((with_reducible refine gate_callee (f := 48) rfl ?_); refine goesL_ (some 7) rfl rfl Try.func48 (by kernel_rfl) rfl #[.slice A0 l0.length c0, .int .i64 8] rfl kA ?_; (with_reducible refine (impl_areTurns.calls _ _ l0 8 true _ ?side1 ?side2 A3.out).mono ?_); (case side1 => exact kC HR0.out); (case side2 => exact HC0.out); rintro e w10 ⟨rfl, hb⟩; refine ⟨_, rfl, ?_⟩; have n0_ := am (below_step (kB HB) hb); clear HB; have HB := n0_; clear n0_; (try clear hb); (try clear hb2); (try clear hk); (try clear hi)) | (go_at_call 45; (with_reducible refine (impl_within.calls a1 0 7 false _ A5.out).mono ?_); rintro e w' ⟨rfl, ⟨nd, rfl⟩⟩))
   go_ret2
   exact ⟨_, by first | rfl | (simp [errW_none, errW_some] <;> rfl) | (simp [*, errW_none, errW_some] <;> rfl), by first | exact Kd.R_nil _ _ _ _ _ | exact Kd.N_nil _ _ _ _ _ | exact Kd.V_nil _ _ _ _ _ | exact Kd.Q_nil _ _ _ _ _ | exact Kd.S_nil _ _ _ _ _, kB HB⟩
 ·replace c4 := Bool.eq_false_iff.mpr c4
  subst c4
  rw [if_neg (show ¬ (false = true) by decide)] at H
  simp only [Option.some.injEq, Prod.mk.injEq] at H
  obtain ⟨rfl, rfl⟩ := H
  go_enter Try.func23, Try.ntmps23
  go_wp2_with (first | ((with_reducible refine gate_callee (f := 48) rfl ?_); refine goesL_ (some 7) rfl rfl Try.func48 (by kernel_rfl) rfl #[.slice A0 l0.length c0, .int .i64 8] rfl kA ?_; (with_reducible refine (impl_areTurns.calls _ _ l0 8 false _ ?side1 ?side2 A3.out).mono ?_); (case side1 => exact kC HR0.out); (case side2 => exact HC0.out); rintro e w11 ⟨rfl, hb⟩; refine ⟨_, rfl, ?_⟩; have n0_ := am (below_step (kB HB) hb); clear HB; have HB := n0_; clear n0_; (try clear hb); (try clear hb2); (try clear hk); (try clear hi)))
  go_ret2
  exact ⟨_, by first | rfl | (simp [errW_none, errW_some] <;> rfl) | (simp [*, errW_none, errW_some] <;> rfl), by first | exact Kd.R_nil _ _ _ _ _ | exact Kd.N_nil _ _ _ _ _ | exact Kd.V_nil _ _ _ _ _ | exact Kd.Q_nil _ _ _ _ _ | exact Kd.S_nil _ _ _ _ _, kB HB⟩
/-! ### spec_l01BadTurns: function 58 -/
def spec_l01BadTurns.l0 : Nat → List Int → List Int → Int → Int → Option (List Int × Int × Int)
 | 0, _, _, _, _ => none
 | k + 1, x5, x1000, x1001, x1002 => if (x5.length : Int) ≤ 120 then (if x5.length < 17592186044416 then (spec_l01BadTurns.l0 k (x5 ++ [(-1)]) x1000 x1001 x1002) else (none)) else (some (x5, x1001, x1002))
def spec_l01BadTurns.f (k : Nat) (s0_0 : List Int) (s0_1 : Int) (s0_2 : Int) (l1 : List Int) : Option (List Int × Int × Int) := (spec_l01Own.f l1).bind fun t476 => ((spec_l01Next.f s0_0 s0_1 s0_2 40).bind fun bt479 => (if bt479.1 = 0 then (some ((([] : List Int)), bt479.2.1, bt479.2.2)) else (if bt479.1 = 1 then ((spec_l01Next.f s0_0 bt479.2.1 bt479.2.2 (t476.length : Int)).bind fun bt485 => ((spec_l01Pick.f s0_0 bt485.2.1 bt485.2.2 (([(-2), 8, 1099511627776, 7] : List Int))).bind fun bt491 => (if 0 ≤ bt485.1 then (if bt485.1 < (t476.length : Int) then (some ((t476.set (bt485.1 : Int).toNat bt491.1), bt491.2.1, bt491.2.2)) else (none)) else (none)))) else (if bt479.1 = 2 then (spec_l01BadTurns.l0 k t476 s0_0 bt479.2.1 bt479.2.2) else (some (t476, bt479.2.1, bt479.2.2))))))
theorem spec_l01BadTurns.mono_l : ∀ k, (∀ y0 y1 y2 y3, LeO (spec_l01BadTurns.l0 k y0 y1 y2 y3) (spec_l01BadTurns.l0 (k + 1) y0 y1 y2 y3))
 | 0 => fun _ _ _ _ r h => by simp [spec_l01BadTurns.l0] at h
 | k + 1 => by
  have ih0 := spec_l01BadTurns.mono_l k
  ·intro y0 y1 y2 y3
   unfold spec_l01BadTurns.l0
   repeat' first
   | with_reducible first | exact ih0 _ _ _ _ | exact LeO.refl _ | exact LeO.none _ | refine LeO.ite ?_ ?_ | refine LeO.bind ?_ (fun _ => ?_)
   | exact ih0 _ _ _ _
   | exact LeO.none _
   | refine LeO.ite ?_ ?_
   | refine LeO.bind ?_ (fun _ => ?_)
theorem spec_l01BadTurns.mono : ∀ a0 a1 a2 a3 k, LeO (spec_l01BadTurns.f k a0 a1 a2 a3) (spec_l01BadTurns.f (k + 1) a0 a1 a2 a3) := by
 intro a0 a1 a2 a3 k
 have ih0 := spec_l01BadTurns.mono_l k
 unfold spec_l01BadTurns.f
 repeat' first
   | with_reducible first | exact ih0 _ _ _ _ | exact LeO.refl _ | exact LeO.none _ | refine LeO.ite ?_ ?_ | refine LeO.bind ?_ (fun _ => ?_)
   | exact ih0 _ _ _ _
   | exact LeO.none _
   | refine LeO.ite ?_ ?_
   | refine LeO.bind ?_ (fun _ => ?_)
set_option maxHeartbeats 8000000 in
set_option maxRecDepth 100000 in
theorem spec_l01BadTurns.calls (k : Nat) (g : Nat) (s0_0 : List Int) (s0_1 : Int) (s0_2 : Int) (A1 : Option Addr) (c1 : Nat) (l1 : List Int) (r1 : List Int) (r2 : Int) (r3 : Int) (w0 w : World) (hI : IsS72 w0 w g s0_0 s0_1 s0_2) (hB : Below w0.heap.size w0 w) (hr1 : Kd.C (Kd.int .i64) w A1 l1.length l1) (hc1 : l1.length ≤ c1) (hf1 : ∀ ad, A1 = some ad → 0 < l1.length → ad.block ≠ g) (h : spec_l01BadTurns.f k s0_0 s0_1 s0_2 l1 = some (r1, r2, r3)) :
  Calls Try.prog 58 #[.pointer (some ⟨g, 0, none⟩), .slice A1 l1.length c1] w fun e w' => ∃ v0_ : Value, e = .returned (v0_) ∧ Kd.R (Kd.int .i64) 2 w' w.heap.size (fun _ => True) v0_ r1 ∧ IsS72 w0 w' g s0_0 r2 r3 ∧ Below w0.heap.size w0 w' ∧ KeepBut w w' g none := by
 have HR1 := am hr1
 have HC1 := am hc1
 clear hr1 hc1
 have HI0 := am hI
 have HK := am (KeepBut.refl w g none)
 have HL := am hB.size
 clear hI
 have HW0 := am hB.size
 have HB := am hB
 clear hB
 have H : ((spec_l01Own.f l1).bind fun t476 => ((spec_l01Next.f s0_0 s0_1 s0_2 40).bind fun bt479 => (if bt479.1 = 0 then (some ((([] : List Int)), bt479.2.1, bt479.2.2)) else (if bt479.1 = 1 then ((spec_l01Next.f s0_0 bt479.2.1 bt479.2.2 (t476.length : Int)).bind fun bt485 => ((spec_l01Pick.f s0_0 bt485.2.1 bt485.2.2 (([(-2), 8, 1099511627776, 7] : List Int))).bind fun bt491 => (if 0 ≤ bt485.1 then (if bt485.1 < (t476.length : Int) then (some ((t476.set (bt485.1 : Int).toNat bt491.1), bt491.2.1, bt491.2.2)) else (none)) else (none)))) else (if bt479.1 = 2 then (spec_l01BadTurns.l0 k t476 s0_0 bt479.2.1 bt479.2.2) else (some (t476, bt479.2.1, bt479.2.2))))))) = some (r1, r2, r3) := h
 clear h
 replace H := Option.bind_eq_some_iff.mp H
 obtain ⟨t476, A30, H⟩ := H
 try dsimp only at H
 have A3 := am A30
 clear A30
 replace H := Option.bind_eq_some_iff.mp H
 obtain ⟨⟨t479, t480, t481⟩, A40, H⟩ := H
 try dsimp only at H
 have A4 := am A40
 clear A40
 by_cases c5 : t479 = 0
 ·rw [if_pos c5] at H
  have c5b0 : (t479 == 0) = true := beq_iff_eq.mpr c5
  have c5b1 : (t479 != 0) = false := bne_eq_false_iff_eq.mpr c5
  clear c5
  obtain ⟨y482, hy482⟩ : ∃ y_ : List Int, y_ = (([] : List Int)) := ⟨_, rfl⟩
  replace H : (some (y482, t480, t481)) = some (r1, r2, r3) := by first | (rw [hy482]; with_reducible exact H) | (have H2_ := (Option.bind_some _ _).symm.trans H; rw [hy482]; with_reducible exact H2_) | (have H2_ := (Option.bind_some _ _).symm.trans H; with_reducible exact H2_) | with_reducible exact H | (rw [hy482]; exact H) | exact H
  have Ny482 := am hy482
  clear hy482
  simp only [Option.some.injEq, Prod.mk.injEq] at H
  obtain ⟨rfl, rfl, rfl⟩ := H
  go_enter Try.func58, Try.ntmps58
  go_wp2_with (first | ((with_reducible refine gate_callee (f := 80) rfl ?_); refine goesL_ (some 7) rfl rfl Try.func80 (by kernel_rfl) rfl #[.slice A1 l1.length c1] rfl kA ?_; (with_reducible refine (spec_l01Own.calls _ _ l1 t476 _ ?side1 ?side2 A3.out).mono ?_); (case side1 => exact Kd.C_keep 0 HR1.out (kH HK) hf1); (case side2 => exact HC1.out); rintro e w6 ⟨v477, rfl, ho0, hb⟩; refine ⟨_, rfl, ?_⟩; have n0_ := am (Kd.R_lower ho0 (keep_size (w := w) (g := g) (row := none) (kH HK))); have n1_ := am (IsS72.below (kI HI0) hb); have n2_ := am (KeepBut.trans (kH HK) (KeepBut.of_below hb g none) (.inl rfl)); have n3_ := am (below_step (kB1 HB (IsS72.ge HI0.out)) hb); clear HI0 HK HB; have HO478 := n0_; have HI0 := n1_; have HK := n2_; have HB := n3_; clear n0_ n1_ n2_ n3_; (try clear hb); (try clear hb2); (try clear hk); (try clear hi); (try clear ho0)) | ((with_reducible refine gate_callee (f := 56) rfl ?_); refine goesL_ (some 9) rfl rfl Try.func56 (by kernel_rfl) rfl #[.pointer (some ⟨g, 0, none⟩), .int .i64 40] rfl kA ?_; (with_reducible refine (spec_l01Next.calls g s0_0 s0_1 s0_2 40 t479 t480 t481 w0 _ ?side1 ?side2 A4.out).mono ?_); (case side1 => exact kI HI0); (case side2 => exact kB1 HB (IsS72.ge HI0.out)); rintro e w7 ⟨rfl, hi, hb, hk⟩; refine ⟨_, rfl, ?_⟩; have n0_ := am (Kd.R_mono (Kd.R_keep (IsS72.apart (show IsS72 w0 _ g s0_0 s0_1 s0_2 from kI HI0) (kR HO478) (by decide)) hk (fun _ h => h.2)) (fun _ h => h.1)); have n1_ := am (KeepBut.trans (kH HK) hk (.inl rfl)); have n2_ := am (hb); have n3_ := am (hi); clear HO478 HK HB HI0; have HO478 := n0_; have HK := n1_; have HB := n2_; have HI0 := n3_; clear n0_ n1_ n2_ n3_; (try clear hb); (try clear hb2); (try clear hk); (try clear hi)) | ((with_reducible refine gate_dst (N := 12) rfl ?_); refine Kd.R_lit (Kd.int .i64) _ 2 ?hg (N := 12) ?hd (xs := ([] : List Int)) (inner := []) (ok := fun _ => True) (okp := fun _ => True) ?hr ?hp (fun _ hk => hk) trivial (Below.refl _ _) (Nat.le_refl _) (by simp) ?_; (case hd => rfl); (case hg => rfl); (case hr => first | (go_simp; done) | (go_simp; rfl)); (case hp => exact (Reps.none _ _)); intro v483 w8 ho9 hb hg_ hnew_; clear hg_ hnew_; (first | rw [← Ny482.out] at ho9 | (simp only [Int.reduceToNat] at ho9; rw [← Ny482.out] at ho9)); have n0_ := am (Kd.R_elder' (kR HO478) (Kd.R_base ho9) hb); have n1_ := am (Kd.R_lower (Kd.R_new' ho9 (Kd.R_lt (kR HO478))) (keep_size (w := w) (g := g) (row := none) (kH HK))); have n2_ := am (IsS72.below (kI HI0) hb); have n3_ := am (KeepBut.trans (kH HK) (KeepBut.of_below hb g none) (.inl rfl)); have n4_ := am (below_step (kB1 HB (IsS72.ge HI0.out)) hb); clear HO478 HI0 HK HB; have HO478 := n0_; have HO484 := n1_; have HI0 := n2_; have HK := n3_; have HB := n4_; clear n0_ n1_ n2_ n3_ n4_; clear hb ho9))
  go_ret
  exact ⟨_, by first | rfl | (simp [errW_none, errW_some] <;> rfl) | (simp [*, errW_none, errW_some] <;> rfl), by (with_reducible repeat (first | apply Kd.R_alloc | apply Kd.R_drewN | apply Kd.R_drew)); exact Kd.R_mono HO484.out (fun _ hk => trivial), kI HI0, kB1 HB (IsS72.ge HI0.out), kH HK⟩
 ·rw [if_neg c5] at H
  have c5b0 : (t479 == 0) = false := beq_eq_false_iff_ne.mpr c5
  have c5b1 : (t479 != 0) = true := bne_iff_ne.mpr c5
  by_cases c10 : t479 = 1
  ·rw [if_pos c10] at H
   have c10b0 : (t479 == 1) = true := beq_iff_eq.mpr c10
   have c10b1 : (t479 != 1) = false := bne_eq_false_iff_eq.mpr c10
   clear c10
   replace H := Option.bind_eq_some_iff.mp H
   obtain ⟨⟨t485, t486, t487⟩, A110, H⟩ := H
   try dsimp only at H
   have A11 := am A110
   clear A110
   obtain ⟨y488, hy488⟩ : ∃ y_ : List Int, y_ = (([(-2), 8, 1099511627776, 7] : List Int)) := ⟨_, rfl⟩
   replace H : ((spec_l01Pick.f s0_0 t486 t487 y488).bind fun bt491 => (if 0 ≤ t485 then (if t485 < (t476.length : Int) then (some ((t476.set (t485 : Int).toNat bt491.1), bt491.2.1, bt491.2.2)) else (none)) else (none))) = some (r1, r2, r3) := by first | (rw [hy488]; with_reducible exact H) | (have H2_ := (Option.bind_some _ _).symm.trans H; rw [hy488]; with_reducible exact H2_) | (have H2_ := (Option.bind_some _ _).symm.trans H; with_reducible exact H2_) | with_reducible exact H | (rw [hy488]; exact H) | exact H
   have Ny488 := am hy488
   clear hy488
   replace H := Option.bind_eq_some_iff.mp H
   obtain ⟨⟨t491, t492, t493⟩, A120, H⟩ := H
   try dsimp only at H
   have A12 := am A120
   clear A120
   by_cases c13 : 0 ≤ t485
   ·rw [if_pos c13] at H
    have c13b0 : decide (0 ≤ t485) = true := decide_eq_true c13
    clear c13
    by_cases c14 : t485 < (t476.length : Int)
    ·rw [if_pos c14] at H
     have c14b0 : decide (t485 < (t476.length : Int)) = true := decide_eq_true c14
     clear c14
     obtain ⟨y494, hy494⟩ : ∃ y_ : List Int, y_ = (t476.set (t485 : Int).toNat t491) := ⟨_, rfl⟩
     replace H : (some (y494, t492, t493)) = some (r1, r2, r3) := by first | (rw [hy494]; with_reducible exact H) | (have H2_ := (Option.bind_some _ _).symm.trans H; rw [hy494]; with_reducible exact H2_) | (have H2_ := (Option.bind_some _ _).symm.trans H; with_reducible exact H2_) | with_reducible exact H | (rw [hy494]; exact H) | exact H
     have Ny494 := am hy494
     clear hy494
     simp only [Option.some.injEq, Prod.mk.injEq] at H
     obtain ⟨rfl, rfl, rfl⟩ := H
     go_enter Try.func58, Try.ntmps58
     go_wp2_with (first | ((with_reducible refine gate_callee (f := 80) rfl ?_); refine goesL_ (some 7) rfl rfl Try.func80 (by kernel_rfl) rfl #[.slice A1 l1.length c1] rfl kA ?_; (with_reducible refine (spec_l01Own.calls _ _ l1 t476 _ ?side1 ?side2 A3.out).mono ?_); (case side1 => exact Kd.C_keep 0 HR1.out (kH HK) hf1); (case side2 => exact HC1.out); rintro e w16 ⟨v477, rfl, ho0, hb⟩; refine ⟨_, rfl, ?_⟩; have n0_ := am (Kd.R_lower ho0 (keep_size (w := w) (g := g) (row := none) (kH HK))); have n1_ := am (IsS72.below (kI HI0) hb); have n2_ := am (KeepBut.trans (kH HK) (KeepBut.of_below hb g none) (.inl rfl)); have n3_ := am (below_step (kB1 HB (IsS72.ge HI0.out)) hb); clear HI0 HK HB; have HO478 := n0_; have HI0 := n1_; have HK := n2_; have HB := n3_; clear n0_ n1_ n2_ n3_; (try clear hb); (try clear hb2); (try clear hk); (try clear hi); (try clear ho0)) | ((with_reducible refine gate_callee (f := 56) rfl ?_); refine goesL_ (some 9) rfl rfl Try.func56 (by kernel_rfl) rfl #[.pointer (some ⟨g, 0, none⟩), .int .i64 40] rfl kA ?_; (with_reducible refine (spec_l01Next.calls g s0_0 s0_1 s0_2 40 t479 t480 t481 w0 _ ?side1 ?side2 A4.out).mono ?_); (case side1 => exact kI HI0); (case side2 => exact kB1 HB (IsS72.ge HI0.out)); rintro e w17 ⟨rfl, hi, hb, hk⟩; refine ⟨_, rfl, ?_⟩; have n0_ := am (Kd.R_mono (Kd.R_keep (IsS72.apart (show IsS72 w0 _ g s0_0 s0_1 s0_2 from kI HI0) (kR HO478) (by decide)) hk (fun _ h => h.2)) (fun _ h => h.1)); have n1_ := am (KeepBut.trans (kH HK) hk (.inl rfl)); have n2_ := am (hb); have n3_ := am (hi); clear HO478 HK HB HI0; have HO478 := n0_; have HK := n1_; have HB := n2_; have HI0 := n3_; clear n0_ n1_ n2_ n3_; (try clear hb); (try clear hb2); (try clear hk); (try clear hi); obtain ⟨Ao18, co18, eo18⟩ := Kd.R_slice HO478.out; subst eo18) | ((with_reducible refine gate_callee (f := 56) rfl ?_); refine goesL_ (some 19) rfl rfl Try.func56 (by kernel_rfl) rfl #[.pointer (some ⟨g, 0, none⟩), .int .i64 (t476.length : Int)] rfl kA ?_; (with_reducible refine (spec_l01Next.calls g s0_0 t480 t481 (t476.length : Int) t485 t486 t487 w0 _ ?side1 ?side2 A11.out).mono ?_); (case side1 => exact kI HI0); (case side2 => exact kB1 HB (IsS72.ge HI0.out)); rintro e w19 ⟨rfl, hi, hb, hk⟩; refine ⟨_, rfl, ?_⟩; have n0_ := am (Kd.R_mono (Kd.R_keep (IsS72.apart (show IsS72 w0 _ g s0_0 t480 t481 from kI HI0) (kR HO478) (by decide)) hk (fun _ h => h.2)) (fun _ h => h.1)); have n1_ := am (KeepBut.trans (kH HK) hk (.inl rfl)); have n2_ := am (hb); have n3_ := am (hi); clear HO478 HK HB HI0; have HO478 := n0_; have HK := n1_; have HB := n2_; have HI0 := n3_; clear n0_ n1_ n2_ n3_; (try clear hb); (try clear hb2); (try clear hk); (try clear hi)) | ((with_reducible refine gate_dst (N := 21) rfl ?_); refine Kd.R_lit (Kd.int .i64) _ 2 ?hg (N := 21) ?hd (xs := ([(-2), 8, 1099511627776, 7] : List Int)) (inner := [.int .i64 (-2), .int .i64 8, .int .i64 1099511627776, .int .i64 7]) (ok := fun _ => True) (okp := fun _ => True) ?hr ?hp (fun _ hk => hk) trivial (Below.refl _ _) (Nat.le_refl _) (by simp) ?_; (case hd => rfl); (case hg => rfl); (case hr => first | (go_simp; done) | (go_simp; rfl)); (case hp => exact (Reps.one (show Kd.M (Kd.int .i64) _ _ _ (-2) [.int .i64 (-2)] from rfl) (Reps.one (show Kd.M (Kd.int .i64) _ _ _ 8 [.int .i64 8] from rfl) (Reps.one (show Kd.M (Kd.int .i64) _ _ _ 1099511627776 [.int .i64 1099511627776] from rfl) (Reps.one (show Kd.M (Kd.int .i64) _ _ _ 7 [.int .i64 7] from rfl) (Reps.none _ _)))))); intro v489 w20 ho21 hb hg_ hnew_; clear hg_ hnew_; (first | rw [← Ny488.out] at ho21 | (simp only [Int.reduceToNat] at ho21; rw [← Ny488.out] at ho21)); have n0_ := am (Kd.R_elder' (kR HO478) (Kd.R_base ho21) hb); have n1_ := am (Kd.R_lower (Kd.R_new' ho21 (Kd.R_lt (kR HO478))) (keep_size (w := w) (g := g) (row := none) (kH HK))); have n2_ := am (IsS72.below (kI HI0) hb); have n3_ := am (KeepBut.trans (kH HK) (KeepBut.of_below hb g none) (.inl rfl)); have n4_ := am (below_step (kB1 HB (IsS72.ge HI0.out)) hb); clear HO478 HI0 HK HB; have HO478 := n0_; have HO490 := n1_; have HI0 := n2_; have HK := n3_; have HB := n4_; clear n0_ n1_ n2_ n3_ n4_ hb ho21; obtain ⟨Ao22, co22, eo22⟩ := Kd.R_slice HO490.out; subst eo22) | ((with_reducible refine gate_callee (f := 57) rfl ?_); refine goesL_ (some 22) rfl rfl Try.func57 (by kernel_rfl) rfl #[.pointer (some ⟨g, 0, none⟩), .slice Ao22 y488.length co22] rfl kA ?_; (with_reducible refine (spec_l01Pick.calls g s0_0 t486 t487 _ _ y488 t491 t492 t493 w0 _ ?side1 ?side2 ?side3 ?side4 ?side5 A12.out).mono ?_); (case side1 => exact kI HI0); (case side2 => exact kB1 HB (IsS72.ge HI0.out)); (case side3 => exact kC (Kd.R_reads' HO490.out).2.2); (case side4 => exact (Kd.R_reads' HO490.out).2.1); (case side5 => first | exact far_slice (IsS72.own_ne HI0.out HO490.out (by decide)) | exact (fun ad hq_ hl_ => far_slice (IsS72.own_ne HI0.out HO490.out (by decide)) ad hq_ (by rw [(Kd.R_reads' HO490.out).1]; exact hl_))); rintro e w23 ⟨rfl, hi, hb, hk⟩; refine ⟨_, rfl, ?_⟩; have n0_ := am (Kd.R_mono (Kd.R_keep (IsS72.apart (show IsS72 w0 _ g s0_0 t486 t487 from kI HI0) (kR HO478) (by decide)) hk (fun _ h => h.2)) (fun _ h => h.1)); have n1_ := am (Kd.R_mono (Kd.R_keep (IsS72.apart (show IsS72 w0 _ g s0_0 t486 t487 from kI HI0) (kR HO490) (by decide)) hk (fun _ h => h.2)) (fun _ h => h.1)); have n2_ := am (KeepBut.trans (kH HK) hk (.inl rfl)); have n3_ := am (hb); have n4_ := am (hi); clear HO478 HO490 HK HB HI0; have HO478 := n0_; have HO490 := n1_; have HK := n2_; have HB := n3_; have HI0 := n4_; clear n0_ n1_ n2_ n3_ n4_; (try clear hb); (try clear hb2); (try clear hk); (try clear hi); have p15 : 0 ≤ (t485 : Int) := of_decide_eq_true kM; have q15 : (t485 : Int) < ((t476.length : Int) : Int) := of_decide_eq_true kM; obtain ⟨go15, co15, eo15, gb15, gl15, cl15, HG15⟩ := Kd.R_form HO478.out (by omega); (first | cases eo15 | (injection eo15 with ea_ en_ ec_; (first | subst ea_ | (injection ea_ with ea_; subst ea_)); subst ec_; clear en_)); have GB15 := am gb15; have GG15 := am HG15; clear gb15 gl15 HG15; obtain ⟨hx15_0, hf15_0⟩ := Kd.R_celln 0 HO478.out (t485 : Int) p15 q15; replace p15 := eq_true p15; replace q15 := eq_true q15; have n_ := am (Kd.R_mono (ok' := (fun k_ => some k_ ≠ (.slice Ao22 y488.length co22 : Value).ownBlock)) HO478.out (by first | exact (fun k_ hk => hk.2) | exact (fun k_ hk => hk))); clear HO478; have HO478 := n_; clear n_; obtain ⟨hy24_, hz24_⟩ := Kd.R_celln 0 HO478.out (t485 : Int) (of_decide_eq_true kM) (of_decide_eq_true kM); have HP24 := Kd.R_putg HO478.out (t485 : Int) t491) | ((with_reducible refine gate_store (t := 2) (p := 23) rfl ?_); refine store_event (t := 2) (p := 23) (v := ?vo_w25) (w1 := (w23.setCell ⟨go15, (t485 : Int).toNat, none⟩ (.int .i64 t491))) ?hg ?ho ?hn ?hr ?_; (case ho => rfl); (case hg => rfl); (case hn => rfl); (case hr => first | (go_simp; done) | (go_simp; rfl)); intro w25 hw; have hg : w23.grownBy w25 (some go15) := (by rw [hw]; exact HP24.2); have hp_ : Kd.R (Kd.int .i64) 2 w25 w.heap.size (fun k_ => some k_ ≠ (.slice Ao22 y488.length co22 : Value).ownBlock) (.slice (some ⟨go15, 0, none⟩) t476.length co18) y494 := (by rw [hw, Ny494.out]; exact HP24.1); clear HP24; have n0_ := am (IsS72.grown (kI HI0) hg (IsS72.own_ne HI0.out HO478.out (by decide))); have n1_ := am (hp_); have n2_ := am (Kd.R_after (v := (.slice (some ⟨go15, 0, none⟩) t476.length co18)) (v1 := (.slice (some ⟨go15, 0, none⟩) t476.length co18)) (ok := (fun _ => True)) (kR HO490) hg (.inl rfl)); have n3_ := am ((by rw [hw]; exact below_set (HB.out) (Nat.le_trans HL.out GB15.out) : Below w0.heap.size w0 w25)); have n4_ := am (KeepBut.trans (kH HK) (KeepBut.of_grown hg g) (Kd.R_base2 HO478.out)); clear HI0 HO478 HO490 HB HK; have HI0 := n0_; have HO478 := n1_; have HO490 := n2_; have HB := n3_; have HK := n4_; clear n0_ n1_ n2_ n3_ n4_; clear hg hw hp_))
     go_ret
     exact ⟨_, by first | rfl | (simp [errW_none, errW_some] <;> rfl) | (simp [*, errW_none, errW_some] <;> rfl), by (with_reducible repeat (first | apply Kd.R_alloc | apply Kd.R_drewN | apply Kd.R_drew)); exact Kd.R_mono HO478.out (fun _ hk => trivial), kI HI0, kB1 HB (IsS72.ge HI0.out), kH HK⟩
    ·rw [if_neg c14] at H
     exact absurd H (by simp)
   ·rw [if_neg c13] at H
    exact absurd H (by simp)
  ·rw [if_neg c10] at H
   have c10b0 : (t479 == 1) = false := beq_eq_false_iff_ne.mpr c10
   have c10b1 : (t479 != 1) = true := bne_iff_ne.mpr c10
   by_cases c26 : t479 = 2
   ·rw [if_pos c26] at H
    have c26b0 : (t479 == 2) = true := beq_iff_eq.mpr c26
    have c26b1 : (t479 != 2) = false := bne_eq_false_iff_eq.mpr c26
    clear c26
    have H' := am H
    clear H
    go_enter Try.func58, Try.ntmps58
    go_wp2_with (first | ((with_reducible refine gate_callee (f := 80) rfl ?_); refine goesL_ (some 7) rfl rfl Try.func80 (by kernel_rfl) rfl #[.slice A1 l1.length c1] rfl kA ?_; (with_reducible refine (spec_l01Own.calls _ _ l1 t476 _ ?side1 ?side2 A3.out).mono ?_); (case side1 => exact Kd.C_keep 0 HR1.out (kH HK) hf1); (case side2 => exact HC1.out); rintro e w27 ⟨v477, rfl, ho0, hb⟩; refine ⟨_, rfl, ?_⟩; have n0_ := am (Kd.R_lower ho0 (keep_size (w := w) (g := g) (row := none) (kH HK))); have n1_ := am (IsS72.below (kI HI0) hb); have n2_ := am (KeepBut.trans (kH HK) (KeepBut.of_below hb g none) (.inl rfl)); have n3_ := am (below_step (kB1 HB (IsS72.ge HI0.out)) hb); clear HI0 HK HB; have HO478 := n0_; have HI0 := n1_; have HK := n2_; have HB := n3_; clear n0_ n1_ n2_ n3_; (try clear hb); (try clear hb2); (try clear hk); (try clear hi); (try clear ho0)) | ((with_reducible refine gate_callee (f := 56) rfl ?_); refine goesL_ (some 9) rfl rfl Try.func56 (by kernel_rfl) rfl #[.pointer (some ⟨g, 0, none⟩), .int .i64 40] rfl kA ?_; (with_reducible refine (spec_l01Next.calls g s0_0 s0_1 s0_2 40 t479 t480 t481 w0 _ ?side1 ?side2 A4.out).mono ?_); (case side1 => exact kI HI0); (case side2 => exact kB1 HB (IsS72.ge HI0.out)); rintro e w28 ⟨rfl, hi, hb, hk⟩; refine ⟨_, rfl, ?_⟩; have n0_ := am (Kd.R_mono (Kd.R_keep (IsS72.apart (show IsS72 w0 _ g s0_0 s0_1 s0_2 from kI HI0) (kR HO478) (by decide)) hk (fun _ h => h.2)) (fun _ h => h.1)); have n1_ := am (KeepBut.trans (kH HK) hk (.inl rfl)); have n2_ := am (hb); have n3_ := am (hi); clear HO478 HK HB HI0; have HO478 := n0_; have HK := n1_; have HB := n2_; have HI0 := n3_; clear n0_ n1_ n2_ n3_; (try clear hb); (try clear hb2); (try clear hk); (try clear hi)))
    go_loopg [5] k (fun kq v5 w' => ∃ (x5_1 : List Int), Aside0 (spec_l01BadTurns.l0 kq x5_1 s0_0 t480 t481 = some (r1, r2, r3)) ∧ Aside0 (kq ≤ k) ∧ Aside0 (Kd.R (Kd.int .i64) 2 w' w.heap.size (fun _ => True) v5 x5_1) ∧ Aside0 (IsS72 w0 w' g s0_0 t480 t481) ∧ Aside0 (KeepBut w w' g none) ∧ Aside0 (Below w0.heap.size w0 w'))
    case atStart => exact ⟨(t476), H', ⟨Nat.le_refl _⟩, ⟨kR HO478⟩, ⟨kI HI0⟩, ⟨kH HK⟩, ⟨kB1 HB (IsS72.ge HI0.out)⟩⟩
    case round =>
     clear H'
     try clear c1
     try clear c5
     try clear c5b0
     try clear c5b1
     try clear c10
     try clear c10b0
     try clear c10b1
     try clear c26
     try clear c26b0
     try clear c26b1
     obtain ⟨x5_1, HA, HK1, HO_5, HI0, HK, HB⟩ := hrel
     cases gk with
     | zero => exact absurd HA.out (by simp [spec_l01BadTurns.l0])
     | succ k1 =>
      have H := HA.out
      clear HA
      simp only [spec_l01BadTurns.l0] at H
      by_cases c29 : (x5_1.length : Int) ≤ 120
      ·rw [if_pos c29] at H
       have c29b0 : decide ((x5_1.length : Int) ≤ 120) = true := decide_eq_true c29
       have c29b1 : decide (x5_1.length ≤ 120) = true := decide_eq_true (by omega)
       clear c29
       by_cases c30 : x5_1.length < 17592186044416
       ·rw [if_pos c30] at H
        have LMc30 := am c30
        clear c30
        obtain ⟨y495, hy495⟩ : ∃ y_ : List Int, y_ = (x5_1 ++ [(-1)]) := ⟨_, rfl⟩
        replace H : (spec_l01BadTurns.l0 k1 y495 s0_0 t480 t481) = some (r1, r2, r3) := by first | (rw [hy495]; with_reducible exact H) | (have H2_ := (Option.bind_some _ _).symm.trans H; rw [hy495]; with_reducible exact H2_) | (have H2_ := (Option.bind_some _ _).symm.trans H; with_reducible exact H2_) | with_reducible exact H | (rw [hy495]; exact H) | exact H
        have Ny495 := am hy495
        clear hy495
        have H' := am H
        clear H
        obtain ⟨Ao31, co31, eo31⟩ := Kd.R_slice HO_5.out
        subst eo31
        go_wp2_with (first | ((with_reducible refine gate_builtin (b := .append) (xs := #[.tmp 29, .tmp 30]) rfl ?_); at_builtin; refine Kd.R_append (Kd.int .i64) w.heap.size rfl (.tmp 29) (.tmp 30) 26 2 (.int .i64 0) 8 rfl Try.underlying26 info2 rfl (by decide) (by omega) (.slice Ao31 x5_1.length co31) x5_1 (-1) [.int .i64 (-1)] (fun _ => True) (fun _ => False) rfl rfl ?aP (fun _ hk => hk.elim) ?aF ?aO (Below.refl _ _) ?aS ?aL ?_; (case aP => exact rfl); (case aF => exact (fun _ _ => trivial)); (case aO => exact (kR HO_5)); (case aS => exact (keep_size (w := w) (g := g) (row := none) (kH HK))); (case aL => have := LMc30.out; omega); intro v496 w32 ho hb hg hat; rw [← Ny495.out] at ho; have n0_ := am (IsS72.grown (kI HI0) hg (IsS72.own_ne HI0.out HO_5.out (by decide))); have n1_ := am (below_weaken (kB1 HB (IsS72.ge HI0.out)) HL.out hb); have n2_ := am (KeepBut.trans (kH HK) (KeepBut.of_grown hg g) (Kd.R_base2 HO_5.out)); have n3_ := am (ho); clear HI0 HB HK HO_5; have HI0 := n0_; have HB := n1_; have HK := n2_; have HO497 := n3_; clear n0_ n1_ n2_ n3_; clear ho hb hg hat))
        go_roundg k1
        case measure => have := HK1.out; omega
        case rel => exact ⟨(y495), H', ⟨by have := HK1.out; omega⟩, ⟨kR HO497⟩, ⟨kI HI0⟩, ⟨kH HK⟩, ⟨kB1 HB (IsS72.ge HI0.out)⟩⟩
       ·rw [if_neg c30] at H
        exact absurd H (by simp)
      ·rw [if_neg c29] at H
       have c29b0 : decide ((x5_1.length : Int) ≤ 120) = false := decide_eq_false c29
       have c29b1 : decide (x5_1.length ≤ 120) = false := decide_eq_false (by omega)
       clear c29
       simp only [Option.some.injEq, Prod.mk.injEq] at H
       obtain ⟨rfl, rfl, rfl⟩ := H
       obtain ⟨Ao33, co33, eo33⟩ := Kd.R_slice HO_5.out
       subst eo33
       go_wp2
       go_ret
       exact ⟨_, by first | rfl | (simp [errW_none, errW_some] <;> rfl) | (simp [*, errW_none, errW_some] <;> rfl), kR HO_5, kI HI0, kB1 HB (IsS72.ge HI0.out), kH HK⟩
   ·rw [if_neg c26] at H
    have c26b0 : (t479 == 2) = false := beq_eq_false_iff_ne.mpr c26
    have c26b1 : (t479 != 2) = true := bne_iff_ne.mpr c26
    simp only [Option.some.injEq, Prod.mk.injEq] at H
    obtain ⟨rfl, rfl, rfl⟩ := H
    go_enter Try.func58, Try.ntmps58
    go_wp2_with (first | ((with_reducible refine gate_callee (f := 80) rfl ?_); refine goesL_ (some 7) rfl rfl Try.func80 (by kernel_rfl) rfl #[.slice A1 l1.length c1] rfl kA ?_; (with_reducible refine (spec_l01Own.calls _ _ l1 t476 _ ?side1 ?side2 A3.out).mono ?_); (case side1 => exact Kd.C_keep 0 HR1.out (kH HK) hf1); (case side2 => exact HC1.out); rintro e w34 ⟨v477, rfl, ho0, hb⟩; refine ⟨_, rfl, ?_⟩; have n0_ := am (Kd.R_lower ho0 (keep_size (w := w) (g := g) (row := none) (kH HK))); have n1_ := am (IsS72.below (kI HI0) hb); have n2_ := am (KeepBut.trans (kH HK) (KeepBut.of_below hb g none) (.inl rfl)); have n3_ := am (below_step (kB1 HB (IsS72.ge HI0.out)) hb); clear HI0 HK HB; have HO478 := n0_; have HI0 := n1_; have HK := n2_; have HB := n3_; clear n0_ n1_ n2_ n3_; (try clear hb); (try clear hb2); (try clear hk); (try clear hi); (try clear ho0)) | ((with_reducible refine gate_callee (f := 56) rfl ?_); refine goesL_ (some 9) rfl rfl Try.func56 (by kernel_rfl) rfl #[.pointer (some ⟨g, 0, none⟩), .int .i64 40] rfl kA ?_; (with_reducible refine (spec_l01Next.calls g s0_0 s0_1 s0_2 40 t479 t480 t481 w0 _ ?side1 ?side2 A4.out).mono ?_); (case side1 => exact kI HI0); (case side2 => exact kB1 HB (IsS72.ge HI0.out)); rintro e w35 ⟨rfl, hi, hb, hk⟩; refine ⟨_, rfl, ?_⟩; have n0_ := am (Kd.R_mono (Kd.R_keep (IsS72.apart (show IsS72 w0 _ g s0_0 s0_1 s0_2 from kI HI0) (kR HO478) (by decide)) hk (fun _ h => h.2)) (fun _ h => h.1)); have n1_ := am (KeepBut.trans (kH HK) hk (.inl rfl)); have n2_ := am (hb); have n3_ := am (hi); clear HO478 HK HB HI0; have HO478 := n0_; have HK := n1_; have HB := n2_; have HI0 := n3_; clear n0_ n1_ n2_ n3_; (try clear hb); (try clear hb2); (try clear hk); (try clear hi)))
    go_ret
    exact ⟨_, by first | rfl | (simp [errW_none, errW_some] <;> rfl) | (simp [*, errW_none, errW_some] <;> rfl), kR HO478, kI HI0, kB1 HB (IsS72.ge HI0.out), kH HK⟩
end Go.Proofs.Ytdkhecebffjpjaa.X
