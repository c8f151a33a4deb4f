/- Written by wip/tool/xprint.py for this claim: functions as plain Lean functions, each with a proof that the Go code comes to its answers; no condition beside those stated. -/
import Derived.Test.YtnmcglnkifkpnaaX0
namespace Go.Proofs.Ytnmcglnkifkpnaa.X
open Go.RowKit Go.Proofs.YtnmcglnkifkpnaaW.PrintWords Go.Proofs.YtnmcglnkifkpnaaW.PrintLast Go.Proofs.YtnmcglnkifkpnaaW.PrintMore
attribute [local go_sem] max2_int min2_int max_two min_two max_three min_three max_four min_four   -- for this text's walks alone
set_option linter.unusedVariables false
set_option linter.unusedSimpArgs false

/-! ### laws_eqClass: function 51, by hand -/
def laws_eqClass.f (a0_0 a0_1 a1_0 a1_1 : Int) : Option Bool := some (decide (a0_0 = a1_0) && decide (a0_1 = a1_1))
set_option maxHeartbeats 4000000 in
set_option maxRecDepth 100000 in
theorem laws_eqClass.calls (a0_0 a0_1 a1_0 a1_1 : Int) (r : Bool) (w : World) (h : laws_eqClass.f a0_0 a0_1 a1_0 a1_1 = some r) :
    Calls Try.prog 51 #[.agg #[.int .i64 a0_0, .int .i64 a0_1], .agg #[.int .i64 a1_0, .int .i64 a1_1]] w fun e w' => e = .returned (.bool r) ∧ Below w.heap.size w w' := by
  obtain rfl := Option.some.inj h
  clear h
  have hu54 := Try.underlying54
  have HB := Aside0.mk (Below.refl w.heap.size w)
  by_cases h0 : a0_0 = a1_0
  · have h0b : (a0_0 == a1_0) = true := beq_iff_eq.mpr h0
    have h0c : (a0_0 != a1_0) = false := by rw [bne, h0b]; rfl
    have H0 := Aside0.mk h0
    clear h0
    by_cases h1 : a0_1 = a1_1
    · have h1b : (a0_1 == a1_1) = true := beq_iff_eq.mpr h1
      have h1c : (a0_1 != a1_1) = false := by rw [bne, h1b]; rfl
      have H1 := Aside0.mk h1
      clear h1
      go_enter Try.func51, Try.ntmps51
      go_wp2
      refine wp_loop_rounds 3 ?_
      rw [rounds_succ]
      go_wp2
      go_quiet (fail)
      go_wp2
      rw [rounds_succ]
      go_wp2
      go_quiet (fail)
      go_wp2
      rw [rounds_succ]
      go_wp2
      go_ret
      exact ⟨by rw [decide_eq_true H0.out, decide_eq_true H1.out]; rfl, by repeat (first | (with_reducible first | exact HB.out | apply below_alloc | apply pw_below_drewN | apply below_drew1) | exact HB.out)⟩
    · have h1b : (a0_1 == a1_1) = false := beq_eq_false_iff_ne.mpr h1
      have h1c : (a0_1 != a1_1) = true := by rw [bne, h1b]; rfl
      have H1 := Aside0.mk h1
      clear h1
      go_enter Try.func51, Try.ntmps51
      go_wp2
      refine wp_loop_rounds 3 ?_
      rw [rounds_succ]
      go_wp2
      go_quiet (fail)
      go_wp2
      rw [rounds_succ]
      go_wp2
      go_quiet (fail)
      go_wp2
      go_ret
      exact ⟨by rw [decide_eq_true H0.out, decide_eq_false H1.out]; rfl, by repeat (first | (with_reducible first | exact HB.out | apply below_alloc | apply pw_below_drewN | apply below_drew1) | exact HB.out)⟩
  · have h0b : (a0_0 == a1_0) = false := beq_eq_false_iff_ne.mpr h0
    have h0c : (a0_0 != a1_0) = true := by rw [bne, h0b]; rfl
    have H0 := Aside0.mk h0
    clear h0
    go_enter Try.func51, Try.ntmps51
    go_wp2
    refine wp_loop_rounds 3 ?_
    rw [rounds_succ]
    go_wp2
    go_quiet (fail)
    go_wp2
    go_ret
    exact ⟨by rw [decide_eq_false H0.out]; rfl, by repeat (first | (with_reducible first | exact HB.out | apply below_alloc | apply pw_below_drewN | apply below_drew1) | exact HB.out)⟩


end Go.Proofs.Ytnmcglnkifkpnaa.X
