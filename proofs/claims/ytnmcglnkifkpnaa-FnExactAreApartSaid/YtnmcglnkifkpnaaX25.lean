/- Written by wip/tool/xprint.py for this claim: functions as plain Lean functions, each with a proof that the Go code comes to its answers; no condition beside those stated. -/
import Derived.Test.YtnmcglnkifkpnaaX0
import Derived.Test.YtnmcglnkifkpnaaX2
import Derived.Test.YtnmcglnkifkpnaaX21
namespace Go.Proofs.Ytnmcglnkifkpnaa.X
open Go.RowKit Go.Proofs.YtnmcglnkifkpnaaW.PrintWords Go.Proofs.YtnmcglnkifkpnaaW.PrintLast Go.Proofs.YtnmcglnkifkpnaaW.PrintMore
attribute [local go_sem] max2_int min2_int max_two min_two max_three min_three max_four min_four   -- for this text's walks alone
set_option linter.unusedVariables false
set_option linter.unusedSimpArgs false

/-! ### impl_areTurns: function 76, by hand -/
def areTurnsB (l : List Int) (a : Int) : Bool := withinB (l.length : Int) 1 120 && l.all fun i => withinB i (-1) (wrap64 (a - 1))
set_option maxHeartbeats 4000000 in
theorem areTurns1 (l : List Int) (a : Int) (B : Nat) (w : World) (hB : B < w.heap.size) (hc : w.cell? ⟨B, 0, none⟩ = some (.int .i64 a)) : PredI 100 #[.pointer (some ⟨B, 0, none⟩)] (fun i => withinB i (-1) (wrap64 (a - 1))) l w := by
  intro W x _ hb
  have hc' : W.cell? ⟨B, 0, none⟩ = some (.int .i64 a) := (hb.cell (p := ⟨B, 0, none⟩) hB).trans hc
  have hw := fun V => impl_within.calls x (-1) (wrap64 (a - 1)) _ V (within_f x (-1) (wrap64 (a - 1)))
  clear hc hb hB
  go_enter Try.func100, Try.ntmps100
  go_wp2_with (go_at_call 47; refine (hw _).mono ?_; rintro e w' ⟨rfl, ⟨m, rfl⟩⟩)
  go_ret
  exact ⟨rfl, pw_below_drewN (Below.refl _ _) m⟩
def impl_areTurns.f (l0 : List Int) (a1 : Int) : Option Bool := some (areTurnsB l0 a1)
set_option maxHeartbeats 8000000 in
set_option maxRecDepth 100000 in
theorem impl_areTurns.calls (A0 : Option Addr) (c0 : Nat) (l0 : List Int) (a1 : Int) (r : Bool) (w : World) (hr0 : Kd.C (Kd.int .i64) w A0 l0.length l0) (hc0 : l0.length ≤ c0) (h : impl_areTurns.f l0 a1 = some r) :
    Calls Try.prog 76 #[.slice A0 l0.length c0, .int .i64 a1] w fun e w' => e = .returned (.bool r) ∧ Below w.heap.size w w' := by
  obtain rfl := Option.some.inj h
  clear h
  have HR := Aside0.mk hr0
  have HC := Aside0.mk hc0
  have HB := Aside0.mk (Below.refl w.heap.size w)
  have HP := fun (V : World) (hs : w.heap.size < V.heap.size) (hc : V.cell? ⟨w.heap.size, 0, none⟩ = some (.int .i64 a1)) => areTurns1 l0 a1 w.heap.size V hs hc
  clear hr0 hc0
  cases hb : withinB (l0.length : Int) 1 120 with
  | true =>
    have HV := Aside0.mk (show areTurnsB l0 a1 = l0.all fun i => withinB i (-1) (wrap64 (a1 - 1)) by unfold areTurnsB; rw [hb]; rfl)
    have HW := fun W => impl_within.calls (l0.length : Int) 1 120 true W (by rw [within_f, hb])
    clear hb
    go_enter Try.func76, Try.ntmps76
    go_wp2_with (first | (go_at_call 99; refine (impl_length_int64.calls _ _ l0 _ _ ?s1 HC.out rfl).mono ?_; (case s1 => repeat (first | exact HR.out | (with_reducible refine Kd.C_alloc ?_ _) | (with_reducible refine Kd.C_drewN ?_ _) | (with_reducible refine Kd.C_drew ?_))); rintro e w' ⟨rfl, ⟨m1, rfl⟩⟩) | (go_at_call 47; refine (HW _).mono ?_; rintro e w' ⟨rfl, ⟨m2, rfl⟩⟩) | (go_at_call 78; refine (impl_areAll_int64.calls 100 _ (enters_of Try.func100 (by kernel_rfl) rfl) (fun i => withinB i (-1) (wrap64 (a1 - 1))) _ _ l0 _ ?s2 (HP _ (by simp) (by simp))).mono ?_; (case s2 => repeat (first | exact HR.out | (with_reducible refine Kd.C_alloc ?_ _) | (with_reducible refine Kd.C_drewN ?_ _) | (with_reducible refine Kd.C_drew ?_))); rintro e w' ⟨rfl, hb'⟩))
    go_ret
    exact ⟨by rw [HV.out]; rfl, below_then (by repeat (first | (with_reducible first | exact HB.out | apply below_alloc | apply pw_below_drewN | apply below_drew1) | exact HB.out)) (below_size (by repeat (first | (with_reducible first | exact HB.out | apply below_alloc | apply pw_below_drewN | apply below_drew1) | exact HB.out))) hb'⟩
  | false =>
    have HV := Aside0.mk (show areTurnsB l0 a1 = false by unfold areTurnsB; rw [hb]; rfl)
    have HW := fun W => impl_within.calls (l0.length : Int) 1 120 false W (by rw [within_f, hb])
    clear hb
    go_enter Try.func76, Try.ntmps76
    go_wp2_with (first | (go_at_call 99; refine (impl_length_int64.calls _ _ l0 _ _ ?s3 HC.out rfl).mono ?_; (case s3 => repeat (first | exact HR.out | (with_reducible refine Kd.C_alloc ?_ _) | (with_reducible refine Kd.C_drewN ?_ _) | (with_reducible refine Kd.C_drew ?_))); rintro e w' ⟨rfl, ⟨m1, rfl⟩⟩) | (go_at_call 47; refine (HW _).mono ?_; rintro e w' ⟨rfl, ⟨m2, rfl⟩⟩))
    go_ret
    exact ⟨by rw [HV.out]; rfl, by repeat (first | (with_reducible first | exact HB.out | apply below_alloc | apply pw_below_drewN | apply below_drew1) | exact HB.out)⟩


end Go.Proofs.Ytnmcglnkifkpnaa.X
