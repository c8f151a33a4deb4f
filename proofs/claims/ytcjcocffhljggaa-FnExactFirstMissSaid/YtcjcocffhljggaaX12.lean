/- Written by wip/tool/xprint.py for this claim: functions as plain Lean functions, each with a proof that the Go code comes to its answers; no condition beside those stated. -/
import Derived.Test.YtcjcocffhljggaaX0
import Derived.Test.YtcjcocffhljggaaX11
namespace Go.Proofs.Ytcjcocffhljggaa.X
open Go.RowKit Go.Proofs.YtcjcocffhljggaaW.PrintWords Go.Proofs.YtcjcocffhljggaaW.PrintLast Go.Proofs.YtcjcocffhljggaaW.PrintMore
attribute [local go_sem] max2_int min2_int max_two min_two max_three min_three max_four min_four   -- for this text's walks alone
set_option linter.unusedVariables false
set_option linter.unusedSimpArgs false

/-! ### slices_ContainsFunc_int64_int64: function 116, by hand -/
set_option maxHeartbeats 4000000 in
set_option maxRecDepth 100000 in
theorem slices_ContainsFunc_int64_int64.calls (g : Nat) (lb : Array Value) (eg : ∀ args w, (callFunc g args).run Try.prog w = .ok (.enter g args) w) (p : Int → Bool) (A0 : Option Addr) (c0 : Nat) (l0 : List Int) (w : World) (hr0 : Kd.C (Kd.int .i64) w A0 l0.length l0) (hp : PredI g lb p l0 w) :
    Calls Try.prog 116 #[.slice A0 l0.length c0, .func (.func g) #[] lb] w fun e w' => e = .returned (.bool (l0.any p)) ∧ Below w.heap.size w w' := by
  have h1 := idxI_any p l0
  have H1 := Aside0.mk h1
  clear h1
  have hc := slices_IndexFunc_int64_int64.calls g lb eg p A0 c0 l0 w hr0 hp
  clear hr0 hp
  go_enter Try.func116, Try.ntmps116
  go_wp2_with (go_at_call 123; refine hc.mono ?_; rintro e w' ⟨rfl, hb'⟩)
  go_ret
  exact ⟨by rw [← H1.out]; rfl, hb'⟩


end Go.Proofs.Ytcjcocffhljggaa.X
