/- Written by wip/tool/xprint.py for this claim: functions as plain Lean functions, each with a proof that the Go code comes to its answers; no condition beside those stated. -/
import Derived.Test.YtjaanhnmgipmeaaX0
import Derived.Test.YtjaanhnmgipmeaaX2
namespace Go.Proofs.Ytjaanhnmgipmeaa.X
open Go.RowKit Go.Proofs.YtjaanhnmgipmeaaW.PrintWords Go.Proofs.YtjaanhnmgipmeaaW.PrintLast Go.Proofs.YtjaanhnmgipmeaaW.PrintMore
attribute [local go_sem] max2_int min2_int max_two min_two max_three min_three max_four min_four   -- for this text's walks alone
set_option linter.unusedVariables false
set_option linter.unusedSimpArgs false

/-! ### impl_isOrder: function 72, by hand -/
theorem mapK_isOrder : Go.Maps.Keyed Try.prog 2 := Go.Maps.int_keyed Try.underlying2
def keyL (l : List Int) : List Lit := l.map (Lit.int .i64)
def setL (l : List Int) : DataW Unit := Go.Maps.setOf (.lit (.bool true)) (keyL l)
def sizeL (l : List Int) : Nat := Go.Maps.size (setL l)
theorem setL_nil : setL [] = .map [] := rfl
theorem setL_succ (l : List Int) (n : Nat) (h : n < l.length) : setL (l.take (n + 1)) = (setL (l.take n)).put (.int .i64 (rd l (n : Int))) (.lit (.bool true)) := by
  unfold setL keyL
  rw [List.take_succ_eq_append_getElem h, List.map_append, List.map_singleton, Go.Maps.setOf_snoc, rd_nat l n h]
def isOrderB (l : List Int) (m : Int) : Bool := (l.all fun i => withinB i 0 (wrap64 (m - 1))) && (decide ((l.length : Int) = m) && decide (sizeL l = l.length))
theorem isOrderB_no (l : List Int) (m : Int) (n : Nat) (h : n < l.length) (hw : withinB (rd l (n : Int)) 0 (wrap64 (m - 1)) = false) : isOrderB l m = false := by
  unfold isOrderB
  have : (l.all fun i => withinB i 0 (wrap64 (m - 1))) = false := by
    rw [List.all_eq_false]
    exact ⟨_, rd_mem l n h, by rw [hw]; exact Bool.false_ne_true⟩
  rw [this, Bool.false_and]
theorem isOrderB_yes (l : List Int) (m : Int) (hw : ∀ n : Nat, n < l.length → withinB (rd l (n : Int)) 0 (wrap64 (m - 1)) = true) : isOrderB l m = (decide ((l.length : Int) = m) && decide (sizeL l = l.length)) := by
  unfold isOrderB
  have : (l.all fun i => withinB i 0 (wrap64 (m - 1))) = true := by
    rw [List.all_eq_true]
    intro x hx
    obtain ⟨j, hj, rfl⟩ := List.getElem_of_mem hx
    have := hw j hj
    rwa [rd_nat l j hj] at this
  rw [this, Bool.true_and]
theorem int_beq_nat (a b : Nat) : ((a : Int) == (b : Int)) = decide (a = b) := by
  by_cases h : a = b
  · subst h; simp
  · have : ¬ (a : Int) = (b : Int) := by omega
    simp [h, this]
def impl_isOrder.f (l0 : List Int) (a1 : Int) : Option Bool := some (isOrderB l0 a1)
set_option maxHeartbeats 8000000 in
set_option maxRecDepth 100000 in
theorem impl_isOrder.calls (A0 : Option Addr) (c0 : Nat) (l0 : List Int) (a1 : Int) (r : Bool) (w : World) (hr0 : Kd.C (Kd.int .i64) w A0 l0.length l0) (hc0 : l0.length ≤ c0) (h : impl_isOrder.f l0 a1 = some r) :
    Calls Try.prog 72 #[.slice A0 l0.length c0, .int .i64 a1] w fun e w' => e = .returned (.bool r) ∧ Below w.heap.size w w' := by
  obtain rfl := Option.some.inj h
  clear h
  have HR := Aside0.mk hr0
  have HC := Aside0.mk hc0
  have HM := Aside0.mk (Kd.C_max hr0)
  have HB := Aside0.mk (Below.refl w.heap.size w)
  have hmm := @run_makeMap Try.prog
  clear hr0 hc0
  go_enter Try.func72, Try.ntmps72
  go_wp2
  go_loopg [11] (l0.length + 1) (fun kq v11 w' => ∃ (n : Nat), v11 = .int .i64 (n : Int) ∧ Aside0 (n + kq = l0.length + 1) ∧ Aside0 (n ≤ l0.length) ∧ Aside0 (∀ j : Nat, j < n → withinB (rd l0 (j : Int)) 0 (wrap64 (a1 - 1)) = true) ∧ Aside0 (w'.ownsMap Try.prog 2 (plainElem Try.prog 4) w.heap.size n (setL (l0.take n))) ∧ Aside0 (Below w.heap.size w w'))
  case atStart => exact ⟨0, (by first | rfl | (simp; done)), ⟨by omega⟩, ⟨by omega⟩, ⟨fun j hj => absurd hj (Nat.not_lt_zero _)⟩, ⟨World.ownsMap_made _ _ _ _⟩, ⟨(Below.refl _ _).alloc (Nat.le_refl _) _⟩⟩
  case round =>
    clear HB
    obtain ⟨n, rfl, HN, HN2, HA, HO, HB⟩ := hrel
    cases gk with
    | zero => exact absurd HN.out (by have := HN2.out; omega)
    | succ k1 =>
      by_cases c4 : n < l0.length
      · have c4b0 : decide ((n : Int) < (l0.length : Int)) = true := decide_eq_true (by omega)
        have p1 : 0 ≤ (n : Int) := by omega
        have q1 : (n : Int) < (l0.length : Int) := by omega
        obtain ⟨ad, e1, hx⟩ := Kd.at_int HR.out (n : Int) p1 q1
        cases e1
        rw [Int.toNat_natCast] at hx
        replace hx := (HB.out.cell (World.block_lt_of_cell? w _ hx)).trans hx
        have C4 := Aside0.mk c4
        have hwr : wrap64 ((n : Int) + 1) = ((n + 1 : Nat) : Int) := by have := HM.out; have := C4.out; unfold wrap64; omega
        clear c4
        replace p1 := eq_true p1
        replace q1 := eq_true q1
        cases hb : withinB (rd l0 (n : Int)) 0 (wrap64 (a1 - 1)) with
        | true =>
          have HW := fun W => impl_within.calls (rd l0 (n : Int)) 0 (wrap64 (a1 - 1)) true W (by rw [within_f, hb])
          have HQ := Aside0.mk hb
          have hkey : keyOf Try.prog 2 (.int .i64 (rd l0 (n : Int))) = some (.int .i64 (rd l0 (n : Int))) := Go.Maps.keyOf_int_mk Try.underlying2 (by
            unfold withinB at hb
            simp only [Bool.and_eq_true, decide_eq_true_eq] at hb
            have h3 : wrap64 (a1 - 1) ≤ 9223372036854775807 := by unfold wrap64; omega
            exact WalkArith.wf_i64 (by omega))
          clear hb
          have HK := Aside0.mk hkey
          clear hkey
          go_wp2_with (first | (go_at_call 40; refine (HW _).mono ?_; rintro e w' ⟨rfl, ⟨m2, rfl⟩⟩) | (at_mapUpdate; refine wpList_mapUpdate_own _ rfl _ _ _ 84 rfl 2 4 mapK_isOrder Try.underlying84 (plainElem (H := Unit) Try.prog 4) w.heap.size n _ rfl HO.out (by have := HM.out; have := C4.out; unfold maxLen; omega) _ _ _ rfl rfl HK.out _ [] (plainElem_bool Try.underlying4 true) ?_; intro w1 hown1 hgrow1))
          go_roundg k1
          case measure => omega
          case rel => exact ⟨n + 1, (by first | rfl | (simp; done) | (simp [hwr]; done) | (rw [← hwr]; rfl)), ⟨by have := HN.out; omega⟩, ⟨by have := C4.out; omega⟩, ⟨fun j hj => by
              by_cases e : j = n
              · subst e; exact HQ.out
              · exact HA.out j (by omega)⟩, ⟨(setL_succ l0 n C4.out).symm ▸ hown1⟩, ⟨(pw_below_drewN HB.out m2).grown hgrow1 HB.out.size (fun j hj => by cases hj; exact Nat.le_refl _)⟩⟩
        | false =>
          have HW := fun W => impl_within.calls (rd l0 (n : Int)) 0 (wrap64 (a1 - 1)) false W (by rw [within_f, hb])
          have HV := Aside0.mk (isOrderB_no l0 a1 n C4.out hb)
          clear hb
          go_wp2_with ((go_at_call 40; refine (HW _).mono ?_; rintro e w' ⟨rfl, ⟨m2, rfl⟩⟩))
          go_ret
          exact ⟨by rw [HV.out]; rfl, by repeat (first | (with_reducible first | exact HB.out | apply below_alloc | apply pw_below_drewN | apply below_drew1) | exact HB.out)⟩
      · have c4b0 : decide ((n : Int) < (l0.length : Int)) = false := decide_eq_false (by omega)
        have hn : n = l0.length := by have := HN2.out; omega
        have HV := Aside0.mk (isOrderB_yes l0 a1 (fun j hj => HA.out j (by omega)))
        have HS := Aside0.mk (show setL (l0.take n) = setL l0 by rw [hn, List.take_length])
        clear hn
        by_cases hE : (l0.length : Int) = a1
        · have hEb : ((l0.length : Int) == a1) = true := beq_iff_eq.mpr hE
          have HE := Aside0.mk hE
          clear hE
          have hlen := fun (m : Nat) (t : TypeId) => World.ownsMap.len (show (wr.drewN m).ownsMap Try.prog 2 (plainElem (H := Unit) Try.prog 4) w.heap.size n (setL (l0.take n)) from HO.out) Try.underlying84 t
          go_wp2_with (go_at_call 41; refine (impl_length_int64.calls _ _ l0 _ _ ?s1 HC.out rfl).mono ?_; (case s1 => repeat (first | exact (Kd.C_below HR.out HB.out) | (with_reducible refine Kd.C_alloc ?_ _) | (with_reducible refine Kd.C_drewN ?_ _) | (with_reducible refine Kd.C_drew ?_))); rintro e w' ⟨rfl, ⟨m1, rfl⟩⟩)
          go_ret
          exact ⟨by rw [HV.out, decide_eq_true HE.out]; exact congrArg (fun b => Ending.returned (Value.bool b)) (by rw [HS.out, Bool.true_and, ← int_beq_nat]; rfl), by repeat (first | (with_reducible first | exact HB.out | apply below_alloc | apply pw_below_drewN | apply below_drew1) | exact HB.out)⟩
        · have hEb : ((l0.length : Int) == a1) = false := beq_eq_false_iff_ne.mpr hE
          have HE := Aside0.mk hE
          clear hE
          go_wp2_with ((go_at_call 41; refine (impl_length_int64.calls _ _ l0 _ _ ?s1 HC.out rfl).mono ?_; (case s1 => repeat (first | exact (Kd.C_below HR.out HB.out) | (with_reducible refine Kd.C_alloc ?_ _) | (with_reducible refine Kd.C_drewN ?_ _) | (with_reducible refine Kd.C_drew ?_))); rintro e w' ⟨rfl, ⟨m1, rfl⟩⟩))
          go_ret
          exact ⟨by rw [HV.out, decide_eq_false HE.out]; rfl, by repeat (first | (with_reducible first | exact HB.out | apply below_alloc | apply pw_below_drewN | apply below_drew1) | exact HB.out)⟩


end Go.Proofs.Ytjaanhnmgipmeaa.X
