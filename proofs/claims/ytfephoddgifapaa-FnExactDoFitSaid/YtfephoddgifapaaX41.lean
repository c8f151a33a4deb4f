/- Written by wip/tool/xprint.py for this claim: functions as plain Lean functions, each with a proof that the Go code comes to its answers; no condition beside those stated. -/
import Derived.Test.YtfephoddgifapaaX0
import Derived.Test.YtfephoddgifapaaX3
import Derived.Test.YtfephoddgifapaaX4
import Derived.Test.YtfephoddgifapaaX14
namespace Go.Proofs.Ytfephoddgifapaa.X
open Go.RowKit Go.Proofs.YtfephoddgifapaaW.PrintWords Go.Proofs.YtfephoddgifapaaW.PrintLast Go.Proofs.YtfephoddgifapaaW.PrintMore
attribute [local go_sem] max2_int min2_int max_two min_two max_three min_three max_four min_four   -- for this text's walks alone
set_option linter.unusedVariables false
set_option linter.unusedSimpArgs false

/-! ### impl_DoFit: function 27, by hand -/
def fitG (a b : Int) : Int := (impl_divisor.f 100 a b).getD 0
theorem fit_some : ∀ (d k : Nat) (a b : Int), b.natAbs ≤ d → d < k → ∃ r, impl_divisor.l0 k a b = some r := by
  intro d
  induction d with
  | zero =>
    intro k a b h hk
    obtain ⟨k, rfl⟩ : ∃ m, k = m + 1 := ⟨k - 1, by omega⟩
    refine ⟨a, ?_⟩
    simp only [impl_divisor.l0]
    rw [if_pos (by omega)]
  | succ d ih =>
    intro k a b h hk
    obtain ⟨k, rfl⟩ : ∃ m, k = m + 1 := ⟨k - 1, by omega⟩
    simp only [impl_divisor.l0]
    by_cases e : b = 0
    · exact ⟨a, by rw [if_pos e]⟩
    · have : (Int.tmod a b).natAbs < b.natAbs := by rw [Int.natAbs_tmod]; exact Nat.mod_lt _ (by omega)
      obtain ⟨r, hr⟩ := ih k b (Int.tmod a b) (by omega) (by omega)
      exact ⟨r, by rw [if_neg e, hr]⟩
theorem fit_divisor (a b : Int) (hb : 1 ≤ b ∧ b ≤ 40) : impl_divisor.f 100 a b = some (fitG a b) := by
  obtain ⟨r, hr⟩ := fit_some 40 100 a b (by omega) (by omega)
  unfold fitG impl_divisor.f
  rw [hr]
  rfl
def fitP (g h : Int) : Bool := decide (1 < fitG g h)
set_option maxHeartbeats 4000000 in
theorem fit1 (l : List Int) (g : Int) (hl : ∀ x ∈ l, 1 ≤ x ∧ x ≤ 40) (B : Nat) (w : World) (hB : B < w.heap.size) (hc : w.cell? ⟨B, 0, none⟩ = some (.int .i64 g)) : PredI 69 #[.pointer (some ⟨B, 0, none⟩)] (fitP g) l w := by
  intro W x hx hb
  have hc' : W.cell? ⟨B, 0, none⟩ = some (.int .i64 g) := (hb.cell (p := ⟨B, 0, none⟩) hB).trans hc
  have hcall := fun V => impl_divisor.calls 100 g x _ V (fit_divisor g x (hl x hx))
  clear hc hb hB hl hx
  go_enter Try.func69, Try.ntmps69
  go_wp2_with (go_at_call 70; refine (hcall _).mono ?_; rintro e w' ⟨rfl, ⟨nd, rfl⟩⟩)
  go_ret
  exact ⟨rfl, pw_below_drewN (Below.refl _ _) nd⟩
def fitB (l : List Int) : Nat → Nat → Bool
  | 0, _ => true
  | d + 1, i => (l.take i).all (fitP (rd l (i : Int))) && fitB l d (i + 1)
def impl_DoFit.f (l0_0 : List Int) : Option (Bool × Int) := some (if isTasksB l0_0 = true then (fitB l0_0 l0_0.length 0, 0) else (false, 1))
set_option maxHeartbeats 16000000 in
set_option maxRecDepth 100000 in
theorem impl_DoFit.calls (A0_0 : Option Addr) (c0_0 : Nat) (l0_0 : List Int) (r1 : Bool) (r2 : Int) (w : World) (hr0_0 : Kd.C (Kd.int .i64) w A0_0 l0_0.length l0_0) (hc0_0 : l0_0.length ≤ c0_0) (h : impl_DoFit.f l0_0 = some (r1, r2)) :
    Calls Try.prog 27 #[.agg #[.slice A0_0 l0_0.length c0_0]] w fun e w' => e = .returned (.tuple #[.bool r1, .int .i64 r2]) ∧ Below w.heap.size w w' := by
  have hu37 := Try.underlying37
  have HR0_0 := Aside0.mk hr0_0
  have HC0_0 := Aside0.mk hc0_0
  clear hr0_0 hc0_0
  have HB := Aside0.mk (Below.refl w.heap.size w)
  unfold impl_DoFit.f at h
  have hcode : impl_tasksCode.f l0_0 true = some (if isTasksB l0_0 = true then 0 else 1) := by
    unfold impl_tasksCode.f
    rw [impl_IsTasks.f, Option.bind_some]
    by_cases hx : isTasksB l0_0 = true
    · rw [if_pos hx, if_pos hx, if_pos rfl]
    · rw [if_neg hx, if_neg hx]
  by_cases ht : isTasksB l0_0 = true
  · rw [if_pos ht] at h hcode
    obtain ⟨rfl, rfl⟩ := Prod.mk.inj (Option.some.inj h)
    clear h
    have HA := Aside0.mk hcode
    have HT := Aside0.mk (show ∀ x ∈ l0_0, 1 ≤ x ∧ x ≤ 40 by
      intro x hx
      unfold isTasksB at ht
      rw [Bool.and_eq_true] at ht
      have := List.all_eq_true.mp ht.2 x hx
      unfold withinB at this
      simpa using this)
    have HL := Aside0.mk (show l0_0.length ≤ 8 by
      unfold isTasksB at ht
      rw [Bool.and_eq_true] at ht
      have := ht.1
      unfold withinB at this
      simp only [Bool.and_eq_true, decide_eq_true_eq] at this
      omega)
    clear hcode ht
    go_enter Try.func27, Try.ntmps27
    go_wp2_with (first | ((with_reducible refine gate_dst (N := 1) rfl ?_); refine box_event ?hg (N := 1) ?hd (cs := #[.slice A0_0 l0_0.length c0_0]) (t := 37) ?hr ?_; (case hd => rfl); (case hg => rfl); (case hr => first | (go_simp; done) | (go_simp; rfl)); intro gb hg w2 hbox hb; have n0_ := Aside0.mk (below_step (by repeat (first | (with_reducible first | exact HB.out | apply below_alloc | apply pw_below_drewN | apply below_drew1) | exact HB.out)) hb); have n1_ := Aside0.mk (hbox); have n2_ := Aside0.mk ((by rw [hg]; exact (below_size (by repeat (first | (with_reducible first | exact HB.out | apply below_alloc | apply pw_below_drewN | apply below_drew1) | exact HB.out))) : w.heap.size ≤ gb)); clear HB; have HB := n0_; have BK := n1_; have GE := n2_; clear n0_ n1_ n2_; clear hb hbox hg; have hcz0 : w2.cell? ⟨gb, 0, none⟩ = some (.slice A0_0 l0_0.length c0_0) := (blk_cell BK.out 0).trans rfl; have hfz0 := blk_frozen BK.out 0) | (go_at_call 65; refine (impl_tasksCode.calls _ _ l0_0 true _ _ ?s1 HC0_0.out HA.out).mono ?_; (case s1 => repeat (first | exact HR0_0.out | exact (Kd.C_below HR0_0.out HB.out) | (with_reducible refine Kd.C_alloc ?_ _) | (with_reducible refine Kd.C_drewN ?_ _) | (with_reducible refine Kd.C_drew ?_))); rintro e w' ⟨rfl, hbm⟩; have n1_ := Aside0.mk (blk_below (g := gb) (o := .cells #[.slice A0_0 l0_0.length c0_0] 37 (0, 0)) (by (with_reducible repeat (first | refine blk_drewN ?_ _ | refine blk_drew ?_ | refine blk_alloc ?_ _)); exact BK.out) hbm); have n0_ := Aside0.mk (below_step (by repeat (first | (with_reducible first | exact HB.out | apply below_alloc | apply pw_below_drewN | apply below_drew1) | exact HB.out)) hbm); clear HB BK hcz0 hfz0; have HB := n0_; have BK := n1_; clear n0_ n1_ hbm; have hcz1 : w'.cell? ⟨gb, 0, none⟩ = some (.slice A0_0 l0_0.length c0_0) := (blk_cell BK.out 0).trans rfl))
    go_loopg [15] (l0_0.length + 1) (fun kq v15 w' => ∃ (n : Nat), v15 = .int .i64 (n : Int) ∧ Aside0 (n + kq = l0_0.length + 1) ∧ Aside0 (n ≤ l0_0.length) ∧ Aside0 (fitB l0_0 l0_0.length 0 = fitB l0_0 (kq - 1) n) ∧ Aside0 (w'.heap[gb]? = some (.cells #[(.slice A0_0 l0_0.length c0_0)] 37 (0, 0))) ∧ Aside0 (Below w.heap.size w w'))
    case atStart => exact ⟨0, (by first | rfl | (simp; done)), ⟨by omega⟩, ⟨by omega⟩, ⟨rfl⟩, ⟨by (with_reducible repeat (first | refine blk_drewN ?_ _ | refine blk_drew ?_ | refine blk_alloc ?_ _)); exact BK.out⟩, ⟨by repeat (first | (with_reducible first | exact HB.out | apply below_alloc | apply pw_below_drewN | apply below_drew1 | refine below_set ?_ GE.out) | exact HB.out)⟩⟩
    case round =>
      try clear hcz1
      obtain ⟨n, rfl, HN, HN2, HF, BK, HB⟩ := hrel
      cases gk with
      | zero => exact absurd HN.out (by have := HN2.out; omega)
      | succ k1 =>
        have hcz2 : wr.cell? ⟨gb, 0, none⟩ = some (.slice A0_0 l0_0.length c0_0) := (blk_cell BK.out 0).trans rfl
        by_cases c4 : n < l0_0.length
        · have c4b0 : decide ((n : Int) < (l0_0.length : Int)) = true := decide_eq_true (by omega)
          have p1 : 0 ≤ (n : Int) := by omega
          have q1 : (n : Int) < (l0_0.length : Int) := by omega
          have q2 : (n : Int) ≤ (c0_0 : Int) := by have := HC0_0.out; omega
          obtain ⟨ad, e1, hx⟩ := Kd.at_int HR0_0.out (n : Int) p1 q1
          cases e1
          rw [Int.toNat_natCast] at hx
          replace hx := (HB.out.cell (World.block_lt_of_cell? w _ hx)).trans hx
          have C4 := Aside0.mk c4
          clear c4
          replace p1 := eq_true p1
          replace q1 := eq_true q1
          replace q2 := eq_true q2
          have hlt : gb < wr.heap.size := blk_lt BK.out
          have hcA : ∀ o, (wr.alloc o).cell? ⟨gb, 0, none⟩ = some (.slice (some ad) l0_0.length c0_0) := fun o => (below_alloc (Below.refl _ _) o).cell (p := ⟨gb, 0, none⟩) hlt |>.trans hcz2
          clear hlt
          have HP : ∀ (V : World) (_ : wr.heap.size < V.heap.size) (_ : V.cell? ⟨wr.heap.size, 0, none⟩ = some (.int .i64 (rd l0_0 (n : Int)))) (_ : Kd.C (Kd.int .i64) V (some ad) l0_0.length l0_0), Calls Try.prog 68 #[.slice (some ad) n c0_0, .func (.func 69) #[] #[.pointer (some ⟨wr.heap.size, 0, none⟩)]] V fun e w' => e = .returned (.bool ((l0_0.take n).all (fitP (rd l0_0 (n : Int))))) ∧ Below V.heap.size V w' := fun V hs hc hr => by
            have h1 := impl_areAll_int64.calls 69 #[.pointer (some ⟨wr.heap.size, 0, none⟩)] (enters_of Try.func69 (by kernel_rfl) rfl) (fitP (rd l0_0 (n : Int))) (some ad) c0_0 (l0_0.take n) V (Kd.C_take hr HN2.out) (fit1 (l0_0.take n) _ (fun x hx => HT.out x (List.mem_of_mem_take hx)) wr.heap.size V hs hc)
            rwa [show (l0_0.take n).length = n by rw [List.length_take]; have := HN2.out; omega] at h1
          have hwr : wrap64 ((n : Int) + 1) = ((n + 1 : Nat) : Int) := by have := HL.out; have := HN2.out; unfold wrap64; omega
          obtain ⟨d, rfl⟩ : ∃ d, k1 = d + 1 := ⟨k1 - 1, by have := C4.out; have := HN.out; omega⟩
          cases hb : (l0_0.take n).all (fitP (rd l0_0 (n : Int))) with
          | true =>
            rw [hb] at HP
            have HF2 : fitB l0_0 l0_0.length 0 = fitB l0_0 d (n + 1) := by rw [HF.out]; show fitB l0_0 (d + 1) n = _; simp only [fitB]; rw [hb, Bool.true_and]
            clear hb HF
            go_wp2_with (go_at_call 68; refine (HP _ (by simp) (by simp) ?s5).mono ?_; (case s5 => repeat (first | exact HR0_0.out | exact (Kd.C_below HR0_0.out HB.out) | (with_reducible refine Kd.C_alloc ?_ _) | (with_reducible refine Kd.C_drewN ?_ _) | (with_reducible refine Kd.C_drew ?_))); rintro e w' ⟨rfl, hbm⟩; have n1_ := Aside0.mk (blk_below (g := gb) (o := .cells #[.slice (some ad) l0_0.length c0_0] 37 (0, 0)) (by (with_reducible repeat (first | refine blk_drewN ?_ _ | refine blk_drew ?_ | refine blk_alloc ?_ _)); exact BK.out) hbm); have n0_ := Aside0.mk (below_step (by repeat (first | (with_reducible first | exact HB.out | apply below_alloc | apply pw_below_drewN | apply below_drew1 | refine below_set ?_ GE.out) | exact HB.out)) hbm); clear HB BK; have HB := n0_; have BK := n1_; clear n0_ n1_ hbm)
            go_roundg (d + 1)
            case measure => omega
            case rel => exact ⟨n + 1, (by first | rfl | (simp; done) | (simp [hwr]; done) | (rw [← hwr]; rfl)), ⟨by have := HN.out; omega⟩, ⟨by have := C4.out; omega⟩, ⟨HF2⟩, ⟨by (with_reducible repeat (first | refine blk_drewN ?_ _ | refine blk_drew ?_ | refine blk_alloc ?_ _)); exact BK.out⟩, ⟨by repeat (first | (with_reducible first | exact HB.out | apply below_alloc | apply pw_below_drewN | apply below_drew1 | refine below_set ?_ GE.out) | exact HB.out)⟩⟩
          | false =>
            rw [hb] at HP
            have HF2 : fitB l0_0 l0_0.length 0 = false := by rw [HF.out]; show fitB l0_0 (d + 1) n = _; simp only [fitB]; rw [hb, Bool.false_and]
            clear hb HF
            go_wp2_with (go_at_call 68; refine (HP _ (by simp) (by simp) ?s5).mono ?_; (case s5 => repeat (first | exact HR0_0.out | exact (Kd.C_below HR0_0.out HB.out) | (with_reducible refine Kd.C_alloc ?_ _) | (with_reducible refine Kd.C_drewN ?_ _) | (with_reducible refine Kd.C_drew ?_))); rintro e w' ⟨rfl, hbm⟩; have n1_ := Aside0.mk (blk_below (g := gb) (o := .cells #[.slice (some ad) l0_0.length c0_0] 37 (0, 0)) (by (with_reducible repeat (first | refine blk_drewN ?_ _ | refine blk_drew ?_ | refine blk_alloc ?_ _)); exact BK.out) hbm); have n0_ := Aside0.mk (below_step (by repeat (first | (with_reducible first | exact HB.out | apply below_alloc | apply pw_below_drewN | apply below_drew1 | refine below_set ?_ GE.out) | exact HB.out)) hbm); clear HB BK; have HB := n0_; have BK := n1_; clear n0_ n1_ hbm)
            go_ret2
            exact ⟨by rw [HF2]; rfl, by repeat (first | (with_reducible first | exact HB.out | apply below_alloc | apply pw_below_drewN | apply below_drew1 | refine below_set ?_ GE.out) | exact HB.out)⟩
        · have c4b0 : decide ((n : Int) < (l0_0.length : Int)) = false := decide_eq_false (by omega)
          have HF2 : fitB l0_0 l0_0.length 0 = true := by rw [HF.out, show k1 + 1 - 1 = 0 by have := HN.out; omega]; rfl
          have c4d := eq_false c4
          have c4e : ((n : Int) < (l0_0.length : Int)) = False := eq_false (by omega)
          have c4f : (l0_0.length ≤ n) = True := eq_true (by omega)
          clear c4
          go_wp2
          go_ret2
          exact ⟨by rw [HF2]; rfl, by repeat (first | (with_reducible first | exact HB.out | apply below_alloc | apply pw_below_drewN | apply below_drew1 | refine below_set ?_ GE.out) | exact HB.out)⟩
  · rw [if_neg ht] at h hcode
    obtain ⟨rfl, rfl⟩ := Prod.mk.inj (Option.some.inj h)
    clear h
    have HA := Aside0.mk hcode
    clear hcode ht
    go_enter Try.func27, Try.ntmps27
    go_wp2_with (first | ((with_reducible refine gate_dst (N := 1) rfl ?_); refine box_event ?hg (N := 1) ?hd (cs := #[.slice A0_0 l0_0.length c0_0]) (t := 37) ?hr ?_; (case hd => rfl); (case hg => rfl); (case hr => first | (go_simp; done) | (go_simp; rfl)); intro gb hg w2 hbox hb; have n0_ := Aside0.mk (below_step (by repeat (first | (with_reducible first | exact HB.out | apply below_alloc | apply pw_below_drewN | apply below_drew1) | exact HB.out)) hb); have n1_ := Aside0.mk (hbox); have n2_ := Aside0.mk ((by rw [hg]; exact (below_size (by repeat (first | (with_reducible first | exact HB.out | apply below_alloc | apply pw_below_drewN | apply below_drew1) | exact HB.out))) : w.heap.size ≤ gb)); clear HB; have HB := n0_; have BK := n1_; have GE := n2_; clear n0_ n1_ n2_; clear hb hbox hg; have hcz0 : w2.cell? ⟨gb, 0, none⟩ = some (.slice A0_0 l0_0.length c0_0) := (blk_cell BK.out 0).trans rfl; have hfz0 := blk_frozen BK.out 0) | (go_at_call 65; refine (impl_tasksCode.calls _ _ l0_0 true _ _ ?s1 HC0_0.out HA.out).mono ?_; (case s1 => repeat (first | exact HR0_0.out | exact (Kd.C_below HR0_0.out HB.out) | (with_reducible refine Kd.C_alloc ?_ _) | (with_reducible refine Kd.C_drewN ?_ _) | (with_reducible refine Kd.C_drew ?_))); rintro e w' ⟨rfl, hbm⟩; have n1_ := Aside0.mk (blk_below (g := gb) (o := .cells #[.slice A0_0 l0_0.length c0_0] 37 (0, 0)) (by (with_reducible repeat (first | refine blk_drewN ?_ _ | refine blk_drew ?_ | refine blk_alloc ?_ _)); exact BK.out) hbm); have n0_ := Aside0.mk (below_step (by repeat (first | (with_reducible first | exact HB.out | apply below_alloc | apply pw_below_drewN | apply below_drew1) | exact HB.out)) hbm); clear HB BK hcz0 hfz0; have HB := n0_; have BK := n1_; clear n0_ n1_ hbm; have hcz1 : w'.cell? ⟨gb, 0, none⟩ = some (.slice A0_0 l0_0.length c0_0) := (blk_cell BK.out 0).trans rfl))
    go_ret2
    exact ⟨rfl, by repeat (first | (with_reducible first | exact HB.out | apply below_alloc | apply pw_below_drewN | apply below_drew1) | exact HB.out)⟩


end Go.Proofs.Ytfephoddgifapaa.X
