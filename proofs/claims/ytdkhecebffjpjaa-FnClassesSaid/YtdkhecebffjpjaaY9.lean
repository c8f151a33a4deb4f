import Derived.Test.YtdkhecebffjpjaaU
import Derived.Test.YtdkhecebffjpjaaY0
import Derived.Test.YtdkhecebffjpjaaY8
namespace Go.Proofs.Ytdkhecebffjpjaa.X
open Go.RowKit Go.Proofs.YtdkhecebffjpjaaW.PrintWords Go.Proofs.YtdkhecebffjpjaaW.PrintLast Go.Proofs.YtdkhecebffjpjaaW.PrintMore
attribute [local go_sem] max2_int min2_int max_two min_two max_three min_three max_four min_four
set_option linter.unusedVariables false
set_option linter.unusedSimpArgs false
/-! ### impl_Class_isApart: function 65, by hand -/
def meetB (a b c d : Int) : Bool := (impl_Class_meets.f 100 a b c d).getD false
theorem meet_div : ∀ (d k : Nat) (a b : Int), b.natAbs ≤ d → d < k → ∃ r, impl_divisor.l0 k a b = some r ∧ ((a ≠ 0 ∨ b ≠ 0) → r ≠ 0) := by
 intro d
 induction d with
 | zero =>
  intro k a b h hk
  obtain ⟨k, rfl⟩ : ∃ m, k = m + 1 := ⟨k - 1, by omega⟩
  refine ⟨a, ?_, fun z => by omega⟩
  simp only [impl_divisor.l0]
  rw [if_pos (by omega)]
 | succ d ih =>
  intro k a b h hk
  obtain ⟨k, rfl⟩ : ∃ m, k = m + 1 := ⟨k - 1, by omega⟩
  simp only [impl_divisor.l0]
  by_cases e : b = 0
  ·exact ⟨a, by rw [if_pos e], fun z => by omega⟩
  ·have : (Int.tmod a b).natAbs < b.natAbs := by rw [Int.natAbs_tmod]; exact Nat.mod_lt _ (by omega)
   obtain ⟨r, hr, hz⟩ := ih k b (Int.tmod a b) (by omega) (by omega)
   exact ⟨r, by rw [if_neg e, hr], fun _ => hz (.inl e)⟩
theorem meet_some (a b c d : Int) (hd : 1 ≤ d ∧ d ≤ 40) : impl_Class_meets.f 100 a b c d = some (meetB a b c d) := by
 obtain ⟨r, hr, hz⟩ := meet_div 40 100 b d (by omega) (by omega)
 unfold meetB impl_Class_meets.f impl_divisor.f
 rw [hr, Option.bind_some, if_neg (hz (.inr (by omega)))]
 rfl
def apartB (a b : Int) (l : List S40) : Bool := l.all fun d => !(meetB a b d.f0 d.f1)
def gapsIn (l : List S40) : Bool := l.all fun d => decide (1 ≤ d.f1) && decide (d.f1 ≤ 40)
theorem gapsIn_mem {l : List S40} (h : gapsIn l = true) (d : S40) (hd : d ∈ l) : 1 ≤ d.f1 ∧ d.f1 ≤ 40 := by
 unfold gapsIn at h
 have := List.all_eq_true.mp h d hd
 simpa using this
set_option maxHeartbeats 4000000 in
theorem isApart1 (l : List S40) (hg : gapsIn l = true) (a b : Int) (B : Nat) (w : World) (hB : B < w.heap.size) (hc : w.heap[B]? = some (.cells #[.int .i64 a, .int .i64 b] 40 (0, 0))) : PredC 81 #[.pointer (some ⟨B, 0, none⟩)] (fun d => !(meetB a b d.f0 d.f1)) l w := by
 intro W x hx hb
 have hu40 := Try.underlying40
 have hc0 : W.cell? ⟨B, 0, none⟩ = some (.int .i64 a) := (hb.cell (p := ⟨B, 0, none⟩) hB).trans ((blk_cell hc 0).trans rfl)
 have hc1 : W.cell? ⟨B, 1, none⟩ = some (.int .i64 b) := (hb.cell (p := ⟨B, 1, none⟩) hB).trans ((blk_cell hc 1).trans rfl)
 have hk0 : ∀ o, (W.alloc o).cell? ⟨B, 0, none⟩ = some (.int .i64 a) := fun o => ((below_alloc (Below.refl _ _) o).cell (p := ⟨B, 0, none⟩) (World.block_lt_of_cell? W _ hc0)).trans hc0
 have hk1 : ∀ o, (W.alloc o).cell? ⟨B, 1, none⟩ = some (.int .i64 b) := fun o => ((below_alloc (Below.refl _ _) o).cell (p := ⟨B, 1, none⟩) (World.block_lt_of_cell? W _ hc1)).trans hc1
 have hcall := fun V => impl_Class_meets.calls 100 a b x.f0 x.f1 _ V (meet_some a b x.f0 x.f1 (gapsIn_mem hg x hx))
 have HB := am (Below.refl W.heap.size W)
 clear hc hb hB hg hx
 go_enter Try.func81, Try.ntmps81
 go_wp2_with (go_at_call 82; refine (hcall _).mono ?_; rintro e w' ⟨rfl, hb'⟩)
 go_ret
 exact ⟨rfl, below_then (kB HB) (below_size (kB HB)) hb'⟩
def impl_Class_isApart.f (a0_0 a0_1 : Int) (l1 : List S40) : Option Bool := if gapsIn l1 = true then some (apartB a0_0 a0_1 l1) else none
set_option maxHeartbeats 4000000 in
set_option maxRecDepth 100000 in
theorem impl_Class_isApart.calls (a0_0 a0_1 : Int) (A1 : Option Addr) (c1 : Nat) (l1 : List S40) (r : Bool) (w : World) (hr1 : Kd.C k40 w A1 l1.length l1) (hc1 : l1.length ≤ c1) (h : impl_Class_isApart.f a0_0 a0_1 l1 = some r) :
  Calls Try.prog 65 #[.agg #[.int .i64 a0_0, .int .i64 a0_1], .slice A1 l1.length c1] w fun e w' => e = .returned (.bool r) ∧ Below w.heap.size w w' := by
 unfold impl_Class_isApart.f at h
 by_cases hg : gapsIn l1 = true
 ·rw [if_pos hg] at h
  obtain rfl := Option.some.inj h
  clear h
  have HR := am hr1
  have HG := am hg
  have HB := am (Below.refl w.heap.size w)
  clear hr1 hg
  go_enter Try.func65, Try.ntmps65
  go_wp2_with (go_at_call 41; refine (cAreAll_at 81 #[.pointer (some ⟨w.heap.size, 0, none⟩)] (enters_of Try.func81 (by kernel_rfl) rfl) (fun d => !(meetB a0_0 a0_1 d.f0 d.f1)) _ _ l1 _ ?s2 (isApart1 l1 HG.out a0_0 a0_1 w.heap.size _ (by simp) (heap_alloc_new _ _))).mono ?_; (case s2 => exact Kd.C_alloc HR.out _); rintro e w' ⟨rfl, hb'⟩)
  go_ret
  exact ⟨rfl, below_then (kB HB) (below_size (kB HB)) hb'⟩
 ·rw [if_neg hg] at h
  exact absurd h (by simp)
/-! ### impl_areApart: function 29 -/
def impl_areApart.l0 : Nat → List (S40) → List (S40) → Int → Int → Option (Bool)
 | 0, _, _, _, _ => none
 | k + 1, x0, x5, x6, x7 => if x7 < x6 then (if 0 ≤ x7 then (if x7 < (x5.length : Int) then (if x7 ≤ (x0.length : Int) then ((impl_Class_isApart.f ((rd_T40 x5 x7).f0) ((rd_T40 x5 x7).f1) (x0.take (x7 : Int).toNat)).bind fun t309 => (if t309 = true then (impl_areApart.l0 k x0 x5 x6 (wrap64 (x7 + 1))) else (some false))) else (none)) else (none)) else (none)) else (some true)
def impl_areApart.f (k : Nat) (l0 : List (S40)) : Option (Bool) := impl_areApart.l0 k l0 l0 (l0.length : Int) 0
theorem impl_areApart.mono_l : ∀ k, (∀ y0 y1 y2 y3, LeO (impl_areApart.l0 k y0 y1 y2 y3) (impl_areApart.l0 (k + 1) y0 y1 y2 y3))
 | 0 => fun _ _ _ _ r h => by simp [impl_areApart.l0] at h
 | k + 1 => by
  have ih0 := impl_areApart.mono_l k
  ·intro y0 y1 y2 y3
   unfold impl_areApart.l0
   repeat' first
   | with_reducible first | exact ih0 _ _ _ _ | exact LeO.refl _ | exact LeO.none _ | refine LeO.ite ?_ ?_ | refine LeO.bind ?_ (fun _ => ?_)
   | exact ih0 _ _ _ _
   | exact LeO.none _
   | refine LeO.ite ?_ ?_
   | refine LeO.bind ?_ (fun _ => ?_)
theorem impl_areApart.mono : ∀ a0 k, LeO (impl_areApart.f k a0) (impl_areApart.f (k + 1) a0) := by
 intro a0 k
 have ih0 := impl_areApart.mono_l k
 unfold impl_areApart.f
 repeat' first
   | with_reducible first | exact ih0 _ _ _ _ | exact LeO.refl _ | exact LeO.none _ | refine LeO.ite ?_ ?_ | refine LeO.bind ?_ (fun _ => ?_)
   | exact ih0 _ _ _ _
   | exact LeO.none _
   | refine LeO.ite ?_ ?_
   | refine LeO.bind ?_ (fun _ => ?_)
set_option maxHeartbeats 8000000 in
set_option maxRecDepth 100000 in
theorem impl_areApart.calls (k : Nat) (A0 : Option Addr) (c0 : Nat) (l0 : List (S40)) (r : Bool) (w : World) (hr0 : Kd.C k40 w A0 l0.length l0) (hc0 : l0.length ≤ c0) (h : impl_areApart.f k l0 = some r) :
  Calls Try.prog 29 #[.slice A0 l0.length c0] w fun e w' => e = .returned (.bool r) ∧ Below w.heap.size w w' := by
 have hu40 := Try.underlying40
 have HR0 := am hr0
 have HC0 := am hc0
 clear hr0 hc0
 have HB := am (Below.refl w.heap.size w)
 have H : (impl_areApart.l0 k l0 l0 (l0.length : Int) 0) = some r := h
 clear h
 have H' := am H
 clear H
 go_enter Try.func29, Try.ntmps29
 go_wp2
 go_loopg [7] k (fun kq v7 w' => ∃ (x7_1 : Int), v7 = .int .i64 x7_1 ∧ Aside0 (impl_areApart.l0 kq l0 l0 (l0.length : Int) x7_1 = some r) ∧ Aside0 (kq ≤ k) ∧ Aside0 (Below w.heap.size w w'))
 case atStart => exact ⟨(0), (by first | rfl | (simp; done) | (simp [*]; done)), H', ⟨Nat.le_refl _⟩, ⟨kB HB⟩⟩
 case round =>
  clear H'
  obtain ⟨x7_1, rfl, HA, HK1, HB⟩ := hrel
  cases gk with
  | zero => exact absurd HA.out (by simp [impl_areApart.l0])
  | succ k1 =>
   have H := HA.out
   clear HA
   simp only [impl_areApart.l0] at H
   by_cases c2 : x7_1 < (l0.length : Int)
   ·rw [if_pos c2] at H
    have c2b0 : decide (x7_1 < (l0.length : Int)) = true := decide_eq_true c2
    clear c2
    by_cases c3 : 0 ≤ x7_1
    ·rw [if_pos c3] at H
     have c3b0 : decide (0 ≤ x7_1) = true := decide_eq_true c3
     clear c3
     by_cases c4 : x7_1 < (l0.length : Int)
     ·rw [if_pos c4] at H
      have c4b0 : decide (x7_1 < (l0.length : Int)) = true := decide_eq_true c4
      clear c4
      have c5b0 := eq_true (of_decide_eq_true kM : 0 ≤ x7_1)
      by_cases c6 : x7_1 ≤ (l0.length : Int)
      ·rw [if_pos c6] at H
       have c6b0 := eq_true c6
       have c6b1 : decide (x7_1 ≤ (l0.length : Int)) = true := decide_eq_true c6
       clear c6
       obtain ⟨y305, hy305⟩ : ∃ y_ : List (S40), y_ = (l0.take (x7_1 : Int).toNat) := ⟨_, rfl⟩
       replace H : ((impl_Class_isApart.f ((rd_T40 l0 x7_1).f0) ((rd_T40 l0 x7_1).f1) y305).bind fun t309 => (if t309 = true then (impl_areApart.l0 k1 l0 l0 (l0.length : Int) (wrap64 (x7_1 + 1))) else (some false))) = some r := by first | (rw [hy305]; with_reducible exact H) | (have H2_ := (Option.bind_some _ _).symm.trans H; rw [hy305]; with_reducible exact H2_) | (have H2_ := (Option.bind_some _ _).symm.trans H; with_reducible exact H2_) | with_reducible exact H | (rw [hy305]; exact H) | exact H
       have Ny305 := am hy305
       clear hy305
       replace H := Option.bind_eq_some_iff.mp H
       obtain ⟨t309, A70, H⟩ := H
       try dsimp only at H
       have A7 := am A70
       clear A70
       by_cases c8 : t309 = true
       ·subst c8
        rw [if_pos rfl] at H
        have H' := am H
        clear H
        have p303 : 0 ≤ (x7_1 : Int) := of_decide_eq_true kM
        have q303 : x7_1 < (l0.length : Int) := of_decide_eq_true kM
        obtain ⟨ad303, e303, hx303_0, hx303_1⟩ := at_T40 HR0.out x7_1 p303 q303
        cases e303
        replace hx303_0 := (HB.out.cell (World.block_lt_of_cell? w _ hx303_0)).trans hx303_0
        replace hx303_1 := (HB.out.cell (World.block_lt_of_cell? w _ hx303_1)).trans hx303_1
        replace p303 := eq_true p303
        replace q303 := eq_true q303
        try go_wp2_with (first | ((with_reducible refine gate_dst (N := 4) rfl ?_); refine box_event ?hg (N := 4) ?hd (cs := #[.int .i64 0, .int .i64 0]) (t := 40) ?hr ?_; (case hd => rfl); (case hg => rfl); (case hr => first | (go_simp; done) | (go_simp; rfl)); intro gb304 hg w9 hbox hb; have n0_ := am (below_step (kB HB) hb); have n1_ := am (hbox); have n2_ := am ((by rw [hg]; exact (below_size (kB HB)) : w.heap.size ≤ gb304)); have n3_ := am ((by rw [hg]; exact (below_size (kB HB)) : w.heap.size ≤ gb304)); clear HB; have HB := n0_; have BK304 := n1_; have GW304 := n2_; have GE304 := n3_; clear n0_ n1_ n2_ n3_ hb hbox hg; have hcz10_0 : w9.cell? ⟨gb304, 0, none⟩ = some (.int .i64 0) := (blk_cell BK304.out 0).trans rfl; have hcz10_1 : w9.cell? ⟨gb304, 1, none⟩ = some (.int .i64 0) := (blk_cell BK304.out 1).trans rfl; have hfz10_0 := blk_frozen BK304.out 0; have hfz10_1 := blk_frozen BK304.out 1))
        have n0_ : Aside0 (((w9.setCell ⟨gb304, 0, none⟩ (.int .i64 ((rd_T40 l0 x7_1).f0))).setCell ⟨gb304, 1, none⟩ (.int .i64 ((rd_T40 l0 x7_1).f1))).heap[gb304]? = some (.cells #[.int .i64 ((rd_T40 l0 x7_1).f0), .int .i64 ((rd_T40 l0 x7_1).f1)] 40 (0, 0))) := ⟨by (with_reducible repeat (first | refine blk_drewN ?_ _ | refine blk_drew ?_ | refine blk_alloc ?_ _)); refine blk_put (cs := #[.int .i64 ((rd_T40 l0 x7_1).f0), .int .i64 0]) ?_ 1 _ rfl; (with_reducible repeat (first | refine blk_drewN ?_ _ | refine blk_drew ?_ | refine blk_alloc ?_ _)); refine blk_put (cs := #[.int .i64 0, .int .i64 0]) ?_ 0 _ rfl; (with_reducible repeat (first | refine blk_drewN ?_ _ | refine blk_drew ?_ | refine blk_alloc ?_ _)); exact BK304.out⟩
        have n1_ : Aside0 (Below w.heap.size w ((w9.setCell ⟨gb304, 0, none⟩ (.int .i64 ((rd_T40 l0 x7_1).f0))).setCell ⟨gb304, 1, none⟩ (.int .i64 ((rd_T40 l0 x7_1).f1)))) := ⟨kB1 HB GE304.out⟩
        (try clear BK304)
        (try clear HB)
        generalize ((w9.setCell ⟨gb304, 0, none⟩ (.int .i64 ((rd_T40 l0 x7_1).f0))).setCell ⟨gb304, 1, none⟩ (.int .i64 ((rd_T40 l0 x7_1).f1))) = w11 at n0_ n1_ ⊢
        have BK304 := n0_
        have HB := n1_
        clear n0_ n1_
        have n0_ := am (blk_drew BK304.out)
        have n1_ := am (below_drew1 HB.out)
        clear BK304
        clear HB
        have BK304 := n0_
        have HB := n1_
        clear n0_ n1_
        have q13 : (x7_1 : Int) ≤ ((l0.length : Int) : Int) := of_decide_eq_true kM
        obtain ⟨i013, hi013, _, hsz13, _⟩ := info_parts info40
        have hroom13 : l0.length ≤ c0 := HC0.out
        have hC13 : Kd.C k40 _ (some ad303) l0.length l0 := HR0.out
        have hcut13 := cut_to (P := Try.prog) 24 40 .i64 Try.underlying24 hi013 (some ad303) l0.length c0 x7_1 (of_decide_eq_true kM) q13 hroom13
        have hr13 := Kd.C_take (m := (x7_1 : Int).toNat) hC13 (by omega)
        have hy13 : y305.length = (x7_1 : Int).toNat := (by rw [Ny305.out, List.length_take]; omega)
        rw [← Ny305.out] at hr13
        rw [← hy13] at hcut13
        have HR308 := am hr13
        have HC308 := am (show y305.length ≤ c0 from by omega)
        clear hr13 hC13 hroom13 hi013 hsz13
        have KY13 := am hy13
        clear hy13
        replace q13 := eq_true q13
        refine start_ (n := 6) (S := fun w' => w'.cell? ⟨gb304, 0, none⟩ = some (.int .i64 ((rd_T40 l0 x7_1).f0)) ∧ w'.cell? ⟨gb304, 1, none⟩ = some (.int .i64 ((rd_T40 l0 x7_1).f1))) (ds := []) #[false, false, false, false, false, false] (by kernel_rfl) rfl rfl ⟨(blk_cell BK304.out 0).trans rfl, (blk_cell BK304.out 1).trans rfl⟩ (fun hHeld => ?_)
        generalize w11.drew = w12 at BK304 HB HR308 hHeld ⊢
        refine pure_ (i := 1) (N := some 13) (v := ?_) (a' := ?_) #[false, true, false, false, false, false] rfl rfl (by kernel_rfl) (fun _ _ _ h => h) (Or.inl ⟨by rfl, ?_⟩) ?_ ?_
        rotate_left
        ·intro w'
         go_simp
         with_reducible rfl
        rotate_left
        ·simp only [Act.put, List.setIfInBounds_toArray, List.set_cons_zero, List.set_cons_succ, i64_w, i32_w]
         rfl
        refine pure_ (i := 2) (N := some 14) (v := ?_) (a' := ?_) #[false, true, true, false, false, false] rfl rfl (by kernel_rfl) (fun _ _ _ h => h) (Or.inl ⟨by rfl, ?_⟩) ?_ ?_
        rotate_left
        ·intro w'
         go_simp
         with_reducible rfl
        rotate_left
        ·simp only [Act.put, List.setIfInBounds_toArray, List.set_cons_zero, List.set_cons_succ, i64_w, i32_w]
         rfl
        refine pure_ (i := 3) (N := some 15) (v := ?_) (a' := ?_) #[false, true, true, true, false, false] rfl rfl (by kernel_rfl) (fun _ _ _ h => h) (Or.inl ⟨by rfl, ?_⟩) ?_ ?_
        rotate_left
        ·intro w'
         go_simp
         with_reducible rfl
        rotate_left
        ·simp only [Act.put, List.setIfInBounds_toArray, List.set_cons_zero, List.set_cons_succ, i64_w, i32_w]
         rfl
        refine take_ (i := 0) (N := some 12) (v := ?_) (a' := ?_) #[true, true, true, true, false, false] rfl rfl (by kernel_rfl) (fun _ _ _ h => h) (Or.inl ⟨by rfl, ?_⟩) hHeld ?_ ?_
        rotate_left
        ·rintro w' ⟨s0, s1⟩
         go_simp
         with_reducible rfl
        rotate_left
        ·simp only [Act.put, List.setIfInBounds_toArray, List.set_cons_zero, List.set_cons_succ, i64_w, i32_w]
         rfl
        refine one_ (i := 4) (N := some 16) #[true, true, true, true, true, false] rfl rfl (by kernel_rfl) (by decide) (fun K hK => ?_)
        refine goes_ Try.func65 (by kernel_rfl) rfl #[.agg #[.int .i64 ((rd_T40 l0 x7_1).f0), .int .i64 ((rd_T40 l0 x7_1).f1)], .slice (some ad303) y305.length c0] (by rfl) rfl rfl kA ?_
        with_reducible refine (impl_Class_isApart.calls ((rd_T40 l0 x7_1).f0) ((rd_T40 l0 x7_1).f1) _ _ y305 true _ ?side1 ?side2 A7.out).mono ?_
        (case side1 => exact kC (Kd.C_below HR308.out HB.out))
        (case side2 => exact HC308.out)
        rintro e w14 ⟨rfl, hb⟩
        refine ⟨_, rfl, ?_⟩
        have n0_ := am (blk_below (g := gb304) (o := .cells #[.int .i64 ((rd_T40 l0 x7_1).f0), .int .i64 ((rd_T40 l0 x7_1).f1)] 40 (0, 0)) (kK BK304) hb)
        have n1_ := am (below_step (kB1 HB GE304.out) hb)
        clear BK304
        clear HB
        have BK304 := n0_
        have HB := n1_
        clear n0_ n1_
        (try clear hb)
        (try clear hb2)
        (try clear hk)
        (try clear hi)
        refine hK.out _ _ ⟨(blk_cell BK304.out 0).trans rfl, (blk_cell BK304.out 1).trans rfl⟩ (fun hHeld => ?_)
        clear hK K
        refine norm_ (a' := ?_) ?_ ?_
        rotate_left
        ·show Act.put _ (some 16) _ = _
         simp only [Act.put, List.setIfInBounds_toArray, List.set_cons_zero, List.set_cons_succ, i64_w, i32_w]
         rfl
        refine pure_ (i := 5) (N := some 17) (v := ?_) (a' := ?_) #[true, true, true, true, true, true] rfl rfl (by kernel_rfl) (fun _ _ _ h => h) (Or.inl ⟨by rfl, ?_⟩) ?_ ?_
        rotate_left
        ·intro w'
         go_simp
         with_reducible rfl
        rotate_left
        ·simp only [Act.put, List.setIfInBounds_toArray, List.set_cons_zero, List.set_cons_succ, i64_w, i32_w]
         rfl
        refine done_ (by kernel_rfl) ?_
        try go_wp2
        go_roundg k1
        case measure => have := HK1.out; omega
        case rel => exact ⟨(wrap64 (x7_1 + 1)), (by first | rfl | (simp; done) | (simp [*]; done)), H', ⟨by have := HK1.out; omega⟩, ⟨kB1 HB GE304.out⟩⟩
       ·replace c8 := Bool.eq_false_iff.mpr c8
        subst c8
        rw [if_neg (show ¬ (false = true) by decide)] at H
        obtain rfl := Option.some.inj H
        have p303 : 0 ≤ (x7_1 : Int) := of_decide_eq_true kM
        have q303 : x7_1 < (l0.length : Int) := of_decide_eq_true kM
        obtain ⟨ad303, e303, hx303_0, hx303_1⟩ := at_T40 HR0.out x7_1 p303 q303
        cases e303
        replace hx303_0 := (HB.out.cell (World.block_lt_of_cell? w _ hx303_0)).trans hx303_0
        replace hx303_1 := (HB.out.cell (World.block_lt_of_cell? w _ hx303_1)).trans hx303_1
        replace p303 := eq_true p303
        replace q303 := eq_true q303
        try go_wp2_with (first | ((with_reducible refine gate_dst (N := 4) rfl ?_); refine box_event ?hg (N := 4) ?hd (cs := #[.int .i64 0, .int .i64 0]) (t := 40) ?hr ?_; (case hd => rfl); (case hg => rfl); (case hr => first | (go_simp; done) | (go_simp; rfl)); intro gb304 hg w15 hbox hb; have n0_ := am (below_step (kB HB) hb); have n1_ := am (hbox); have n2_ := am ((by rw [hg]; exact (below_size (kB HB)) : w.heap.size ≤ gb304)); have n3_ := am ((by rw [hg]; exact (below_size (kB HB)) : w.heap.size ≤ gb304)); clear HB; have HB := n0_; have BK304 := n1_; have GW304 := n2_; have GE304 := n3_; clear n0_ n1_ n2_ n3_ hb hbox hg; have hcz16_0 : w15.cell? ⟨gb304, 0, none⟩ = some (.int .i64 0) := (blk_cell BK304.out 0).trans rfl; have hcz16_1 : w15.cell? ⟨gb304, 1, none⟩ = some (.int .i64 0) := (blk_cell BK304.out 1).trans rfl; have hfz16_0 := blk_frozen BK304.out 0; have hfz16_1 := blk_frozen BK304.out 1))
        have n0_ : Aside0 (((w15.setCell ⟨gb304, 0, none⟩ (.int .i64 ((rd_T40 l0 x7_1).f0))).setCell ⟨gb304, 1, none⟩ (.int .i64 ((rd_T40 l0 x7_1).f1))).heap[gb304]? = some (.cells #[.int .i64 ((rd_T40 l0 x7_1).f0), .int .i64 ((rd_T40 l0 x7_1).f1)] 40 (0, 0))) := ⟨by (with_reducible repeat (first | refine blk_drewN ?_ _ | refine blk_drew ?_ | refine blk_alloc ?_ _)); refine blk_put (cs := #[.int .i64 ((rd_T40 l0 x7_1).f0), .int .i64 0]) ?_ 1 _ rfl; (with_reducible repeat (first | refine blk_drewN ?_ _ | refine blk_drew ?_ | refine blk_alloc ?_ _)); refine blk_put (cs := #[.int .i64 0, .int .i64 0]) ?_ 0 _ rfl; (with_reducible repeat (first | refine blk_drewN ?_ _ | refine blk_drew ?_ | refine blk_alloc ?_ _)); exact BK304.out⟩
        have n1_ : Aside0 (Below w.heap.size w ((w15.setCell ⟨gb304, 0, none⟩ (.int .i64 ((rd_T40 l0 x7_1).f0))).setCell ⟨gb304, 1, none⟩ (.int .i64 ((rd_T40 l0 x7_1).f1)))) := ⟨kB1 HB GE304.out⟩
        (try clear BK304)
        (try clear HB)
        generalize ((w15.setCell ⟨gb304, 0, none⟩ (.int .i64 ((rd_T40 l0 x7_1).f0))).setCell ⟨gb304, 1, none⟩ (.int .i64 ((rd_T40 l0 x7_1).f1))) = w17 at n0_ n1_ ⊢
        have BK304 := n0_
        have HB := n1_
        clear n0_ n1_
        have n0_ := am (blk_drew BK304.out)
        have n1_ := am (below_drew1 HB.out)
        clear BK304
        clear HB
        have BK304 := n0_
        have HB := n1_
        clear n0_ n1_
        have q19 : (x7_1 : Int) ≤ ((l0.length : Int) : Int) := of_decide_eq_true kM
        obtain ⟨i019, hi019, _, hsz19, _⟩ := info_parts info40
        have hroom19 : l0.length ≤ c0 := HC0.out
        have hC19 : Kd.C k40 _ (some ad303) l0.length l0 := HR0.out
        have hcut19 := cut_to (P := Try.prog) 24 40 .i64 Try.underlying24 hi019 (some ad303) l0.length c0 x7_1 (of_decide_eq_true kM) q19 hroom19
        have hr19 := Kd.C_take (m := (x7_1 : Int).toNat) hC19 (by omega)
        have hy19 : y305.length = (x7_1 : Int).toNat := (by rw [Ny305.out, List.length_take]; omega)
        rw [← Ny305.out] at hr19
        rw [← hy19] at hcut19
        have HR308 := am hr19
        have HC308 := am (show y305.length ≤ c0 from by omega)
        clear hr19 hC19 hroom19 hi019 hsz19
        have KY19 := am hy19
        clear hy19
        replace q19 := eq_true q19
        refine start_ (n := 6) (S := fun w' => w'.cell? ⟨gb304, 0, none⟩ = some (.int .i64 ((rd_T40 l0 x7_1).f0)) ∧ w'.cell? ⟨gb304, 1, none⟩ = some (.int .i64 ((rd_T40 l0 x7_1).f1))) (ds := []) #[false, false, false, false, false, false] (by kernel_rfl) rfl rfl ⟨(blk_cell BK304.out 0).trans rfl, (blk_cell BK304.out 1).trans rfl⟩ (fun hHeld => ?_)
        generalize w17.drew = w18 at BK304 HB HR308 hHeld ⊢
        refine pure_ (i := 1) (N := some 13) (v := ?_) (a' := ?_) #[false, true, false, false, false, false] rfl rfl (by kernel_rfl) (fun _ _ _ h => h) (Or.inl ⟨by rfl, ?_⟩) ?_ ?_
        rotate_left
        ·intro w'
         go_simp
         with_reducible rfl
        rotate_left
        ·simp only [Act.put, List.setIfInBounds_toArray, List.set_cons_zero, List.set_cons_succ, i64_w, i32_w]
         rfl
        refine pure_ (i := 2) (N := some 14) (v := ?_) (a' := ?_) #[false, true, true, false, false, false] rfl rfl (by kernel_rfl) (fun _ _ _ h => h) (Or.inl ⟨by rfl, ?_⟩) ?_ ?_
        rotate_left
        ·intro w'
         go_simp
         with_reducible rfl
        rotate_left
        ·simp only [Act.put, List.setIfInBounds_toArray, List.set_cons_zero, List.set_cons_succ, i64_w, i32_w]
         rfl
        refine pure_ (i := 3) (N := some 15) (v := ?_) (a' := ?_) #[false, true, true, true, false, false] rfl rfl (by kernel_rfl) (fun _ _ _ h => h) (Or.inl ⟨by rfl, ?_⟩) ?_ ?_
        rotate_left
        ·intro w'
         go_simp
         with_reducible rfl
        rotate_left
        ·simp only [Act.put, List.setIfInBounds_toArray, List.set_cons_zero, List.set_cons_succ, i64_w, i32_w]
         rfl
        refine take_ (i := 0) (N := some 12) (v := ?_) (a' := ?_) #[true, true, true, true, false, false] rfl rfl (by kernel_rfl) (fun _ _ _ h => h) (Or.inl ⟨by rfl, ?_⟩) hHeld ?_ ?_
        rotate_left
        ·rintro w' ⟨s0, s1⟩
         go_simp
         with_reducible rfl
        rotate_left
        ·simp only [Act.put, List.setIfInBounds_toArray, List.set_cons_zero, List.set_cons_succ, i64_w, i32_w]
         rfl
        refine one_ (i := 4) (N := some 16) #[true, true, true, true, true, false] rfl rfl (by kernel_rfl) (by decide) (fun K hK => ?_)
        refine goes_ Try.func65 (by kernel_rfl) rfl #[.agg #[.int .i64 ((rd_T40 l0 x7_1).f0), .int .i64 ((rd_T40 l0 x7_1).f1)], .slice (some ad303) y305.length c0] (by rfl) rfl rfl kA ?_
        with_reducible refine (impl_Class_isApart.calls ((rd_T40 l0 x7_1).f0) ((rd_T40 l0 x7_1).f1) _ _ y305 false _ ?side1 ?side2 A7.out).mono ?_
        (case side1 => exact kC (Kd.C_below HR308.out HB.out))
        (case side2 => exact HC308.out)
        rintro e w20 ⟨rfl, hb⟩
        refine ⟨_, rfl, ?_⟩
        have n0_ := am (blk_below (g := gb304) (o := .cells #[.int .i64 ((rd_T40 l0 x7_1).f0), .int .i64 ((rd_T40 l0 x7_1).f1)] 40 (0, 0)) (kK BK304) hb)
        have n1_ := am (below_step (kB1 HB GE304.out) hb)
        clear BK304
        clear HB
        have BK304 := n0_
        have HB := n1_
        clear n0_ n1_
        (try clear hb)
        (try clear hb2)
        (try clear hk)
        (try clear hi)
        refine hK.out _ _ ⟨(blk_cell BK304.out 0).trans rfl, (blk_cell BK304.out 1).trans rfl⟩ (fun hHeld => ?_)
        clear hK K
        refine norm_ (a' := ?_) ?_ ?_
        rotate_left
        ·show Act.put _ (some 16) _ = _
         simp only [Act.put, List.setIfInBounds_toArray, List.set_cons_zero, List.set_cons_succ, i64_w, i32_w]
         rfl
        refine pure_ (i := 5) (N := some 17) (v := ?_) (a' := ?_) #[true, true, true, true, true, true] rfl rfl (by kernel_rfl) (fun _ _ _ h => h) (Or.inl ⟨by rfl, ?_⟩) ?_ ?_
        rotate_left
        ·intro w'
         go_simp
         with_reducible rfl
        rotate_left
        ·simp only [Act.put, List.setIfInBounds_toArray, List.set_cons_zero, List.set_cons_succ, i64_w, i32_w]
         rfl
        refine done_ (by kernel_rfl) ?_
        try go_wp2
        go_ret
        exact ⟨by first | rfl | (simp [errW_none, errW_some] <;> rfl) | (simp [*, errW_none, errW_some] <;> rfl), kB1 HB GE304.out⟩
      ·rw [if_neg c6] at H
       exact absurd H (by simp)
     ·rw [if_neg c4] at H
      exact absurd H (by simp)
    ·rw [if_neg c3] at H
     exact absurd H (by simp)
   ·rw [if_neg c2] at H
    have c2b0 : decide (x7_1 < (l0.length : Int)) = false := decide_eq_false c2
    clear c2
    obtain rfl := Option.some.inj H
    go_wp2
    go_ret
    exact ⟨by first | rfl | (simp [errW_none, errW_some] <;> rfl) | (simp [*, errW_none, errW_some] <;> rfl), kB HB⟩
/-! ### impl_Class_has: function 32 -/
def impl_Class_has.f (a0_0 : Int) (a0_1 : Int) (a1 : Int) : Option (Bool) := if a0_1 = 0 then (none) else (some ((Int.tmod a1 a0_1) == a0_0))
set_option maxHeartbeats 8000000 in
set_option maxRecDepth 100000 in
theorem impl_Class_has.calls (a0_0 : Int) (a0_1 : Int) (a1 : Int) (r : Bool) (w : World) (h : impl_Class_has.f a0_0 a0_1 a1 = some r) :
  Calls Try.prog 32 #[.agg #[.int .i64 a0_0, .int .i64 a0_1], .int .i64 a1] w fun e w' => e = .returned (.bool r) ∧ Below w.heap.size w w' := by
 have hu40 := Try.underlying40
 have HB := am (Below.refl w.heap.size w)
 have H : (if a0_1 = 0 then (none) else (some ((Int.tmod a1 a0_1) == a0_0))) = some r := h
 clear h
 by_cases c3 : a0_1 = 0
 ·rw [if_pos c3] at H
  exact absurd H (by simp)
 ·rw [if_neg c3] at H
  have c3b0 : (a0_1 == 0) = false := beq_eq_false_iff_ne.mpr c3
  have c3b1 : (a0_1 != 0) = true := bne_iff_ne.mpr c3
  obtain rfl := Option.some.inj H
  go_enter Try.func32, Try.ntmps32
  go_wp2_with (first | ((with_reducible refine gate_dst (N := 2) rfl ?_); refine box_event ?hg (N := 2) ?hd (cs := #[.int .i64 a0_0, .int .i64 a0_1]) (t := 40) ?hr ?_; (case hd => rfl); (case hg => rfl); (case hr => first | (go_simp; done) | (go_simp; rfl)); intro gb310 hg w4 hbox hb; have n0_ := am (below_step (kB HB) hb); have n1_ := am (hbox); have n2_ := am ((by rw [hg]; exact (below_size (kB HB)) : w.heap.size ≤ gb310)); have n3_ := am ((by rw [hg]; exact (below_size (kB HB)) : w.heap.size ≤ gb310)); clear HB; have HB := n0_; have BK310 := n1_; have GW310 := n2_; have GE310 := n3_; clear n0_ n1_ n2_ n3_ hb hbox hg; have hcz5_0 : w4.cell? ⟨gb310, 0, none⟩ = some (.int .i64 a0_0) := (blk_cell BK310.out 0).trans rfl; have hcz5_1 : w4.cell? ⟨gb310, 1, none⟩ = some (.int .i64 a0_1) := (blk_cell BK310.out 1).trans rfl; have hfz5_0 := blk_frozen BK310.out 0; have hfz5_1 := blk_frozen BK310.out 1))
  repeat (go_quiet (first | ((with_reducible refine gate_dst (N := 2) rfl ?_); refine box_event ?hg (N := 2) ?hd (cs := #[.int .i64 a0_0, .int .i64 a0_1]) (t := 40) ?hr ?_; (case hd => rfl); (case hg => rfl); (case hr => first | (go_simp; done) | (go_simp; rfl)); intro gb310 hg w4 hbox hb; have n0_ := am (below_step (kB HB) hb); have n1_ := am (hbox); have n2_ := am ((by rw [hg]; exact (below_size (kB HB)) : w.heap.size ≤ gb310)); have n3_ := am ((by rw [hg]; exact (below_size (kB HB)) : w.heap.size ≤ gb310)); clear HB; have HB := n0_; have BK310 := n1_; have GW310 := n2_; have GE310 := n3_; clear n0_ n1_ n2_ n3_ hb hbox hg; have hcz5_0 : w4.cell? ⟨gb310, 0, none⟩ = some (.int .i64 a0_0) := (blk_cell BK310.out 0).trans rfl; have hcz5_1 : w4.cell? ⟨gb310, 1, none⟩ = some (.int .i64 a0_1) := (blk_cell BK310.out 1).trans rfl; have hfz5_0 := blk_frozen BK310.out 0; have hfz5_1 := blk_frozen BK310.out 1)); try go_wp2_with (first | ((with_reducible refine gate_dst (N := 2) rfl ?_); refine box_event ?hg (N := 2) ?hd (cs := #[.int .i64 a0_0, .int .i64 a0_1]) (t := 40) ?hr ?_; (case hd => rfl); (case hg => rfl); (case hr => first | (go_simp; done) | (go_simp; rfl)); intro gb310 hg w4 hbox hb; have n0_ := am (below_step (kB HB) hb); have n1_ := am (hbox); have n2_ := am ((by rw [hg]; exact (below_size (kB HB)) : w.heap.size ≤ gb310)); have n3_ := am ((by rw [hg]; exact (below_size (kB HB)) : w.heap.size ≤ gb310)); clear HB; have HB := n0_; have BK310 := n1_; have GW310 := n2_; have GE310 := n3_; clear n0_ n1_ n2_ n3_ hb hbox hg; have hcz5_0 : w4.cell? ⟨gb310, 0, none⟩ = some (.int .i64 a0_0) := (blk_cell BK310.out 0).trans rfl; have hcz5_1 : w4.cell? ⟨gb310, 1, none⟩ = some (.int .i64 a0_1) := (blk_cell BK310.out 1).trans rfl; have hfz5_0 := blk_frozen BK310.out 0; have hfz5_1 := blk_frozen BK310.out 1)))
  go_ret
  exact ⟨by first | rfl | (simp [errW_none, errW_some] <;> rfl) | (simp [*, errW_none, errW_some] <;> rfl), kB1 HB GE310.out⟩
/-! ### impl_FirstUncovered_1: function 42, by hand -/
def hasB (a b x : Int) : Bool := Int.tmod x b == a
theorem has_some (a b x : Int) (hb : 1 ≤ b ∧ b ≤ 40) : impl_Class_has.f a b x = some (hasB a b x) := by
 unfold impl_Class_has.f hasB
 first | rfl | (rw [if_neg (by omega)]) | (simp; omega)
set_option maxHeartbeats 4000000 in
theorem first1 (l : List S40) (hg : gapsIn l = true) (x : Int) (B : Nat) (w : World) (hc : w.cell? ⟨B, 0, none⟩ = some (.int .i64 x)) : PredC 42 #[.pointer (some ⟨B, 0, none⟩)] (fun c => !(hasB c.f0 c.f1 x)) l w := by
 intro W y hy hb
 have hu40 := Try.underlying40
 have hc0 : W.cell? ⟨B, 0, none⟩ = some (.int .i64 x) := (hb.cell (p := ⟨B, 0, none⟩) (World.block_lt_of_cell? w _ hc)).trans hc
 have hk0 : ∀ o, (W.alloc o).cell? ⟨B, 0, none⟩ = some (.int .i64 x) := fun o => ((below_alloc (Below.refl _ _) o).cell (p := ⟨B, 0, none⟩) (World.block_lt_of_cell? W _ hc0)).trans hc0
 have hcall := fun V => impl_Class_has.calls y.f0 y.f1 x _ V (has_some y.f0 y.f1 x (gapsIn_mem hg y hy))
 have HB := am (Below.refl W.heap.size W)
 clear hc hb hg hy
 go_enter Try.func42, Try.ntmps42
 go_wp2_with (go_at_call 32; refine (hcall _).mono ?_; rintro e w' ⟨rfl, hb'⟩)
 go_ret
 exact ⟨rfl, below_then (kB HB) (below_size (kB HB)) hb'⟩
def impl_FirstUncovered_1.f (l0 : List S40) (a1 : Int) : Option Bool := if gapsIn l0 = true then some (l0.all fun c => !(hasB c.f0 c.f1 a1)) else none
theorem first_at (A0 : Option Addr) (c0 : Nat) (l0 : List S40) (x : Int) (r : Bool) (B : Nat) (w : World) (hr : Kd.C k40 w A0 l0.length l0) (hc : w.cell? ⟨B, 0, none⟩ = some (.int .i64 x)) (h : impl_FirstUncovered_1.f l0 x = some r) :
  Calls Try.prog 41 #[.slice A0 l0.length c0, .func (.func 42) #[] #[.pointer (some ⟨B, 0, none⟩)]] w fun e w' => e = .returned (.bool r) ∧ Below w.heap.size w w' := by
 unfold impl_FirstUncovered_1.f at h
 by_cases hg : gapsIn l0 = true
 ·rw [if_pos hg] at h
  obtain rfl := Option.some.inj h
  exact cAreAll_at 42 _ (enters_of Try.func42 (by kernel_rfl) rfl) _ A0 c0 l0 w hr (first1 l0 hg x B w hc)
 ·rw [if_neg hg] at h
  exact absurd h (by simp)
/-! ### impl_TurnsOfClasses_1: function 31, by hand -/
set_option maxHeartbeats 4000000 in
theorem turnsC1 (l : List S40) (hg : gapsIn l = true) (x : Int) (B : Nat) (w : World) (hc : w.cell? ⟨B, 0, none⟩ = some (.int .i64 x)) : PredC 31 #[.pointer (some ⟨B, 0, none⟩)] (fun c => hasB c.f0 c.f1 x) l w := by
 intro W y hy hb
 have hu40 := Try.underlying40
 have hc0 : W.cell? ⟨B, 0, none⟩ = some (.int .i64 x) := (hb.cell (p := ⟨B, 0, none⟩) (World.block_lt_of_cell? w _ hc)).trans hc
 have hk0 : ∀ o, (W.alloc o).cell? ⟨B, 0, none⟩ = some (.int .i64 x) := fun o => ((below_alloc (Below.refl _ _) o).cell (p := ⟨B, 0, none⟩) (World.block_lt_of_cell? W _ hc0)).trans hc0
 have hcall := fun V => impl_Class_has.calls y.f0 y.f1 x _ V (has_some y.f0 y.f1 x (gapsIn_mem hg y hy))
 have HB := am (Below.refl W.heap.size W)
 clear hc hb hg hy
 go_enter Try.func31, Try.ntmps31
 go_wp2_with (go_at_call 32; refine (hcall _).mono ?_; rintro e w' ⟨rfl, hb'⟩)
 go_ret
 exact ⟨rfl, below_then (kB HB) (below_size (kB HB)) hb'⟩
def impl_TurnsOfClasses_1.f (l0 : List S40) (a1 : Int) : Option Int := if gapsIn l0 = true then some (idxC (fun c => hasB c.f0 c.f1 a1) l0) else none
theorem turnsC_at (A0 : Option Addr) (c0 : Nat) (l0 : List S40) (x : Int) (r : Int) (B : Nat) (w : World) (hr : Kd.C k40 w A0 l0.length l0) (hc : w.cell? ⟨B, 0, none⟩ = some (.int .i64 x)) (h : impl_TurnsOfClasses_1.f l0 x = some r) :
  Calls Try.prog 30 #[.slice A0 l0.length c0, .func (.func 31) #[] #[.pointer (some ⟨B, 0, none⟩)]] w fun e w' => e = .returned (.int .i64 r) ∧ Below w.heap.size w w' := by
 unfold impl_TurnsOfClasses_1.f at h
 by_cases hg : gapsIn l0 = true
 ·rw [if_pos hg] at h
  obtain rfl := Option.some.inj h
  exact cIndexFunc_at 31 _ (enters_of Try.func31 (by kernel_rfl) rfl) _ A0 c0 l0 w hr (turnsC1 l0 hg x B w hc)
 ·rw [if_neg hg] at h
  exact absurd h (by simp)
end Go.Proofs.Ytdkhecebffjpjaa.X
