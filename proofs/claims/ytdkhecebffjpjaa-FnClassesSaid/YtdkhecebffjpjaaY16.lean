import Derived.Test.YtdkhecebffjpjaaU
import Derived.Test.YtdkhecebffjpjaaY0
import Derived.Test.YtdkhecebffjpjaaY1
import Derived.Test.YtdkhecebffjpjaaY8
import Derived.Test.YtdkhecebffjpjaaY15
namespace Go.Proofs.Ytdkhecebffjpjaa.X
open Go.RowKit Go.Proofs.YtdkhecebffjpjaaW.PrintWords Go.Proofs.YtdkhecebffjpjaaW.PrintLast Go.Proofs.YtdkhecebffjpjaaW.PrintMore
attribute [local go_sem] max2_int min2_int max_two min_two max_three min_three max_four min_four
set_option linter.unusedVariables false
set_option linter.unusedSimpArgs false
attribute [local go_sem high] eqA40
/-! ### impl_Class_isNatural: function 43 -/
mutual
def impl_Class_isNatural.j0 : Nat → List (S40) → Bool → Int → Int → Option (Bool)
 | 0, _, _, _, _ => none
 | k + 1, x1, x22, x404000, x404001 => if x22 = true then (some true) else (impl_Class_isNatural.l0 k x1 x404000 x404001 2)
def impl_Class_isNatural.l0 : Nat → List (S40) → Int → Int → Int → Option (Bool)
 | 0, _, _, _, _ => none
 | k + 1, x1, x404000, x404001, x406000 => (impl_Class_46.f x1).bind fun t406 => (if x406000 ≤ t406 then (if 0 ≤ x406000 then (if (x406000 : Int).toNat ≤ 11728124029610 then ((impl_Class_isNatural_1.f x1 x404000 x404001 x406000).bind fun t410 => (impl_Class_isNatural.l1 k x1 (List.replicate (x406000 : Int).toNat []) t410 x1 (x1.length : Int) 0 x404000 x404001 x406000)) else (none)) else (none)) else (some false))
def impl_Class_isNatural.l1 : Nat → List (S40) → List (List (S40)) → Bool → List (S40) → Int → Int → Int → Int → Int → Option (Bool)
 | 0, _, _, _, _, _, _, _, _, _ => none
 | k + 1, x1, x6, x7, x34, x35, x36, x404000, x404001, x406000 => if x36 < x35 then (if 0 ≤ x36 then (if x36 < (x34.length : Int) then (if x404001 = 0 then (none) else (if x406000 = 0 then (none) else (if 0 ≤ (Int.tmod (wrap64 (Int.tdiv (wrap64 (((rd_T40 x34 x36).f0) - x404000)) x404001)) x406000) then (if (Int.tmod (wrap64 (Int.tdiv (wrap64 (((rd_T40 x34 x36).f0) - x404000)) x404001)) x406000) < (x6.length : Int) then (if (rd_L3 x6 (Int.tmod (wrap64 (Int.tdiv (wrap64 (((rd_T40 x34 x36).f0) - x404000)) x404001)) x406000)).length < 8796093022208 then (impl_Class_isNatural.l1 k x1 (x6.set ((Int.tmod (wrap64 (Int.tdiv (wrap64 (((rd_T40 x34 x36).f0) - x404000)) x404001)) x406000) : Int).toNat ((rd_L3 x6 (Int.tmod (wrap64 (Int.tdiv (wrap64 (((rd_T40 x34 x36).f0) - x404000)) x404001)) x406000)) ++ [(⟨(rd_T40 x34 x36).f0, (rd_T40 x34 x36).f1⟩ : S40)])) x7 x34 x35 (wrap64 (x36 + 1)) x404000 x404001 x406000) else (none)) else (none)) else (none)))) else (none)) else (none)) else (impl_Class_isNatural.l2 k x1 x7 x6 (x6.length : Int) 0 x404000 x404001 x406000)
def impl_Class_isNatural.l2 : Nat → List (S40) → Bool → List (List (S40)) → Int → Int → Int → Int → Int → Option (Bool)
 | 0, _, _, _, _, _, _, _, _ => none
 | k + 1, x1, x7, x61, x62, x63, x404000, x404001, x406000 => if x63 < x62 then (if 0 ≤ x63 then (if x63 < (x61.length : Int) then (if x7 = true then ((impl_Class_isNatural.f k (wrap64 (x404000 + (wrap64 (x63 * x404001)))) (wrap64 (x404001 * x406000)) (rd_L3 x61 x63)).bind fun t419 => (impl_Class_isNatural.l2 k x1 t419 x61 x62 (wrap64 (x63 + 1)) x404000 x404001 x406000)) else (impl_Class_isNatural.l2 k x1 false x61 x62 (wrap64 (x63 + 1)) x404000 x404001 x406000)) else (none)) else (none)) else (if x7 = true then (some true) else (impl_Class_isNatural.l0 k x1 x404000 x404001 (wrap64 (x406000 + 1))))
def impl_Class_isNatural.f : Nat → Int → Int → List (S40) → Option (Bool)
 | 0, _, _, _ => none
 | k + 1, a0_0, a0_1, l1 => if (l1.length : Int) = 1 then (if 0 < (l1.length : Int) then (impl_Class_isNatural.j0 k l1 (((rd_T40 l1 0).f0) == a0_0 && (((rd_T40 l1 0).f1) == a0_1)) a0_0 a0_1) else (none)) else (impl_Class_isNatural.j0 k l1 false a0_0 a0_1)
end
theorem impl_Class_isNatural.mono_l : ∀ k, (∀ y0 y1 y2, LeO (impl_Class_isNatural.f k y0 y1 y2) (impl_Class_isNatural.f (k + 1) y0 y1 y2)) ∧ (∀ y0 y1 y2 y3, LeO (impl_Class_isNatural.j0 k y0 y1 y2 y3) (impl_Class_isNatural.j0 (k + 1) y0 y1 y2 y3)) ∧ (∀ y0 y1 y2 y3, LeO (impl_Class_isNatural.l0 k y0 y1 y2 y3) (impl_Class_isNatural.l0 (k + 1) y0 y1 y2 y3)) ∧ (∀ y0 y1 y2 y3 y4 y5 y6 y7 y8, LeO (impl_Class_isNatural.l1 k y0 y1 y2 y3 y4 y5 y6 y7 y8) (impl_Class_isNatural.l1 (k + 1) y0 y1 y2 y3 y4 y5 y6 y7 y8)) ∧ (∀ y0 y1 y2 y3 y4 y5 y6 y7, LeO (impl_Class_isNatural.l2 k y0 y1 y2 y3 y4 y5 y6 y7) (impl_Class_isNatural.l2 (k + 1) y0 y1 y2 y3 y4 y5 y6 y7))
 | 0 => ⟨fun _ _ _ r h => by simp [impl_Class_isNatural.f] at h, fun _ _ _ _ r h => by simp [impl_Class_isNatural.j0] at h, fun _ _ _ _ r h => by simp [impl_Class_isNatural.l0] at h, fun _ _ _ _ _ _ _ _ _ r h => by simp [impl_Class_isNatural.l1] at h, fun _ _ _ _ _ _ _ _ r h => by simp [impl_Class_isNatural.l2] at h⟩
 | k + 1 => by
  obtain ⟨ih0, ih1, ih2, ih3, ih4⟩ := impl_Class_isNatural.mono_l k
  refine ⟨?_, ?_, ?_, ?_, ?_⟩
  ·intro y0 y1 y2
   unfold impl_Class_isNatural.f
   repeat' first
   | with_reducible first | exact ih0 _ _ _ | exact ih1 _ _ _ _ | exact ih2 _ _ _ _ | exact ih3 _ _ _ _ _ _ _ _ _ | exact ih4 _ _ _ _ _ _ _ _ | exact LeO.refl _ | exact LeO.none _ | refine LeO.ite ?_ ?_ | refine LeO.bind ?_ (fun _ => ?_)
   | exact ih0 _ _ _
   | exact ih1 _ _ _ _
   | exact ih2 _ _ _ _
   | exact ih3 _ _ _ _ _ _ _ _ _
   | exact ih4 _ _ _ _ _ _ _ _
   | exact LeO.none _
   | refine LeO.ite ?_ ?_
   | refine LeO.bind ?_ (fun _ => ?_)
  ·intro y0 y1 y2 y3
   unfold impl_Class_isNatural.j0
   repeat' first
   | with_reducible first | exact ih0 _ _ _ | exact ih1 _ _ _ _ | exact ih2 _ _ _ _ | exact ih3 _ _ _ _ _ _ _ _ _ | exact ih4 _ _ _ _ _ _ _ _ | exact LeO.refl _ | exact LeO.none _ | refine LeO.ite ?_ ?_ | refine LeO.bind ?_ (fun _ => ?_)
   | exact ih0 _ _ _
   | exact ih1 _ _ _ _
   | exact ih2 _ _ _ _
   | exact ih3 _ _ _ _ _ _ _ _ _
   | exact ih4 _ _ _ _ _ _ _ _
   | exact LeO.none _
   | refine LeO.ite ?_ ?_
   | refine LeO.bind ?_ (fun _ => ?_)
  ·intro y0 y1 y2 y3
   unfold impl_Class_isNatural.l0
   repeat' first
   | with_reducible first | exact ih0 _ _ _ | exact ih1 _ _ _ _ | exact ih2 _ _ _ _ | exact ih3 _ _ _ _ _ _ _ _ _ | exact ih4 _ _ _ _ _ _ _ _ | exact LeO.refl _ | exact LeO.none _ | refine LeO.ite ?_ ?_ | refine LeO.bind ?_ (fun _ => ?_)
   | exact ih0 _ _ _
   | exact ih1 _ _ _ _
   | exact ih2 _ _ _ _
   | exact ih3 _ _ _ _ _ _ _ _ _
   | exact ih4 _ _ _ _ _ _ _ _
   | exact LeO.none _
   | refine LeO.ite ?_ ?_
   | refine LeO.bind ?_ (fun _ => ?_)
  ·intro y0 y1 y2 y3 y4 y5 y6 y7 y8
   unfold impl_Class_isNatural.l1
   repeat' first
   | with_reducible first | exact ih0 _ _ _ | exact ih1 _ _ _ _ | exact ih2 _ _ _ _ | exact ih3 _ _ _ _ _ _ _ _ _ | exact ih4 _ _ _ _ _ _ _ _ | exact LeO.refl _ | exact LeO.none _ | refine LeO.ite ?_ ?_ | refine LeO.bind ?_ (fun _ => ?_)
   | exact ih0 _ _ _
   | exact ih1 _ _ _ _
   | exact ih2 _ _ _ _
   | exact ih3 _ _ _ _ _ _ _ _ _
   | exact ih4 _ _ _ _ _ _ _ _
   | exact LeO.none _
   | refine LeO.ite ?_ ?_
   | refine LeO.bind ?_ (fun _ => ?_)
  ·intro y0 y1 y2 y3 y4 y5 y6 y7
   unfold impl_Class_isNatural.l2
   repeat' first
   | with_reducible first | exact ih0 _ _ _ | exact ih1 _ _ _ _ | exact ih2 _ _ _ _ | exact ih3 _ _ _ _ _ _ _ _ _ | exact ih4 _ _ _ _ _ _ _ _ | exact LeO.refl _ | exact LeO.none _ | refine LeO.ite ?_ ?_ | refine LeO.bind ?_ (fun _ => ?_)
   | exact ih0 _ _ _
   | exact ih1 _ _ _ _
   | exact ih2 _ _ _ _
   | exact ih3 _ _ _ _ _ _ _ _ _
   | exact ih4 _ _ _ _ _ _ _ _
   | exact LeO.none _
   | refine LeO.ite ?_ ?_
   | refine LeO.bind ?_ (fun _ => ?_)
theorem impl_Class_isNatural.mono : ∀ a0 a1 a2 k, LeO (impl_Class_isNatural.f k a0 a1 a2) (impl_Class_isNatural.f (k + 1) a0 a1 a2) := by
 intro a0 a1 a2 k
 obtain ⟨ih0, ih1, ih2, ih3, ih4⟩ := impl_Class_isNatural.mono_l k
 exact ih0 a0 a1 a2
def impl_Class_isNatural.T1 : Bool × List (List Nat × List Nat) := (true, [([], []), ([0], [0]), ([1], [1]), ([2], [2]), ([3], [3]), ([4, 3], [3, 4]), ([5, 3], [3, 5]), ([3], [3]), ([6, 7, 3], [3, 6, 7]), ([3, 8], [3, 8])])
def impl_Class_isNatural.B1 : List Nat := [0, 1, 3, 7, 15, 31, 63, 15, 255, 511]
theorem impl_Class_isNatural.tab1 : rtab .any (opsOf Try.f43 1) = impl_Class_isNatural.T1 := by kernel_rfl
theorem impl_Class_isNatural.bits1 : waitsOk impl_Class_isNatural.T1.2 impl_Class_isNatural.B1 = true := by kernel_rfl
def impl_Class_isNatural.T11 : Bool × List (List Nat × List Nat) := (true, [([], []), ([0], [0]), ([], []), ([2], [2]), ([1, 3], [1, 3]), ([], []), ([5], [5]), ([4, 6], [4, 6]), ([], []), ([7, 8], [7, 8]), ([9, 0, 1, 2, 3, 4, 5, 6, 7, 8, 9], [9])])
def impl_Class_isNatural.B11 : List Nat := [0, 1, 0, 4, 15, 0, 32, 127, 0, 511, 1023]
theorem impl_Class_isNatural.tab11 : rtab .any (opsOf Try.f43 11) = impl_Class_isNatural.T11 := by kernel_rfl
theorem impl_Class_isNatural.bits11 : waitsOk impl_Class_isNatural.T11.2 impl_Class_isNatural.B11 = true := by kernel_rfl
def impl_Class_isNatural.T12 : Bool × List (List Nat × List Nat) := (true, [([], []), ([], []), ([], []), ([], []), ([2, 3], [2, 3]), ([4], [4]), ([], []), ([6], [6]), ([5, 7], [5, 7]), ([0, 1, 0, 1, 2, 3, 4, 5, 6, 7, 8], [0, 1]), ([9, 8, 8, 0, 1, 2, 3, 4, 5, 6, 7, 8], [8, 9])])
def impl_Class_isNatural.B12 : List Nat := [0, 0, 0, 0, 12, 28, 0, 64, 252, 511, 1023]
theorem impl_Class_isNatural.tab12 : rtab .any (opsOf Try.f43 12) = impl_Class_isNatural.T12 := by kernel_rfl
theorem impl_Class_isNatural.bits12 : waitsOk impl_Class_isNatural.T12.2 impl_Class_isNatural.B12 = true := by kernel_rfl
set_option maxHeartbeats 8000000 in
set_option maxRecDepth 100000 in
theorem impl_Class_isNatural.calls (k : Nat) : ∀ (a0_0 : Int) (a0_1 : Int) (A1 : Option Addr) (c1 : Nat) (l1 : List (S40)) (r : Bool) (w : World) (hr1 : Kd.C k40 w A1 l1.length l1) (hc1 : l1.length ≤ c1) (h : impl_Class_isNatural.f k a0_0 a0_1 l1 = some r),
  Calls Try.prog 43 #[.agg #[.int .i64 a0_0, .int .i64 a0_1], .slice A1 l1.length c1] w fun e w' => e = .returned (.bool r) ∧ Below w.heap.size w w' := by
 induction k using Nat.strongRecOn with
 | _ k ih =>
 intro a0_0 a0_1 A1 c1 l1 r w hr1 hc1 h
 cases k with
 | zero => exact absurd h (by simp [impl_Class_isNatural.f])
 | succ k =>
 simp only [impl_Class_isNatural.f] at h
 have hu40 := Try.underlying40
 have HR1 := am hr1
 have HC1 := am hc1
 clear hr1 hc1
 have HB := am (Below.refl w.heap.size w)
 have H : (if (l1.length : Int) = 1 then (if 0 < (l1.length : Int) then (impl_Class_isNatural.j0 k l1 (((rd_T40 l1 0).f0) == a0_0 && (((rd_T40 l1 0).f1) == a0_1)) a0_0 a0_1) else (none)) else (impl_Class_isNatural.j0 k l1 false a0_0 a0_1)) = some r := h
 clear h
 have HC3 := am H
 clear H
 go_enter Try.func43, Try.ntmps43
 go_upto_region 1 with (first | ((with_reducible refine gate_dst (N := 2) rfl ?_); refine box_event ?hg (N := 2) ?hd (cs := #[.int .i64 a0_0, .int .i64 a0_1]) (t := 40) ?hr ?_; (case hd => rfl); (case hg => rfl); (case hr => first | (go_simp; done) | (go_simp; rfl)); intro gb403 hg w4 hbox hb; have n0_ := am (below_step (kB HB) hb); have n1_ := am (hbox); have n2_ := am ((by rw [hg]; exact (below_size (kB HB)) : w.heap.size ≤ gb403)); have n3_ := am ((by rw [hg]; exact (below_size (kB HB)) : w.heap.size ≤ gb403)); clear HB; have HB := n0_; have BK403 := n1_; have GW403 := n2_; have GE403 := n3_; clear n0_ n1_ n2_ n3_; clear hb hbox hg))
 (try simp only [Act.put, List.setIfInBounds_toArray, List.set_cons_zero, List.set_cons_succ])
 go_cut [22] (fun v22 wc => ∃ (kq : Nat) (x22_2 : Bool), v22 = .bool x22_2 ∧ Aside0 (impl_Class_isNatural.j0 kq l1 x22_2 a0_0 a0_1 = some r) ∧ Aside0 (kq ≤ k) ∧ Aside0 (wc.heap[gb403]? = some (.cells #[.int .i64 a0_0, .int .i64 a0_1] 40 (0, 0))) ∧ Aside0 (Below w.heap.size w wc))
 case first =>
  have H := HC3.out
  clear HC3
  by_cases c5 : (l1.length : Int) = 1
  ·rw [if_pos c5] at H
   have c5b0 : ((l1.length : Int) == 1) = true := beq_iff_eq.mpr c5
   have c5b1 : ((l1.length : Int) != 1) = false := bne_eq_false_iff_eq.mpr c5
   clear c5
   (first | rw [c5b0] | (simp only [i64_w, i32_w]; rw [c5b0]) | skip)
   by_cases c6 : 0 < (l1.length : Int)
   ·rw [if_pos c6] at H
    have c6b0 : decide (0 < (l1.length : Int)) = true := decide_eq_true c6
    have c6b1 : decide (0 < l1.length) = true := decide_eq_true (by omega)
    clear c6
    have H' := am H
    clear H
    try go_wp2
    have n0_ := am (blk_drew BK403.out)
    have n1_ := am (below_drew1 HB.out)
    clear BK403
    clear HB
    have BK403 := n0_
    have HB := n1_
    clear n0_ n1_
    have p404 : 0 ≤ (0 : Int) := (by omega)
    have q404 : 0 < (l1.length : Int) := of_decide_eq_true kM
    obtain ⟨ad404, e404, hx404_0, hx404_1⟩ := at_T40 HR1.out 0 p404 q404
    have hw404_1 := hx404_1
    (try rw [show ((0 : Int)).toNat = 0 from rfl] at hw404_1)
    (try rw [show 0 * 2 = 0 from rfl] at hw404_1)
    (try rw [Addr.add_zero'] at hw404_1)
    have hw404_0 := hx404_0
    (try rw [show ((0 : Int)).toNat = 0 from rfl] at hw404_0)
    (try rw [show 0 * 2 = 0 from rfl] at hw404_0)
    (try rw [Addr.add_zero'] at hw404_0)
    cases e404
    have qi404 : (0 < l1.length) = True := eq_true (by omega)
    (try rw [show ((0 : Int)).toNat = 0 from rfl] at hx404_0)
    (try rw [show 0 * 2 = 0 from rfl] at hx404_0)
    (try rw [Addr.add_zero'] at hx404_0)
    (try rw [show ((0 : Int)).toNat = 0 from rfl] at hx404_1)
    (try rw [show 0 * 2 = 0 from rfl] at hx404_1)
    (try rw [Addr.add_zero'] at hx404_1)
    replace hx404_0 := (HB.out.cell (World.block_lt_of_cell? w _ hx404_0)).trans hx404_0
    replace hx404_1 := (HB.out.cell (World.block_lt_of_cell? w _ hx404_1)).trans hx404_1
    replace p404 := eq_true p404
    replace q404 := eq_true q404
    refine start_ (n := 10) (S := fun w' => w'.cell? ⟨gb403, 0, none⟩ = some (.int .i64 a0_0) ∧ w'.cell? ⟨gb403, 1, none⟩ = some (.int .i64 a0_1) ∧ w'.cell? ad404 = some (.int .i64 ((rd_T40 l1 0).f0)) ∧ w'.cell? ⟨ad404.block, ad404.off + 1, none⟩ = some (.int .i64 ((rd_T40 l1 0).f1))) (ds := []) #[false, false, false, false, false, false, false, false, false, false] (by kernel_rfl) rfl rfl ⟨(blk_cell BK403.out 0).trans rfl, (blk_cell BK403.out 1).trans rfl, ((HB.out.cell (World.block_lt_of_cell? w _ hw404_0)).trans hw404_0), ((HB.out.cell (World.block_lt_of_cell? w _ hw404_1)).trans hw404_1)⟩ (fun hHeld => ?_); refine with_tabW impl_Class_isNatural.tab1 impl_Class_isNatural.bits1 (fun HT_ HW_ => ?_)
    generalize w4.drew = w7 at BK403 HB hx404_0 hx404_1 hHeld ⊢
    refine pure_ (i := 0) (N := some 13) (v := ?_) (a' := ?_) #[true, false, false, false, false, false, false, false, false, false] rfl rfl (any_of HT_.out (by kernel_rfl)) (fun _ _ _ h => h) (Or.inl ⟨by rfl, ?_⟩) ?_ ?_
    rotate_left
    ·intro w'
     go_simp
     with_reducible rfl
    rotate_left
    ·simp only [Act.put, List.setIfInBounds_toArray, List.set_cons_zero, List.set_cons_succ, i64_w, i32_w]
     rfl
    refine pure_ (i := 1) (N := some 14) (v := ?_) (a' := ?_) #[true, true, false, false, false, false, false, false, false, false] rfl rfl (any_of HT_.out (by kernel_rfl)) (fun _ _ _ h => h) (Or.inl ⟨by rfl, ?_⟩) ?_ ?_
    rotate_left
    ·intro w'
     go_simp
     with_reducible rfl
    rotate_left
    ·simp only [Act.put, List.setIfInBounds_toArray, List.set_cons_zero, List.set_cons_succ, i64_w, i32_w]
     rfl
    refine pure_ (i := 2) (N := some 15) (v := ?_) (a' := ?_) #[true, true, true, false, false, false, false, false, false, false] rfl rfl (any_of HT_.out (by kernel_rfl)) (fun _ _ _ h => h) (Or.inl ⟨by rfl, ?_⟩) ?_ ?_
    rotate_left
    ·intro w'
     go_simp
     with_reducible rfl
    rotate_left
    ·simp only [Act.put, List.setIfInBounds_toArray, List.set_cons_zero, List.set_cons_succ, i64_w, i32_w]
     rfl
    refine pure_ (i := 3) (N := some 16) (v := ?_) (a' := ?_) #[true, true, true, true, false, false, false, false, false, false] rfl rfl (any_of HT_.out (by kernel_rfl)) (fun _ _ _ h => h) (Or.inl ⟨by rfl, ?_⟩) ?_ ?_
    rotate_left
    ·intro w'
     go_simp
     with_reducible rfl
    rotate_left
    ·simp only [Act.put, List.setIfInBounds_toArray, List.set_cons_zero, List.set_cons_succ, i64_w, i32_w]
     rfl
    refine pure_ (i := 4) (N := some 17) (v := ?_) (a' := ?_) #[true, true, true, true, true, false, false, false, false, false] rfl rfl (any_of HT_.out (by kernel_rfl)) (fun _ _ _ h => h) (Or.inl ⟨by rfl, ?_⟩) ?_ ?_
    rotate_left
    ·intro w'
     go_simp
     with_reducible rfl
    rotate_left
    ·simp only [Act.put, List.setIfInBounds_toArray, List.set_cons_zero, List.set_cons_succ, i64_w, i32_w]
     rfl
    refine pure_ (i := 5) (N := some 18) (v := ?_) (a' := ?_) #[true, true, true, true, true, true, false, false, false, false] rfl rfl (any_of HT_.out (by kernel_rfl)) (fun _ _ _ h => h) (Or.inl ⟨by rfl, ?_⟩) ?_ ?_
    rotate_left
    ·intro w'
     go_simp
     with_reducible rfl
    rotate_left
    ·simp only [Act.put, List.setIfInBounds_toArray, List.set_cons_zero, List.set_cons_succ, i64_w, i32_w]
     rfl
    refine take_ (i := 6) (N := some 19) (v := ?_) (a' := ?_) #[true, true, true, true, true, true, true, false, false, false] rfl rfl (take_ofW HT_.out HW_.out (by kernel_rfl)) (fun _ _ _ h => h) (Or.inl ⟨by rfl, ?_⟩) hHeld ?_ ?_
    rotate_left
    ·rintro w' ⟨s0, s1, s2, s3⟩
     go_simp
     with_reducible rfl
    rotate_left
    ·simp only [Act.put, List.setIfInBounds_toArray, List.set_cons_zero, List.set_cons_succ, i64_w, i32_w]
     rfl
    refine take_ (i := 7) (N := some 20) (v := ?_) (a' := ?_) #[true, true, true, true, true, true, true, true, false, false] rfl rfl (take_ofW HT_.out HW_.out (by kernel_rfl)) (fun _ _ _ h => h) (Or.inl ⟨by rfl, ?_⟩) hHeld ?_ ?_
    rotate_left
    ·rintro w' ⟨s0, s1, s2, s3⟩
     go_simp
     with_reducible rfl
    rotate_left
    ·simp only [Act.put, List.setIfInBounds_toArray, List.set_cons_zero, List.set_cons_succ, i64_w, i32_w]
     rfl
    refine pure_ (i := 8) (N := some 21) (v := ?_) (a' := ?_) #[true, true, true, true, true, true, true, true, true, false] rfl rfl (any_of HT_.out (by kernel_rfl)) (fun _ _ _ h => h) (Or.inl ⟨by rfl, ?_⟩) ?_ ?_
    rotate_left
    ·intro w'
     go_simp
     with_reducible rfl
    rotate_left
    ·simp only [Act.put, List.setIfInBounds_toArray, List.set_cons_zero, List.set_cons_succ, i64_w, i32_w]
     rfl
    refine pure_ (i := 9) (N := some 22) (v := ?_) (a' := ?_) #[true, true, true, true, true, true, true, true, true, true] rfl rfl (any_of HT_.out (by kernel_rfl)) (fun _ _ _ h => h) (Or.inl ⟨by rfl, ?_⟩) ?_ ?_
    rotate_left
    ·intro w'
     go_simp
     with_reducible rfl
    rotate_left
    ·simp only [Act.put, List.setIfInBounds_toArray, List.set_cons_zero, List.set_cons_succ, i64_w, i32_w]
     rfl
    refine done_ (done_of HT_.out (by kernel_rfl)) ?_
    try go_wp2
    go_meet
    case rel => exact ⟨_, ((((rd_T40 l1 0).f0) == a0_0 && (((rd_T40 l1 0).f1) == a0_1))), (by first | rfl | (simp; done) | (simp [*]; done)), H', ⟨by first | omega | exact Nat.le_refl _⟩, ⟨kK BK403⟩, ⟨kB1 HB GE403.out⟩⟩
   ·rw [if_neg c6] at H
    exact absurd H (by simp)
  ·rw [if_neg c5] at H
   have c5b0 : ((l1.length : Int) == 1) = false := beq_eq_false_iff_ne.mpr c5
   have c5b1 : ((l1.length : Int) != 1) = true := bne_iff_ne.mpr c5
   (first | rw [c5b0] | (simp only [i64_w, i32_w]; rw [c5b0]) | skip)
   have H' := am H
   clear H
   try go_wp2
   have n0_ := am (blk_drew BK403.out)
   have n1_ := am (below_drew1 HB.out)
   clear BK403
   clear HB
   have BK403 := n0_
   have HB := n1_
   clear n0_ n1_
   refine start_ (n := 10) (S := fun w' => True) (ds := []) #[false, false, false, false, false, false, false, false, false, false] (by kernel_rfl) rfl rfl trivial (fun hHeld => ?_); refine with_tabW impl_Class_isNatural.tab1 impl_Class_isNatural.bits1 (fun HT_ HW_ => ?_)
   generalize w4.drew = w8 at BK403 HB hHeld ⊢
   refine pure_ (i := 0) (N := some 13) (v := ?_) (a' := ?_) #[true, false, false, false, false, false, false, false, false, false] rfl rfl (any_of HT_.out (by kernel_rfl)) (fun _ _ _ h => h) (Or.inl ⟨by rfl, ?_⟩) ?_ ?_
   rotate_left
   ·intro w'
    go_simp
    with_reducible rfl
   rotate_left
   ·simp only [Act.put, List.setIfInBounds_toArray, List.set_cons_zero, List.set_cons_succ, i64_w, i32_w]
    rfl
   refine pure_ (i := 1) (N := some 14) (v := ?_) (a' := ?_) #[true, true, false, false, false, false, false, false, false, false] rfl rfl (any_of HT_.out (by kernel_rfl)) (fun _ _ _ h => h) (Or.inl ⟨by rfl, ?_⟩) ?_ ?_
   rotate_left
   ·intro w'
    go_simp
    with_reducible rfl
   rotate_left
   ·simp only [Act.put, List.setIfInBounds_toArray, List.set_cons_zero, List.set_cons_succ, i64_w, i32_w]
    rfl
   refine pure_ (i := 2) (N := some 15) (v := ?_) (a' := ?_) #[true, true, true, false, false, false, false, false, false, false] rfl rfl (any_of HT_.out (by kernel_rfl)) (fun _ _ _ h => h) (Or.inl ⟨by rfl, ?_⟩) ?_ ?_
   rotate_left
   ·intro w'
    go_simp
    with_reducible rfl
   rotate_left
   ·simp only [Act.put, List.setIfInBounds_toArray, List.set_cons_zero, List.set_cons_succ, i64_w, i32_w]
    rfl
   refine pure_ (i := 3) (N := some 16) (v := ?_) (a' := ?_) #[true, true, true, true, false, false, false, false, false, false] rfl rfl (any_of HT_.out (by kernel_rfl)) (fun _ _ _ h => h) (Or.inl ⟨by rfl, ?_⟩) ?_ ?_
   rotate_left
   ·intro w'
    go_simp
    with_reducible rfl
   rotate_left
   ·simp only [Act.put, List.setIfInBounds_toArray, List.set_cons_zero, List.set_cons_succ, i64_w, i32_w]
    rfl
   refine pure_ (i := 4) (N := some 17) (v := undef) (a' := ?_) #[true, true, true, true, true, false, false, false, false, false] rfl rfl (any_of HT_.out (by kernel_rfl)) (fun _ _ _ h => h) (Or.inr ⟨by rfl, rfl⟩) ?_ ?_
   rotate_left
   ·simp only [Act.put, List.setIfInBounds_toArray, List.set_cons_zero, List.set_cons_succ, i64_w, i32_w]
    rfl
   refine pure_ (i := 5) (N := some 18) (v := undef) (a' := ?_) #[true, true, true, true, true, true, false, false, false, false] rfl rfl (any_of HT_.out (by kernel_rfl)) (fun _ _ _ h => h) (Or.inr ⟨by rfl, rfl⟩) ?_ ?_
   rotate_left
   ·simp only [Act.put, List.setIfInBounds_toArray, List.set_cons_zero, List.set_cons_succ, i64_w, i32_w]
    rfl
   refine pure_ (i := 6) (N := some 19) (v := undef) (a' := ?_) #[true, true, true, true, true, true, true, false, false, false] rfl rfl (any_of HT_.out (by kernel_rfl)) (fun _ _ _ h => h) (Or.inr ⟨by rfl, rfl⟩) ?_ ?_
   rotate_left
   ·simp only [Act.put, List.setIfInBounds_toArray, List.set_cons_zero, List.set_cons_succ, i64_w, i32_w]
    rfl
   refine pure_ (i := 7) (N := some 20) (v := undef) (a' := ?_) #[true, true, true, true, true, true, true, true, false, false] rfl rfl (any_of HT_.out (by kernel_rfl)) (fun _ _ _ h => h) (Or.inr ⟨by rfl, rfl⟩) ?_ ?_
   rotate_left
   ·simp only [Act.put, List.setIfInBounds_toArray, List.set_cons_zero, List.set_cons_succ, i64_w, i32_w]
    rfl
   refine pure_ (i := 8) (N := some 21) (v := undef) (a' := ?_) #[true, true, true, true, true, true, true, true, true, false] rfl rfl (any_of HT_.out (by kernel_rfl)) (fun _ _ _ h => h) (Or.inr ⟨by rfl, rfl⟩) ?_ ?_
   rotate_left
   ·simp only [Act.put, List.setIfInBounds_toArray, List.set_cons_zero, List.set_cons_succ, i64_w, i32_w]
    rfl
   refine pure_ (i := 9) (N := some 22) (v := ?_) (a' := ?_) #[true, true, true, true, true, true, true, true, true, true] rfl rfl (any_of HT_.out (by kernel_rfl)) (fun _ _ _ h => h) (Or.inl ⟨by rfl, ?_⟩) ?_ ?_
   rotate_left
   ·intro w'
    go_simp
    with_reducible rfl
   rotate_left
   ·simp only [Act.put, List.setIfInBounds_toArray, List.set_cons_zero, List.set_cons_succ, i64_w, i32_w]
    rfl
   refine done_ (done_of HT_.out (by kernel_rfl)) ?_
   try go_wp2
   go_meet
   case rel => exact ⟨_, (false), (by first | rfl | (simp; done) | (simp [*]; done)), H', ⟨by first | omega | exact Nat.le_refl _⟩, ⟨kK BK403⟩, ⟨kB1 HB GE403.out⟩⟩
 case rest =>
  clear HC3
  try clear c1
  obtain ⟨kq, x22_2, rfl, HA, HJ2, BK403, HB⟩ := hcut
  cases kq with
  | zero => exact absurd HA.out (by simp [impl_Class_isNatural.j0])
  | succ kj2 =>
   have H := HA.out
   clear HA
   simp only [impl_Class_isNatural.j0] at H
   by_cases c9 : x22_2 = true
   ·subst c9
    rw [if_pos rfl] at H
    obtain rfl := Option.some.inj H
    go_wp2
    go_ret
    exact ⟨by first | rfl | (simp [errW_none, errW_some] <;> rfl) | (simp [*, errW_none, errW_some] <;> rfl), kB1 HB GE403.out⟩
   ·replace c9 := Bool.eq_false_iff.mpr c9
    subst c9
    rw [if_neg (show ¬ (false = true) by decide)] at H
    have H' := am H
    clear H
    go_wp2_with (first | ((with_reducible refine gate_dst (N := 5) rfl ?_); refine box_event ?hg (N := 5) ?hd (cs := #[.int .i64 0]) (t := 2) ?hr ?_; (case hd => rfl); (case hg => rfl); (case hr => first | (go_simp; done) | (go_simp; rfl)); intro gb405 hg w10 hbox hb; have n0_ := am (blk_below (g := gb403) (o := .cells #[.int .i64 a0_0, .int .i64 a0_1] 40 (0, 0)) (kK BK403) hb); have n1_ := am (below_step (kB1 HB GE403.out) hb); have n2_ := am (hbox); have n3_ := am ((by rw [hg]; exact (below_size (kB1 HB GE403.out)) : w.heap.size ≤ gb405)); have n4_ := am ((by rw [hg]; exact (below_size (kB1 HB GE403.out)) : w.heap.size ≤ gb405)); have n5_ := am ((by rw [hg]; exact Nat.ne_of_lt (blk_lt (g := gb403) (o := .cells #[.int .i64 a0_0, .int .i64 a0_1] 40 (0, 0)) (kK BK403)) : gb403 ≠ gb405)); have n6_ := am ((by rw [hg]; exact Nat.ne_of_gt (blk_lt (g := gb403) (o := .cells #[.int .i64 a0_0, .int .i64 a0_1] 40 (0, 0)) (kK BK403)) : gb405 ≠ gb403)); clear BK403 HB; have BK403 := n0_; have HB := n1_; have BK405 := n2_; have GW405 := n3_; have GE405 := n4_; have NB403_405 := n5_; have NB405_403 := n6_; clear n0_ n1_ n2_ n3_ n4_ n5_ n6_ hb hbox hg; have hnb11 := NB405_403.out; have hnc11 := NB403_405.out; have hcz12_0 : w10.cell? ⟨gb405, 0, none⟩ = some (.int .i64 0) := (blk_cell BK405.out 0).trans rfl; have hfz12_0 := blk_frozen BK405.out 0))
    go_loopg [5] kj2 (fun kq v5 w' => ∃ (x406000_2 : Int) (gb405 : Nat), v5 = .pointer (some ⟨gb405, 0, none⟩) ∧ Aside0 (w.heap.size ≤ gb405) ∧ Aside0 (gb403 ≠ gb405) ∧ Aside0 (gb405 ≠ gb403) ∧ Aside0 (impl_Class_isNatural.l0 kq l1 a0_0 a0_1 x406000_2 = some r) ∧ Aside0 (kq ≤ kj2) ∧ Aside0 (w'.heap[gb403]? = some (.cells #[.int .i64 a0_0, .int .i64 a0_1] 40 (0, 0))) ∧ Aside0 (w'.heap[gb405]? = some (.cells #[.int .i64 x406000_2] 2 (0, 0))) ∧ Aside0 (Below w.heap.size w w'))
    case atStart => exact ⟨(2), gb405, (by first | rfl | (simp; done) | (simp [*]; done)), GE405, NB403_405, NB405_403, H', ⟨Nat.le_refl _⟩, ⟨by (with_reducible repeat (first | refine blk_drewN ?_ _ | refine blk_drew ?_ | refine blk_alloc ?_ _)); refine blk_far ?_ NB403_405.out _; (with_reducible repeat (first | refine blk_drewN ?_ _ | refine blk_drew ?_ | refine blk_alloc ?_ _)); exact BK403.out⟩, ⟨by (with_reducible repeat (first | refine blk_drewN ?_ _ | refine blk_drew ?_ | refine blk_alloc ?_ _)); refine blk_put (cs := #[.int .i64 0]) ?_ 0 _ rfl; (with_reducible repeat (first | refine blk_drewN ?_ _ | refine blk_drew ?_ | refine blk_alloc ?_ _)); exact BK405.out⟩, ⟨kB2 HB GE403.out GE405.out⟩⟩
    case round =>
     clear H'
     try clear c1
     try clear c9
     try clear hcz12_0
     try clear hfz12_0
     obtain ⟨x406000_2, gb405, rfl, GE405, NB403_405, NB405_403, HA, HK2, BK403, BK405, HB⟩ := hrel
     have GW405 := GE405
     cases gk with
     | zero => exact absurd HA.out (by simp [impl_Class_isNatural.l0])
     | succ k2 =>
      have H := HA.out
      clear HA
      simp only [impl_Class_isNatural.l0] at H
      replace H := Option.bind_eq_some_iff.mp H
      obtain ⟨t406, A130, H⟩ := H
      try dsimp only at H
      have A13 := am A130
      clear A130
      by_cases c14 : x406000_2 ≤ t406
      ·rw [if_pos c14] at H
       have c14b0 : decide (x406000_2 ≤ t406) = true := decide_eq_true c14
       clear c14
       by_cases c15 : 0 ≤ x406000_2
       ·rw [if_pos c15] at H
        have c15b0 := eq_true c15
        have c15b1 : decide (0 ≤ x406000_2) = true := decide_eq_true c15
        clear c15
        by_cases c16 : (x406000_2 : Int).toNat ≤ 11728124029610
        ·rw [if_pos c16] at H
         have c16b0 := eq_true c16
         have c16b1 : decide ((x406000_2 : Int).toNat ≤ 11728124029610) = true := decide_eq_true c16
         clear c16
         obtain ⟨y407, hy407⟩ : ∃ y_ : List (List (S40)), y_ = (List.replicate (x406000_2 : Int).toNat []) := ⟨_, rfl⟩
         replace H : ((impl_Class_isNatural_1.f l1 a0_0 a0_1 x406000_2).bind fun t410 => (impl_Class_isNatural.l1 k2 l1 y407 t410 l1 (l1.length : Int) 0 a0_0 a0_1 x406000_2)) = some r := by first | (rw [hy407]; with_reducible exact H) | (have H2_ := (Option.bind_some _ _).symm.trans H; rw [hy407]; with_reducible exact H2_) | (have H2_ := (Option.bind_some _ _).symm.trans H; with_reducible exact H2_) | with_reducible exact H | (rw [hy407]; exact H) | exact H
         have Ny407 := am hy407
         clear hy407
         replace H := Option.bind_eq_some_iff.mp H
         obtain ⟨t410, A170, H⟩ := H
         try dsimp only at H
         have A17 := am A170
         clear A170
         have H' := am H
         clear H
         try go_wp2
         have n0_ := am (blk_drew BK403.out)
         have n1_ := am (blk_drew BK405.out)
         have n2_ := am (below_drew1 HB.out)
         clear BK403
         clear BK405
         clear HB
         have BK403 := n0_
         have BK405 := n1_
         have HB := n2_
         clear n0_ n1_ n2_
         refine start_ (n := 4) (S := fun w' => w'.cell? ⟨gb405, 0, none⟩ = some (.int .i64 x406000_2)) (ds := []) #[false, false, false, false] (by kernel_rfl) rfl rfl ((blk_cell BK405.out 0).trans rfl) (fun hHeld => ?_)
         generalize wr.drew = w18 at BK403 BK405 HB hHeld ⊢
         refine pure_ (i := 1) (N := some 24) (v := ?_) (a' := ?_) #[false, true, false, false] rfl rfl (by kernel_rfl) (fun _ _ _ h => h) (Or.inl ⟨by rfl, ?_⟩) ?_ ?_
         rotate_left
         ·intro w'
          go_simp
          with_reducible rfl
         rotate_left
         ·simp only [Act.put, List.setIfInBounds_toArray, List.set_cons_zero, List.set_cons_succ, i64_w, i32_w]
          rfl
         refine take_ (i := 0) (N := some 23) (v := ?_) (a' := ?_) #[true, true, false, false] rfl rfl (by kernel_rfl) (fun _ _ _ h => h) (Or.inl ⟨by rfl, ?_⟩) hHeld ?_ ?_
         rotate_left
         ·intro w' s0
          go_simp
          with_reducible rfl
         rotate_left
         ·simp only [Act.put, List.setIfInBounds_toArray, List.set_cons_zero, List.set_cons_succ, i64_w, i32_w]
          rfl
         refine one_ (i := 2) (N := some 25) #[true, true, true, false] rfl rfl (by kernel_rfl) (by decide) (fun K hK => ?_)
         refine goes_ Try.func46 (by kernel_rfl) rfl #[.slice A1 l1.length c1] (by rfl) rfl rfl kA ?_
         with_reducible refine (impl_Class_46.calls _ _ l1 t406 _ ?side1 ?side2 A13.out).mono ?_
         (case side1 => exact kC (Kd.C_below HR1.out HB.out))
         (case side2 => exact HC1.out)
         rintro e w' ⟨rfl, ⟨nd, rfl⟩⟩
         refine ⟨_, rfl, ?_⟩
         refine hK.out _ _ ((blk_cell BK405.out 0).trans rfl) (fun hHeld => ?_)
         clear hK K
         refine norm_ (a' := ?_) ?_ ?_
         rotate_left
         ·show Act.put _ (some 25) _ = _
          simp only [Act.put, List.setIfInBounds_toArray, List.set_cons_zero, List.set_cons_succ, i64_w, i32_w]
          rfl
         refine pure_ (i := 3) (N := some 26) (v := ?_) (a' := ?_) #[true, true, true, true] rfl rfl (by kernel_rfl) (fun _ _ _ h => h) (Or.inl ⟨by rfl, ?_⟩) ?_ ?_
         rotate_left
         ·intro w'
          go_simp
          with_reducible rfl
         rotate_left
         ·simp only [Act.put, List.setIfInBounds_toArray, List.set_cons_zero, List.set_cons_succ, i64_w, i32_w]
          rfl
         refine done_ (by kernel_rfl) ?_
         have hnb19 := NB405_403.out
         have hnc19 := NB403_405.out
         have hcz20_0 : w18.cell? ⟨gb405, 0, none⟩ = some (.int .i64 x406000_2) := (blk_cell BK405.out 0).trans rfl
         have hfz20_0 := blk_frozen BK405.out 0
         try go_wp2_with (first | ((with_reducible refine gate_dst (N := 30) rfl ?_); refine Kd.S_make (Kd.slice 40 k40) _ 24 rfl (N := 30) rfl 68 _ _ rfl x406000_2 rfl rfl Try.underlying68 (.slice none 0 0) 24 info24 rfl (by decide) (by omega) [] (ok := fun _ => True) (okp := fun _ => True) ⟨_, rfl, Kd.R_nil _ _ _ _ _⟩ (fun _ hk => hk) trivial (of_decide_eq_true kM) (Nat.le_trans (Nat.mul_le_mul_right _ (of_decide_eq_true kM : x406000_2.toNat ≤ 11728124029610)) (by omega)) (Below.refl _ _) (Nat.le_refl _) ?_; intro v408 w21 ho22 hb hg_ hnew_; clear hg_ hnew_; (first | rw [← Ny407.out] at ho22 | (simp only [Int.reduceToNat] at ho22; rw [← Ny407.out] at ho22)); have n0_ := am (Kd.S_lower (Kd.S_newB ho22 (g := gb403) (o := .cells #[.int .i64 a0_0, .int .i64 a0_1] 40 (0, 0)) (kK BK403)) (below_size (kB2 HB GE403.out GE405.out))); have n1_ := am (blk_below (g := gb403) (o := .cells #[.int .i64 a0_0, .int .i64 a0_1] 40 (0, 0)) (kK BK403) hb); have n2_ := am (blk_below (g := gb405) (o := .cells #[.int .i64 x406000_2] 2 (0, 0)) (kK BK405) hb); have n3_ := am (below_step (kB2 HB GE403.out GE405.out) hb); clear BK403 BK405 HB; have HO409 := n0_; have BK403 := n1_; have BK405 := n2_; have HB := n3_; clear n0_ n1_ n2_ n3_ hb ho22; have hcz23_0 : w21.cell? ⟨gb403, 0, none⟩ = some (.int .i64 a0_0) := (blk_cell BK403.out 0).trans rfl; have hcz23_1 : w21.cell? ⟨gb403, 1, none⟩ = some (.int .i64 a0_1) := (blk_cell BK403.out 1).trans rfl; have hfz23_0 := blk_frozen BK403.out 0; have hfz23_1 := blk_frozen BK403.out 1) | (go_at_call 41; refine (nat_at A1 c1 l1 a0_0 a0_1 x406000_2 t410 gb403 gb405 _ ?side1 ?side7 ?side8 A17.out).mono ?_; (case side1 => exact kC (Kd.C_below HR1.out HB.out)); (case side7 => exact (blk_cell (g := gb403) (cs := #[.int .i64 a0_0, .int .i64 a0_1]) (t := 40) (kK BK403) 1).trans rfl); (case side8 => exact (blk_cell (g := gb405) (cs := #[.int .i64 x406000_2]) (t := 2) (kK BK405) 0).trans rfl); rintro e w24 ⟨rfl, hb⟩; have n0_ := am (Kd.S_below (kS HO409) hb); have n1_ := am (blk_below (g := gb403) (o := .cells #[.int .i64 a0_0, .int .i64 a0_1] 40 (0, 0)) (kK BK403) hb); have n2_ := am (blk_below (g := gb405) (o := .cells #[.int .i64 x406000_2] 2 (0, 0)) (kK BK405) hb); have n3_ := am (below_step (kB2 HB GE403.out GE405.out) hb); clear HO409 BK403 BK405 HB; have HO409 := n0_; have BK403 := n1_; have BK405 := n2_; have HB := n3_; clear n0_ n1_ n2_ n3_; (try clear hb); (try clear hb2); (try clear hk); (try clear hi)))
         go_loopg [36] k2 (fun kq v36 w' => ∃ (x6_3 : List (List (S40))) (x36_3 : Int), v36 = .int .i64 x36_3 ∧ Aside0 (impl_Class_isNatural.l1 kq l1 x6_3 t410 l1 (l1.length : Int) x36_3 a0_0 a0_1 x406000_2 = some r) ∧ Aside0 (kq ≤ k2) ∧ Aside0 (Kd.S (Kd.slice 40 k40) 24 w' w.heap.size (fun k_ => k_ ≠ gb403) v408 x6_3) ∧ Aside0 (w'.heap[gb403]? = some (.cells #[.int .i64 a0_0, .int .i64 a0_1] 40 (0, 0))) ∧ Aside0 (w'.heap[gb405]? = some (.cells #[.int .i64 x406000_2] 2 (0, 0))) ∧ Aside0 (Below w.heap.size w w'))
         case atStart => exact ⟨(y407), (0), (by first | rfl | (simp; done) | (simp [*]; done)), H', ⟨Nat.le_refl _⟩, ⟨by (with_reducible repeat (first | apply Kd.S_alloc | apply Kd.S_drewN | apply Kd.S_drew)); exact Kd.S_mono HO409.out (fun _ hk => hk.2)⟩, ⟨kK BK403⟩, ⟨kK BK405⟩, ⟨kB2 HB GE403.out GE405.out⟩⟩
         case round =>
          clear H'
          try clear c1
          try clear c9
          try clear c14
          try clear c14b0
          try clear c15
          try clear c15b0
          try clear c15b1
          try clear c16
          try clear c16b0
          try clear c16b1
          try clear hcz12_0
          try clear hcz20_0
          try clear hcz23_0
          try clear hcz23_1
          try clear hfz12_0
          try clear hfz20_0
          try clear hfz23_0
          try clear hfz23_1
          obtain ⟨x6_3, x36_3, rfl, HA, HK3, HO_6, BK403, BK405, HB⟩ := hrel
          cases gk with
          | zero => exact absurd HA.out (by simp [impl_Class_isNatural.l1])
          | succ k3 =>
           have H := HA.out
           clear HA
           simp only [impl_Class_isNatural.l1] at H
           by_cases c25 : x36_3 < (l1.length : Int)
           ·rw [if_pos c25] at H
            have c25b0 : decide (x36_3 < (l1.length : Int)) = true := decide_eq_true c25
            clear c25
            by_cases c26 : 0 ≤ x36_3
            ·rw [if_pos c26] at H
             have c26b0 : decide (0 ≤ x36_3) = true := decide_eq_true c26
             clear c26
             by_cases c27 : x36_3 < (l1.length : Int)
             ·rw [if_pos c27] at H
              have c27b0 : decide (x36_3 < (l1.length : Int)) = true := decide_eq_true c27
              clear c27
              by_cases c28 : a0_1 = 0
              ·rw [if_pos c28] at H
               exact absurd H (by simp)
              ·rw [if_neg c28] at H
               have c28b0 : (a0_1 == 0) = false := beq_eq_false_iff_ne.mpr c28
               have c28b1 : (a0_1 != 0) = true := bne_iff_ne.mpr c28
               by_cases c29 : x406000_2 = 0
               ·rw [if_pos c29] at H
                exact absurd H (by simp)
               ·rw [if_neg c29] at H
                have c29b0 : (x406000_2 == 0) = false := beq_eq_false_iff_ne.mpr c29
                have c29b1 : (x406000_2 != 0) = true := bne_iff_ne.mpr c29
                obtain ⟨ji30, hji30⟩ : ∃ j_ : Int, (Int.tmod (wrap64 (Int.tdiv (wrap64 (((rd_T40 l1 x36_3).f0) - a0_0)) a0_1)) x406000_2) = j_ := ⟨_, rfl⟩
                replace H : (if 0 ≤ (ji30) then (if (ji30) < (x6_3.length : Int) then (if (rd_L3 x6_3 (ji30)).length < 8796093022208 then (impl_Class_isNatural.l1 k3 l1 (x6_3.set ((ji30) : Int).toNat ((rd_L3 x6_3 (ji30)) ++ [(⟨(rd_T40 l1 x36_3).f0, (rd_T40 l1 x36_3).f1⟩ : S40)])) t410 l1 (l1.length : Int) (wrap64 (x36_3 + 1)) a0_0 a0_1 x406000_2) else (none)) else (none)) else (none)) = some r := by first | (rw [hji30] at H; exact H) | (simp only [hji30] at H ⊢; exact H)
                by_cases c31 : 0 ≤ (ji30)
                ·rw [if_pos c31] at H
                 have c31b0 : decide (0 ≤ (ji30)) = true := decide_eq_true c31
                 clear c31
                 by_cases c32 : (ji30) < (x6_3.length : Int)
                 ·rw [if_pos c32] at H
                  have c32b0 : decide ((ji30) < (x6_3.length : Int)) = true := decide_eq_true c32
                  clear c32
                  by_cases c33 : (rd_L3 x6_3 (ji30)).length < 8796093022208
                  ·rw [if_pos c33] at H
                   have LMc33 := am c33
                   clear c33
                   obtain ⟨y414, hy414⟩ : ∃ y_ : List (S40), y_ = ((rd_L3 x6_3 (ji30)) ++ [(⟨(rd_T40 l1 x36_3).f0, (rd_T40 l1 x36_3).f1⟩ : S40)]) := ⟨_, rfl⟩
                   replace H : (impl_Class_isNatural.l1 k3 l1 (x6_3.set ((ji30) : Int).toNat y414) t410 l1 (l1.length : Int) (wrap64 (x36_3 + 1)) a0_0 a0_1 x406000_2) = some r := by first | (rw [hy414]; with_reducible exact H) | (have H2_ := (Option.bind_some _ _).symm.trans H; rw [hy414]; with_reducible exact H2_) | (have H2_ := (Option.bind_some _ _).symm.trans H; with_reducible exact H2_) | with_reducible exact H | (rw [hy414]; exact H) | exact H
                   have Ny414 := am hy414
                   clear hy414
                   obtain ⟨y417, hy417⟩ : ∃ y_ : List (List (S40)), y_ = (x6_3.set ((ji30) : Int).toNat y414) := ⟨_, rfl⟩
                   replace H : (impl_Class_isNatural.l1 k3 l1 y417 t410 l1 (l1.length : Int) (wrap64 (x36_3 + 1)) a0_0 a0_1 x406000_2) = some r := by first | (rw [hy417]; with_reducible exact H) | (have H2_ := (Option.bind_some _ _).symm.trans H; rw [hy417]; with_reducible exact H2_) | (have H2_ := (Option.bind_some _ _).symm.trans H; with_reducible exact H2_) | with_reducible exact H | (rw [hy417]; exact H) | exact H
                   have Ny417 := am hy417
                   clear hy417
                   have H' := am H
                   clear H
                   have p411 : 0 ≤ (x36_3 : Int) := of_decide_eq_true kM
                   have q411 : x36_3 < (l1.length : Int) := of_decide_eq_true kM
                   obtain ⟨ad411, e411, hx411_0, hx411_1⟩ := at_T40 HR1.out x36_3 p411 q411
                   cases e411
                   replace hx411_0 := (HB.out.cell (World.block_lt_of_cell? w _ hx411_0)).trans hx411_0
                   replace hx411_1 := (HB.out.cell (World.block_lt_of_cell? w _ hx411_1)).trans hx411_1
                   replace p411 := eq_true p411
                   replace q411 := eq_true q411
                   try go_wp2_with (first | ((with_reducible refine gate_dst (N := 9) rfl ?_); refine box_event ?hg (N := 9) ?hd (cs := #[.int .i64 0, .int .i64 0]) (t := 40) ?hr ?_; (case hd => rfl); (case hg => rfl); (case hr => first | (go_simp; done) | (go_simp; rfl)); intro gb412 hg w35 hbox hb; have n0_ := am (Kd.S_below (Kd.S_elderB (kS HO_6) gb412 (Nat.le_of_eq hg.symm)) hb); have n1_ := am (blk_below (g := gb403) (o := .cells #[.int .i64 a0_0, .int .i64 a0_1] 40 (0, 0)) (kK BK403) hb); have n2_ := am (blk_below (g := gb405) (o := .cells #[.int .i64 x406000_2] 2 (0, 0)) (kK BK405) hb); have n3_ := am (below_step (kB2 HB GE403.out GE405.out) hb); have n4_ := am (hbox); have n5_ := am ((by rw [hg]; exact (below_size (kB2 HB GE403.out GE405.out)) : w.heap.size ≤ gb412)); have n6_ := am ((by rw [hg]; exact (below_size (kB2 HB GE403.out GE405.out)) : w.heap.size ≤ gb412)); have n7_ := am ((by rw [hg]; exact Nat.ne_of_lt (blk_lt (g := gb403) (o := .cells #[.int .i64 a0_0, .int .i64 a0_1] 40 (0, 0)) (kK BK403)) : gb403 ≠ gb412)); have n8_ := am ((by rw [hg]; exact Nat.ne_of_gt (blk_lt (g := gb403) (o := .cells #[.int .i64 a0_0, .int .i64 a0_1] 40 (0, 0)) (kK BK403)) : gb412 ≠ gb403)); have n9_ := am ((by rw [hg]; exact Nat.ne_of_lt (blk_lt (g := gb405) (o := .cells #[.int .i64 x406000_2] 2 (0, 0)) (kK BK405)) : gb405 ≠ gb412)); have n10_ := am ((by rw [hg]; exact Nat.ne_of_gt (blk_lt (g := gb405) (o := .cells #[.int .i64 x406000_2] 2 (0, 0)) (kK BK405)) : gb412 ≠ gb405)); clear HO_6 BK403 BK405 HB; have HO_6 := n0_; have BK403 := n1_; have BK405 := n2_; have HB := n3_; have BK412 := n4_; have GW412 := n5_; have GE412 := n6_; have NB403_412 := n7_; have NB412_403 := n8_; have NB405_412 := n9_; have NB412_405 := n10_; clear n0_ n1_ n2_ n3_ n4_ n5_ n6_ n7_ n8_ n9_ n10_ hb hbox hg; have hnb36 := NB412_403.out; have hnc36 := NB403_412.out; have hnb37 := NB412_405.out; have hnc37 := NB405_412.out; have hcz38_0 : w35.cell? ⟨gb412, 0, none⟩ = some (.int .i64 0) := (blk_cell BK412.out 0).trans rfl; have hcz38_1 : w35.cell? ⟨gb412, 1, none⟩ = some (.int .i64 0) := (blk_cell BK412.out 1).trans rfl; have hfz38_0 := blk_frozen BK412.out 0; have hfz38_1 := blk_frozen BK412.out 1))
                   have n0_ : Aside0 (Kd.S (Kd.slice 40 k40) 24 ((w35.setCell ⟨gb412, 0, none⟩ (.int .i64 ((rd_T40 l1 x36_3).f0))).setCell ⟨gb412, 1, none⟩ (.int .i64 ((rd_T40 l1 x36_3).f1))) w.heap.size (fun k_ => k_ ≠ gb403 ∧ k_ ≠ gb412) v408 x6_3) := ⟨by (with_reducible repeat (first | apply Kd.S_alloc | apply Kd.S_drewN | apply Kd.S_drew)); exact Kd.S_mono (Kd.S_far (p := ⟨gb412, 1, none⟩) (Kd.S_far (p := ⟨gb412, 0, none⟩) (Kd.S_mono HO_6.out (fun k_ hk => (⟨hk, hk.2⟩ : _ ∧ k_ ≠ gb412))) (fun _ hk => hk.2) (.int .i64 ((rd_T40 l1 x36_3).f0))) (fun _ hk => hk.2) (.int .i64 ((rd_T40 l1 x36_3).f1))) (fun _ hk => ⟨hk.1.1, hk.1.2⟩)⟩
                   have n1_ : Aside0 (((w35.setCell ⟨gb412, 0, none⟩ (.int .i64 ((rd_T40 l1 x36_3).f0))).setCell ⟨gb412, 1, none⟩ (.int .i64 ((rd_T40 l1 x36_3).f1))).heap[gb403]? = some (.cells #[.int .i64 a0_0, .int .i64 a0_1] 40 (0, 0))) := ⟨by (with_reducible repeat (first | refine blk_drewN ?_ _ | refine blk_drew ?_ | refine blk_alloc ?_ _)); refine blk_far ?_ NB403_412.out _; (with_reducible repeat (first | refine blk_drewN ?_ _ | refine blk_drew ?_ | refine blk_alloc ?_ _)); refine blk_far ?_ NB403_412.out _; (with_reducible repeat (first | refine blk_drewN ?_ _ | refine blk_drew ?_ | refine blk_alloc ?_ _)); exact BK403.out⟩
                   have n2_ : Aside0 (((w35.setCell ⟨gb412, 0, none⟩ (.int .i64 ((rd_T40 l1 x36_3).f0))).setCell ⟨gb412, 1, none⟩ (.int .i64 ((rd_T40 l1 x36_3).f1))).heap[gb405]? = some (.cells #[.int .i64 x406000_2] 2 (0, 0))) := ⟨by (with_reducible repeat (first | refine blk_drewN ?_ _ | refine blk_drew ?_ | refine blk_alloc ?_ _)); refine blk_far ?_ NB405_412.out _; (with_reducible repeat (first | refine blk_drewN ?_ _ | refine blk_drew ?_ | refine blk_alloc ?_ _)); refine blk_far ?_ NB405_412.out _; (with_reducible repeat (first | refine blk_drewN ?_ _ | refine blk_drew ?_ | refine blk_alloc ?_ _)); exact BK405.out⟩
                   have n3_ : Aside0 (((w35.setCell ⟨gb412, 0, none⟩ (.int .i64 ((rd_T40 l1 x36_3).f0))).setCell ⟨gb412, 1, none⟩ (.int .i64 ((rd_T40 l1 x36_3).f1))).heap[gb412]? = some (.cells #[.int .i64 ((rd_T40 l1 x36_3).f0), .int .i64 ((rd_T40 l1 x36_3).f1)] 40 (0, 0))) := ⟨by (with_reducible repeat (first | refine blk_drewN ?_ _ | refine blk_drew ?_ | refine blk_alloc ?_ _)); refine blk_put (cs := #[.int .i64 ((rd_T40 l1 x36_3).f0), .int .i64 0]) ?_ 1 _ rfl; (with_reducible repeat (first | refine blk_drewN ?_ _ | refine blk_drew ?_ | refine blk_alloc ?_ _)); refine blk_put (cs := #[.int .i64 0, .int .i64 0]) ?_ 0 _ rfl; (with_reducible repeat (first | refine blk_drewN ?_ _ | refine blk_drew ?_ | refine blk_alloc ?_ _)); exact BK412.out⟩
                   have n4_ : Aside0 (Below w.heap.size w ((w35.setCell ⟨gb412, 0, none⟩ (.int .i64 ((rd_T40 l1 x36_3).f0))).setCell ⟨gb412, 1, none⟩ (.int .i64 ((rd_T40 l1 x36_3).f1)))) := ⟨kB3 HB GE403.out GE405.out GE412.out⟩
                   (try clear HO_6)
                   (try clear BK403)
                   (try clear BK405)
                   (try clear BK412)
                   (try clear HB)
                   generalize ((w35.setCell ⟨gb412, 0, none⟩ (.int .i64 ((rd_T40 l1 x36_3).f0))).setCell ⟨gb412, 1, none⟩ (.int .i64 ((rd_T40 l1 x36_3).f1))) = w39 at n0_ n1_ n2_ n3_ n4_ ⊢
                   have HO_6 := n0_
                   have BK403 := n1_
                   have BK405 := n2_
                   have BK412 := n3_
                   have HB := n4_
                   clear n0_ n1_ n2_ n3_ n4_
                   have n0_ := am (Kd.S_drew HO_6.out)
                   have n1_ := am (blk_drew BK403.out)
                   have n2_ := am (blk_drew BK405.out)
                   have n3_ := am (blk_drew BK412.out)
                   have n4_ := am (below_drew1 HB.out)
                   clear HO_6
                   clear BK403
                   clear BK405
                   clear BK412
                   clear HB
                   have HO_6 := n0_
                   have BK403 := n1_
                   have BK405 := n2_
                   have BK412 := n3_
                   have HB := n4_
                   clear n0_ n1_ n2_ n3_ n4_
                   refine start_ (n := 11) (S := fun w' => w'.cell? ⟨gb412, 0, none⟩ = some (.int .i64 ((rd_T40 l1 x36_3).f0)) ∧ w'.cell? ⟨gb412, 1, none⟩ = some (.int .i64 ((rd_T40 l1 x36_3).f1)) ∧ w'.cell? ⟨gb403, 0, none⟩ = some (.int .i64 a0_0) ∧ w'.cell? ⟨gb403, 1, none⟩ = some (.int .i64 a0_1) ∧ w'.cell? ⟨gb405, 0, none⟩ = some (.int .i64 x406000_2)) (ds := []) #[false, false, false, false, false, false, false, false, false, false, false] (by kernel_rfl) rfl rfl ⟨(blk_cell BK412.out 0).trans rfl, (blk_cell BK412.out 1).trans rfl, (blk_cell BK403.out 0).trans rfl, (blk_cell BK403.out 1).trans rfl, (blk_cell BK405.out 0).trans rfl⟩ (fun hHeld => ?_); refine with_tabW impl_Class_isNatural.tab11 impl_Class_isNatural.bits11 (fun HT_ HW_ => ?_)
                   generalize w39.drew = w40 at HO_6 BK403 BK405 BK412 HB hHeld ⊢
                   refine pure_ (i := 0) (N := some 40) (v := ?_) (a' := ?_) #[true, false, false, false, false, false, false, false, false, false, false] rfl rfl (any_of HT_.out (by kernel_rfl)) (fun _ _ _ h => h) (Or.inl ⟨by rfl, ?_⟩) ?_ ?_
                   rotate_left
                   ·intro w'
                    go_simp
                    with_reducible rfl
                   rotate_left
                   ·simp only [Act.put, List.setIfInBounds_toArray, List.set_cons_zero, List.set_cons_succ, i64_w, i32_w]
                    rfl
                   refine pure_ (i := 2) (N := some 42) (v := ?_) (a' := ?_) #[true, false, true, false, false, false, false, false, false, false, false] rfl rfl (any_of HT_.out (by kernel_rfl)) (fun _ _ _ h => h) (Or.inl ⟨by rfl, ?_⟩) ?_ ?_
                   rotate_left
                   ·intro w'
                    go_simp
                    with_reducible rfl
                   rotate_left
                   ·simp only [Act.put, List.setIfInBounds_toArray, List.set_cons_zero, List.set_cons_succ, i64_w, i32_w]
                    rfl
                   refine pure_ (i := 5) (N := some 45) (v := ?_) (a' := ?_) #[true, false, true, false, false, true, false, false, false, false, false] rfl rfl (any_of HT_.out (by kernel_rfl)) (fun _ _ _ h => h) (Or.inl ⟨by rfl, ?_⟩) ?_ ?_
                   rotate_left
                   ·intro w'
                    go_simp
                    with_reducible rfl
                   rotate_left
                   ·simp only [Act.put, List.setIfInBounds_toArray, List.set_cons_zero, List.set_cons_succ, i64_w, i32_w]
                    rfl
                   refine take_ (i := 1) (N := some 41) (v := ?_) (a' := ?_) #[true, true, true, false, false, true, false, false, false, false, false] rfl rfl (take_ofW HT_.out HW_.out (by kernel_rfl)) (fun _ _ _ h => h) (Or.inl ⟨by rfl, ?_⟩) hHeld ?_ ?_
                   rotate_left
                   ·rintro w' ⟨s0, s1, s2, s3, s4⟩
                    go_simp
                    with_reducible rfl
                   rotate_left
                   ·simp only [Act.put, List.setIfInBounds_toArray, List.set_cons_zero, List.set_cons_succ, i64_w, i32_w]
                    rfl
                   refine take_ (i := 3) (N := some 43) (v := ?_) (a' := ?_) #[true, true, true, true, false, true, false, false, false, false, false] rfl rfl (take_ofW HT_.out HW_.out (by kernel_rfl)) (fun _ _ _ h => h) (Or.inl ⟨by rfl, ?_⟩) hHeld ?_ ?_
                   rotate_left
                   ·rintro w' ⟨s0, s1, s2, s3, s4⟩
                    go_simp
                    with_reducible rfl
                   rotate_left
                   ·simp only [Act.put, List.setIfInBounds_toArray, List.set_cons_zero, List.set_cons_succ, i64_w, i32_w]
                    rfl
                   refine pure_ (i := 4) (N := some 44) (v := ?_) (a' := ?_) #[true, true, true, true, true, true, false, false, false, false, false] rfl rfl (any_of HT_.out (by kernel_rfl)) (fun _ _ _ h => h) (Or.inl ⟨by rfl, ?_⟩) ?_ ?_
                   rotate_left
                   ·intro w'
                    go_simp
                    with_reducible rfl
                   rotate_left
                   ·simp only [Act.put, List.setIfInBounds_toArray, List.set_cons_zero, List.set_cons_succ, i64_w, i32_w]
                    rfl
                   refine take_ (i := 6) (N := some 46) (v := ?_) (a' := ?_) #[true, true, true, true, true, true, true, false, false, false, false] rfl rfl (take_ofW HT_.out HW_.out (by kernel_rfl)) (fun _ _ _ h => h) (Or.inl ⟨by rfl, ?_⟩) hHeld ?_ ?_
                   rotate_left
                   ·rintro w' ⟨s0, s1, s2, s3, s4⟩
                    go_simp
                    with_reducible rfl
                   rotate_left
                   ·simp only [Act.put, List.setIfInBounds_toArray, List.set_cons_zero, List.set_cons_succ, i64_w, i32_w]
                    rfl
                   refine pure_ (i := 7) (N := some 47) (v := ?_) (a' := ?_) #[true, true, true, true, true, true, true, true, false, false, false] rfl rfl (any_of HT_.out (by kernel_rfl)) (fun _ _ _ h => h) (Or.inl ⟨by rfl, ?_⟩) ?_ ?_
                   rotate_left
                   ·intro w'
                    go_simp
                    with_reducible rfl
                   rotate_left
                   ·simp only [Act.put, List.setIfInBounds_toArray, List.set_cons_zero, List.set_cons_succ, i64_w, i32_w]
                    rfl
                   refine take_ (i := 8) (N := some 48) (v := ?_) (a' := ?_) #[true, true, true, true, true, true, true, true, true, false, false] rfl rfl (take_ofW HT_.out HW_.out (by kernel_rfl)) (fun _ _ _ h => h) (Or.inl ⟨by rfl, ?_⟩) hHeld ?_ ?_
                   rotate_left
                   ·rintro w' ⟨s0, s1, s2, s3, s4⟩
                    go_simp
                    with_reducible rfl
                   rotate_left
                   ·simp only [Act.put, List.setIfInBounds_toArray, List.set_cons_zero, List.set_cons_succ, i64_w, i32_w]
                    rfl
                   refine pure_ (i := 9) (N := some 49) (v := ?_) (a' := ?_) #[true, true, true, true, true, true, true, true, true, true, false] rfl rfl (any_of HT_.out (by kernel_rfl)) (fun _ _ _ h => h) (Or.inl ⟨by rfl, ?_⟩) ?_ ?_
                   rotate_left
                   ·intro w'
                    go_simp
                    with_reducible rfl
                   rotate_left
                   ·simp only [Act.put, List.setIfInBounds_toArray, List.set_cons_zero, List.set_cons_succ, i64_w, i32_w]
                    rfl
                   refine pure_ (i := 10) (N := some 10) (v := ?_) (a' := ?_) #[true, true, true, true, true, true, true, true, true, true, true] rfl rfl (any_of HT_.out (by kernel_rfl)) (fun _ _ _ h => h) (Or.inl ⟨by rfl, ?_⟩) ?_ ?_
                   rotate_left
                   ·intro w'
                    go_simp
                    with_reducible rfl
                   rotate_left
                   ·simp only [Act.put, List.setIfInBounds_toArray, List.set_cons_zero, List.set_cons_succ, i64_w, i32_w]
                    rfl
                   refine done_ (done_of HT_.out (by kernel_rfl)) ?_
                   try go_wp2
                   have n0_ := am (Kd.S_drew HO_6.out)
                   have n1_ := am (blk_drew BK403.out)
                   have n2_ := am (blk_drew BK405.out)
                   have n3_ := am (blk_drew BK412.out)
                   have n4_ := am (below_drew1 HB.out)
                   clear HO_6
                   clear BK403
                   clear BK405
                   clear BK412
                   clear HB
                   have HO_6 := n0_
                   have BK403 := n1_
                   have BK405 := n2_
                   have BK412 := n3_
                   have HB := n4_
                   clear n0_ n1_ n2_ n3_ n4_
                   obtain ⟨Ao42, co42, eo42⟩ := Kd.S_slice HO_6.out
                   (first | subst eo42 | (injection eo42 with f1_ f2_ f3_; have f4_ := f1_.symm; have f5_ := f3_.symm; clear f1_ f2_ f3_; subst f4_; subst f5_))
                   have p413 : 0 ≤ ((ji30) : Int) := of_decide_eq_true kM
                   have q413 : (ji30) < (x6_3.length : Int) := of_decide_eq_true kM
                   obtain ⟨ad413, A413_0, c413_0, e413, hx413_0, hl413_0, hi413_0⟩ := at_L3 (Kd.S_reads' HO_6.out).2.2 (ji30) p413 q413
                   cases e413
                   obtain ⟨ce413, hce413, hMe413, hcc413⟩ := Kd.S_get HO_6.out [] (ji30) p413 (by first | exact q413 | exact of_decide_eq_true kM | (have e_ := (Kd.S_reads' HO_6.out).1; omega))
                   obtain ⟨ve413_0, rfl, ge413_0⟩ := hMe413
                   have hv413_0 := hcc413 0 _ rfl
                   rw [Nat.add_zero, show ((Kd.slice 40 k40)).sz = 1 from rfl, Nat.mul_one] at hv413_0
                   replace hv413_0 := Option.some.inj (hv413_0.symm.trans hx413_0)
                   rw [hv413_0] at ge413_0
                   have HL413_0 := am (show Kd.R k40 40 _ _ _ _ (rd_L3 x6_3 (ji30)) from ge413_0)
                   clear hv413_0 ge413_0
                   have HX413_0 := am hx413_0
                   clear hcc413 hce413
                   have HR413_0 := am hi413_0
                   have HC413_0 := am hl413_0
                   clear hi413_0 hl413_0
                   replace p413 := eq_true p413
                   replace q413 := eq_true q413
                   obtain ⟨go43, co43, eo43, gb43, gl43, cl43, HG43⟩ := Kd.S_form HO_6.out (by have h_ : ((ji30) : Int) < ((x6_3.length : Int) : Int) := of_decide_eq_true kM; have h2_ : 0 ≤ ((ji30) : Int) := (of_decide_eq_true kM); omega)
                   (first | cases eo43 | (injection eo43 with ea_ en_ ec_; (first | subst ea_ | (injection ea_ with ea_; subst ea_)); subst ec_; clear en_))
                   have GB43 := am gb43
                   have GG43 := am HG43
                   clear gb43 gl43 HG43
                   (first | simp only [add_plain] at hx413_0 | skip)
                   obtain ⟨oki43, ce43, hcl43, hM43, hcc43, _, _, hH43⟩ := Kd.S_elem HO_6.out [] ((ji30) : Int) (of_decide_eq_true kM) (by have h_ : ((ji30) : Int) < ((x6_3.length : Int) : Int) := of_decide_eq_true kM; first | exact h_ | (have e_ := (Kd.S_reads' HO_6.out).1; omega) | simpa using h_)
                   obtain ⟨ve43_0, rfl, ge43_0⟩ := hM43
                   have hv43 := hcc43 0 _ rfl
                   have hX43 := HX413_0.out
                   (try simp only [add_plain] at hX43)
                   (try simp only [Nat.add_zero] at hv43)
                   (try rw [show ((Kd.slice 40 k40)).sz = 1 from rfl, Nat.mul_one] at hv43)
                   replace hv43 := Option.some.inj (hv43.symm.trans hX43)
                   subst hv43
                   clear hX43 hcc43 hcl43
                   have UU43 := am (show Kd.R k40 40 _ w.heap.size oki43 (.slice A413_0 (rd_L3 x6_3 (ji30)).length c413_0) (rd_L3 x6_3 (ji30)) from ge43_0)
                   have HH43 := am hH43
                   have HN43 := am (Kd.S_reads' HO_6.out).1
                   clear hH43 ge43_0
                   refine start_ (n := 11) (S := fun w' => w'.cell? ⟨gb412, 0, none⟩ = some (.int .i64 ((rd_T40 l1 x36_3).f0)) ∧ w'.cell? ⟨gb412, 1, none⟩ = some (.int .i64 ((rd_T40 l1 x36_3).f1)) ∧ w'.cell? ⟨go43, ((ji30)).toNat, none⟩ = some (.slice A413_0 (rd_L3 x6_3 (ji30)).length c413_0)) (ds := [10]) #[false, false, false, false, false, false, false, false, false, false, false] (by kernel_rfl) rfl rfl ⟨(blk_cell BK412.out 0).trans rfl, (blk_cell BK412.out 1).trans rfl, hx413_0⟩ (fun hHeld => ?_); refine with_tabW impl_Class_isNatural.tab12 impl_Class_isNatural.bits12 (fun HT_ HW_ => ?_)
                   generalize w40.drew = w41 at HO_6 BK403 BK405 BK412 HB GG43 HH43 HL413_0 HR413_0 HX413_0 UU43 hx413_0 hHeld ⊢
                   refine pure_ (i := 0) (N := some 50) (v := ?_) (a' := ?_) #[true, false, false, false, false, false, false, false, false, false, false] rfl rfl (any_of HT_.out (by kernel_rfl)) (fun _ _ _ h => h) (Or.inl ⟨by rfl, ?_⟩) ?_ ?_
                   rotate_left
                   ·intro w'
                    go_simp
                    with_reducible rfl
                   rotate_left
                   ·simp only [Act.put, List.setIfInBounds_toArray, List.set_cons_zero, List.set_cons_succ, i64_w, i32_w]
                    rfl
                   refine pure_ (i := 1) (N := some 51) (v := ?_) (a' := ?_) #[true, true, false, false, false, false, false, false, false, false, false] rfl rfl (any_of HT_.out (by kernel_rfl)) (fun _ _ _ h => h) (Or.inl ⟨by rfl, ?_⟩) ?_ ?_
                   rotate_left
                   ·intro w'
                    go_simp
                    with_reducible rfl
                   rotate_left
                   ·simp only [Act.put, List.setIfInBounds_toArray, List.set_cons_zero, List.set_cons_succ, i64_w, i32_w]
                    rfl
                   refine pure_ (i := 2) (N := some 52) (v := ?_) (a' := ?_) #[true, true, true, false, false, false, false, false, false, false, false] rfl rfl (any_of HT_.out (by kernel_rfl)) (fun _ _ _ h => h) (Or.inl ⟨by rfl, ?_⟩) ?_ ?_
                   rotate_left
                   ·intro w'
                    go_simp
                    with_reducible rfl
                   rotate_left
                   ·simp only [Act.put, List.setIfInBounds_toArray, List.set_cons_zero, List.set_cons_succ, i64_w, i32_w]
                    rfl
                   refine pure_ (i := 3) (N := some 53) (v := ?_) (a' := ?_) #[true, true, true, true, false, false, false, false, false, false, false] rfl rfl (any_of HT_.out (by kernel_rfl)) (fun _ _ _ h => h) (Or.inl ⟨by rfl, ?_⟩) ?_ ?_
                   rotate_left
                   ·intro w'
                    go_simp
                    with_reducible rfl
                   rotate_left
                   ·simp only [Act.put, List.setIfInBounds_toArray, List.set_cons_zero, List.set_cons_succ, i64_w, i32_w]
                    rfl
                   refine pure_ (i := 4) (N := some 54) (v := ?_) (a' := ?_) #[true, true, true, true, true, false, false, false, false, false, false] rfl rfl (any_of HT_.out (by kernel_rfl)) (fun _ _ _ h => h) (Or.inl ⟨by rfl, ?_⟩) ?_ ?_
                   rotate_left
                   ·intro w'
                    go_simp
                    with_reducible rfl
                   rotate_left
                   ·simp only [Act.put, List.setIfInBounds_toArray, List.set_cons_zero, List.set_cons_succ, i64_w, i32_w]
                    rfl
                   refine take_ (i := 5) (N := some 55) (v := ?_) (a' := ?_) #[true, true, true, true, true, true, false, false, false, false, false] rfl rfl (take_ofW HT_.out HW_.out (by kernel_rfl)) (fun _ _ _ h => h) (Or.inl ⟨by rfl, ?_⟩) hHeld ?_ ?_
                   rotate_left
                   ·rintro w' ⟨s0, s1, s2⟩
                    go_simp
                    with_reducible rfl
                   rotate_left
                   ·simp only [Act.put, List.setIfInBounds_toArray, List.set_cons_zero, List.set_cons_succ, i64_w, i32_w]
                    rfl
                   refine take_ (i := 6) (N := some 56) (v := ?_) (a' := ?_) #[true, true, true, true, true, true, true, false, false, false, false] rfl rfl (take_ofW HT_.out HW_.out (by kernel_rfl)) (fun _ _ _ h => h) (Or.inl ⟨by rfl, ?_⟩) hHeld ?_ ?_
                   rotate_left
                   ·rintro w' ⟨s0, s1, s2⟩
                    go_simp
                    with_reducible rfl
                   rotate_left
                   ·simp only [Act.put, List.setIfInBounds_toArray, List.set_cons_zero, List.set_cons_succ, i64_w, i32_w]
                    rfl
                   refine one_ (i := 7) (N := some 57) #[true, true, true, true, true, true, true, true, false, false, false] rfl rfl (one_of HT_.out (by kernel_rfl)) (by decide) (fun K hK => ?_)
                   refine value_ (w1 := ?_) (v := ?_) (by rfl) rfl ?_ ?_
                   rotate_left 2
                   ·go_simp
                    constructor
                    ·rfl
                    ·rfl
                   refine hK.out _ _ ⟨(blk_cell (blk_alloc BK412.out _) 0).trans rfl, (blk_cell (blk_alloc BK412.out _) 1).trans rfl, (World.cell?_alloc_lt _ _ _ (World.block_lt_of_cell? _ _ (hHeld.2.2))).trans (hHeld.2.2)⟩ (fun hHeld => ?_)
                   clear hK K
                   refine norm_ (a' := ?_) ?_ ?_
                   rotate_left
                   ·show Act.put _ (some 57) _ = _
                    simp only [Act.put, List.setIfInBounds_toArray, List.set_cons_zero, List.set_cons_succ, i64_w, i32_w]
                    rfl
                   refine one_ (i := 8) (N := some 58) #[true, true, true, true, true, true, true, true, true, false, false] rfl rfl (one_of HT_.out (by kernel_rfl)) (by decide) (fun K hK => ?_)
                   refine Kd.R_append_step k40 (w0 := w) w.heap.size (by rfl) (.tmp 55) (.tmp 57) 24 40 (.agg #[(.int .i64 0), (.int .i64 0)]) 16 rfl Try.underlying24 info40 rfl (by decide) (by omega) (.slice A413_0 (rd_L3 x6_3 (ji30)).length c413_0) (rd_L3 x6_3 (ji30)) (⟨(rd_T40 l1 x36_3).f0, (rd_T40 l1 x36_3).f1⟩ : S40) [.int .i64 ((rd_T40 l1 x36_3).f0), .int .i64 ((rd_T40 l1 x36_3).f1)] (fun k_ => oki43 k_ ∨ ((fun k_ => k_ ≠ gb403 ∧ k_ ≠ gb412)) k_ ∧ w41.heap.size ≤ k_) (fun _ => False) rfl rfl ?aP (fun _ hk => hk.elim) ?aF ?aO ?aB ?aS ?aL ?_
                   (case aP => exact k40_mkM _ _ _ (⟨(rd_T40 l1 x36_3).f0, (rd_T40 l1 x36_3).f1⟩ : S40))
                   (case aB => exact (kB3 HB GE403.out GE405.out GE412.out))
                   (case aF => exact (fun k_ hk => .inr ⟨⟨Kd.freshB (g := gb403) (o := .cells #[.int .i64 a0_0, .int .i64 a0_1] 40 (0, 0)) (kK BK403) k_ hk, Kd.freshB (g := gb412) (o := .cells #[.int .i64 ((rd_T40 l1 x36_3).f0), .int .i64 ((rd_T40 l1 x36_3).f1)] 40 (0, 0)) (kK BK412) k_ hk⟩, hk⟩))
                   (case aO => exact (by (with_reducible repeat (first | apply Kd.R_alloc | apply Kd.R_drewN | apply Kd.R_drew)); exact Kd.R_mono UU43.out (fun _ hk => .inl hk)))
                   (case aS => exact (below_size (kB3 HB GE403.out GE405.out GE412.out)))
                   (case aL => have := LMc33.out; omega)
                   intro v415 w44 ho hb hg hat
                   (first | have HS2_ := cell_grown hg (hHeld.2.2) (by first | (rw [add_block]; exact (fun e_ => ((HL413_0.out.1 _ e_.symm).2) rfl)) | (show some (Addr.add _ _).block ≠ _; rw [add_block]; exact (fun e_ => ((HL413_0.out.1 _ e_.symm).2) rfl)) | exact (fun e_ => ((HL413_0.out.1 _ e_.symm).2) rfl)) | have HS2_ := cell_grown hg (cell_unalloc (hHeld.2.2) (by first | (rw [add_block]; exact Kd.S_lt HO_6.out _ rfl) | (show (Addr.add _ _).block < _; rw [add_block]; exact Kd.S_lt HO_6.out _ rfl) | exact Kd.S_lt HO_6.out _ rfl)) (by first | (rw [add_block]; exact (fun e_ => ((HL413_0.out.1 _ e_.symm).2) rfl)) | (show some (Addr.add _ _).block ≠ _; rw [add_block]; exact (fun e_ => ((HL413_0.out.1 _ e_.symm).2) rfl)) | exact (fun e_ => ((HL413_0.out.1 _ e_.symm).2) rfl)))
                   rw [← Ny414.out] at ho
                   have n0_ := am (blk_grown (g := gb403) (o := .cells #[.int .i64 a0_0, .int .i64 a0_1] 40 (0, 0)) (kK BK403) hg (Kd.R_away HL413_0.out (fun _ hk => hk.1.1)))
                   have n1_ := am (blk_grown (g := gb405) (o := .cells #[.int .i64 x406000_2] 2 (0, 0)) (kK BK405) hg (Kd.R_ne HL413_0.out BK405.out (by decide)))
                   have n2_ := am (blk_grown (g := gb412) (o := .cells #[.int .i64 ((rd_T40 l1 x36_3).f0), .int .i64 ((rd_T40 l1 x36_3).f1)] 40 (0, 0)) (kK BK412) hg (Kd.R_away HL413_0.out (fun _ hk => hk.1.2)))
                   have n3_ := am (hb)
                   have n4_ := am (Kd.H_grown (Kd.H_widen (by repeat (first | exact HH43.out | refine Kd.H_alloc ?_ _ | refine Kd.H_drewN ?_ _ | refine Kd.H_drew ?_))) hg (fun k_ e_ => .inl (UU43.out.1 k_ e_)))
                   have n5_ := am (ho)
                   clear BK403
                   clear BK405
                   clear BK412
                   clear HB
                   clear HH43
                   clear HO_6
                   clear UU43
                   clear HL413_0
                   have BK403 := n0_
                   have BK405 := n1_
                   have BK412 := n2_
                   have HB := n3_
                   have HH43 := n4_
                   have HO416 := n5_
                   clear n0_ n1_ n2_ n3_ n4_ n5_
                   clear ho hb hg hat
                   have p34 : 0 ≤ ((ji30) : Int) := of_decide_eq_true kM
                   have q34 : ((ji30) : Int) < ((x6_3.length : Int) : Int) := of_decide_eq_true kM
                   replace p34 := eq_true p34
                   replace q34 := eq_true q34
                   obtain ⟨Ao47, co47, eo47⟩ := Kd.R_slice HO416.out
                   (first | subst eo47 | (injection eo47 with f1_ f2_ f3_; have f4_ := f1_.symm; have f5_ := f3_.symm; clear f1_ f2_ f3_; subst f4_; subst f5_))
                   obtain ⟨_, _, hraw45, _, _, hcc45, _⟩ := Kd.H_raw HH43.out (of_decide_eq_true kM) (by have h_ : ((ji30) : Int) < ((x6_3.length : Int) : Int) := of_decide_eq_true kM; first | exact h_ | (have e_ := (HN43.out); omega) | simpa using h_)
                   obtain ⟨_, hfr45⟩ := Kd.H_at HH43.out (of_decide_eq_true kM) (by have h_ : ((ji30) : Int) < ((x6_3.length : Int) : Int) := of_decide_eq_true kM; first | exact h_ | (have e_ := (HN43.out); omega) | simpa using h_)
                   have hx45_0 := hcc45 0 _ rfl
                   have hf45_0 := hfr45 0
                   (try simp only [Nat.add_zero] at hx45_0 hf45_0)
                   (try rw [show ((Kd.slice 40 k40)).sz = 1 from rfl, Nat.mul_one] at hx45_0)
                   (try rw [show ((Kd.slice 40 k40)).sz = 1 from rfl, Nat.mul_one] at hf45_0)
                   have HP45 := Kd.S_seg0 HH43.out (of_decide_eq_true kM) (by have h_ : ((ji30) : Int) < ((x6_3.length : Int) : Int) := of_decide_eq_true kM; first | exact h_ | (have e_ := (HN43.out); omega) | simpa using h_) (seg := [.slice Ao47 y414.length co47]) (j := 0) (show 1 ≤ 1 from by decide) (x' := y414) (Kd.M_row HO416.out) (fun _ hk => hk)
                   (try simp only [show ((Kd.slice 40 k40)).sz = 1 from rfl, Nat.mul_one, Nat.add_zero] at HP45)
                   clear hcc45 hfr45
                   have HNB403_go43 := am (show gb403 ≠ go43 from by have h_ := Kd.R_ne hraw45 BK403.out (by decide); intro e_; exact h_ (by rw [e_]; rfl))
                   have HNB405_go43 := am (show gb405 ≠ go43 from by have h_ := Kd.R_ne hraw45 BK405.out (by decide); intro e_; exact h_ (by rw [e_]; rfl))
                   have HNB412_go43 := am (show gb412 ≠ go43 from by have h_ := Kd.R_ne hraw45 BK412.out (by decide); intro e_; exact h_ (by rw [e_]; rfl))
                   have HS45 := HP45.1
                   rw [← Ny417.out] at HS45
                   have HQ45 := am HS45
                   obtain ⟨_, hgg45⟩ := Kd.R_typed hraw45 go43 rfl
                   have GG45_ := am hgg45
                   clear HP45 HS45 hgg45
                   refine hK.out _ _ ⟨(blk_cell BK412.out 0).trans rfl, (blk_cell BK412.out 1).trans rfl, HS2_⟩ (fun hHeld => ?_)
                   clear hK K
                   refine norm_ (a' := ?_) ?_ ?_
                   rotate_left
                   ·show Act.put _ (some 58) _ = _
                    simp only [Act.put, List.setIfInBounds_toArray, List.set_cons_zero, List.set_cons_succ, i64_w, i32_w]
                    rfl
                   refine pure_ (i := 9) (N := some 59) (v := ?_) (a' := ?_) #[true, true, true, true, true, true, true, true, true, true, false] rfl rfl (any_of HT_.out (by kernel_rfl)) (fun _ _ _ h => h) (Or.inl ⟨by rfl, ?_⟩) ?_ ?_
                   rotate_left
                   ·intro w'
                    go_simp
                    with_reducible rfl
                   rotate_left
                   ·simp only [Act.put, List.setIfInBounds_toArray, List.set_cons_zero, List.set_cons_succ, i64_w, i32_w]
                    rfl
                   refine last_ (i := 10) (N := none) #[true, true, true, true, true, true, true, true, true, true, true] rfl rfl (one_of HT_.out (by kernel_rfl)) (by decide) (fun K hK => ?_)
                   refine skip_ (w1 := ?_) (by rfl) rfl ?_ ?_
                   rotate_left
                   ·go_simp
                    rfl
                   refine hK.out _ _ ?_
                   clear hK K
                   refine done_ (done_of HT_.out (by kernel_rfl)) ?_
                   try go_wp2
                   go_roundg k3
                   case measure => have := HJ2.out; have := HK2.out; have := HK3.out; omega
                   case rel => exact ⟨(y417), (wrap64 (x36_3 + 1)), (by first | rfl | (simp; done) | (simp [*]; done)), H', ⟨by have := HJ2.out; have := HK2.out; have := HK3.out; omega⟩, ⟨by (with_reducible repeat (first | apply Kd.S_alloc | apply Kd.S_drewN | apply Kd.S_drew)); exact Kd.S_mono HQ45.out (fun _ hk => hk.1)⟩, ⟨by (with_reducible repeat (first | refine blk_drewN ?_ _ | refine blk_drew ?_ | refine blk_alloc ?_ _)); refine blk_far ?_ HNB403_go43.out _; (with_reducible repeat (first | refine blk_drewN ?_ _ | refine blk_drew ?_ | refine blk_alloc ?_ _)); exact BK403.out⟩, ⟨by (with_reducible repeat (first | refine blk_drewN ?_ _ | refine blk_drew ?_ | refine blk_alloc ?_ _)); refine blk_far ?_ HNB405_go43.out _; (with_reducible repeat (first | refine blk_drewN ?_ _ | refine blk_drew ?_ | refine blk_alloc ?_ _)); exact BK405.out⟩, ⟨kB4 HB GB43.out GE403.out GE405.out GE412.out⟩⟩
                  ·rw [if_neg c33] at H
                   exact absurd H (by simp)
                 ·rw [if_neg c32] at H
                  exact absurd H (by simp)
                ·rw [if_neg c31] at H
                 exact absurd H (by simp)
             ·rw [if_neg c27] at H
              exact absurd H (by simp)
            ·rw [if_neg c26] at H
             exact absurd H (by simp)
           ·rw [if_neg c25] at H
            have c25b0 : decide (x36_3 < (l1.length : Int)) = false := decide_eq_false c25
            clear c25
            have H' := am H
            clear H
            obtain ⟨Ao48, co48, eo48⟩ := Kd.S_slice HO_6.out
            subst eo48
            go_wp2
            go_loopg [7, 63] k3 (fun kq v7 v63 w' => ∃ (x7_4 : Bool) (x63_4 : Int), v7 = .bool x7_4 ∧ v63 = .int .i64 x63_4 ∧ Aside0 (impl_Class_isNatural.l2 kq l1 x7_4 x6_3 (x6_3.length : Int) x63_4 a0_0 a0_1 x406000_2 = some r) ∧ Aside0 (kq ≤ k3) ∧ Aside0 (Kd.S (Kd.slice 40 k40) 24 w' w.heap.size (fun k_ => k_ ≠ gb403) (.slice Ao48 x6_3.length co48) x6_3) ∧ Aside0 (w'.heap[gb403]? = some (.cells #[.int .i64 a0_0, .int .i64 a0_1] 40 (0, 0))) ∧ Aside0 (w'.heap[gb405]? = some (.cells #[.int .i64 x406000_2] 2 (0, 0))) ∧ Aside0 (Below w.heap.size w w'))
            case atStart => exact ⟨(t410), (0), (by first | rfl | (simp; done) | (simp [*]; done)), (by first | rfl | (simp; done) | (simp [*]; done)), H', ⟨Nat.le_refl _⟩, ⟨kS HO_6⟩, ⟨kK BK403⟩, ⟨kK BK405⟩, ⟨kB2 HB GE403.out GE405.out⟩⟩
            case round =>
             clear H'
             try clear c1
             try clear c9
             try clear c14
             try clear c14b0
             try clear c15
             try clear c15b0
             try clear c15b1
             try clear c16
             try clear c16b0
             try clear c16b1
             try clear c25
             try clear c25b0
             try clear hcz12_0
             try clear hcz20_0
             try clear hcz23_0
             try clear hcz23_1
             try clear hfz12_0
             try clear hfz20_0
             try clear hfz23_0
             try clear hfz23_1
             obtain ⟨x7_4, x63_4, rfl, rfl, HA, HK4, HO_61, BK403, BK405, HB⟩ := hrel
             cases gk with
             | zero => exact absurd HA.out (by simp [impl_Class_isNatural.l2])
             | succ k4 =>
              have H := HA.out
              clear HA
              simp only [impl_Class_isNatural.l2] at H
              by_cases c49 : x63_4 < (x6_3.length : Int)
              ·rw [if_pos c49] at H
               have c49b0 : decide (x63_4 < (x6_3.length : Int)) = true := decide_eq_true c49
               clear c49
               by_cases c50 : 0 ≤ x63_4
               ·rw [if_pos c50] at H
                have c50b0 : decide (0 ≤ x63_4) = true := decide_eq_true c50
                clear c50
                by_cases c51 : x63_4 < (x6_3.length : Int)
                ·rw [if_pos c51] at H
                 have c51b0 : decide (x63_4 < (x6_3.length : Int)) = true := decide_eq_true c51
                 clear c51
                 by_cases c52 : x7_4 = true
                 ·subst c52
                  rw [if_pos rfl] at H
                  replace H := Option.bind_eq_some_iff.mp H
                  obtain ⟨t419, A530, H⟩ := H
                  try dsimp only at H
                  have A53 := am A530
                  clear A530
                  have H' := am H
                  clear H
                  have p418 : 0 ≤ (x63_4 : Int) := of_decide_eq_true kM
                  have q418 : x63_4 < (x6_3.length : Int) := of_decide_eq_true kM
                  obtain ⟨ad418, A418_0, c418_0, e418, hx418_0, hl418_0, hi418_0⟩ := at_L3 (Kd.S_reads' HO_61.out).2.2 x63_4 p418 q418
                  cases e418
                  obtain ⟨ce418, hce418, hMe418, hcc418⟩ := Kd.S_get HO_61.out [] x63_4 p418 (by first | exact q418 | exact of_decide_eq_true kM | (have e_ := (Kd.S_reads' HO_61.out).1; omega))
                  obtain ⟨ve418_0, rfl, ge418_0⟩ := hMe418
                  have hv418_0 := hcc418 0 _ rfl
                  rw [Nat.add_zero, show ((Kd.slice 40 k40)).sz = 1 from rfl, Nat.mul_one] at hv418_0
                  replace hv418_0 := Option.some.inj (hv418_0.symm.trans hx418_0)
                  rw [hv418_0] at ge418_0
                  have HL418_0 := am (show Kd.R k40 40 _ _ _ _ (rd_L3 x6_3 x63_4) from ge418_0)
                  clear hv418_0 ge418_0
                  have HX418_0 := am hx418_0
                  clear hcc418 hce418
                  have HR418_0 := am hi418_0
                  have HC418_0 := am hl418_0
                  clear hi418_0 hl418_0
                  replace p418 := eq_true p418
                  replace q418 := eq_true q418
                  have hnb54 := NB403_405.out
                  have hnc54 := NB405_403.out
                  have hcz55_0 : wr.cell? ⟨gb403, 0, none⟩ = some (.int .i64 a0_0) := (blk_cell BK403.out 0).trans rfl
                  have hcz55_1 : wr.cell? ⟨gb403, 1, none⟩ = some (.int .i64 a0_1) := (blk_cell BK403.out 1).trans rfl
                  have hfz55_0 := blk_frozen BK403.out 0
                  have hfz55_1 := blk_frozen BK403.out 1
                  have hcz56_0 : wr.cell? ⟨gb405, 0, none⟩ = some (.int .i64 x406000_2) := (blk_cell BK405.out 0).trans rfl
                  have hfz56_0 := blk_frozen BK405.out 0
                  go_wp2_with (first | (go_at_call 43; (with_reducible refine (ih k4 (by have := HJ2.out; have := HK2.out; have := HK3.out; have := HK4.out; omega) (wrap64 (a0_0 + (wrap64 (x63_4 * a0_1)))) (wrap64 (a0_1 * x406000_2)) _ _ (rd_L3 x6_3 x63_4) t419 _ ?side1 ?side2 A53.out).mono ?_); (case side1 => repeat (first | exact (by repeat (first | (with_reducible exact HR418_0.out) | (with_reducible refine Kd.C_alloc ?_ _) | (with_reducible refine Kd.C_drewN ?_ _) | (with_reducible refine Kd.C_drew ?_) | exact HR418_0.out)) | (with_reducible refine Kd.C_alloc ?_ _) | (with_reducible refine Kd.C_drewN ?_ _) | (with_reducible refine Kd.C_drew ?_))); (case side2 => exact HC418_0.out); rintro e w57 ⟨rfl, hb⟩; have n0_ := am (Kd.S_below (kS HO_61) hb); have n1_ := am (Kd.R_below (kR HL418_0) hb); have n2_ := am (blk_below (g := gb403) (o := .cells #[.int .i64 a0_0, .int .i64 a0_1] 40 (0, 0)) (kK BK403) hb); have n3_ := am (blk_below (g := gb405) (o := .cells #[.int .i64 x406000_2] 2 (0, 0)) (kK BK405) hb); have n4_ := am (Kd.C_below (by repeat (first | (with_reducible exact HR418_0.out) | (with_reducible refine Kd.C_alloc ?_ _) | (with_reducible refine Kd.C_drewN ?_ _) | (with_reducible refine Kd.C_drew ?_) | exact HR418_0.out)) hb); have n5_ := am (pw_cell_below hb HX418_0.out); have n6_ := am (below_step (kB2 HB GE403.out GE405.out) hb); clear HO_61 HL418_0 BK403 BK405 HR418_0 HX418_0 HB; have HO_61 := n0_; have HL418_0 := n1_; have BK403 := n2_; have BK405 := n3_; have HR418_0 := n4_; have HX418_0 := n5_; have HB := n6_; clear n0_ n1_ n2_ n3_ n4_ n5_ n6_; (try clear hb); (try clear hb2); (try clear hk); (try clear hi)))
                  go_roundg k4
                  case measure => have := HJ2.out; have := HK2.out; have := HK3.out; have := HK4.out; omega
                  case rel => exact ⟨(t419), (wrap64 (x63_4 + 1)), (by first | rfl | (simp; done) | (simp [*]; done)), (by first | rfl | (simp; done) | (simp [*]; done)), H', ⟨by have := HJ2.out; have := HK2.out; have := HK3.out; have := HK4.out; omega⟩, ⟨kS HO_61⟩, ⟨kK BK403⟩, ⟨kK BK405⟩, ⟨kB2 HB GE403.out GE405.out⟩⟩
                 ·replace c52 := Bool.eq_false_iff.mpr c52
                  subst c52
                  rw [if_neg (show ¬ (false = true) by decide)] at H
                  have H' := am H
                  clear H
                  have p418 : 0 ≤ (x63_4 : Int) := of_decide_eq_true kM
                  have q418 : x63_4 < (x6_3.length : Int) := of_decide_eq_true kM
                  obtain ⟨ad418, A418_0, c418_0, e418, hx418_0, hl418_0, hi418_0⟩ := at_L3 (Kd.S_reads' HO_61.out).2.2 x63_4 p418 q418
                  cases e418
                  obtain ⟨ce418, hce418, hMe418, hcc418⟩ := Kd.S_get HO_61.out [] x63_4 p418 (by first | exact q418 | exact of_decide_eq_true kM | (have e_ := (Kd.S_reads' HO_61.out).1; omega))
                  obtain ⟨ve418_0, rfl, ge418_0⟩ := hMe418
                  have hv418_0 := hcc418 0 _ rfl
                  rw [Nat.add_zero, show ((Kd.slice 40 k40)).sz = 1 from rfl, Nat.mul_one] at hv418_0
                  replace hv418_0 := Option.some.inj (hv418_0.symm.trans hx418_0)
                  rw [hv418_0] at ge418_0
                  have HL418_0 := am (show Kd.R k40 40 _ _ _ _ (rd_L3 x6_3 x63_4) from ge418_0)
                  clear hv418_0 ge418_0
                  have HX418_0 := am hx418_0
                  clear hcc418 hce418
                  have HR418_0 := am hi418_0
                  have HC418_0 := am hl418_0
                  clear hi418_0 hl418_0
                  replace p418 := eq_true p418
                  replace q418 := eq_true q418
                  go_wp2
                  go_roundg k4
                  case measure => have := HJ2.out; have := HK2.out; have := HK3.out; have := HK4.out; omega
                  case rel => exact ⟨(false), (wrap64 (x63_4 + 1)), (by first | rfl | (simp; done) | (simp [*]; done)), (by first | rfl | (simp; done) | (simp [*]; done)), H', ⟨by have := HJ2.out; have := HK2.out; have := HK3.out; have := HK4.out; omega⟩, ⟨kS HO_61⟩, ⟨kK BK403⟩, ⟨kK BK405⟩, ⟨kB2 HB GE403.out GE405.out⟩⟩
                ·rw [if_neg c51] at H
                 exact absurd H (by simp)
               ·rw [if_neg c50] at H
                exact absurd H (by simp)
              ·rw [if_neg c49] at H
               have c49b0 : decide (x63_4 < (x6_3.length : Int)) = false := decide_eq_false c49
               clear c49
               by_cases c58 : x7_4 = true
               ·subst c58
                rw [if_pos rfl] at H
                obtain rfl := Option.some.inj H
                go_wp2
                go_ret
                exact ⟨by first | rfl | (simp [errW_none, errW_some] <;> rfl) | (simp [*, errW_none, errW_some] <;> rfl), kB2 HB GE403.out GE405.out⟩
               ·replace c58 := Bool.eq_false_iff.mpr c58
                subst c58
                rw [if_neg (show ¬ (false = true) by decide)] at H
                have H' := am H
                clear H
                have hnb59 := NB405_403.out
                have hnc59 := NB403_405.out
                have hcz60_0 : wr.cell? ⟨gb405, 0, none⟩ = some (.int .i64 x406000_2) := (blk_cell BK405.out 0).trans rfl
                have hfz60_0 := blk_frozen BK405.out 0
                go_wp2_with ((with_reducible refine gate_dst (N := 5) rfl ?_); refine box_event ?hg (N := 5) ?hd (cs := #[.int .i64 0]) (t := 2) ?hr ?_; (case hd => rfl); (case hg => rfl); (case hr => first | (go_simp; done) | (go_simp; rfl)); intro gb405 hg w10q hbox hb; have n0_ := am (blk_below (g := gb403) (o := .cells #[.int .i64 a0_0, .int .i64 a0_1] 40 (0, 0)) (kK BK403) hb); have n1_ := am (below_step (kB1 HB GE403.out) hb); have n2_ := am (hbox); have n3_ := am ((by rw [hg]; exact (below_size (kB1 HB GE403.out)) : w.heap.size ≤ gb405)); have n4_ := am ((by rw [hg]; exact (below_size (kB1 HB GE403.out)) : w.heap.size ≤ gb405)); have n5_ := am ((by rw [hg]; exact Nat.ne_of_lt (blk_lt (g := gb403) (o := .cells #[.int .i64 a0_0, .int .i64 a0_1] 40 (0, 0)) (kK BK403)) : gb403 ≠ gb405)); have n6_ := am ((by rw [hg]; exact Nat.ne_of_gt (blk_lt (g := gb403) (o := .cells #[.int .i64 a0_0, .int .i64 a0_1] 40 (0, 0)) (kK BK403)) : gb405 ≠ gb403)); clear BK403 HB; have BK403 := n0_; have HB := n1_; have BK405 := n2_; have GW405 := n3_; have GE405 := n4_; have NB403_405 := n5_; have NB405_403 := n6_; clear n0_ n1_ n2_ n3_ n4_ n5_ n6_ hb hbox hg; have hnbq11 := NB405_403.out; have hncq11 := NB403_405.out; have hczq12_0 : w10q.cell? ⟨gb405, 0, none⟩ = some (.int .i64 0) := (blk_cell BK405.out 0).trans rfl; have hfzq12_0 := blk_frozen BK405.out 0)
                go_roundg k4
                case measure => have := HJ2.out; have := HK2.out; have := HK3.out; have := HK4.out; omega
                case rel => exact ⟨(wrap64 (x406000_2 + 1)), gb405, (by first | rfl | (simp; done) | (simp [*]; done)), GE405, NB403_405, NB405_403, H', ⟨by have := HJ2.out; have := HK2.out; have := HK3.out; have := HK4.out; omega⟩, ⟨by (with_reducible repeat (first | refine blk_drewN ?_ _ | refine blk_drew ?_ | refine blk_alloc ?_ _)); refine blk_far ?_ NB403_405.out _; (with_reducible repeat (first | refine blk_drewN ?_ _ | refine blk_drew ?_ | refine blk_alloc ?_ _)); refine blk_far ?_ NB403_405.out _; (with_reducible repeat (first | refine blk_drewN ?_ _ | refine blk_drew ?_ | refine blk_alloc ?_ _)); exact BK403.out⟩, ⟨by (with_reducible repeat (first | refine blk_drewN ?_ _ | refine blk_drew ?_ | refine blk_alloc ?_ _)); refine blk_put (cs := #[.int .i64 x406000_2]) ?_ 0 _ rfl; (with_reducible repeat (first | refine blk_drewN ?_ _ | refine blk_drew ?_ | refine blk_alloc ?_ _)); refine blk_put (cs := #[.int .i64 0]) ?_ 0 _ rfl; (with_reducible repeat (first | refine blk_drewN ?_ _ | refine blk_drew ?_ | refine blk_alloc ?_ _)); exact BK405.out⟩, ⟨kB2 HB GE403.out GE405.out⟩⟩
        ·rw [if_neg c16] at H
         exact absurd H (by simp)
       ·rw [if_neg c15] at H
        exact absurd H (by simp)
      ·rw [if_neg c14] at H
       have c14b0 : decide (x406000_2 ≤ t406) = false := decide_eq_false c14
       clear c14
       obtain rfl := Option.some.inj H
       try go_wp2
       have n0_ := am (blk_drew BK403.out)
       have n1_ := am (blk_drew BK405.out)
       have n2_ := am (below_drew1 HB.out)
       clear BK403
       clear BK405
       clear HB
       have BK403 := n0_
       have BK405 := n1_
       have HB := n2_
       clear n0_ n1_ n2_
       refine start_ (n := 4) (S := fun w' => w'.cell? ⟨gb405, 0, none⟩ = some (.int .i64 x406000_2)) (ds := []) #[false, false, false, false] (by kernel_rfl) rfl rfl ((blk_cell BK405.out 0).trans rfl) (fun hHeld => ?_)
       generalize wr.drew = w61 at BK403 BK405 HB hHeld ⊢
       refine pure_ (i := 1) (N := some 24) (v := ?_) (a' := ?_) #[false, true, false, false] rfl rfl (by kernel_rfl) (fun _ _ _ h => h) (Or.inl ⟨by rfl, ?_⟩) ?_ ?_
       rotate_left
       ·intro w'
        go_simp
        with_reducible rfl
       rotate_left
       ·simp only [Act.put, List.setIfInBounds_toArray, List.set_cons_zero, List.set_cons_succ, i64_w, i32_w]
        rfl
       refine take_ (i := 0) (N := some 23) (v := ?_) (a' := ?_) #[true, true, false, false] rfl rfl (by kernel_rfl) (fun _ _ _ h => h) (Or.inl ⟨by rfl, ?_⟩) hHeld ?_ ?_
       rotate_left
       ·intro w' s0
        go_simp
        with_reducible rfl
       rotate_left
       ·simp only [Act.put, List.setIfInBounds_toArray, List.set_cons_zero, List.set_cons_succ, i64_w, i32_w]
        rfl
       refine one_ (i := 2) (N := some 25) #[true, true, true, false] rfl rfl (by kernel_rfl) (by decide) (fun K hK => ?_)
       refine goes_ Try.func46 (by kernel_rfl) rfl #[.slice A1 l1.length c1] (by rfl) rfl rfl kA ?_
       with_reducible refine (impl_Class_46.calls _ _ l1 t406 _ ?side1 ?side2 A13.out).mono ?_
       (case side1 => exact kC (Kd.C_below HR1.out HB.out))
       (case side2 => exact HC1.out)
       rintro e w' ⟨rfl, ⟨nd, rfl⟩⟩
       refine ⟨_, rfl, ?_⟩
       refine hK.out _ _ ((blk_cell BK405.out 0).trans rfl) (fun hHeld => ?_)
       clear hK K
       refine norm_ (a' := ?_) ?_ ?_
       rotate_left
       ·show Act.put _ (some 25) _ = _
        simp only [Act.put, List.setIfInBounds_toArray, List.set_cons_zero, List.set_cons_succ, i64_w, i32_w]
        rfl
       refine pure_ (i := 3) (N := some 26) (v := ?_) (a' := ?_) #[true, true, true, true] rfl rfl (by kernel_rfl) (fun _ _ _ h => h) (Or.inl ⟨by rfl, ?_⟩) ?_ ?_
       rotate_left
       ·intro w'
        go_simp
        with_reducible rfl
       rotate_left
       ·simp only [Act.put, List.setIfInBounds_toArray, List.set_cons_zero, List.set_cons_succ, i64_w, i32_w]
        rfl
       refine done_ (by kernel_rfl) ?_
       try go_wp2
       go_ret
       exact ⟨by first | rfl | (simp [errW_none, errW_some] <;> rfl) | (simp [*, errW_none, errW_some] <;> rfl), kB2 HB GE403.out GE405.out⟩
end Go.Proofs.Ytdkhecebffjpjaa.X
