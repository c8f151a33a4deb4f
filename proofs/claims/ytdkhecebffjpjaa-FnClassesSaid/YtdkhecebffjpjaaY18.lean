import Derived.Test.YtdkhecebffjpjaaU
import Derived.Test.YtdkhecebffjpjaaY0
import Derived.Test.YtdkhecebffjpjaaY10
namespace Go.Proofs.Ytdkhecebffjpjaa.X
open Go.RowKit Go.Proofs.YtdkhecebffjpjaaW.PrintWords Go.Proofs.YtdkhecebffjpjaaW.PrintLast Go.Proofs.YtdkhecebffjpjaaW.PrintMore
attribute [local go_sem] max2_int min2_int max_two min_two max_three min_three max_four min_four
set_option linter.unusedVariables false
set_option linter.unusedSimpArgs false
/-! ### spec_l05Natural: function 44 -/
mutual
def spec_l05Natural.l0 : Nat → List (S40) → Int → Int → Option (Bool)
 | 0, _, _, _ => none
 | k + 1, x0, x3, x4 => if x4 < (x0.length : Int) then (if 0 ≤ x4 then ((spec_l01Gcd.f k ((rd_T40 x0 x4).f1) x3).bind fun t424 => (spec_l05Natural.l0 k x0 t424 (wrap64 (x4 + 1)))) else (none)) else (if x3 = 1 then (some false) else (spec_l05Natural.l1 k x0 x3 2))
def spec_l05Natural.l1 : Nat → List (S40) → Int → Int → Option (Bool)
 | 0, _, _, _ => none
 | k + 1, x0, x3, x5 => if x5 = 0 then (none) else (if (Int.tmod x3 x5) = 0 then (spec_l05Natural.l2 k x0 x5 0) else (spec_l05Natural.l1 k x0 x3 (wrap64 (x5 + 1))))
def spec_l05Natural.l2 : Nat → List (S40) → Int → Int → Option (Bool)
 | 0, _, _, _ => none
 | k + 1, x0, x5, x6 => if x6 < x5 then (spec_l05Natural.l3 k x0 x5 x6 (([] : List (S40))) 0) else (some true)
def spec_l05Natural.l3 : Nat → List (S40) → Int → Int → List (S40) → Int → Option (Bool)
 | 0, _, _, _, _, _ => none
 | k + 1, x0, x5, x6, x7, x8 => if x8 < (x0.length : Int) then (if 0 ≤ x8 then (if x5 = 0 then (none) else (if (Int.tmod ((rd_T40 x0 x8).f0) x5) = x6 then (if x7.length < 8796093022208 then (spec_l05Natural.l3 k x0 x5 x6 (x7 ++ [(⟨wrap64 (Int.tdiv ((rd_T40 x0 x8).f0) x5), wrap64 (Int.tdiv ((rd_T40 x0 x8).f1) x5)⟩ : S40)]) (wrap64 (x8 + 1))) else (none)) else (spec_l05Natural.l3 k x0 x5 x6 x7 (wrap64 (x8 + 1))))) else (none)) else (if (x7.length : Int) = 0 then (some false) else ((spec_l05Natural.f k x7).bind fun t434 => (if t434 = true then (spec_l05Natural.l2 k x0 x5 (wrap64 (x6 + 1))) else (some false))))
def spec_l05Natural.f : Nat → List (S40) → Option (Bool)
 | 0, _ => none
 | k + 1, l0 => if (l0.length : Int) = 1 then (if 0 < (l0.length : Int) then (some (((rd_T40 l0 0).f1) == 1)) else (none)) else (spec_l05Natural.l0 k l0 0 0)
end
theorem spec_l05Natural.mono_l : ∀ k, (∀ y0, LeO (spec_l05Natural.f k y0) (spec_l05Natural.f (k + 1) y0)) ∧ (∀ y0 y1 y2, LeO (spec_l05Natural.l0 k y0 y1 y2) (spec_l05Natural.l0 (k + 1) y0 y1 y2)) ∧ (∀ y0 y1 y2, LeO (spec_l05Natural.l1 k y0 y1 y2) (spec_l05Natural.l1 (k + 1) y0 y1 y2)) ∧ (∀ y0 y1 y2, LeO (spec_l05Natural.l2 k y0 y1 y2) (spec_l05Natural.l2 (k + 1) y0 y1 y2)) ∧ (∀ y0 y1 y2 y3 y4, LeO (spec_l05Natural.l3 k y0 y1 y2 y3 y4) (spec_l05Natural.l3 (k + 1) y0 y1 y2 y3 y4))
 | 0 => ⟨fun _ r h => by simp [spec_l05Natural.f] at h, fun _ _ _ r h => by simp [spec_l05Natural.l0] at h, fun _ _ _ r h => by simp [spec_l05Natural.l1] at h, fun _ _ _ r h => by simp [spec_l05Natural.l2] at h, fun _ _ _ _ _ r h => by simp [spec_l05Natural.l3] at h⟩
 | k + 1 => by
  obtain ⟨ih0, ih1, ih2, ih3, ih4⟩ := spec_l05Natural.mono_l k
  refine ⟨?_, ?_, ?_, ?_, ?_⟩
  ·intro y0
   unfold spec_l05Natural.f
   repeat' first
   | with_reducible first | exact ih0 _ | exact ih1 _ _ _ | exact ih2 _ _ _ | exact ih3 _ _ _ | exact ih4 _ _ _ _ _ | exact spec_l01Gcd.mono _ _ _ | exact LeO.refl _ | exact LeO.none _ | refine LeO.ite ?_ ?_ | refine LeO.bind ?_ (fun _ => ?_)
   | exact ih0 _
   | exact ih1 _ _ _
   | exact ih2 _ _ _
   | exact ih3 _ _ _
   | exact ih4 _ _ _ _ _
   | exact spec_l01Gcd.mono _ _ _
   | exact LeO.none _
   | refine LeO.ite ?_ ?_
   | refine LeO.bind ?_ (fun _ => ?_)
  ·intro y0 y1 y2
   unfold spec_l05Natural.l0
   repeat' first
   | with_reducible first | exact ih0 _ | exact ih1 _ _ _ | exact ih2 _ _ _ | exact ih3 _ _ _ | exact ih4 _ _ _ _ _ | exact spec_l01Gcd.mono _ _ _ | exact LeO.refl _ | exact LeO.none _ | refine LeO.ite ?_ ?_ | refine LeO.bind ?_ (fun _ => ?_)
   | exact ih0 _
   | exact ih1 _ _ _
   | exact ih2 _ _ _
   | exact ih3 _ _ _
   | exact ih4 _ _ _ _ _
   | exact spec_l01Gcd.mono _ _ _
   | exact LeO.none _
   | refine LeO.ite ?_ ?_
   | refine LeO.bind ?_ (fun _ => ?_)
  ·intro y0 y1 y2
   unfold spec_l05Natural.l1
   repeat' first
   | with_reducible first | exact ih0 _ | exact ih1 _ _ _ | exact ih2 _ _ _ | exact ih3 _ _ _ | exact ih4 _ _ _ _ _ | exact spec_l01Gcd.mono _ _ _ | exact LeO.refl _ | exact LeO.none _ | refine LeO.ite ?_ ?_ | refine LeO.bind ?_ (fun _ => ?_)
   | exact ih0 _
   | exact ih1 _ _ _
   | exact ih2 _ _ _
   | exact ih3 _ _ _
   | exact ih4 _ _ _ _ _
   | exact spec_l01Gcd.mono _ _ _
   | exact LeO.none _
   | refine LeO.ite ?_ ?_
   | refine LeO.bind ?_ (fun _ => ?_)
  ·intro y0 y1 y2
   unfold spec_l05Natural.l2
   repeat' first
   | with_reducible first | exact ih0 _ | exact ih1 _ _ _ | exact ih2 _ _ _ | exact ih3 _ _ _ | exact ih4 _ _ _ _ _ | exact spec_l01Gcd.mono _ _ _ | exact LeO.refl _ | exact LeO.none _ | refine LeO.ite ?_ ?_ | refine LeO.bind ?_ (fun _ => ?_)
   | exact ih0 _
   | exact ih1 _ _ _
   | exact ih2 _ _ _
   | exact ih3 _ _ _
   | exact ih4 _ _ _ _ _
   | exact spec_l01Gcd.mono _ _ _
   | exact LeO.none _
   | refine LeO.ite ?_ ?_
   | refine LeO.bind ?_ (fun _ => ?_)
  ·intro y0 y1 y2 y3 y4
   unfold spec_l05Natural.l3
   repeat' first
   | with_reducible first | exact ih0 _ | exact ih1 _ _ _ | exact ih2 _ _ _ | exact ih3 _ _ _ | exact ih4 _ _ _ _ _ | exact spec_l01Gcd.mono _ _ _ | exact LeO.refl _ | exact LeO.none _ | refine LeO.ite ?_ ?_ | refine LeO.bind ?_ (fun _ => ?_)
   | exact ih0 _
   | exact ih1 _ _ _
   | exact ih2 _ _ _
   | exact ih3 _ _ _
   | exact ih4 _ _ _ _ _
   | exact spec_l01Gcd.mono _ _ _
   | exact LeO.none _
   | refine LeO.ite ?_ ?_
   | refine LeO.bind ?_ (fun _ => ?_)
theorem spec_l05Natural.mono : ∀ a0 k, LeO (spec_l05Natural.f k a0) (spec_l05Natural.f (k + 1) a0) := by
 intro a0 k
 obtain ⟨ih0, ih1, ih2, ih3, ih4⟩ := spec_l05Natural.mono_l k
 exact ih0 a0
def spec_l05Natural.T21 : Bool × List (List Nat × List Nat) := (true, [([], []), ([], []), ([], []), ([1, 2], [1, 2]), ([3], [3]), ([4], [4]), ([], []), ([5, 6], [5, 6]), ([], []), ([], []), ([8, 9], [8, 9]), ([10], [10]), ([11], [11]), ([], []), ([12, 13], [12, 13]), ([7, 14], [7, 14]), ([15], [15]), ([0, 16], [0, 16]), ([17, 17, 0, 1, 2, 3, 4, 5, 6, 7, 8, 9, 10, 11, 12, 13, 14, 15, 16, 17], [0, 17])])
def spec_l05Natural.B21 : List Nat := [0, 0, 0, 6, 14, 30, 0, 126, 0, 0, 768, 1792, 3840, 0, 16128, 32766, 65534, 131071, 262143]
theorem spec_l05Natural.tab21 : rtab .any (opsOf Try.f44 21) = spec_l05Natural.T21 := by kernel_rfl
theorem spec_l05Natural.bits21 : waitsOk spec_l05Natural.T21.2 spec_l05Natural.B21 = true := by kernel_rfl
set_option maxHeartbeats 8000000 in
set_option maxRecDepth 100000 in
theorem spec_l05Natural.calls (k : Nat) : ∀ (A0 : Option Addr) (c0 : Nat) (l0 : List (S40)) (r : Bool) (w : World) (hr0 : Kd.C k40 w A0 l0.length l0) (hc0 : l0.length ≤ c0) (h : spec_l05Natural.f k l0 = some r),
  Calls Try.prog 44 #[.slice A0 l0.length c0] w fun e w' => e = .returned (.bool r) ∧ Below w.heap.size w w' := by
 induction k using Nat.strongRecOn with
 | _ k ih =>
 intro A0 c0 l0 r w hr0 hc0 h
 cases k with
 | zero => exact absurd h (by simp [spec_l05Natural.f])
 | succ k =>
 simp only [spec_l05Natural.f] at h
 have hu40 := Try.underlying40
 have HR0 := am hr0
 have HC0 := am hc0
 clear hr0 hc0
 have HB := am (Below.refl w.heap.size w)
 have H : (if (l0.length : Int) = 1 then (if 0 < (l0.length : Int) then (some (((rd_T40 l0 0).f1) == 1)) else (none)) else (spec_l05Natural.l0 k l0 0 0)) = some r := h
 clear h
 by_cases c2 : (l0.length : Int) = 1
 ·rw [if_pos c2] at H
  have c2b0 : ((l0.length : Int) == 1) = true := beq_iff_eq.mpr c2
  have c2b1 : ((l0.length : Int) != 1) = false := bne_eq_false_iff_eq.mpr c2
  clear c2
  by_cases c3 : 0 < (l0.length : Int)
  ·rw [if_pos c3] at H
   have c3b0 : decide (0 < (l0.length : Int)) = true := decide_eq_true c3
   have c3b1 : decide (0 < l0.length) = true := decide_eq_true (by omega)
   clear c3
   obtain rfl := Option.some.inj H
   have p422 : 0 ≤ (0 : Int) := (by omega)
   have q422 : 0 < (l0.length : Int) := of_decide_eq_true kM
   obtain ⟨ad422, e422, hx422_0, hx422_1⟩ := at_T40 HR0.out 0 p422 q422
   cases e422
   have qi422 : (0 < l0.length) = True := eq_true (by omega)
   (try rw [show ((0 : Int)).toNat = 0 from rfl] at hx422_0)
   (try rw [show 0 * 2 = 0 from rfl] at hx422_0)
   (try rw [Addr.add_zero'] at hx422_0)
   (try rw [show ((0 : Int)).toNat = 0 from rfl] at hx422_1)
   (try rw [show 0 * 2 = 0 from rfl] at hx422_1)
   (try rw [Addr.add_zero'] at hx422_1)
   replace p422 := eq_true p422
   replace q422 := eq_true q422
   go_enter Try.func44, Try.ntmps44
   go_wp2
   go_ret
   exact ⟨by first | rfl | (simp [errW_none, errW_some] <;> rfl) | (simp [*, errW_none, errW_some] <;> rfl), kB HB⟩
  ·rw [if_neg c3] at H
   exact absurd H (by simp)
 ·rw [if_neg c2] at H
  have c2b0 : ((l0.length : Int) == 1) = false := beq_eq_false_iff_ne.mpr c2
  have c2b1 : ((l0.length : Int) != 1) = true := bne_iff_ne.mpr c2
  have H' := am H
  clear H
  go_enter Try.func44, Try.ntmps44
  go_wp2
  go_loopg [3, 4] k (fun kq v3 v4 w' => ∃ (x3_1 : Int) (x4_1 : Int), v3 = .int .i64 x3_1 ∧ v4 = .int .i64 x4_1 ∧ Aside0 (spec_l05Natural.l0 kq l0 x3_1 x4_1 = some r) ∧ Aside0 (kq ≤ k) ∧ Aside0 (Below w.heap.size w w'))
  case atStart => exact ⟨(0), (0), (by first | rfl | (simp; done) | (simp [*]; done)), (by first | rfl | (simp; done) | (simp [*]; done)), H', ⟨Nat.le_refl _⟩, ⟨kB HB⟩⟩
  case round =>
   clear H'
   try clear c2
   try clear c2b0
   try clear c2b1
   obtain ⟨x3_1, x4_1, rfl, rfl, HA, HK1, HB⟩ := hrel
   cases gk with
   | zero => exact absurd HA.out (by simp [spec_l05Natural.l0])
   | succ k1 =>
    have H := HA.out
    clear HA
    simp only [spec_l05Natural.l0] at H
    by_cases c4 : x4_1 < (l0.length : Int)
    ·rw [if_pos c4] at H
     have c4b0 : decide (x4_1 < (l0.length : Int)) = true := decide_eq_true c4
     clear c4
     by_cases c5 : 0 ≤ x4_1
     ·rw [if_pos c5] at H
      have c5b0 : decide (0 ≤ x4_1) = true := decide_eq_true c5
      clear c5
      replace H := Option.bind_eq_some_iff.mp H
      obtain ⟨t424, A60, H⟩ := H
      try dsimp only at H
      have A6 := am A60
      clear A60
      have H' := am H
      clear H
      have p423 : 0 ≤ (x4_1 : Int) := of_decide_eq_true kM
      have q423 : x4_1 < (l0.length : Int) := of_decide_eq_true kM
      obtain ⟨ad423, e423, hx423_0, hx423_1⟩ := at_T40 HR0.out x4_1 p423 q423
      cases e423
      replace hx423_0 := (HB.out.cell (World.block_lt_of_cell? w _ hx423_0)).trans hx423_0
      replace hx423_1 := (HB.out.cell (World.block_lt_of_cell? w _ hx423_1)).trans hx423_1
      replace p423 := eq_true p423
      replace q423 := eq_true q423
      go_wp2_with (first | ((with_reducible refine gate_callee (f := 73) rfl ?_); refine goesL_ (some 29) rfl rfl Try.func73 (by kernel_rfl) rfl #[.int .i64 ((rd_T40 l0 x4_1).f1), .int .i64 x3_1] rfl kA ?_; (with_reducible refine (spec_l01Gcd.calls k1 ((rd_T40 l0 x4_1).f1) x3_1 t424 _ A6.out).mono ?_); rintro e w' ⟨rfl, ⟨nd, rfl⟩⟩; refine ⟨_, rfl, ?_⟩))
      go_roundg k1
      case measure => have := HK1.out; omega
      case rel => exact ⟨(t424), (wrap64 (x4_1 + 1)), (by first | rfl | (simp; done) | (simp [*]; done)), (by first | rfl | (simp; done) | (simp [*]; done)), H', ⟨by have := HK1.out; omega⟩, ⟨kB HB⟩⟩
     ·rw [if_neg c5] at H
      exact absurd H (by simp)
    ·rw [if_neg c4] at H
     have c4b0 : decide (x4_1 < (l0.length : Int)) = false := decide_eq_false c4
     clear c4
     by_cases c7 : x3_1 = 1
     ·rw [if_pos c7] at H
      have c7b0 : (x3_1 == 1) = true := beq_iff_eq.mpr c7
      have c7b1 : (x3_1 != 1) = false := bne_eq_false_iff_eq.mpr c7
      clear c7
      obtain rfl := Option.some.inj H
      go_wp2
      go_ret
      exact ⟨by first | rfl | (simp [errW_none, errW_some] <;> rfl) | (simp [*, errW_none, errW_some] <;> rfl), kB HB⟩
     ·rw [if_neg c7] at H
      have c7b0 : (x3_1 == 1) = false := beq_eq_false_iff_ne.mpr c7
      have c7b1 : (x3_1 != 1) = true := bne_iff_ne.mpr c7
      have H' := am H
      clear H
      go_wp2
      go_loopg [5] k1 (fun kq v5 w' => ∃ (x5_2 : Int), v5 = .int .i64 x5_2 ∧ Aside0 (spec_l05Natural.l1 kq l0 x3_1 x5_2 = some r) ∧ Aside0 (kq ≤ k1) ∧ Aside0 (Below w.heap.size w w'))
      case atStart => exact ⟨(2), (by first | rfl | (simp; done) | (simp [*]; done)), H', ⟨Nat.le_refl _⟩, ⟨kB HB⟩⟩
      case round =>
       clear H'
       try clear c2
       try clear c2b0
       try clear c2b1
       try clear c4
       try clear c4b0
       try clear c7
       try clear c7b0
       try clear c7b1
       obtain ⟨x5_2, rfl, HA, HK2, HB⟩ := hrel
       cases gk with
       | zero => exact absurd HA.out (by simp [spec_l05Natural.l1])
       | succ k2 =>
        have H := HA.out
        clear HA
        simp only [spec_l05Natural.l1] at H
        by_cases c8 : x5_2 = 0
        ·rw [if_pos c8] at H
         exact absurd H (by simp)
        ·rw [if_neg c8] at H
         have c8b0 : (x5_2 == 0) = false := beq_eq_false_iff_ne.mpr c8
         have c8b1 : (x5_2 != 0) = true := bne_iff_ne.mpr c8
         by_cases c9 : (Int.tmod x3_1 x5_2) = 0
         ·rw [if_pos c9] at H
          have c9b0 : ((Int.tmod x3_1 x5_2) == 0) = true := beq_iff_eq.mpr c9
          have c9b1 : ((Int.tmod x3_1 x5_2) != 0) = false := bne_eq_false_iff_eq.mpr c9
          clear c9
          have H' := am H
          clear H
          go_wp2
          go_loopg [6] k2 (fun kq v6 w' => ∃ (x6_3 : Int), v6 = .int .i64 x6_3 ∧ Aside0 (spec_l05Natural.l2 kq l0 x5_2 x6_3 = some r) ∧ Aside0 (kq ≤ k2) ∧ Aside0 (Below w.heap.size w w'))
          case atStart => exact ⟨(0), (by first | rfl | (simp; done) | (simp [*]; done)), H', ⟨Nat.le_refl _⟩, ⟨kB HB⟩⟩
          case round =>
           clear H'
           try clear c2
           try clear c2b0
           try clear c2b1
           try clear c4
           try clear c4b0
           try clear c7
           try clear c7b0
           try clear c7b1
           try clear c8
           try clear c8b0
           try clear c8b1
           try clear c9
           try clear c9b0
           try clear c9b1
           obtain ⟨x6_3, rfl, HA, HK3, HB⟩ := hrel
           cases gk with
           | zero => exact absurd HA.out (by simp [spec_l05Natural.l2])
           | succ k3 =>
            have H := HA.out
            clear HA
            simp only [spec_l05Natural.l2] at H
            by_cases c10 : x6_3 < x5_2
            ·rw [if_pos c10] at H
             have c10b0 : decide (x6_3 < x5_2) = true := decide_eq_true c10
             clear c10
             obtain ⟨y425, hy425⟩ : ∃ y_ : List (S40), y_ = (([] : List (S40))) := ⟨_, rfl⟩
             replace H : (spec_l05Natural.l3 k3 l0 x5_2 x6_3 y425 0) = some r := by first | (rw [hy425]; with_reducible exact H) | (have H2_ := (Option.bind_some _ _).symm.trans H; rw [hy425]; with_reducible exact H2_) | (have H2_ := (Option.bind_some _ _).symm.trans H; with_reducible exact H2_) | with_reducible exact H | (rw [hy425]; exact H) | exact H
             have Ny425 := am hy425
             clear hy425
             have H' := am H
             clear H
             go_wp2_with (first | ((with_reducible refine gate_dst (N := 43) rfl ?_); refine Kd.R_lit k40 _ 40 ?hg (N := 43) ?hd (xs := ([] : List (S40))) (inner := []) (ok := fun _ => True) (okp := fun _ => True) ?hr ?hp (fun _ hk => hk) trivial (Below.refl _ _) (Nat.le_refl _) (by simp) ?_; (case hd => rfl); (case hg => rfl); (case hr => first | (go_simp; done) | (go_simp; rfl)); (case hp => exact (Reps.none _ _)); intro v426 w11 ho12 hb hg_ hnew_; clear hg_ hnew_; (first | rw [← Ny425.out] at ho12 | (simp only [Int.reduceToNat] at ho12; rw [← Ny425.out] at ho12)); have n0_ := am (Kd.R_lower ho12 (below_size (kB HB))); have n1_ := am (below_step (kB HB) hb); clear HB; have HO427 := n0_; have HB := n1_; clear n0_ n1_; clear hb ho12))
             go_loopg [7, 8] k3 (fun kq v7 v8 w' => ∃ (x7_4 : List (S40)) (x8_4 : Int), v8 = .int .i64 x8_4 ∧ Aside0 (spec_l05Natural.l3 kq l0 x5_2 x6_3 x7_4 x8_4 = some r) ∧ Aside0 (kq ≤ k3) ∧ Aside0 (Kd.R k40 40 w' w.heap.size (fun _ => True) v7 x7_4) ∧ Aside0 (Below w.heap.size w w'))
             case atStart => exact ⟨(y425), (0), (by first | rfl | (simp; done) | (simp [*]; done)), H', ⟨Nat.le_refl _⟩, ⟨kR HO427⟩, ⟨kB HB⟩⟩
             case round =>
              clear H'
              try clear c2
              try clear c2b0
              try clear c2b1
              try clear c4
              try clear c4b0
              try clear c7
              try clear c7b0
              try clear c7b1
              try clear c8
              try clear c8b0
              try clear c8b1
              try clear c9
              try clear c9b0
              try clear c9b1
              try clear c10
              try clear c10b0
              obtain ⟨x7_4, x8_4, rfl, HA, HK4, HO_7, HB⟩ := hrel
              cases gk with
              | zero => exact absurd HA.out (by simp [spec_l05Natural.l3])
              | succ k4 =>
               have H := HA.out
               clear HA
               simp only [spec_l05Natural.l3] at H
               by_cases c13 : x8_4 < (l0.length : Int)
               ·rw [if_pos c13] at H
                have c13b0 : decide (x8_4 < (l0.length : Int)) = true := decide_eq_true c13
                clear c13
                by_cases c14 : 0 ≤ x8_4
                ·rw [if_pos c14] at H
                 have c14b0 : decide (0 ≤ x8_4) = true := decide_eq_true c14
                 clear c14
                 by_cases c15 : x5_2 = 0
                 ·rw [if_pos c15] at H
                  exact absurd H (by simp)
                 ·rw [if_neg c15] at H
                  have c15b0 : (x5_2 == 0) = false := beq_eq_false_iff_ne.mpr c15
                  have c15b1 : (x5_2 != 0) = true := bne_iff_ne.mpr c15
                  by_cases c16 : (Int.tmod ((rd_T40 l0 x8_4).f0) x5_2) = x6_3
                  ·rw [if_pos c16] at H
                   have c16b0 : ((Int.tmod ((rd_T40 l0 x8_4).f0) x5_2) == x6_3) = true := beq_iff_eq.mpr c16
                   have c16b1 : ((Int.tmod ((rd_T40 l0 x8_4).f0) x5_2) != x6_3) = false := bne_eq_false_iff_eq.mpr c16
                   clear c16
                   by_cases c17 : x7_4.length < 8796093022208
                   ·rw [if_pos c17] at H
                    have LMc17 := am c17
                    clear c17
                    obtain ⟨y431, hy431⟩ : ∃ y_ : List (S40), y_ = (x7_4 ++ [(⟨wrap64 (Int.tdiv ((rd_T40 l0 x8_4).f0) x5_2), wrap64 (Int.tdiv ((rd_T40 l0 x8_4).f1) x5_2)⟩ : S40)]) := ⟨_, rfl⟩
                    replace H : (spec_l05Natural.l3 k4 l0 x5_2 x6_3 y431 (wrap64 (x8_4 + 1))) = some r := by first | (rw [hy431]; with_reducible exact H) | (have H2_ := (Option.bind_some _ _).symm.trans H; rw [hy431]; with_reducible exact H2_) | (have H2_ := (Option.bind_some _ _).symm.trans H; with_reducible exact H2_) | with_reducible exact H | (rw [hy431]; exact H) | exact H
                    have Ny431 := am hy431
                    clear hy431
                    have H' := am H
                    clear H
                    have p428 : 0 ≤ (x8_4 : Int) := of_decide_eq_true kM
                    have q428 : x8_4 < (l0.length : Int) := of_decide_eq_true kM
                    obtain ⟨ad428, e428, hx428_0, hx428_1⟩ := at_T40 HR0.out x8_4 p428 q428
                    cases e428
                    replace hx428_0 := (HB.out.cell (World.block_lt_of_cell? w _ hx428_0)).trans hx428_0
                    replace hx428_1 := (HB.out.cell (World.block_lt_of_cell? w _ hx428_1)).trans hx428_1
                    replace p428 := eq_true p428
                    replace q428 := eq_true q428
                    try go_wp2
                    have n0_ := am (Kd.R_drew HO_7.out)
                    have n1_ := am (below_drew1 HB.out)
                    clear HO_7
                    clear HB
                    have HO_7 := n0_
                    have HB := n1_
                    clear n0_ n1_
                    have p429 : 0 ≤ (x8_4 : Int) := of_decide_eq_true kM
                    have q429 : x8_4 < (l0.length : Int) := of_decide_eq_true kM
                    obtain ⟨ad429, e429, hx429_0, hx429_1⟩ := at_T40 HR0.out x8_4 p429 q429
                    have hw429_1 := hx429_1
                    have hw429_0 := hx429_0
                    obtain rfl : ad428 = ad429 := (by injection e429)
                    replace hx429_0 := (HB.out.cell (World.block_lt_of_cell? w _ hx429_0)).trans hx429_0
                    replace hx429_1 := (HB.out.cell (World.block_lt_of_cell? w _ hx429_1)).trans hx429_1
                    replace p429 := eq_true p429
                    replace q429 := eq_true q429
                    have p430 : 0 ≤ (x8_4 : Int) := of_decide_eq_true kM
                    have q430 : x8_4 < (l0.length : Int) := of_decide_eq_true kM
                    obtain ⟨ad430, e430, hx430_0, hx430_1⟩ := at_T40 HR0.out x8_4 p430 q430
                    have hw430_1 := hx430_1
                    have hw430_0 := hx430_0
                    obtain rfl : ad428 = ad430 := (by injection e430)
                    replace hx430_0 := (HB.out.cell (World.block_lt_of_cell? w _ hx430_0)).trans hx430_0
                    replace hx430_1 := (HB.out.cell (World.block_lt_of_cell? w _ hx430_1)).trans hx430_1
                    replace p430 := eq_true p430
                    replace q430 := eq_true q430
                    refine start_ (n := 19) (S := fun w' => w'.cell? (ad428.add ((x8_4).toNat * 2)) = some (.int .i64 ((rd_T40 l0 x8_4).f0)) ∧ w'.cell? ⟨(ad428.add ((x8_4).toNat * 2)).block, (ad428.add ((x8_4).toNat * 2)).off + 1, none⟩ = some (.int .i64 ((rd_T40 l0 x8_4).f1)) ∧ w'.cell? (ad428.add ((x8_4).toNat * 2)) = some (.int .i64 ((rd_T40 l0 x8_4).f0)) ∧ w'.cell? ⟨(ad428.add ((x8_4).toNat * 2)).block, (ad428.add ((x8_4).toNat * 2)).off + 1, none⟩ = some (.int .i64 ((rd_T40 l0 x8_4).f1))) (ds := []) #[false, false, false, false, false, false, false, false, false, false, false, false, false, false, false, false, false, false, false] (by kernel_rfl) rfl rfl ⟨((HB.out.cell (World.block_lt_of_cell? w _ hw429_0)).trans hw429_0), ((HB.out.cell (World.block_lt_of_cell? w _ hw429_1)).trans hw429_1), ((HB.out.cell (World.block_lt_of_cell? w _ hw430_0)).trans hw430_0), ((HB.out.cell (World.block_lt_of_cell? w _ hw430_1)).trans hw430_1)⟩ (fun hHeld => ?_); refine with_tabW spec_l05Natural.tab21 spec_l05Natural.bits21 (fun HT_ HW_ => ?_)
                    generalize wr.drew = w18 at HO_7 HB hx429_0 hx429_1 hx430_0 hx430_1 hHeld ⊢
                    refine pure_ (i := 0) (N := some 59) (v := ?_) (a' := ?_) #[true, false, false, false, false, false, false, false, false, false, false, false, false, false, false, false, false, false, false] rfl rfl (any_of HT_.out (by kernel_rfl)) (fun _ _ _ h => h) (Or.inl ⟨by rfl, ?_⟩) ?_ ?_
                    rotate_left
                    ·intro w'
                     go_simp
                     with_reducible rfl
                    rotate_left
                    ·simp only [Act.put, List.setIfInBounds_toArray, List.set_cons_zero, List.set_cons_succ, i64_w, i32_w]
                     rfl
                    refine pure_ (i := 1) (N := some 60) (v := ?_) (a' := ?_) #[true, true, false, false, false, false, false, false, false, false, false, false, false, false, false, false, false, false, false] rfl rfl (any_of HT_.out (by kernel_rfl)) (fun _ _ _ h => h) (Or.inl ⟨by rfl, ?_⟩) ?_ ?_
                    rotate_left
                    ·intro w'
                     go_simp
                     with_reducible rfl
                    rotate_left
                    ·simp only [Act.put, List.setIfInBounds_toArray, List.set_cons_zero, List.set_cons_succ, i64_w, i32_w]
                     rfl
                    refine pure_ (i := 2) (N := some 61) (v := ?_) (a' := ?_) #[true, true, true, false, false, false, false, false, false, false, false, false, false, false, false, false, false, false, false] rfl rfl (any_of HT_.out (by kernel_rfl)) (fun _ _ _ h => h) (Or.inl ⟨by rfl, ?_⟩) ?_ ?_
                    rotate_left
                    ·intro w'
                     go_simp
                     with_reducible rfl
                    rotate_left
                    ·simp only [Act.put, List.setIfInBounds_toArray, List.set_cons_zero, List.set_cons_succ, i64_w, i32_w]
                     rfl
                    refine pure_ (i := 3) (N := some 62) (v := ?_) (a' := ?_) #[true, true, true, true, false, false, false, false, false, false, false, false, false, false, false, false, false, false, false] rfl rfl (any_of HT_.out (by kernel_rfl)) (fun _ _ _ h => h) (Or.inl ⟨by rfl, ?_⟩) ?_ ?_
                    rotate_left
                    ·intro w'
                     go_simp
                     with_reducible rfl
                    rotate_left
                    ·simp only [Act.put, List.setIfInBounds_toArray, List.set_cons_zero, List.set_cons_succ, i64_w, i32_w]
                     rfl
                    refine pure_ (i := 4) (N := some 63) (v := ?_) (a' := ?_) #[true, true, true, true, true, false, false, false, false, false, false, false, false, false, false, false, false, false, false] rfl rfl (any_of HT_.out (by kernel_rfl)) (fun _ _ _ h => h) (Or.inl ⟨by rfl, ?_⟩) ?_ ?_
                    rotate_left
                    ·intro w'
                     go_simp
                     with_reducible rfl
                    rotate_left
                    ·simp only [Act.put, List.setIfInBounds_toArray, List.set_cons_zero, List.set_cons_succ, i64_w, i32_w]
                     rfl
                    refine pure_ (i := 6) (N := some 65) (v := ?_) (a' := ?_) #[true, true, true, true, true, false, true, false, false, false, false, false, false, false, false, false, false, false, false] rfl rfl (any_of HT_.out (by kernel_rfl)) (fun _ _ _ h => h) (Or.inl ⟨by rfl, ?_⟩) ?_ ?_
                    rotate_left
                    ·intro w'
                     go_simp
                     with_reducible rfl
                    rotate_left
                    ·simp only [Act.put, List.setIfInBounds_toArray, List.set_cons_zero, List.set_cons_succ, i64_w, i32_w]
                     rfl
                    refine pure_ (i := 8) (N := some 67) (v := ?_) (a' := ?_) #[true, true, true, true, true, false, true, false, true, false, false, false, false, false, false, false, false, false, false] rfl rfl (any_of HT_.out (by kernel_rfl)) (fun _ _ _ h => h) (Or.inl ⟨by rfl, ?_⟩) ?_ ?_
                    rotate_left
                    ·intro w'
                     go_simp
                     with_reducible rfl
                    rotate_left
                    ·simp only [Act.put, List.setIfInBounds_toArray, List.set_cons_zero, List.set_cons_succ, i64_w, i32_w]
                     rfl
                    refine pure_ (i := 9) (N := some 68) (v := ?_) (a' := ?_) #[true, true, true, true, true, false, true, false, true, true, false, false, false, false, false, false, false, false, false] rfl rfl (any_of HT_.out (by kernel_rfl)) (fun _ _ _ h => h) (Or.inl ⟨by rfl, ?_⟩) ?_ ?_
                    rotate_left
                    ·intro w'
                     go_simp
                     with_reducible rfl
                    rotate_left
                    ·simp only [Act.put, List.setIfInBounds_toArray, List.set_cons_zero, List.set_cons_succ, i64_w, i32_w]
                     rfl
                    refine pure_ (i := 10) (N := some 69) (v := ?_) (a' := ?_) #[true, true, true, true, true, false, true, false, true, true, true, false, false, false, false, false, false, false, false] rfl rfl (any_of HT_.out (by kernel_rfl)) (fun _ _ _ h => h) (Or.inl ⟨by rfl, ?_⟩) ?_ ?_
                    rotate_left
                    ·intro w'
                     go_simp
                     with_reducible rfl
                    rotate_left
                    ·simp only [Act.put, List.setIfInBounds_toArray, List.set_cons_zero, List.set_cons_succ, i64_w, i32_w]
                     rfl
                    refine pure_ (i := 11) (N := some 70) (v := ?_) (a' := ?_) #[true, true, true, true, true, false, true, false, true, true, true, true, false, false, false, false, false, false, false] rfl rfl (any_of HT_.out (by kernel_rfl)) (fun _ _ _ h => h) (Or.inl ⟨by rfl, ?_⟩) ?_ ?_
                    rotate_left
                    ·intro w'
                     go_simp
                     with_reducible rfl
                    rotate_left
                    ·simp only [Act.put, List.setIfInBounds_toArray, List.set_cons_zero, List.set_cons_succ, i64_w, i32_w]
                     rfl
                    refine pure_ (i := 13) (N := some 72) (v := ?_) (a' := ?_) #[true, true, true, true, true, false, true, false, true, true, true, true, false, true, false, false, false, false, false] rfl rfl (any_of HT_.out (by kernel_rfl)) (fun _ _ _ h => h) (Or.inl ⟨by rfl, ?_⟩) ?_ ?_
                    rotate_left
                    ·intro w'
                     go_simp
                     with_reducible rfl
                    rotate_left
                    ·simp only [Act.put, List.setIfInBounds_toArray, List.set_cons_zero, List.set_cons_succ, i64_w, i32_w]
                     rfl
                    refine take_ (i := 5) (N := some 64) (v := ?_) (a' := ?_) #[true, true, true, true, true, true, true, false, true, true, true, true, false, true, false, false, false, false, false] rfl rfl (take_ofW HT_.out HW_.out (by kernel_rfl)) (fun _ _ _ h => h) (Or.inl ⟨by rfl, ?_⟩) hHeld ?_ ?_
                    rotate_left
                    ·rintro w' ⟨s0, s1, s2, s3⟩
                     go_simp
                     with_reducible rfl
                    rotate_left
                    ·simp only [Act.put, List.setIfInBounds_toArray, List.set_cons_zero, List.set_cons_succ, i64_w, i32_w]
                     rfl
                    refine pure_ (i := 7) (N := some 66) (v := ?_) (a' := ?_) #[true, true, true, true, true, true, true, true, true, true, true, true, false, true, false, false, false, false, false] rfl rfl (any_of HT_.out (by kernel_rfl)) (fun _ _ _ h => h) (Or.inl ⟨by rfl, ?_⟩) ?_ ?_
                    rotate_left
                    ·intro w'
                     go_simp
                     with_reducible rfl
                    rotate_left
                    ·simp only [Act.put, List.setIfInBounds_toArray, List.set_cons_zero, List.set_cons_succ, i64_w, i32_w]
                     rfl
                    refine take_ (i := 12) (N := some 71) (v := ?_) (a' := ?_) #[true, true, true, true, true, true, true, true, true, true, true, true, true, true, false, false, false, false, false] rfl rfl (take_ofW HT_.out HW_.out (by kernel_rfl)) (fun _ _ _ h => h) (Or.inl ⟨by rfl, ?_⟩) hHeld ?_ ?_
                    rotate_left
                    ·rintro w' ⟨s0, s1, s2, s3⟩
                     go_simp
                     with_reducible rfl
                    rotate_left
                    ·simp only [Act.put, List.setIfInBounds_toArray, List.set_cons_zero, List.set_cons_succ, i64_w, i32_w]
                     rfl
                    refine pure_ (i := 14) (N := some 73) (v := ?_) (a' := ?_) #[true, true, true, true, true, true, true, true, true, true, true, true, true, true, true, false, false, false, false] rfl rfl (any_of HT_.out (by kernel_rfl)) (fun _ _ _ h => h) (Or.inl ⟨by rfl, ?_⟩) ?_ ?_
                    rotate_left
                    ·intro w'
                     go_simp
                     with_reducible rfl
                    rotate_left
                    ·simp only [Act.put, List.setIfInBounds_toArray, List.set_cons_zero, List.set_cons_succ, i64_w, i32_w]
                     rfl
                    refine pure_ (i := 15) (N := some 74) (v := ?_) (a' := ?_) #[true, true, true, true, true, true, true, true, true, true, true, true, true, true, true, true, false, false, false] rfl rfl (any_of HT_.out (by kernel_rfl)) (fun _ _ _ h => h) (Or.inl ⟨by rfl, ?_⟩) ?_ ?_
                    rotate_left
                    ·intro w'
                     go_simp
                     with_reducible rfl
                    rotate_left
                    ·simp only [Act.put, List.setIfInBounds_toArray, List.set_cons_zero, List.set_cons_succ, i64_w, i32_w]
                     rfl
                    refine one_ (i := 16) (N := some 75) #[true, true, true, true, true, true, true, true, true, true, true, true, true, true, true, true, true, false, false] rfl rfl (one_of HT_.out (by kernel_rfl)) (by decide) (fun K hK => ?_)
                    refine value_ (w1 := ?_) (v := ?_) (by rfl) rfl ?_ ?_
                    rotate_left 2
                    ·go_simp
                     constructor
                     ·rfl
                     ·rfl
                    refine hK.out _ _ ⟨(World.cell?_alloc_lt _ _ _ (World.block_lt_of_cell? _ _ (((HB.out.cell (World.block_lt_of_cell? w _ hw429_0)).trans hw429_0)))).trans (((HB.out.cell (World.block_lt_of_cell? w _ hw429_0)).trans hw429_0)), (World.cell?_alloc_lt _ _ _ (World.block_lt_of_cell? _ _ (((HB.out.cell (World.block_lt_of_cell? w _ hw429_1)).trans hw429_1)))).trans (((HB.out.cell (World.block_lt_of_cell? w _ hw429_1)).trans hw429_1)), (World.cell?_alloc_lt _ _ _ (World.block_lt_of_cell? _ _ (((HB.out.cell (World.block_lt_of_cell? w _ hw430_0)).trans hw430_0)))).trans (((HB.out.cell (World.block_lt_of_cell? w _ hw430_0)).trans hw430_0)), (World.cell?_alloc_lt _ _ _ (World.block_lt_of_cell? _ _ (((HB.out.cell (World.block_lt_of_cell? w _ hw430_1)).trans hw430_1)))).trans (((HB.out.cell (World.block_lt_of_cell? w _ hw430_1)).trans hw430_1))⟩ (fun hHeld => ?_)
                    clear hK K
                    refine norm_ (a' := ?_) ?_ ?_
                    rotate_left
                    ·show Act.put _ (some 75) _ = _
                     simp only [Act.put, List.setIfInBounds_toArray, List.set_cons_zero, List.set_cons_succ, i64_w, i32_w]
                     rfl
                    refine one_ (i := 17) (N := some 76) #[true, true, true, true, true, true, true, true, true, true, true, true, true, true, true, true, true, true, false] rfl rfl (one_of HT_.out (by kernel_rfl)) (by decide) (fun K hK => ?_)
                    refine Kd.R_append_step k40 (w0 := w) w.heap.size (by rfl) (.tmp 59) (.tmp 75) 24 40 (.agg #[(.int .i64 0), (.int .i64 0)]) 16 rfl Try.underlying24 info40 rfl (by decide) (by omega) u7 x7_4 (⟨wrap64 (Int.tdiv ((rd_T40 l0 x8_4).f0) x5_2), wrap64 (Int.tdiv ((rd_T40 l0 x8_4).f1) x5_2)⟩ : S40) [.int .i64 (wrap64 (Int.tdiv ((rd_T40 l0 x8_4).f0) x5_2)), .int .i64 (wrap64 (Int.tdiv ((rd_T40 l0 x8_4).f1) x5_2))] (fun _ => True) (fun _ => False) rfl rfl ?aP (fun _ hk => hk.elim) ?aF ?aO ?aB ?aS ?aL ?_
                    (case aP => exact k40_mkM _ _ _ (⟨wrap64 (Int.tdiv ((rd_T40 l0 x8_4).f0) x5_2), wrap64 (Int.tdiv ((rd_T40 l0 x8_4).f1) x5_2)⟩ : S40))
                    (case aB => exact (kB HB))
                    (case aF => exact (fun _ _ => trivial))
                    (case aO => exact (kR HO_7))
                    (case aS => exact (below_size (kB HB)))
                    (case aL => have := LMc17.out; omega)
                    intro v432 w19 ho hb hg hat
                    rw [← Ny431.out] at ho
                    have n0_ := am (hb)
                    have n1_ := am (ho)
                    clear HB
                    clear HO_7
                    have HB := n0_
                    have HO433 := n1_
                    clear n0_ n1_
                    clear ho hb hg hat
                    refine hK.out _ _ ⟨((HB.out.cell (World.block_lt_of_cell? w _ hw429_0)).trans hw429_0), ((HB.out.cell (World.block_lt_of_cell? w _ hw429_1)).trans hw429_1), ((HB.out.cell (World.block_lt_of_cell? w _ hw430_0)).trans hw430_0), ((HB.out.cell (World.block_lt_of_cell? w _ hw430_1)).trans hw430_1)⟩ (fun hHeld => ?_)
                    clear hK K
                    refine norm_ (a' := ?_) ?_ ?_
                    rotate_left
                    ·show Act.put _ (some 76) _ = _
                     simp only [Act.put, List.setIfInBounds_toArray, List.set_cons_zero, List.set_cons_succ, i64_w, i32_w]
                     rfl
                    refine pure_ (i := 18) (N := some 7) (v := ?_) (a' := ?_) #[true, true, true, true, true, true, true, true, true, true, true, true, true, true, true, true, true, true, true] rfl rfl (any_of HT_.out (by kernel_rfl)) (fun _ _ _ h => h) (Or.inl ⟨by rfl, ?_⟩) ?_ ?_
                    rotate_left
                    ·intro w'
                     go_simp
                     with_reducible rfl
                    rotate_left
                    ·simp only [Act.put, List.setIfInBounds_toArray, List.set_cons_zero, List.set_cons_succ, i64_w, i32_w]
                     rfl
                    refine done_ (done_of HT_.out (by kernel_rfl)) ?_
                    try go_wp2
                    go_roundg k4
                    case measure => have := HK1.out; have := HK2.out; have := HK3.out; have := HK4.out; omega
                    case rel => exact ⟨(y431), (wrap64 (x8_4 + 1)), (by first | rfl | (simp; done) | (simp [*]; done)), H', ⟨by have := HK1.out; have := HK2.out; have := HK3.out; have := HK4.out; omega⟩, ⟨kR HO433⟩, ⟨kB HB⟩⟩
                   ·rw [if_neg c17] at H
                    exact absurd H (by simp)
                  ·rw [if_neg c16] at H
                   have c16b0 : ((Int.tmod ((rd_T40 l0 x8_4).f0) x5_2) == x6_3) = false := beq_eq_false_iff_ne.mpr c16
                   have c16b1 : ((Int.tmod ((rd_T40 l0 x8_4).f0) x5_2) != x6_3) = true := bne_iff_ne.mpr c16
                   have H' := am H
                   clear H
                   have p428 : 0 ≤ (x8_4 : Int) := of_decide_eq_true kM
                   have q428 : x8_4 < (l0.length : Int) := of_decide_eq_true kM
                   obtain ⟨ad428, e428, hx428_0, hx428_1⟩ := at_T40 HR0.out x8_4 p428 q428
                   cases e428
                   replace hx428_0 := (HB.out.cell (World.block_lt_of_cell? w _ hx428_0)).trans hx428_0
                   replace hx428_1 := (HB.out.cell (World.block_lt_of_cell? w _ hx428_1)).trans hx428_1
                   replace p428 := eq_true p428
                   replace q428 := eq_true q428
                   go_wp2
                   go_roundg k4
                   case measure => have := HK1.out; have := HK2.out; have := HK3.out; have := HK4.out; omega
                   case rel => exact ⟨(x7_4), (wrap64 (x8_4 + 1)), (by first | rfl | (simp; done) | (simp [*]; done)), H', ⟨by have := HK1.out; have := HK2.out; have := HK3.out; have := HK4.out; omega⟩, ⟨kR HO_7⟩, ⟨kB HB⟩⟩
                ·rw [if_neg c14] at H
                 exact absurd H (by simp)
               ·rw [if_neg c13] at H
                have c13b0 : decide (x8_4 < (l0.length : Int)) = false := decide_eq_false c13
                clear c13
                by_cases c20 : (x7_4.length : Int) = 0
                ·rw [if_pos c20] at H
                 have c20b0 : ((x7_4.length : Int) == 0) = true := beq_iff_eq.mpr c20
                 have c20b1 : ((x7_4.length : Int) != 0) = false := bne_eq_false_iff_eq.mpr c20
                 clear c20
                 obtain rfl := Option.some.inj H
                 obtain ⟨Ao21, co21, eo21⟩ := Kd.R_slice HO_7.out
                 subst eo21
                 go_wp2
                 go_ret
                 exact ⟨by first | rfl | (simp [errW_none, errW_some] <;> rfl) | (simp [*, errW_none, errW_some] <;> rfl), kB HB⟩
                ·rw [if_neg c20] at H
                 have c20b0 : ((x7_4.length : Int) == 0) = false := beq_eq_false_iff_ne.mpr c20
                 have c20b1 : ((x7_4.length : Int) != 0) = true := bne_iff_ne.mpr c20
                 have c20b2 : ¬ (x7_4 = []) := fun h_ => c20 (by rw [h_]; rfl)
                 replace H := Option.bind_eq_some_iff.mp H
                 obtain ⟨t434, A220, H⟩ := H
                 try dsimp only at H
                 have A22 := am A220
                 clear A220
                 by_cases c23 : t434 = true
                 ·subst c23
                  rw [if_pos rfl] at H
                  have H' := am H
                  clear H
                  obtain ⟨Ao24, co24, eo24⟩ := Kd.R_slice HO_7.out
                  subst eo24
                  go_wp2_with (first | (go_at_call 44; (with_reducible refine (ih k4 (by have := HK1.out; have := HK2.out; have := HK3.out; have := HK4.out; omega) _ _ x7_4 true _ ?side1 ?side2 A22.out).mono ?_); (case side1 => exact kC (Kd.R_reads' HO_7.out).2.2); (case side2 => exact (Kd.R_reads' HO_7.out).2.1); rintro e w25 ⟨rfl, hb⟩; have n0_ := am (Kd.R_below (kR HO_7) hb); have n1_ := am (below_step (kB HB) hb); clear HO_7 HB; have HO_7 := n0_; have HB := n1_; clear n0_ n1_; (try clear hb); (try clear hb2); (try clear hk); (try clear hi)))
                  go_roundg k4
                  case measure => have := HK1.out; have := HK2.out; have := HK3.out; have := HK4.out; omega
                  case rel => exact ⟨(wrap64 (x6_3 + 1)), (by first | rfl | (simp; done) | (simp [*]; done)), H', ⟨by have := HK1.out; have := HK2.out; have := HK3.out; have := HK4.out; omega⟩, ⟨kB HB⟩⟩
                 ·replace c23 := Bool.eq_false_iff.mpr c23
                  subst c23
                  rw [if_neg (show ¬ (false = true) by decide)] at H
                  obtain rfl := Option.some.inj H
                  obtain ⟨Ao26, co26, eo26⟩ := Kd.R_slice HO_7.out
                  subst eo26
                  go_wp2_with (first | (go_at_call 44; (with_reducible refine (ih k4 (by have := HK1.out; have := HK2.out; have := HK3.out; have := HK4.out; omega) _ _ x7_4 false _ ?side1 ?side2 A22.out).mono ?_); (case side1 => exact kC (Kd.R_reads' HO_7.out).2.2); (case side2 => exact (Kd.R_reads' HO_7.out).2.1); rintro e w27 ⟨rfl, hb⟩; have n0_ := am (Kd.R_below (kR HO_7) hb); have n1_ := am (below_step (kB HB) hb); clear HO_7 HB; have HO_7 := n0_; have HB := n1_; clear n0_ n1_; (try clear hb); (try clear hb2); (try clear hk); (try clear hi)))
                  go_ret
                  exact ⟨by first | rfl | (simp [errW_none, errW_some] <;> rfl) | (simp [*, errW_none, errW_some] <;> rfl), kB HB⟩
            ·rw [if_neg c10] at H
             have c10b0 : decide (x6_3 < x5_2) = false := decide_eq_false c10
             clear c10
             obtain rfl := Option.some.inj H
             go_wp2
             go_ret
             exact ⟨by first | rfl | (simp [errW_none, errW_some] <;> rfl) | (simp [*, errW_none, errW_some] <;> rfl), kB HB⟩
         ·rw [if_neg c9] at H
          have c9b0 : ((Int.tmod x3_1 x5_2) == 0) = false := beq_eq_false_iff_ne.mpr c9
          have c9b1 : ((Int.tmod x3_1 x5_2) != 0) = true := bne_iff_ne.mpr c9
          have H' := am H
          clear H
          go_wp2
          go_roundg k2
          case measure => have := HK1.out; have := HK2.out; omega
          case rel => exact ⟨(wrap64 (x5_2 + 1)), (by first | rfl | (simp; done) | (simp [*]; done)), H', ⟨by have := HK1.out; have := HK2.out; omega⟩, ⟨kB HB⟩⟩
end Go.Proofs.Ytdkhecebffjpjaa.X
