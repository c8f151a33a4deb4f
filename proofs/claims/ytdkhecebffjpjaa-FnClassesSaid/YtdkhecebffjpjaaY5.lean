import Derived.Test.YtdkhecebffjpjaaU
import Derived.Test.YtdkhecebffjpjaaY0
import Derived.Test.YtdkhecebffjpjaaY2
import Derived.Test.YtdkhecebffjpjaaY4
namespace Go.Proofs.Ytdkhecebffjpjaa.X
open Go.RowKit Go.Proofs.YtdkhecebffjpjaaW.PrintWords Go.Proofs.YtdkhecebffjpjaaW.PrintLast Go.Proofs.YtdkhecebffjpjaaW.PrintMore
attribute [local go_sem] max2_int min2_int max_two min_two max_three min_three max_four min_four
set_option linter.unusedVariables false
set_option linter.unusedSimpArgs false
/-! ### spec_l01DrawOrder: function 79 -/
def spec_l01DrawOrder.l0 : Nat → Int → List Int → Int → List Int → Int → Int → Option (List Int × Int × Int)
 | 0, _, _, _, _, _, _ => none
 | k + 1, x1, x5, x6, x1000, x1001, x1002 => if x6 < x1 then ((spec_l01Next.f x1000 x1001 x1002 (wrap64 (x6 + 1))).bind fun bt185 => ((main_main.f x5 bt185.1 x6).bind fun t188 => (spec_l01DrawOrder.l0 k x1 t188 (wrap64 (x6 + 1)) x1000 bt185.2.1 bt185.2.2))) else (some (x5, x1001, x1002))
def spec_l01DrawOrder.f (k : Nat) (s0_0 : List Int) (s0_1 : Int) (s0_2 : Int) (a1 : Int) : Option (List Int × Int × Int) := spec_l01DrawOrder.l0 k a1 (([] : List Int)) 0 s0_0 s0_1 s0_2
theorem spec_l01DrawOrder.mono_l : ∀ k, (∀ y0 y1 y2 y3 y4 y5, LeO (spec_l01DrawOrder.l0 k y0 y1 y2 y3 y4 y5) (spec_l01DrawOrder.l0 (k + 1) y0 y1 y2 y3 y4 y5))
 | 0 => fun _ _ _ _ _ _ r h => by simp [spec_l01DrawOrder.l0] at h
 | k + 1 => by
  have ih0 := spec_l01DrawOrder.mono_l k
  ·intro y0 y1 y2 y3 y4 y5
   unfold spec_l01DrawOrder.l0
   repeat' first
   | with_reducible first | exact ih0 _ _ _ _ _ _ | exact LeO.refl _ | exact LeO.none _ | refine LeO.ite ?_ ?_ | refine LeO.bind ?_ (fun _ => ?_)
   | exact ih0 _ _ _ _ _ _
   | exact LeO.none _
   | refine LeO.ite ?_ ?_
   | refine LeO.bind ?_ (fun _ => ?_)
theorem spec_l01DrawOrder.mono : ∀ a0 a1 a2 a3 k, LeO (spec_l01DrawOrder.f k a0 a1 a2 a3) (spec_l01DrawOrder.f (k + 1) a0 a1 a2 a3) := by
 intro a0 a1 a2 a3 k
 have ih0 := spec_l01DrawOrder.mono_l k
 unfold spec_l01DrawOrder.f
 repeat' first
   | with_reducible first | exact ih0 _ _ _ _ _ _ | exact LeO.refl _ | exact LeO.none _ | refine LeO.ite ?_ ?_ | refine LeO.bind ?_ (fun _ => ?_)
   | exact ih0 _ _ _ _ _ _
   | exact LeO.none _
   | refine LeO.ite ?_ ?_
   | refine LeO.bind ?_ (fun _ => ?_)
set_option maxHeartbeats 8000000 in
set_option maxRecDepth 100000 in
theorem spec_l01DrawOrder.calls (k : Nat) (g : Nat) (s0_0 : List Int) (s0_1 : Int) (s0_2 : Int) (a1 : Int) (r1 : List Int) (r2 : Int) (r3 : Int) (w0 w : World) (hI : IsS72 w0 w g s0_0 s0_1 s0_2) (hB : Below w0.heap.size w0 w) (h : spec_l01DrawOrder.f k s0_0 s0_1 s0_2 a1 = some (r1, r2, r3)) :
  Calls Try.prog 79 #[.pointer (some ⟨g, 0, none⟩), .int .i64 a1] w fun e w' => ∃ v0_ : Value, e = .returned (v0_) ∧ Kd.R (Kd.int .i64) 2 w' w.heap.size (fun _ => True) v0_ r1 ∧ IsS72 w0 w' g s0_0 r2 r3 ∧ Below w0.heap.size w0 w' ∧ KeepBut w w' g none := by
 have HI0 := am hI
 have HK := am (KeepBut.refl w g none)
 have HL := am hB.size
 clear hI
 have HW0 := am hB.size
 have HB := am hB
 clear hB
 have H : (spec_l01DrawOrder.l0 k a1 (([] : List Int)) 0 s0_0 s0_1 s0_2) = some (r1, r2, r3) := h
 clear h
 obtain ⟨y182, hy182⟩ : ∃ y_ : List Int, y_ = (([] : List Int)) := ⟨_, rfl⟩
 replace H : (spec_l01DrawOrder.l0 k a1 y182 0 s0_0 s0_1 s0_2) = some (r1, r2, r3) := by first | (rw [hy182]; with_reducible exact H) | (have H2_ := (Option.bind_some _ _).symm.trans H; rw [hy182]; with_reducible exact H2_) | (have H2_ := (Option.bind_some _ _).symm.trans H; with_reducible exact H2_) | with_reducible exact H | (rw [hy182]; exact H) | exact H
 have Ny182 := am hy182
 clear hy182
 have H' := am H
 clear H
 go_enter Try.func79, Try.ntmps79
 go_wp2_with (first | ((with_reducible refine gate_dst (N := 8) rfl ?_); refine Kd.R_lit (Kd.int .i64) _ 2 ?hg (N := 8) ?hd (xs := ([] : List Int)) (inner := []) (ok := fun _ => True) (okp := fun _ => True) ?hr ?hp (fun _ hk => hk) trivial (Below.refl _ _) (Nat.le_refl _) (by simp) ?_; (case hd => rfl); (case hg => rfl); (case hr => first | (go_simp; done) | (go_simp; rfl)); (case hp => exact (Reps.none _ _)); intro v183 w3 ho4 hb hg_ hnew_; clear hg_ hnew_; (first | rw [← Ny182.out] at ho4 | (simp only [Int.reduceToNat] at ho4; rw [← Ny182.out] at ho4)); have n0_ := am (Kd.R_lower ho4 (keep_size (w := w) (g := g) (row := none) (kH HK))); have n1_ := am (IsS72.below (kI HI0) hb); have n2_ := am (KeepBut.trans (kH HK) (KeepBut.of_below hb g none) (.inl rfl)); have n3_ := am (below_step (kB1 HB (IsS72.ge HI0.out)) hb); clear HI0 HK HB; have HO184 := n0_; have HI0 := n1_; have HK := n2_; have HB := n3_; clear n0_ n1_ n2_ n3_; clear hb ho4))
 go_loopg [5, 6] k (fun kq v5 v6 w' => ∃ (x5_1 : List Int) (x6_1 : Int) (x1001_1 : Int) (x1002_1 : Int), v6 = .int .i64 x6_1 ∧ Aside0 (spec_l01DrawOrder.l0 kq a1 x5_1 x6_1 s0_0 x1001_1 x1002_1 = some (r1, r2, r3)) ∧ Aside0 (kq ≤ k) ∧ Aside0 (Kd.R (Kd.int .i64) 2 w' w.heap.size (fun _ => True) v5 x5_1) ∧ Aside0 (IsS72 w0 w' g s0_0 x1001_1 x1002_1) ∧ Aside0 (KeepBut w w' g none) ∧ Aside0 (Below w0.heap.size w0 w'))
 case atStart => exact ⟨(y182), (0), (s0_1), (s0_2), (by first | rfl | (simp; done) | (simp [*]; done)), H', ⟨Nat.le_refl _⟩, ⟨kR HO184⟩, ⟨kI HI0⟩, ⟨kH HK⟩, ⟨kB1 HB (IsS72.ge HI0.out)⟩⟩
 case round =>
  clear H'
  obtain ⟨x5_1, x6_1, x1001_1, x1002_1, rfl, HA, HK1, HO_5, HI0, HK, HB⟩ := hrel
  cases gk with
  | zero => exact absurd HA.out (by simp [spec_l01DrawOrder.l0])
  | succ k1 =>
   have H := HA.out
   clear HA
   simp only [spec_l01DrawOrder.l0] at H
   by_cases c5 : x6_1 < a1
   ·rw [if_pos c5] at H
    have c5b0 : decide (x6_1 < a1) = true := decide_eq_true c5
    clear c5
    replace H := Option.bind_eq_some_iff.mp H
    obtain ⟨⟨t185, t186, t187⟩, A60, H⟩ := H
    try dsimp only at H
    have A6 := am A60
    clear A60
    replace H := Option.bind_eq_some_iff.mp H
    obtain ⟨t188, A70, H⟩ := H
    try dsimp only at H
    have A7 := am A70
    clear A70
    have H' := am H
    clear H
    go_wp2_with (first | ((with_reducible refine gate_callee (f := 56) rfl ?_); refine goesL_ (some 17) rfl rfl Try.func56 (by kernel_rfl) rfl #[.pointer (some ⟨g, 0, none⟩), .int .i64 (wrap64 (x6_1 + 1))] rfl kA ?_; (with_reducible refine (spec_l01Next.calls g s0_0 x1001_1 x1002_1 (wrap64 (x6_1 + 1)) t185 t186 t187 w0 _ ?side1 ?side2 A6.out).mono ?_); (case side1 => exact kI HI0); (case side2 => exact kB1 HB (IsS72.ge HI0.out)); rintro e w8 ⟨rfl, hi, hb, hk⟩; refine ⟨_, rfl, ?_⟩; have n0_ := am (Kd.R_mono (Kd.R_keep (IsS72.apart (show IsS72 w0 _ g s0_0 x1001_1 x1002_1 from kI HI0) (kR HO_5) (by decide)) hk (fun _ h => h.2)) (fun _ h => h.1)); have n1_ := am (KeepBut.trans (kH HK) hk (.inl rfl)); have n2_ := am (hb); have n3_ := am (hi); clear HO_5 HK HB HI0; have HO_5 := n0_; have HK := n1_; have HB := n2_; have HI0 := n3_; clear n0_ n1_ n2_ n3_; (try clear hb); (try clear hb2); (try clear hk); (try clear hi); obtain ⟨Ao9, co9, eo9⟩ := Kd.R_slice HO_5.out; subst eo9))
    have HRz := am (Kd.R_reads' HO_5.out).2.2
    have HCz := am (Kd.R_reads' HO_5.out).2.1
    have HZ := am (Below.refl w8.heap.size w8)
    have H : (if 0 ≤ t185 then (if t185 ≤ (x5_1.length : Int) then ((spec_l01Own.f (x5_1.take (t185 : Int).toNat)).bind fun t169z => ((some (([x6_1] : List Int) : List Int)).bind fun y172z => (if t169z.length + y172z.length < 17592186044416 then ((some (t169z ++ y172z : List Int)).bind fun y175z => (if y175z.length + (x5_1.drop (t185 : Int).toNat).length < 17592186044416 then (some (y175z ++ (x5_1.drop (t185 : Int).toNat))) else (none))) else (none)))) else (none)) else (none)) = some t188 := A7.out
    by_cases c4z : 0 ≤ t185
    ·rw [if_pos c4z] at H
     have c4b0z := eq_true c4z
     have c4b1z : decide (0 ≤ t185) = true := decide_eq_true c4z
     clear c4z
     by_cases c5z : t185 ≤ (x5_1.length : Int)
     ·rw [if_pos c5z] at H
      have c5b0z := eq_true c5z
      have c5b1z : decide (t185 ≤ (x5_1.length : Int)) = true := decide_eq_true c5z
      clear c5z
      replace H := Option.bind_eq_some_iff.mp H
      obtain ⟨t169z, A60z, H⟩ := H
      try dsimp only at H
      have A6z := am A60z
      clear A60z
      obtain ⟨y172z, hy172z⟩ : ∃ y_ : List Int, y_ = (([x6_1] : List Int)) := ⟨_, rfl⟩
      replace H : (if t169z.length + y172z.length < 17592186044416 then ((some (t169z ++ y172z : List Int)).bind fun y175z => (if y175z.length + (x5_1.drop (t185 : Int).toNat).length < 17592186044416 then (some (y175z ++ (x5_1.drop (t185 : Int).toNat))) else (none))) else (none)) = some t188 := by first | (rw [hy172z]; with_reducible exact H) | (have H2_ := (Option.bind_some _ _).symm.trans H; rw [hy172z]; with_reducible exact H2_) | (have H2_ := (Option.bind_some _ _).symm.trans H; with_reducible exact H2_) | with_reducible exact H | (rw [hy172z]; exact H) | exact H
      have Ny172z := am hy172z
      clear hy172z
      by_cases c7z : t169z.length + y172z.length < 17592186044416
      ·rw [if_pos c7z] at H
       have LMc7z := am c7z
       clear c7z
       obtain ⟨y175z, hy175z⟩ : ∃ y_ : List Int, y_ = (t169z ++ y172z) := ⟨_, rfl⟩
       replace H : (if y175z.length + (x5_1.drop (t185 : Int).toNat).length < 17592186044416 then (some (y175z ++ (x5_1.drop (t185 : Int).toNat))) else (none)) = some t188 := by first | (rw [hy175z]; with_reducible exact H) | (have H2_ := (Option.bind_some _ _).symm.trans H; rw [hy175z]; with_reducible exact H2_) | (have H2_ := (Option.bind_some _ _).symm.trans H; with_reducible exact H2_) | with_reducible exact H | (rw [hy175z]; exact H) | exact H
       have Ny175z := am hy175z
       clear hy175z
       have c8b0z := eq_true (of_decide_eq_true kM : 0 ≤ t185)
       have c9b0z := eq_true (of_decide_eq_true kM : t185 ≤ (x5_1.length : Int))
       by_cases c10z : y175z.length + (x5_1.drop (t185 : Int).toNat).length < 17592186044416
       ·rw [if_pos c10z] at H
        have LMc10z := am c10z
        clear c10z
        obtain ⟨y179z, hy179z⟩ : ∃ y_ : List Int, y_ = (y175z ++ (x5_1.drop (t185 : Int).toNat)) := ⟨_, rfl⟩
        replace H : (some y179z) = some t188 := by first | (rw [hy179z]; with_reducible exact H) | (have H2_ := (Option.bind_some _ _).symm.trans H; rw [hy179z]; with_reducible exact H2_) | (have H2_ := (Option.bind_some _ _).symm.trans H; with_reducible exact H2_) | with_reducible exact H | (rw [hy179z]; exact H) | exact H
        have Ny179z := am hy179z
        clear hy179z
        have ez_ := Option.some.inj H
        have n0_ := am (below_drew1 HZ.out)
        clear HZ
        have HZ := n0_
        clear n0_
        obtain ⟨i012, hi012, _, hsz12, _⟩ := info_parts info2
        obtain ⟨hcut12, hA12, hC12⟩ := print_take_of (P := Try.prog) (Value.int .i64) 0 26 2 .i64 Try.underlying26 hi012 hsz12 Ao9 co9 x5_1 t185 (of_decide_eq_true kM) (of_decide_eq_true kM) HCz.out
        have HR168z := am (Kd.C_of_reads (h1 := fun _ => rfl) (hA12 _ (Kd.reads_of_C HRz.out)))
        have HC168z := am hC12
        clear hA12 hC12 hi012 hsz12
        obtain ⟨i013, hi013, _, hsz13, _⟩ := info_parts info2
        obtain ⟨A13z, hcut13, hA13, hC13⟩ := print_drop_of (P := Try.prog) (Value.int .i64) 0 26 2 .i64 Try.underlying26 hi013 hsz13 Ao9 co9 x5_1 t185 (of_decide_eq_true kM) (of_decide_eq_true kM) HCz.out
        have HR178z := am (Kd.C_of_reads (h1 := fun _ => rfl) (hA13 _ (Kd.reads_of_C HRz.out)))
        have HC178z := am hC13
        clear hA13 hC13 hi013 hsz13
        refine start_ (n := 12) (S := fun w' => True) (ds := []) #[false, false, false, false, false, false, false, false, false, false, false, false] (by kernel_rfl) rfl rfl trivial (fun hHeld => ?_); refine with_tabW main_main.tab6 main_main.bits6 (fun HT_ HW_ => ?_)
        generalize w8.drew = w11z at HZ HR168z HR178z hHeld ⊢
        refine pure_ (i := 0) (N := some 18) (v := ?_) (a' := ?_) #[true, false, false, false, false, false, false, false, false, false, false, false] rfl rfl (any_of HT_.out (by kernel_rfl)) (fun _ _ _ h => h) (Or.inl ⟨by rfl, ?_⟩) ?_ ?_
        rotate_left
        ·intro w'
         go_simp
         with_reducible rfl
        rotate_left
        ·simp only [Act.put, List.setIfInBounds_toArray, List.set_cons_zero, List.set_cons_succ, i64_w, i32_w]
         rfl
        refine pure_ (i := 1) (N := some 19) (v := ?_) (a' := ?_) #[true, true, false, false, false, false, false, false, false, false, false, false] rfl rfl (any_of HT_.out (by kernel_rfl)) (fun _ _ _ h => h) (Or.inl ⟨by rfl, ?_⟩) ?_ ?_
        rotate_left
        ·intro w'
         go_simp
         with_reducible rfl
        rotate_left
        ·simp only [Act.put, List.setIfInBounds_toArray, List.set_cons_zero, List.set_cons_succ, i64_w, i32_w]
         rfl
        refine pure_ (i := 2) (N := some 20) (v := ?_) (a' := ?_) #[true, true, true, false, false, false, false, false, false, false, false, false] rfl rfl (any_of HT_.out (by kernel_rfl)) (fun _ _ _ h => h) (Or.inl ⟨by rfl, ?_⟩) ?_ ?_
        rotate_left
        ·intro w'
         go_simp
         with_reducible rfl
        rotate_left
        ·simp only [Act.put, List.setIfInBounds_toArray, List.set_cons_zero, List.set_cons_succ, i64_w, i32_w]
         rfl
        refine pure_ (i := 4) (N := some 22) (v := ?_) (a' := ?_) #[true, true, true, false, true, false, false, false, false, false, false, false] rfl rfl (any_of HT_.out (by kernel_rfl)) (fun _ _ _ h => h) (Or.inl ⟨by rfl, ?_⟩) ?_ ?_
        rotate_left
        ·intro w'
         go_simp
         with_reducible rfl
        rotate_left
        ·simp only [Act.put, List.setIfInBounds_toArray, List.set_cons_zero, List.set_cons_succ, i64_w, i32_w]
         rfl
        refine pure_ (i := 7) (N := some 25) (v := ?_) (a' := ?_) #[true, true, true, false, true, false, false, true, false, false, false, false] rfl rfl (any_of HT_.out (by kernel_rfl)) (fun _ _ _ h => h) (Or.inl ⟨by rfl, ?_⟩) ?_ ?_
        rotate_left
        ·intro w'
         go_simp
         with_reducible rfl
        rotate_left
        ·simp only [Act.put, List.setIfInBounds_toArray, List.set_cons_zero, List.set_cons_succ, i64_w, i32_w]
         rfl
        refine pure_ (i := 8) (N := some 26) (v := ?_) (a' := ?_) #[true, true, true, false, true, false, false, true, true, false, false, false] rfl rfl (any_of HT_.out (by kernel_rfl)) (fun _ _ _ h => h) (Or.inl ⟨by rfl, ?_⟩) ?_ ?_
        rotate_left
        ·intro w'
         go_simp
         with_reducible rfl
        rotate_left
        ·simp only [Act.put, List.setIfInBounds_toArray, List.set_cons_zero, List.set_cons_succ, i64_w, i32_w]
         rfl
        refine pure_ (i := 9) (N := some 27) (v := ?_) (a' := ?_) #[true, true, true, false, true, false, false, true, true, true, false, false] rfl rfl (any_of HT_.out (by kernel_rfl)) (fun _ _ _ h => h) (Or.inl ⟨by rfl, ?_⟩) ?_ ?_
        rotate_left
        ·intro w'
         go_simp
         with_reducible rfl
        rotate_left
        ·simp only [Act.put, List.setIfInBounds_toArray, List.set_cons_zero, List.set_cons_succ, i64_w, i32_w]
         rfl
        refine join_ (σ := Value × Value) 3 #[true, true, true, true, true, true, false, true, true, true, false, false] (fun s_ => [(21, s_.1), (23, s_.2)]) (fun s_ w' => (Kd.R (Kd.int .i64) 2 w' w8.heap.size (fun k_ => some k_ ≠ (s_.2 : Value).ownBlock) s_.1 t169z) ∧ (Kd.R (Kd.int .i64) 2 w' w8.heap.size (fun k_ => some k_ ≠ (s_.1 : Value).ownBlock) s_.2 y172z) ∧ (Below w8.heap.size w8 w')) ?_ ?_
        rotate_left
        ·intro hCont
         refine two_ (i := 3) (j := 5) (Ni := some 21) (Nj := some 23) #[true, true, true, true, true, false, false, true, true, true, false, false] #[true, true, true, false, true, true, false, true, true, true, false, false] rfl rfl rfl rfl (two_of HT_.out (by kernel_rfl)) (by decide) (by decide) (fun K hK => ?_) (fun K hK => ?_)
         ·skip
          refine goes_ Try.func80 (by kernel_rfl) rfl #[.slice Ao9 (x5_1.take (t185 : Int).toNat).length co9] (by rfl) rfl rfl (by (try simp only [List.map_toArray, List.map_cons, List.map_nil]); first | done | (rw [show (x5_1.take (t185 : Int).toNat).length = t185.toNat from (by rw [List.length_take]; have h_ : (t185 : Int) ≤ (x5_1.length : Int) := of_decide_eq_true kM; omega)] <;> rfl) | rfl | (simp only [List.length_drop, List.length_take]; rfl)) ?_
          with_reducible refine (spec_l01Own.calls _ _ (x5_1.take (t185 : Int).toNat) t169z _ ?side1 ?side2 A6z.out).mono ?_
          (case side1 => exact kC (Kd.C_below HR168z.out HZ.out))
          (case side2 => exact HC168z.out)
          rintro e w14z ⟨v170z, rfl, ho0, hb⟩
          refine ⟨_, rfl, ?_⟩
          have n0_ := am (Kd.R_lower ho0 (below_size (kB HZ)))
          have n1_ := am (below_step (kB HZ) hb)
          clear HZ
          have HO171z := n0_
          have HZ := n1_
          clear n0_ n1_
          (try clear hb)
          (try clear hb2)
          (try clear hk)
          (try clear hi)
          (try clear ho0)
          refine hK.out _ _ trivial (fun hHeld => ?_)
          clear hK K
          refine norm_ (a' := ?_) ?_ ?_
          rotate_left
          ·show Act.put _ (some 21) _ = _
           simp only [Act.put, List.setIfInBounds_toArray, List.set_cons_zero, List.set_cons_succ, i64_w, i32_w]
           rfl
          refine one_ (i := 5) (N := some 23) #[true, true, true, true, true, true, false, true, true, true, false, false] rfl rfl (one_of HT_.out (by kernel_rfl)) (by decide) (fun K hK => ?_)
          refine Kd.R_lit_step (Kd.int .i64) _ 2 ?hg (N := 23) ?hd (xs := ([x6_1] : List Int)) (inner := [.int .i64 x6_1]) (ok := fun _ => True) (okp := fun _ => True) ?hr ?hp (fun _ hk => hk) trivial (Below.refl _ _) (Nat.le_refl _) (by simp) ?_; (case hd => rfl); (case hg => rfl); (case hr => first | (go_simp; done) | (go_simp; rfl)); (case hp => exact (Reps.one (show Kd.M (Kd.int .i64) _ _ _ x6_1 [.int .i64 x6_1] from rfl) (Reps.none _ _)))
          intro v173z w15z ho16 hb hg_ hnew_
          clear hg_ hnew_
          (first | rw [← Ny172z.out] at ho16 | (simp only [Int.reduceToNat] at ho16; rw [← Ny172z.out] at ho16))
          have n0_ := am (Kd.R_elder' (kR HO171z) (Kd.R_base ho16) hb)
          have n1_ := am (Kd.R_lower (Kd.R_new' ho16 (Kd.R_lt (kR HO171z))) (below_size (kB HZ)))
          have n2_ := am (below_step (kB HZ) hb)
          clear HO171z
          clear HZ
          have HO171z := n0_
          have HO174z := n1_
          have HZ := n2_
          clear n0_ n1_ n2_
          clear hb ho16
          refine hK.out _ _ trivial (fun hHeld => ?_)
          clear hK K
          refine norm_ (a' := ?_) ?_ ?_
          rotate_left
          ·show Act.put _ (some 23) _ = _
           simp only [Act.put, List.setIfInBounds_toArray, List.set_cons_zero, List.set_cons_succ, i64_w, i32_w]
           rfl
          exact norm_ (by simp only [putAll, Act.put, List.setIfInBounds_toArray, List.set_cons_zero, List.set_cons_succ]) (hCont (v170z, v173z) _ ⟨(by (with_reducible repeat (first | apply Kd.R_alloc | apply Kd.R_drewN | apply Kd.R_drew)); exact Kd.R_mono HO171z.out (fun _ hk => hk.2)), (by (with_reducible repeat (first | apply Kd.R_alloc | apply Kd.R_drewN | apply Kd.R_drew)); exact Kd.R_mono HO174z.out (fun _ hk => hk.2)), (kB HZ)⟩)
         ·skip
          refine Kd.R_lit_step (Kd.int .i64) _ 2 ?hg (N := 23) ?hd (xs := ([x6_1] : List Int)) (inner := [.int .i64 x6_1]) (ok := fun _ => True) (okp := fun _ => True) ?hr ?hp (fun _ hk => hk) trivial (Below.refl _ _) (Nat.le_refl _) (by simp) ?_; (case hd => rfl); (case hg => rfl); (case hr => first | (go_simp; done) | (go_simp; rfl)); (case hp => exact (Reps.one (show Kd.M (Kd.int .i64) _ _ _ x6_1 [.int .i64 x6_1] from rfl) (Reps.none _ _)))
          intro v173z w14z ho15 hb hg_ hnew_
          clear hg_ hnew_
          (first | rw [← Ny172z.out] at ho15 | (simp only [Int.reduceToNat] at ho15; rw [← Ny172z.out] at ho15))
          have n0_ := am (Kd.R_lower ho15 (below_size (kB HZ)))
          have n1_ := am (below_step (kB HZ) hb)
          clear HZ
          have HO174z := n0_
          have HZ := n1_
          clear n0_ n1_
          clear hb ho15
          refine hK.out _ _ trivial (fun hHeld => ?_)
          clear hK K
          refine norm_ (a' := ?_) ?_ ?_
          rotate_left
          ·show Act.put _ (some 23) _ = _
           simp only [Act.put, List.setIfInBounds_toArray, List.set_cons_zero, List.set_cons_succ, i64_w, i32_w]
           rfl
          refine one_ (i := 3) (N := some 21) #[true, true, true, true, true, true, false, true, true, true, false, false] rfl rfl (one_of HT_.out (by kernel_rfl)) (by decide) (fun K hK => ?_)
          refine goes_ Try.func80 (by kernel_rfl) rfl #[.slice Ao9 (x5_1.take (t185 : Int).toNat).length co9] (by rfl) rfl rfl (by (try simp only [List.map_toArray, List.map_cons, List.map_nil]); first | done | (rw [show (x5_1.take (t185 : Int).toNat).length = t185.toNat from (by rw [List.length_take]; have h_ : (t185 : Int) ≤ (x5_1.length : Int) := of_decide_eq_true kM; omega)] <;> rfl) | rfl | (simp only [List.length_drop, List.length_take]; rfl)) ?_
          with_reducible refine (spec_l01Own.calls _ _ (x5_1.take (t185 : Int).toNat) t169z _ ?side1 ?side2 A6z.out).mono ?_
          (case side1 => exact kC (Kd.C_below HR168z.out HZ.out))
          (case side2 => exact HC168z.out)
          rintro e w16z ⟨v170z, rfl, ho0, hb⟩
          refine ⟨_, rfl, ?_⟩
          have n0_ := am (Kd.R_elder' (kR HO174z) (Kd.R_base ho0) hb)
          have n1_ := am (Kd.R_lower (Kd.R_new' ho0 (Kd.R_lt (kR HO174z))) (below_size (kB HZ)))
          have n2_ := am (below_step (kB HZ) hb)
          clear HO174z
          clear HZ
          have HO174z := n0_
          have HO171z := n1_
          have HZ := n2_
          clear n0_ n1_ n2_
          (try clear hb)
          (try clear hb2)
          (try clear hk)
          (try clear hi)
          (try clear ho0)
          refine hK.out _ _ trivial (fun hHeld => ?_)
          clear hK K
          refine norm_ (a' := ?_) ?_ ?_
          rotate_left
          ·show Act.put _ (some 21) _ = _
           simp only [Act.put, List.setIfInBounds_toArray, List.set_cons_zero, List.set_cons_succ, i64_w, i32_w]
           rfl
          exact norm_ (by simp only [putAll, Act.put, List.setIfInBounds_toArray, List.set_cons_zero, List.set_cons_succ]) (hCont (v170z, v173z) _ ⟨(by (with_reducible repeat (first | apply Kd.R_alloc | apply Kd.R_drewN | apply Kd.R_drew)); exact Kd.R_mono HO171z.out (fun _ hk => hk.2)), (by (with_reducible repeat (first | apply Kd.R_alloc | apply Kd.R_drewN | apply Kd.R_drew)); exact Kd.R_mono HO174z.out (fun _ hk => hk.2)), (kB HZ)⟩)
        rintro ⟨v170z, v173z⟩ w17z ⟨h0_, h1_, h2_⟩
        have n0_ : Aside0 (Kd.R (Kd.int .i64) 2 w17z w8.heap.size (fun k_ => some k_ ≠ (v173z : Value).ownBlock) v170z t169z) := ⟨h0_⟩
        have n1_ : Aside0 (Kd.R (Kd.int .i64) 2 w17z w8.heap.size (fun k_ => some k_ ≠ (v170z : Value).ownBlock) v173z y172z) := ⟨h1_⟩
        have n2_ : Aside0 (Below w8.heap.size w8 w17z) := ⟨h2_⟩
        clear HZ
        clear h0_ h1_ h2_
        have HO171z := n0_
        have HO174z := n1_
        have HZ := n2_
        clear n0_ n1_ n2_
        have hHeld := trivial
        obtain ⟨Ao19, co19, eo19⟩ := Kd.R_slice HO174z.out
        (first | subst eo19 | (injection eo19 with f1_ f2_ f3_; have f4_ := f1_.symm; have f5_ := f3_.symm; clear f1_ f2_ f3_; subst f4_; subst f5_))
        refine norm_ (a' := ?_) ?_ ?_
        rotate_left
        ·simp only [putAll, Act.put, List.setIfInBounds_toArray, List.set_cons_zero, List.set_cons_succ]
         rfl
        refine one_ (i := 6) (N := some 24) #[true, true, true, true, true, true, true, true, true, true, false, false] rfl rfl (one_of HT_.out (by kernel_rfl)) (by decide) (fun K hK => ?_)
        refine Kd.R_append_rows_step (Kd.int .i64) (w0 := w8) w8.heap.size (by rfl) (.tmp 21) (.tmp 23) 26 2 (.int .i64 0) 8 rfl Try.underlying26 info2 rfl (by decide) (by omega) v170z t169z y172z _ _ _ (fun k_ => some k_ ≠ (.slice Ao19 y172z.length co19 : Value).ownBlock) (fun _ => False) rfl rfl ?aO ?aR (fun _ _ h => h) (fun _ h => h.elim) ?aF ?aB ?aS ?aL ?_
        (case aR => exact kC (Kd.R_reads' HO174z.out).2.2)
        (case aB => exact (kB HZ))
        (case aF => exact (fun k_ hk => Kd.fresh' (Kd.R_lt (kR HO174z)) k_ hk))
        (case aO => exact (kR HO171z))
        (case aS => exact (below_size (kB HZ)))
        (case aL => have := LMc7z.out; omega)
        intro v176z w18z ho hb hg hat
        rw [← Ny175z.out] at ho
        have n0_ := am (Kd.R_after (ok := (fun _ => True)) (by (with_reducible repeat (first | apply Kd.R_alloc | apply Kd.R_drewN | apply Kd.R_drew)); exact Kd.R_mono HO174z.out (fun _ hk => ⟨trivial, hk⟩)) hg hat)
        have n1_ := am (hb)
        have n2_ := am (ho)
        clear HO174z
        clear HZ
        clear HO171z
        have HO174z := n0_
        have HZ := n1_
        have HO177z := n2_
        clear n0_ n1_ n2_
        clear ho hb hg hat
        refine hK.out _ _ trivial (fun hHeld => ?_)
        clear hK K
        refine norm_ (a' := ?_) ?_ ?_
        rotate_left
        ·show Act.put _ (some 24) _ = _
         simp only [Act.put, List.setIfInBounds_toArray, List.set_cons_zero, List.set_cons_succ, i64_w, i32_w]
         rfl
        refine one_ (i := 10) (N := some 28) #[true, true, true, true, true, true, true, true, true, true, true, false] rfl rfl (one_of HT_.out (by kernel_rfl)) (by decide) (fun K hK => ?_)
        refine Kd.R_append_rows_step (Kd.int .i64) (w0 := w8) w8.heap.size (by rfl) (.tmp 24) (.tmp 27) 26 2 (.int .i64 0) 8 rfl Try.underlying26 info2 rfl (by decide) (by omega) v176z y175z (x5_1.drop (t185 : Int).toNat) _ _ _ (fun k_ => some k_ ≠ (.slice Ao19 y172z.length co19 : Value).ownBlock) (fun _ => False) rfl rfl ?aO ?aR (fun _ _ h => h) (fun _ h => h.elim) ?aF ?aB ?aS ?aL ?_
        (case aR => first | (refine Eq.mp (congrArg (fun n_ => ReadsRow _ _ _ _ n_ (x5_1.drop (t185 : Int).toNat)) (show (x5_1.drop (t185 : Int).toNat).length = (x5_1.length - t185.toNat) from List.length_drop)) ?_; exact kC (Kd.C_below HR178z.out HZ.out); done) | (exact kC (Kd.C_below HR178z.out HZ.out); done))
        (case aB => exact (kB HZ))
        (case aF => exact (fun k_ hk => Kd.fresh' (Kd.R_lt (kR HO174z)) k_ hk))
        (case aO => exact (kR HO177z))
        (case aS => exact (below_size (kB HZ)))
        (case aL => have := LMc10z.out; have hlx_ := (show (x5_1.drop (t185 : Int).toNat).length = (x5_1.length - t185.toNat) from List.length_drop); omega)
        intro v180z w20z ho hb hg hat
        rw [← Ny179z.out] at ho
        have n0_ := am (Kd.R_after (ok := (fun _ => True)) (kR HO174z) hg hat)
        have n1_ := am (hb)
        have n2_ := am (ho)
        clear HO174z
        clear HZ
        clear HO177z
        have HO174z := n0_
        have HZ := n1_
        have HO181z := n2_
        clear n0_ n1_ n2_
        clear ho hb hg hat
        refine hK.out _ _ trivial (fun hHeld => ?_)
        clear hK K
        refine norm_ (a' := ?_) ?_ ?_
        rotate_left
        ·show Act.put _ (some 28) _ = _
         simp only [Act.put, List.setIfInBounds_toArray, List.set_cons_zero, List.set_cons_succ, i64_w, i32_w]
         rfl
        refine pure_ (i := 11) (N := some 5) (v := ?_) (a' := ?_) #[true, true, true, true, true, true, true, true, true, true, true, true] rfl rfl (any_of HT_.out (by kernel_rfl)) (fun _ _ _ h => h) (Or.inl ⟨by rfl, ?_⟩) ?_ ?_
        rotate_left
        ·intro w'
         go_simp
         with_reducible rfl
        rotate_left
        ·simp only [Act.put, List.setIfInBounds_toArray, List.set_cons_zero, List.set_cons_succ, i64_w, i32_w]
         rfl
        refine done_ (done_of HT_.out (by kernel_rfl)) ?_
        try go_wp2
        have hb := HZ.out
        have ho0 : Kd.R (Kd.int .i64) 2 w20z w8.heap.size (fun _ => True) v180z t188 := by rw [← ez_]; exact Kd.R_mono HO181z.out (fun _ _ => trivial)
        have n0_ := am (Kd.R_elder' (kR HO_5) (Kd.R_base ho0) hb)
        have n1_ := am (Kd.R_lower (Kd.R_new' ho0 (Kd.R_lt (kR HO_5))) (keep_size (w := w) (g := g) (row := none) (kH HK)))
        have n2_ := am (IsS72.below (kI HI0) hb)
        have n3_ := am (KeepBut.trans (kH HK) (KeepBut.of_below hb g none) (.inl rfl))
        have n4_ := am (below_step (kB1 HB (IsS72.ge HI0.out)) hb)
        clear HO_5
        clear HI0
        clear HK
        clear HB
        have HO_5 := n0_
        have HO190 := n1_
        have HI0 := n2_
        have HK := n3_
        have HB := n4_
        clear n0_ n1_ n2_ n3_ n4_
        (try clear hb)
        (try clear hb2)
        (try clear hk)
        (try clear hi)
        (try clear ho0)
        go_roundg k1
        case measure => have := HK1.out; omega
        case rel => exact ⟨(t188), (wrap64 (x6_1 + 1)), (t186), (t187), (by first | rfl | (simp; done) | (simp [*]; done)), H', ⟨by have := HK1.out; omega⟩, ⟨by (with_reducible repeat (first | apply Kd.R_alloc | apply Kd.R_drewN | apply Kd.R_drew)); exact Kd.R_mono HO190.out (fun _ hk => trivial)⟩, ⟨kI HI0⟩, ⟨kH HK⟩, ⟨kB1 HB (IsS72.ge HI0.out)⟩⟩
       ·rw [if_neg c10z] at H
        exact absurd H (by simp)
      ·rw [if_neg c7z] at H
       exact absurd H (by simp)
     ·rw [if_neg c5z] at H
      exact absurd H (by simp)
    ·rw [if_neg c4z] at H
     exact absurd H (by simp)
   ·rw [if_neg c5] at H
    have c5b0 : decide (x6_1 < a1) = false := decide_eq_false c5
    clear c5
    simp only [Option.some.injEq, Prod.mk.injEq] at H
    obtain ⟨rfl, rfl, rfl⟩ := H
    go_wp2
    go_ret
    exact ⟨_, by first | rfl | (simp [errW_none, errW_some] <;> rfl) | (simp [*, errW_none, errW_some] <;> rfl), kR HO_5, kI HI0, kB1 HB (IsS72.ge HI0.out), kH HK⟩
end Go.Proofs.Ytdkhecebffjpjaa.X
