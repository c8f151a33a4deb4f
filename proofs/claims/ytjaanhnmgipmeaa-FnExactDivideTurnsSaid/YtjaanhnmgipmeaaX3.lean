/- Written by wip/tool/xprint.py for this claim: functions as plain Lean functions, each with a proof that the Go code comes to its answers; no condition beside those stated. -/
import Derived.Test.YtjaanhnmgipmeaaX0
import Derived.Test.YtjaanhnmgipmeaaX2
namespace Go.Proofs.Ytjaanhnmgipmeaa.X
open Go.RowKit Go.Proofs.YtjaanhnmgipmeaaW.PrintWords Go.Proofs.YtjaanhnmgipmeaaW.PrintLast Go.Proofs.YtjaanhnmgipmeaaW.PrintMore
attribute [local go_sem] max2_int min2_int max_two min_two max_three min_three max_four min_four   -- for this text's walks alone
set_option linter.unusedVariables false
set_option linter.unusedSimpArgs false

/-! ### bits_Mul: function 76 -/
def bits_Mul.f (a0 : Int) (a1 : Int) : Option (Int × Int) := (bits_Mul64.f a0 a1).bind fun bt117 => (some (bt117.1, bt117.2))
set_option maxHeartbeats 8000000 in
set_option maxRecDepth 100000 in
theorem bits_Mul.calls (a0 : Int) (a1 : Int) (r1 : Int) (r2 : Int) (w : World) (h : bits_Mul.f a0 a1 = some (r1, r2)) :
    Calls Try.prog 76 #[.int .u64 a0, .int .u64 a1] w fun e w' => e = .returned (.tuple #[.int .u64 r1, .int .u64 r2]) ∧ Drawn0 w w' := by
  have H : ((bits_Mul64.f a0 a1).bind fun bt117 => (some (bt117.1, bt117.2))) = some (r1, r2) := h
  clear h
  replace H := Option.bind_eq_some_iff.mp H
  obtain ⟨⟨t117, t118⟩, A30, H⟩ := H
  replace H : (some (t117, t118)) = some (r1, r2) := H
  have A3 := Aside0.mk A30
  clear A30
  simp only [Option.some.injEq, Prod.mk.injEq] at H
  obtain ⟨rfl, rfl⟩ := H
  go_enter Try.func76, Try.ntmps76
  go_wp2_with (first | ((with_reducible refine gate_callee (f := 86) rfl ?_); refine goesL_ (some 25) rfl rfl Try.func86 (by kernel_rfl) rfl #[.int .u64 a0, .int .u64 a1] rfl (by (try simp only [List.map_toArray, List.map_cons, List.map_nil]); first | done | rfl | (simp only [List.length_drop, List.length_take]; rfl)) ?_; (with_reducible refine (bits_Mul64.calls a0 a1 t117 t118 _ A3.out).mono ?_); rintro e w' ⟨rfl, ⟨nd, rfl⟩⟩; refine ⟨_, rfl, ?_⟩))
  go_ret2
  exact ⟨by first | rfl | (simp; done) | (simp [*]; done), by repeat (first | exact Drawn0.refl _ | apply Drawn0.step)⟩

/-! ### slices_Repeat_int64_int64: function 42, by hand -/
theorem and_mask (E : Int) (h0 : 0 ≤ E) (h1 : E ≤ 18446744073709551615) : Go.bits .and .u64 E 4294967295 = E % 4294967296 := by
  have h := bits_and_u64_nat E.toNat 4294967295 (by omega) (by omega)
  rw [Int.toNat_of_nonneg h0] at h
  rw [show ((4294967295 : Nat) : Int) = 4294967295 from rfl] at h
  rw [h]
  have h2 : E.toNat &&& 4294967295 = E.toNat % 4294967296 := Nat.and_two_pow_sub_one_eq_mod E.toNat 32
  rw [h2]
  omega
theorem u64w (x : Int) (h0 : 0 ≤ x) (h1 : x ≤ 18446744073709551615) : IntKind.u64.wrap x = x := by
  rw [IntKind.wrap_u64]
  omega
theorem mul_small (a b : Nat) (ha : a < 4294967296) (hb : b < 4294967296) (hab : a * b < 17592186044416) : bits_Mul.f (a : Int) (b : Int) = some (0, ((a * b : Nat) : Int)) := by
  unfold bits_Mul.f bits_Mul64.f
  have e1 : (a : Int) / 4294967296 = 0 := by omega
  have e2 : (b : Int) / 4294967296 = 0 := by omega
  have e3 : Go.bits .and .u64 (a : Int) 4294967295 = (a : Int) := by rw [and_mask _ (by omega) (by omega)]; omega
  have e4 : Go.bits .and .u64 (b : Int) 4294967295 = (b : Int) := by rw [and_mask _ (by omega) (by omega)]; omega
  have e5 : (a : Int) * (b : Int) = ((a * b : Nat) : Int) := by rw [Int.natCast_mul]
  have e6 : (0 : Int) * (b : Int) = 0 := Int.zero_mul _
  have e7 : (a : Int) * (0 : Int) = 0 := Int.mul_zero _
  rw [e1, e2, e3, e4, e5]
  generalize a * b = p at hab
  simp only [Int.zero_mul, Int.mul_zero, Option.bind_some]
  rw [u64w (p : Int) (by omega) (by omega), u64w 0 (by omega) (by omega)]
  simp only [Int.zero_add, Int.add_zero]
  have f1 : (p : Int) / 4294967296 ≤ 4096 := by omega
  have f0 : 0 ≤ (p : Int) / 4294967296 := by omega
  rw [u64w ((p : Int) / 4294967296) (by omega) (by omega), and_mask _ (by omega) (by omega)]
  have f2 : (p : Int) / 4294967296 % 4294967296 = (p : Int) / 4294967296 := by omega
  rw [f2, u64w _ f0 (by omega)]
  have f3 : (p : Int) / 4294967296 / 4294967296 = 0 := by omega
  rw [f3]
  rfl
def repL (l : List Int) (n : Nat) : List Int := (List.replicate n l).flatten
theorem repL_length (l : List Int) (n : Nat) : (repL l n).length = l.length * n := by
  unfold repL
  rw [List.length_flatten, List.map_replicate, List.sum_replicate_nat, Nat.mul_comm]
theorem repL_add (l : List Int) (a b : Nat) : repL l (a + b) = repL l a ++ repL l b := by
  unfold repL
  rw [← List.replicate_append_replicate, List.flatten_append]
def RepP (l : List Int) (n T m : Nat) (V : List Value) : Prop :=
  V.length = T ∧ m ≤ T ∧ V.take m = ((repL l n).take m).map (Value.int .i64) ∧ (m = T ∨ ∃ q, 1 ≤ q ∧ m = l.length * q) ∧ (T = 0 ∨ 1 ≤ m)
theorem repP_init (l : List Int) (n T : Nat) (hT : T = l.length * n) (Z X : List Value) (hZ : Z.length = T) (hX : X = (l.take T).map (Value.int .i64)) : RepP l n T X.length (splice Z 0 X) := by
  have hXl : X.length = min T l.length := by rw [hX, List.length_map, List.length_take]
  have hs : splice Z 0 X = X ++ Z.drop X.length := by simp [splice]
  have hle : X.length ≤ T := by omega
  refine ⟨?_, hle, ?_, ?_, ?_⟩
  · rw [length_splice _ _ _ (by omega), hZ]
  · rw [hs, List.take_left]
    rcases Nat.eq_zero_or_pos n with h0 | h0
    · have : T = 0 := by rw [hT, h0, Nat.mul_zero]
      have e : X = [] := List.eq_nil_of_length_eq_zero (by omega)
      rw [e]
      simp
    · have hTl : l.length ≤ T := by rw [hT]; exact Nat.le_mul_of_pos_right _ h0
      have e : X.length = l.length := by omega
      obtain ⟨m, rfl⟩ : ∃ m, n = 1 + m := ⟨n - 1, by omega⟩
      rw [e, repL_add]
      have e1 : repL l 1 = l := by unfold repL; simp
      rw [e1, List.take_left, hX, List.take_of_length_le hTl]
  · rcases Nat.eq_zero_or_pos n with h0 | h0
    · left
      have : T = 0 := by rw [hT, h0, Nat.mul_zero]
      omega
    · right
      have hTl : l.length ≤ T := by rw [hT]; exact Nat.le_mul_of_pos_right _ h0
      exact ⟨1, by omega, by omega⟩
  · rcases Nat.eq_zero_or_pos T with h0 | h0
    · exact .inl h0
    · right
      have : 0 < l.length := by
        rcases Nat.eq_zero_or_pos l.length with h | h
        · rw [h, Nat.zero_mul] at hT
          omega
        · exact h
      omega
theorem repP_step (l : List Int) (n T m : Nat) (hT : T = l.length * n) (V : List Value) (h : RepP l n T m V) (hm : m < T) (c : Nat) (hc : c = Nat.min m (T - m)) : RepP l n T (m + c) (splice V m (V.take c)) ∧ 1 ≤ c ∧ c ≤ m ∧ c ≤ T - m := by
  obtain ⟨h1, h2, h3, h4, h5⟩ := h
  have c1 : c ≤ m := by rw [hc]; exact Nat.min_le_left _ _
  have c2 : c ≤ T - m := by rw [hc]; exact Nat.min_le_right _ _
  have c3 : c = m ∨ c = T - m := by rw [hc]; exact (Nat.le_total m (T - m)).elim (fun h => .inl (Nat.min_eq_left h)) (fun h => .inr (Nat.min_eq_right h))
  have hcl : (V.take c).length = c := by rw [List.length_take]; omega
  refine ⟨⟨?_, by omega, ?_, ?_, by omega⟩, by omega, c1, c2⟩
  · rw [length_splice _ _ _ (by omega), h1]
  · obtain ⟨q, q1, rfl⟩ : ∃ q, 1 ≤ q ∧ m = l.length * q := by
      rcases h4 with h4 | h4
      · omega
      · exact h4
    have hqn : q ≤ n := by
      rcases Nat.lt_or_ge n q with h | h
      · have := Nat.mul_le_mul_left l.length (Nat.le_of_lt h)
        omega
      · exact h
    obtain ⟨d, rfl⟩ : ∃ d, n = q + d := ⟨n - q, by omega⟩
    have hTd : T - l.length * q = l.length * d := by rw [hT, Nat.mul_add]; omega
    have e1 : (splice V (l.length * q) (V.take c)).take (l.length * q + c) = V.take (l.length * q) ++ V.take c := by
      unfold splice
      rw [← List.append_assoc, List.take_append_of_le_length (by rw [List.length_append, List.length_take, hcl]; omega), List.take_of_length_le (by rw [List.length_append, List.length_take, hcl]; omega)]
    have e2 : V.take c = ((repL l (q + d)).take c).map (Value.int .i64) := by
      have := congrArg (List.take c) h3
      rw [List.take_take, ← List.map_take, List.take_take, Nat.min_eq_left c1] at this
      exact this
    rw [e1, h3, e2, ← List.map_append, List.take_add]
    congr 2
    have e3 : (repL l (q + d)).drop (l.length * q) = repL l d := by
      rw [repL_add, List.drop_left' (repL_length l q)]
    rw [e3, Nat.add_comm q d, repL_add, List.take_append_of_le_length (by rw [repL_length]; omega)]
  · rcases c3 with e | e
    · rcases h4 with h4 | ⟨q, q1, q2⟩
      · omega
      · right
        exact ⟨q + q, by omega, by rw [e, Nat.mul_add]; omega⟩
    · left; omega
def slices_Repeat_int64_int64.f (l0 : List Int) (a1 : Int) : Option (List Int) := if 0 ≤ a1 ∧ a1 < 4294967296 ∧ l0.length < 4294967296 ∧ l0.length * a1.toNat < 17592186044416 then some (repL l0 a1.toNat) else none
set_option maxHeartbeats 8000000 in
set_option maxRecDepth 100000 in
theorem slices_Repeat_int64_int64.calls (A0 : Option Addr) (c0 : Nat) (l0 : List Int) (a1 : Int) (r : List Int) (w : World) (hr0 : Kd.C (Kd.int .i64) w A0 l0.length l0) (hc0 : l0.length ≤ c0) (h : slices_Repeat_int64_int64.f l0 a1 = some r) :
    Calls Try.prog 42 #[.slice A0 l0.length c0, .int .i64 a1] w fun e w' => ∃ v0_ : Value, e = .returned (v0_) ∧ Kd.R (Kd.int .i64) 2 w' w.heap.size (fun _ => True) v0_ r ∧ Below w.heap.size w w' := by
  unfold slices_Repeat_int64_int64.f at h
  by_cases hq : 0 ≤ a1 ∧ a1 < 4294967296 ∧ l0.length < 4294967296 ∧ l0.length * a1.toNat < 17592186044416
  · rw [if_pos hq] at h
    obtain rfl := Option.some.inj h
    clear h
    obtain ⟨q0, q1, q2, q3⟩ := hq
    obtain ⟨n, rfl⟩ : ∃ n : Nat, a1 = (n : Int) := ⟨a1.toNat, by omega⟩
    rw [Int.toNat_natCast] at q3 ⊢
    obtain ⟨T, hT⟩ : ∃ T, T = l0.length * n := ⟨_, rfl⟩
    have hmul := mul_small l0.length n (by omega) (by omega) q3
    rw [← hT] at q3 hmul
    have c1 : decide ((n : Int) < 0) = false := decide_eq_false (by omega)
    have hwl : IntKind.u64.wrap (l0.length : Int) = (l0.length : Int) := u64w _ (by omega) (by omega)
    have hwn : IntKind.u64.wrap (n : Int) = (n : Int) := u64w _ (by omega) (by omega)
    have hM := fun V => bits_Mul.calls (l0.length : Int) (n : Int) 0 (T : Int) V hmul
    have hwT : IntKind.i64.wrap (T : Int) = (T : Int) := by rw [IntKind.wrap_i64]; omega
    have hmk := run_make_row' (P := Try.prog) 22 2 (.int .i64 0) 8 Try.underlying22 info2 rfl .i64 .i64 T (by omega) (by omega)
    have c2 : decide ((9223372036854775807 : Int) < (T : Int)) = false := decide_eq_false (by omega)
    obtain ⟨Z, hZ⟩ : ∃ Z : List Value, Z = (madeCells #[Value.int .i64 0] T).toList := ⟨_, rfl⟩
    have hZl : Z.length = T := by rw [hZ]; simp [madeCells]
    obtain ⟨X1, hX1⟩ : ∃ X1 : List Value, X1 = (l0.take T).map (Value.int .i64) := ⟨_, rfl⟩
    have hXl : X1.length = Nat.min l0.length T := by rw [hX1, List.length_map, List.length_take]; exact Nat.min_comm _ _
    have hS : ∀ V : World, Below w.heap.size w V → 0 < X1.length → ∃ ad, A0 = some ad ∧ ∀ j v, X1[j]? = some v → V.cell? (ad.add j) = some v := by
      intro V hV hpos
      have hlen : 0 < l0.length := by rw [hXl] at hpos; exact Nat.lt_of_lt_of_le hpos (Nat.min_le_left _ _)
      obtain ⟨ad, e, -⟩ := Kd.at_int hr0 0 (by omega) (by omega)
      refine ⟨ad, e, fun j v hv => ?_⟩
      have hj : j < X1.length := (List.getElem?_eq_some_iff.1 hv).1
      have hj2 : j < l0.length := by rw [hXl] at hj; exact Nat.lt_of_lt_of_le hj (Nat.min_le_left _ _)
      have hj3 : j < T := by rw [hXl] at hj; exact Nat.lt_of_lt_of_le hj (Nat.min_le_right _ _)
      obtain ⟨ad2, e2, hx⟩ := Kd.at_int hr0 (j : Int) (by omega) (by omega)
      obtain rfl : ad2 = ad := Option.some.inj (e2.symm.trans e)
      rw [Int.toNat_natCast] at hx
      have := (hV.cell (World.block_lt_of_cell? w _ hx)).trans hx
      rw [this]
      rw [hX1, List.getElem?_map, List.getElem?_take, if_pos hj3, List.getElem?_eq_getElem hj2] at hv
      rw [← hv]
      unfold rd
      rw [Int.toNat_natCast, List.getD_eq_getElem?_getD, List.getElem?_eq_getElem hj2]
      rfl
    have h1c : ∀ v ∈ X1, v.oneCell' = true := by
      intro v hv
      rw [hX1] at hv
      obtain ⟨x, _, rfl⟩ := List.mem_map.1 hv
      rfl
    have HZ := Aside0.mk hZ
    have HZl := Aside0.mk hZl
    have HX1 := Aside0.mk hX1
    have HXl := Aside0.mk hXl
    have HS := Aside0.mk hS
    have H1c := Aside0.mk h1c
    clear hZ hZl hX1 hXl hS h1c
    have HR := Aside0.mk hr0
    have HC := Aside0.mk hc0
    have HT := Aside0.mk hT
    have HQ := Aside0.mk q3
    have HB := Aside0.mk (Below.refl w.heap.size w)
    clear hr0 hc0 hT q0 q1 q2 q3 hmul
    go_enter Try.func42, Try.ntmps42
    go_wp2_with (first | (go_at_call 76; refine (hM _).mono ?_; rintro e w' ⟨rfl, ⟨nd, rfl⟩⟩) | ((with_reducible refine wpList_copy_splice rfl (.tmp 31) (.tmp 32) 22 22 rfl 2 Try.underlying22 (by kernel_rfl) (some ⟨w.heap.size, 0, none⟩) A0 T T l0.length c0 rfl rfl w.heap.size 0 Z 2 ?g1 X1 HXl.out ?g3 ?g4 H1c.out w.heap.size w ?g6 (Nat.le_refl _) ?_); (case g1 => (rw [HZ.out, Array.toArray_toList]; exact heap_alloc_new _ _)); (case g3 => exact fun hp => ⟨rfl, HS.out _ (by repeat (first | (with_reducible first | exact HB.out | apply below_alloc | apply pw_below_drewN | apply below_drew1) | exact HB.out)) hp⟩); (case g4 => (have h1_ := HXl.out; have h2_ : Nat.min l0.length T ≤ T := Nat.min_le_right _ _; rw [← h1_] at h2_; have h3_ := HZl.out; omega)); (case g6 => exact (by repeat (first | (with_reducible first | exact HB.out | apply below_alloc | apply pw_below_drewN | apply below_drew1) | exact HB.out))); intro w2 HG2 HB2))
    have HP := repP_init l0 n T HT.out Z X1 HZl.out HX1.out
    generalize splice Z 0 X1 = V0 at HG2 HP
    generalize X1.length = m0 at HP
    go_loopg [8] (T + 1) (fun kq v8 w' => ∃ (m : Nat) (V : List Value), v8 = .int .i64 (m : Int) ∧ Aside0 (RepP l0 n T m V) ∧ Aside0 (T - m < kq) ∧ Aside0 (w'.heap[w.heap.size]? = some (.cells V.toArray 2 (0, 0))) ∧ Aside0 (Below w.heap.size w w'))
    case atStart => exact ⟨m0, V0, (by first | rfl | (simp; done) | (simp [goInt]; done)), ⟨HP⟩, ⟨by omega⟩, ⟨HG2.out⟩, ⟨HB2⟩⟩
    case round =>
      obtain ⟨m, V, rfl, HPm, HM, HG, HB⟩ := hrel
      cases gk with
      | zero => exact absurd HM.out (by omega)
      | succ k1 =>
        by_cases c4 : m < T
        · have c4b0 : decide ((m : Int) < (T : Int)) = true := decide_eq_true (by omega)
          obtain ⟨c, hc⟩ : ∃ c, c = Nat.min m (T - m) := ⟨_, rfl⟩
          have hst := repP_step l0 n T m HT.out V HPm.out c4 c hc
          obtain ⟨C, hC⟩ : ∃ C, C = V.take c := ⟨_, rfl⟩
          rw [← hC] at hst
          have hVl := HPm.out.1
          have hCl : C.length = c := by rw [hC, List.length_take]; omega
          have s1 := Aside0.mk (show wr.drew.heap[w.heap.size]? = some (.cells V.toArray 2 (0, 0)) from HG.out)
          have s2 := Aside0.mk (show C.length = Nat.min m (T - m) by rw [hCl, hc])
          have s3 := Aside0.mk (show 0 < C.length → some (⟨w.heap.size, m, none⟩ : Addr) = some ⟨w.heap.size, m, none⟩ ∧ ∃ ad, some (⟨w.heap.size, 0, none⟩ : Addr) = some ad ∧ ∀ j v, C[j]? = some v → wr.drew.cell? (ad.add j) = some v from fun _ => ⟨rfl, _, rfl, fun j v hv => by
            have hj : j < C.length := (List.getElem?_eq_some_iff.1 hv).1
            rw [hC, List.getElem?_take, if_pos (by omega)] at hv
            rw [Addr.add_lit, Nat.zero_add]
            exact (blk_cell s1.out j).trans (by rw [List.getElem?_toArray]; exact hv)⟩)
          have s4 := Aside0.mk (show m + C.length ≤ V.length by omega)
          have s5 := Aside0.mk (show ∀ v ∈ C, v.oneCell' = true from fun v hv => by
            have h3 := HPm.out.2.2.1
            have h6 : v ∈ V.take m := by
              rw [hC, show V.take c = (V.take m).take c by rw [List.take_take, Nat.min_eq_left hst.2.2.1]] at hv
              exact List.mem_of_mem_take hv
            rw [h3] at h6
            obtain ⟨x, _, rfl⟩ := List.mem_map.1 h6
            rfl)
          have s6 := Aside0.mk (show Below w.heap.size w wr.drew from below_drew1 HB.out)
          have hcc := Aside0.mk hst.2
          have HP2 := Aside0.mk hst.1
          have HCl := Aside0.mk hCl
          have C4 := Aside0.mk c4
          have p1 : (0 ≤ (m : Int)) = True := eq_true (by omega)
          have p2 : ((m : Int) ≤ (T : Int)) = True := eq_true (by omega)
          have p3 : (T = m) = False := eq_false (by omega)
          have p4 : (m = T) = False := eq_false (by omega)
          have p5 : (m ≤ T) = True := eq_true (by omega)
          have hsum : IntKind.i64.wrap ((m : Int) + (C.length : Int)) = ((m + c : Nat) : Int) := by rw [IntKind.wrap_i64]; have := HQ.out; have := hst.2.2.2; omega
          clear hst hC hCl hVl c4 hc
          go_wp2
          refine start_ (n := 10) (S := fun w' => True) (ds := []) #[false, false, false, false, false, false, false, false, false, false] (by kernel_rfl) rfl rfl trivial (fun hHeld => ?_)
          refine pure_ (i := 0) (N := some 38) (v := ?_) (a' := ?_) #[true, false, false, false, false, false, false, false, false, false] rfl rfl (by kernel_rfl) (fun _ _ _ h => h) (Or.inl ⟨by rfl, ?_⟩) ?_ ?_
          rotate_left
          · intro w'
            go_simp
            with_reducible rfl
          rotate_left
          · simp only [Act.put, List.setIfInBounds_toArray, List.set_cons_zero, List.set_cons_succ, i64_w, i32_w]
            rfl
          refine pure_ (i := 1) (N := some 39) (v := ?_) (a' := ?_) #[true, true, false, false, false, false, false, false, false, false] rfl rfl (by kernel_rfl) (fun _ _ _ h => h) (Or.inl ⟨by rfl, ?_⟩) ?_ ?_
          rotate_left
          · intro w'
            go_simp
            with_reducible rfl
          rotate_left
          · simp only [Act.put, List.setIfInBounds_toArray, List.set_cons_zero, List.set_cons_succ, i64_w, i32_w]
            rfl
          refine pure_ (i := 2) (N := some 40) (v := ?_) (a' := ?_) #[true, true, true, false, false, false, false, false, false, false] rfl rfl (by kernel_rfl) (fun _ _ _ h => h) (Or.inl ⟨by rfl, ?_⟩) ?_ ?_
          rotate_left
          · intro w'
            go_simp
            with_reducible rfl
          rotate_left
          · simp only [Act.put, List.setIfInBounds_toArray, List.set_cons_zero, List.set_cons_succ, i64_w, i32_w]
            rfl
          refine pure_ (i := 3) (N := some 41) (v := ?_) (a' := ?_) #[true, true, true, true, false, false, false, false, false, false] rfl rfl (by kernel_rfl) (fun _ _ _ h => h) (Or.inl ⟨by rfl, ?_⟩) ?_ ?_
          rotate_left
          · intro w'
            go_simp
            with_reducible rfl
          rotate_left
          · simp only [Act.put, List.setIfInBounds_toArray, List.set_cons_zero, List.set_cons_succ, i64_w, i32_w]
            rfl
          refine pure_ (i := 4) (N := some 42) (v := ?_) (a' := ?_) #[true, true, true, true, true, false, false, false, false, false] rfl rfl (by kernel_rfl) (fun _ _ _ h => h) (Or.inl ⟨by rfl, ?_⟩) ?_ ?_
          rotate_left
          · intro w'
            go_simp
            with_reducible rfl
          rotate_left
          · simp only [Act.put, List.setIfInBounds_toArray, List.set_cons_zero, List.set_cons_succ, i64_w, i32_w]
            rfl
          refine pure_ (i := 5) (N := some 43) (v := ?_) (a' := ?_) #[true, true, true, true, true, true, false, false, false, false] rfl rfl (by kernel_rfl) (fun _ _ _ h => h) (Or.inl ⟨by rfl, ?_⟩) ?_ ?_
          rotate_left
          · intro w'
            go_simp
            with_reducible rfl
          rotate_left
          · simp only [Act.put, List.setIfInBounds_toArray, List.set_cons_zero, List.set_cons_succ, i64_w, i32_w]
            rfl
          refine pure_ (i := 6) (N := some 44) (v := ?_) (a' := ?_) #[true, true, true, true, true, true, true, false, false, false] rfl rfl (by kernel_rfl) (fun _ _ _ h => h) (Or.inl ⟨by rfl, ?_⟩) ?_ ?_
          rotate_left
          · intro w'
            go_simp
            with_reducible rfl
          rotate_left
          · simp only [Act.put, List.setIfInBounds_toArray, List.set_cons_zero, List.set_cons_succ, i64_w, i32_w]
            rfl
          refine one_ (i := 7) (N := some 45) #[true, true, true, true, true, true, true, true, false, false] rfl rfl (by kernel_rfl) (by decide) (fun K hK => ?_)
          refine step_copy_splice rfl (.tmp 41) (.tmp 44) 22 22 rfl 2 Try.underlying22 (by kernel_rfl) (some ⟨w.heap.size, m, none⟩) (some ⟨w.heap.size, 0, none⟩) (T - m) (T - m) m T (by simp [Act.eval]) (by simp [Act.eval]) w.heap.size m V 2 s1.out C s2.out (fun hp => ⟨rfl, (s3.out hp).2⟩) s4.out s5.out w.heap.size w s6.out (Nat.le_refl _) ?_
          intro w3 HG3 HB3
          refine hK.out _ _ trivial (fun hHeld => ?_)
          clear hK K
          refine norm_ (a' := ?_) ?_ ?_
          rotate_left
          · show Act.put _ (some 45) _ = _
            simp only [Act.put, List.setIfInBounds_toArray, List.set_cons_zero, List.set_cons_succ, i64_w, i32_w]
            rfl
          refine pure_ (i := 8) (N := some 46) (v := ?_) (a' := ?_) #[true, true, true, true, true, true, true, true, true, false] rfl rfl (by kernel_rfl) (fun _ _ _ h => h) (Or.inl ⟨by rfl, ?_⟩) ?_ ?_
          rotate_left
          · intro w'
            go_simp
            with_reducible rfl
          rotate_left
          · simp only [Act.put, List.setIfInBounds_toArray, List.set_cons_zero, List.set_cons_succ, i64_w, i32_w]
            rfl
          refine pure_ (i := 9) (N := some 8) (v := ?_) (a' := ?_) #[true, true, true, true, true, true, true, true, true, true] rfl rfl (by kernel_rfl) (fun _ _ _ h => h) (Or.inl ⟨by rfl, ?_⟩) ?_ ?_
          rotate_left
          · intro w'
            go_simp
            with_reducible rfl
          rotate_left
          · simp only [Act.put, List.setIfInBounds_toArray, List.set_cons_zero, List.set_cons_succ, i64_w, i32_w]
            rfl
          refine done_ (by kernel_rfl) ?_
          go_wp2
          go_roundg k1
          case measure => omega
          case rel => exact ⟨m + c, splice V m C, (by first | rfl | (simp; done)), ⟨HP2.out⟩, ⟨by have := HM.out; have := hcc.out; have := C4.out; omega⟩, ⟨HG3⟩, ⟨HB3⟩⟩
          exact absurd C4.out (by assumption)
        · have c4b0 : decide ((m : Int) < (T : Int)) = false := decide_eq_false (by omega)
          have c4d := eq_false c4
          have c4e : ((m : Int) < (T : Int)) = False := eq_false (by omega)
          have c4f : (T ≤ m) = True := eq_true (by omega)
          go_wp2
          go_ret
          refine ⟨.slice (some ⟨w.heap.size, 0, none⟩) T T, rfl, ?_, by repeat (first | (with_reducible first | exact HB.out | apply below_alloc | apply pw_below_drewN | apply below_drew1) | exact HB.out)⟩
          have hmT : m = T := by have := HPm.out.2.1; omega
          have hlen : (repL l0 n).length = T := by rw [repL_length, HT.out]
          have hV : V = (repL l0 n).map (Value.int .i64) := by
            have h3 := HPm.out.2.2.1
            rw [hmT, List.take_of_length_le (Nat.le_of_eq HPm.out.1), List.take_of_length_le (Nat.le_of_eq hlen)] at h3
            exact h3
          refine ⟨fun _ _ => trivial, V, ⟨?_, .inr ⟨w.heap.size, T, V.toArray, by rw [hlen], Nat.le_refl _, HG.out, Nat.le_of_eq hlen, ?_, ?_, ?_⟩⟩, by rw [hV]; exact Kd.reps_scalar _⟩
          · rw [HPm.out.1, hlen]
            exact (Nat.mul_one _).symm
          · have := HQ.out
            simp only [maxLen]
            omega
          · rw [List.size_toArray, HPm.out.1]
            exact (Nat.mul_one _).symm
          · rw [hlen]
            exact List.take_of_length_le (by rw [HPm.out.1]; exact Nat.le_of_eq (Nat.mul_one _).symm)
  · rw [if_neg hq] at h
    exact absurd h (by simp)


end Go.Proofs.Ytjaanhnmgipmeaa.X
