import Derived.Test.YtdkhecebffjpjaaU
import Derived.Test.YtdkhecebffjpjaaY0
namespace Go.Proofs.Ytdkhecebffjpjaa.X
open Go.RowKit Go.Proofs.YtdkhecebffjpjaaW.PrintWords Go.Proofs.YtdkhecebffjpjaaW.PrintLast Go.Proofs.YtdkhecebffjpjaaW.PrintMore
attribute [local go_sem] max2_int min2_int max_two min_two max_three min_three max_four min_four
set_option linter.unusedVariables false
set_option linter.unusedSimpArgs false
/-! ### impl_Class_30: function 30, by hand -/
def PredC (g : Nat) (lb : Array Value) (p : S40 → Bool) (l : List S40) (w : World) : Prop :=
 ∀ (W : World) (x : S40), x ∈ l → Below w.heap.size w W → Calls Try.prog g (#[.agg #[.int .i64 x.f0, .int .i64 x.f1]] ++ lb) W fun e w' => e = .returned (.bool (p x)) ∧ Below W.heap.size W w'
theorem rdC_nat (l : List S40) (i : Nat) (h : i < l.length) : rd_T40 l (i : Int) = l[i] := by
 unfold rd_T40
 rw [Int.toNat_natCast, List.getD_eq_getElem?_getD, List.getElem?_eq_getElem h]
 rfl
theorem rdC_mem (l : List S40) (i : Nat) (h : i < l.length) : rd_T40 l (i : Int) ∈ l := by
 rw [rdC_nat l i h]
 exact List.getElem_mem h
def idxC (p : S40 → Bool) (l : List S40) : Int := match l.findIdx? p with | some i => (i : Int) | none => -1
theorem idxC_hit (p : S40 → Bool) (l : List S40) (k : Nat) (hk : k < l.length) (A : ∀ j : Nat, j < k → p (rd_T40 l (j : Int)) = false) (h : p (rd_T40 l (k : Int)) = true) : idxC p l = (k : Int) := by
 unfold idxC
 have : l.findIdx? p = some k := by
  rw [List.findIdx?_eq_some_iff_getElem]
  refine ⟨hk, by rw [← rdC_nat l k hk]; exact h, fun j hj => ?_⟩
  have := A j hj
  rw [rdC_nat l j (by omega)] at this
  simp [this]
 rw [this]
theorem idxC_miss (p : S40 → Bool) (l : List S40) (A : ∀ j : Nat, j < l.length → p (rd_T40 l (j : Int)) = false) : idxC p l = -1 := by
 unfold idxC
 have : l.findIdx? p = none := by
  rw [List.findIdx?_eq_none_iff]
  intro x hx
  obtain ⟨j, hj, rfl⟩ := List.getElem_of_mem hx
  have := A j hj
  rw [rdC_nat l j hj] at this
  simp [this]
 rw [this]
theorem idxC_any (p : S40 → Bool) (l : List S40) : decide (0 ≤ idxC p l) = l.any p := by
 unfold idxC
 cases h : l.findIdx? p with
 | none =>
  rw [List.findIdx?_eq_none_iff] at h
  have : l.any p = false := by
   rw [List.any_eq_false]
   intro x hx
   simp [h x hx]
  rw [this]
  simp
 | some i =>
  rw [List.findIdx?_eq_some_iff_getElem] at h
  obtain ⟨hi, hp, _⟩ := h
  have : l.any p = true := List.any_eq_true.mpr ⟨l[i], List.getElem_mem hi, hp⟩
  rw [this]
  simp
set_option maxHeartbeats 4000000 in
set_option maxRecDepth 100000 in
theorem cIndexFunc_at (g : Nat) (lb : Array Value) (eg : ∀ args w, (callFunc g args).run Try.prog w = .ok (.enter g args) w) (p : S40 → Bool) (A0 : Option Addr) (c0 : Nat) (l0 : List S40) (w : World) (hr0 : Kd.C k40 w A0 l0.length l0) (hp : PredC g lb p l0 w) :
  Calls Try.prog 30 #[.slice A0 l0.length c0, .func (.func g) #[] lb] w fun e w' => e = .returned (.int .i64 (idxC p l0)) ∧ Below w.heap.size w w' := by
 have hu40 := Try.underlying40
 have HR0 := am hr0
 have hm0 := Kd.C_max hr0
 clear hr0
 have HP := am hp
 clear hp
 have HB := am (Below.refl w.heap.size w)
 go_enter Try.func30, Try.ntmps30
 go_wp2
 go_loopg [5, 8] l0.length (fun gg _ s8 wr => ∃ kk : Nat, kk ≤ l0.length ∧ l0.length - kk ≤ gg ∧ s8 = .int .i64 kk ∧ Aside0 (Below w.heap.size w wr) ∧ Aside0 (∀ j : Nat, j < kk → p (rd_T40 l0 (j : Int)) = false))
 case atStart => exact ⟨0, Nat.zero_le _, by omega, rfl, HB, ⟨fun j hj => absurd hj (Nat.not_lt_zero _)⟩⟩
 case round =>
  clear HB
  obtain ⟨kk, hkk, hg, rfl, BW, AW⟩ := hrel
  by_cases hlt : kk < l0.length
  ·have hltz : (kk : Int) < (l0.length : Int) := by omega
   have hk0 : (0 : Int) ≤ (kk : Int) := by omega
   obtain ⟨ad, e, hx, hy⟩ := at_T40 HR0.out (kk : Int) hk0 hltz
   cases e
   replace hx := (BW.out.cell (World.block_lt_of_cell? w _ hx)).trans hx
   replace hy := (BW.out.cell (World.block_lt_of_cell? w _ hy)).trans hy
   rw [Int.toNat_natCast] at hx hy
   have hcall := HP.out wr (rd_T40 l0 (kk : Int)) (rdC_mem l0 kk hlt) BW.out
   cases hq : p (rd_T40 l0 (kk : Int)) with
   | true =>
    rw [hq] at hcall
    have Q := am hq
    clear hq
    go_wp2_with (go_at_fn g; refine hcall.mono ?_; rintro e w' ⟨rfl, hb'⟩)
    go_ret
    exact ⟨by rw [idxC_hit p l0 kk hlt AW.out Q.out]; rfl, below_then BW.out BW.out.size hb'⟩
   | false =>
    rw [hq] at hcall
    have Q := am hq
    clear hq
    go_wp2_with (go_at_fn g; refine hcall.mono ?_; rintro e w' ⟨rfl, hb'⟩)
    go_roundg (l0.length - (kk + 1))
    case measure => omega
    case rel =>
     refine ⟨kk + 1, by omega, by omega, by go_num, ⟨below_then BW.out BW.out.size hb'⟩, ⟨fun j hj => ?_⟩⟩
     by_cases e : j = kk
     ·subst e; exact Q.out
     ·exact AW.out j (by omega)
  ·have hltz : ¬ (kk : Int) < (l0.length : Int) := by omega
   have hek : kk = l0.length := by omega
   have Hek := am hek
   clear hek
   go_wp2
   go_ret
   exact ⟨by rw [idxC_miss p l0 (fun j hj => AW.out j (by have := Hek.out; omega))]; rfl, BW.out⟩
set_option maxHeartbeats 4000000 in
set_option maxRecDepth 100000 in
theorem cContainsFunc_at (g : Nat) (lb : Array Value) (eg : ∀ args w, (callFunc g args).run Try.prog w = .ok (.enter g args) w) (p : S40 → Bool) (A0 : Option Addr) (c0 : Nat) (l0 : List S40) (w : World) (hr0 : Kd.C k40 w A0 l0.length l0) (hp : PredC g lb p l0 w) :
  Calls Try.prog 70 #[.slice A0 l0.length c0, .func (.func g) #[] lb] w fun e w' => e = .returned (.bool (l0.any p)) ∧ Below w.heap.size w w' := by
 have h1 := idxC_any p l0
 have H1 := am h1
 clear h1
 have hc := cIndexFunc_at g lb eg p A0 c0 l0 w hr0 hp
 clear hr0 hp
 go_enter Try.func70, Try.ntmps70
 go_wp2_with (go_at_call 30; refine hc.mono ?_; rintro e w' ⟨rfl, hb'⟩)
 go_ret
 exact ⟨by rw [← H1.out]; rfl, hb'⟩
theorem all_not_anyC (p : S40 → Bool) (l : List S40) : (!(l.any fun x => !p x)) = l.all p := by
 induction l with
 | nil => rfl
 | cons a t ih => simp [List.any_cons, List.all_cons, Bool.not_or, ← ih]
set_option maxHeartbeats 4000000 in
set_option maxRecDepth 100000 in
theorem cAreAll_at (g : Nat) (lb : Array Value) (eg : ∀ args w, (callFunc g args).run Try.prog w = .ok (.enter g args) w) (p : S40 → Bool) (A0 : Option Addr) (c0 : Nat) (l0 : List S40) (w : World) (hr0 : Kd.C k40 w A0 l0.length l0) (hp : PredC g lb p l0 w) :
  Calls Try.prog 41 #[.slice A0 l0.length c0, .func (.func g) #[] lb] w fun e w' => e = .returned (.bool (l0.all p)) ∧ Below w.heap.size w w' := by
 have H1 := am (all_not_anyC p l0)
 have hq : ∀ (V : World), Below w.heap.size w V → w.heap.size < V.heap.size → V.cell? ⟨w.heap.size, 0, none⟩ = some (.func (.func g) #[] lb) → PredC 71 #[.pointer (some ⟨w.heap.size, 0, none⟩)] (fun x => !p x) l0 V := by
  intro V hV hs hcell W x hx hb
  have hc' : W.cell? ⟨w.heap.size, 0, none⟩ = some (.func (.func g) #[] lb) := (hb.cell (p := ⟨w.heap.size, 0, none⟩) hs).trans hcell
  have hvw : Below w.heap.size w W := hV.trans (hb.mono hV.size)
  have hcall := fun (V2 : World) (h2 : Below W.heap.size W V2) => hp V2 x hx (below_then hvw hvw.size h2)
  clear hp hcell hb hV
  have HV := am hvw
  clear hvw
  have hcw : ∀ o, (W.alloc o).cell? ⟨w.heap.size, 0, none⟩ = some (.func (.func g) #[] lb) := fun o => ((below_alloc (Below.refl _ _) o).cell (p := ⟨w.heap.size, 0, none⟩) (World.block_lt_of_cell? W _ hc')).trans hc'
  have HB := am (Below.refl W.heap.size W)
  go_enter Try.func71, Try.ntmps71
  go_wp2_with (go_at_fn g; refine (hcall _ ?s7).mono ?_; (case s7 => exact (kB HB)); rintro e w' ⟨rfl, hb'⟩)
  go_ret
  exact ⟨rfl, below_then (kB HB) (below_size (kB HB)) hb'⟩
 go_enter Try.func41, Try.ntmps41
 go_wp2_with (go_at_call 70; refine (cContainsFunc_at 71 _ (enters_of Try.func71 (by kernel_rfl) rfl) (fun x => !p x) A0 c0 l0 _ ?s1 ?s2).mono ?_; (case s1 => exact Kd.C_alloc hr0 _); (case s2 => exact hq _ (below_alloc (Below.refl _ _) _) (by simp) (by simp)); rintro e w' ⟨rfl, hb'⟩)
 go_ret
 exact ⟨by rw [← H1.out]; rfl, below_then (below_alloc (Below.refl _ _) _) (by simp) hb'⟩
-- NOT PRINTED: function 70 (impl_Class_70)
-- NOT PRINTED: function 41 (impl_Class_41)
/-! ### impl_within: function 45, by hand -/
def impl_within.f (a0 : Int) (a1 : Int) (a2 : Int) : Option (Bool) := if a1 ≤ a0 then (some (decide (a0 ≤ a2))) else (some false)
set_option maxHeartbeats 8000000 in
set_option maxRecDepth 100000 in
theorem impl_within.calls (a0 : Int) (a1 : Int) (a2 : Int) (r : Bool) (w : World) (h : impl_within.f a0 a1 a2 = some r) :
  Calls Try.prog 45 #[.int .i64 a0, .int .i64 a1, .int .i64 a2] w fun e w' => e = .returned (.bool r) ∧ Drawn0 w w' := by
 have H : (if a1 ≤ a0 then (some (decide (a0 ≤ a2))) else (some false)) = some r := h
 clear h
 by_cases c4 : a1 ≤ a0
 ·rw [if_pos c4] at H
  have c4b0 : decide (a1 ≤ a0) = true := decide_eq_true c4
  clear c4
  obtain rfl := Option.some.inj H
  go_enter Try.func45, Try.ntmps45
  go_wp2
  go_ret
  exact ⟨by first | rfl | (simp; done) | (simp [*]; done), by repeat (first | exact Drawn0.refl _ | apply Drawn0.step)⟩
 ·rw [if_neg c4] at H
  have c4b0 : decide (a1 ≤ a0) = false := decide_eq_false c4
  clear c4
  obtain rfl := Option.some.inj H
  go_enter Try.func45, Try.ntmps45
  go_wp2
  go_ret
  exact ⟨by first | rfl | (simp; done) | (simp [*]; done), by repeat (first | exact Drawn0.refl _ | apply Drawn0.step)⟩
def withinB (a lo hi : Int) : Bool := decide (lo ≤ a) && decide (a ≤ hi)
theorem within_f (a lo hi : Int) : impl_within.f a lo hi = some (withinB a lo hi) := by
 unfold impl_within.f withinB
 by_cases h : lo ≤ a <;> simp [h]
/-! ### impl_Class_46: function 46 -/
def impl_Class_46.f (l0 : List (S40)) : Option (Int) := some (l0.length : Int)
set_option maxHeartbeats 8000000 in
set_option maxRecDepth 100000 in
theorem impl_Class_46.calls (A0 : Option Addr) (c0 : Nat) (l0 : List (S40)) (r : Int) (w : World) (hr0 : Kd.C k40 w A0 l0.length l0) (hc0 : l0.length ≤ c0) (h : impl_Class_46.f l0 = some r) :
  Calls Try.prog 46 #[.slice A0 l0.length c0] w fun e w' => e = .returned (.int .i64 r) ∧ Drawn0 w w' := by
 have HR0 := am hr0
 have HC0 := am hc0
 clear hr0 hc0
 have H : (some (l0.length : Int)) = some r := h
 clear h
 obtain rfl := Option.some.inj H
 go_enter Try.func46, Try.ntmps46
 go_wp2
 go_ret
 exact ⟨by first | rfl | (simp; done) | (simp [*]; done), by repeat (first | exact Drawn0.refl _ | apply Drawn0.step)⟩
/-! ### impl_AreClasses: function 19, by hand -/
def classOk (x : S40) : Bool := withinB x.f1 1 40 && withinB x.f0 0 (wrap64 (x.f1 - 1))
set_option maxHeartbeats 4000000 in
theorem areClasses1 (l : List S40) (w : World) : PredC 47 #[] classOk l w := by
 intro W x _ _
 have hu40 := Try.underlying40
 have h1 := fun V => impl_within.calls x.f1 1 40 _ V (within_f x.f1 1 40)
 have h2 := fun V => impl_within.calls x.f0 0 (wrap64 (x.f1 - 1)) _ V (within_f x.f0 0 (wrap64 (x.f1 - 1)))
 have HB := am (Below.refl W.heap.size W)
 cases hb : withinB x.f1 1 40 with
 | true =>
  rw [hb] at h1
  have HV := am (show classOk x = withinB x.f0 0 (wrap64 (x.f1 - 1)) by unfold classOk; rw [hb]; rfl)
  clear hb
  go_enter Try.func47, Try.ntmps47
  go_wp2_with (first | (go_at_call 45; (with_reducible refine (h1 _).mono ?_); rintro e w' ⟨rfl, ⟨m1, rfl⟩⟩) | (go_at_call 45; (with_reducible refine (h2 _).mono ?_); rintro e w' ⟨rfl, ⟨m2, rfl⟩⟩))
  go_ret
  exact ⟨by rw [HV.out]; rfl, kB HB⟩
 | false =>
  rw [hb] at h1
  have HV := am (show classOk x = false by unfold classOk; rw [hb]; rfl)
  clear hb h2
  go_enter Try.func47, Try.ntmps47
  go_wp2_with (go_at_call 45; (with_reducible refine (h1 _).mono ?_); rintro e w' ⟨rfl, ⟨m1, rfl⟩⟩)
  go_ret
  exact ⟨by rw [HV.out]; rfl, kB HB⟩
def areClassesB (l : List S40) : Bool := withinB (l.length : Int) 1 8 && l.all classOk
def impl_AreClasses.f (l0 : List S40) : Option Bool := some (areClassesB l0)
set_option maxHeartbeats 8000000 in
set_option maxRecDepth 100000 in
theorem impl_AreClasses.calls (A0 : Option Addr) (c0 : Nat) (l0 : List S40) (r : Bool) (w : World) (hr0 : Kd.C k40 w A0 l0.length l0) (hc0 : l0.length ≤ c0) (h : impl_AreClasses.f l0 = some r) :
  Calls Try.prog 19 #[.slice A0 l0.length c0] w fun e w' => e = .returned (.bool r) ∧ Below w.heap.size w w' := by
 obtain rfl := Option.some.inj h
 clear h
 have HR := am hr0
 have HC := am hc0
 have HB := am (Below.refl w.heap.size w)
 clear hr0 hc0
 cases hb : withinB (l0.length : Int) 1 8 with
 | true =>
  have HV := am (show areClassesB l0 = l0.all classOk by unfold areClassesB; rw [hb]; rfl)
  have HW := fun W => impl_within.calls (l0.length : Int) 1 8 true W (by rw [within_f, hb])
  clear hb
  go_enter Try.func19, Try.ntmps19
  go_wp2_with (first | (go_at_call 46; refine (impl_Class_46.calls _ _ l0 _ _ ?s1 HC.out rfl).mono ?_; (case s1 => exact kC HR.out); rintro e w' ⟨rfl, ⟨m1, rfl⟩⟩) | (go_at_call 45; refine (HW _).mono ?_; rintro e w' ⟨rfl, ⟨m2, rfl⟩⟩) | (go_at_call 41; refine (cAreAll_at 47 #[] (enters_of Try.func47 (by kernel_rfl) rfl) classOk _ _ l0 _ ?s2 (areClasses1 _ _)).mono ?_; (case s2 => exact kC HR.out); rintro e w' ⟨rfl, hb'⟩))
  go_ret
  exact ⟨by rw [HV.out]; rfl, below_then (kB HB) (below_size (kB HB)) hb'⟩
 | false =>
  have HV := am (show areClassesB l0 = false by unfold areClassesB; rw [hb]; rfl)
  have HW := fun W => impl_within.calls (l0.length : Int) 1 8 false W (by rw [within_f, hb])
  clear hb
  go_enter Try.func19, Try.ntmps19
  go_wp2_with (first | (go_at_call 46; refine (impl_Class_46.calls _ _ l0 _ _ ?s3 HC.out rfl).mono ?_; (case s3 => exact kC HR.out); rintro e w' ⟨rfl, ⟨m1, rfl⟩⟩) | (go_at_call 45; refine (HW _).mono ?_; rintro e w' ⟨rfl, ⟨m2, rfl⟩⟩))
  go_ret
  exact ⟨by rw [HV.out]; rfl, kB HB⟩
/-! ### impl_gapsOf: function 27 -/
def impl_gapsOf.l0 : Nat → List (S40) → Int → Int → List Int → Option (List Int)
 | 0, _, _, _, _ => none
 | k + 1, x6, x7, x8, x292000 => if x8 < x7 then (if 0 ≤ x8 then (if x8 < (x6.length : Int) then (if x292000.length < 17592186044416 then (impl_gapsOf.l0 k x6 x7 (wrap64 (x8 + 1)) (x292000 ++ [(rd_T40 x6 x8).f1])) else (none)) else (none)) else (none)) else (some x292000)
def impl_gapsOf.f (k : Nat) (l0 : List (S40)) : Option (List Int) := impl_gapsOf.l0 k l0 (l0.length : Int) 0 ([] : List Int)
theorem impl_gapsOf.mono_l : ∀ k, (∀ y0 y1 y2 y3, LeO (impl_gapsOf.l0 k y0 y1 y2 y3) (impl_gapsOf.l0 (k + 1) y0 y1 y2 y3))
 | 0 => fun _ _ _ _ r h => by simp [impl_gapsOf.l0] at h
 | k + 1 => by
  have ih0 := impl_gapsOf.mono_l k
  ·intro y0 y1 y2 y3
   unfold impl_gapsOf.l0
   repeat' first
   | with_reducible first | exact ih0 _ _ _ _ | exact LeO.refl _ | exact LeO.none _ | refine LeO.ite ?_ ?_ | refine LeO.bind ?_ (fun _ => ?_)
   | exact ih0 _ _ _ _
   | exact LeO.none _
   | refine LeO.ite ?_ ?_
   | refine LeO.bind ?_ (fun _ => ?_)
theorem impl_gapsOf.mono : ∀ a0 k, LeO (impl_gapsOf.f k a0) (impl_gapsOf.f (k + 1) a0) := by
 intro a0 k
 have ih0 := impl_gapsOf.mono_l k
 unfold impl_gapsOf.f
 repeat' first
   | with_reducible first | exact ih0 _ _ _ _ | exact LeO.refl _ | exact LeO.none _ | refine LeO.ite ?_ ?_ | refine LeO.bind ?_ (fun _ => ?_)
   | exact ih0 _ _ _ _
   | exact LeO.none _
   | refine LeO.ite ?_ ?_
   | refine LeO.bind ?_ (fun _ => ?_)
set_option maxHeartbeats 8000000 in
set_option maxRecDepth 100000 in
theorem impl_gapsOf.calls (k : Nat) (A0 : Option Addr) (c0 : Nat) (l0 : List (S40)) (r : List Int) (w : World) (hr0 : Kd.C k40 w A0 l0.length l0) (hc0 : l0.length ≤ c0) (h : impl_gapsOf.f k l0 = some r) :
  Calls Try.prog 27 #[.slice A0 l0.length c0] w fun e w' => ∃ v0_ : Value, e = .returned (.agg #[v0_]) ∧ Kd.R (Kd.int .i64) 2 w' w.heap.size (fun _ => True) v0_ r ∧ Below w.heap.size w w' := by
 have hu43 := Try.underlying43
 have hu40 := Try.underlying40
 have HR0 := am hr0
 have HC0 := am hc0
 clear hr0 hc0
 have HB := am (Below.refl w.heap.size w)
 have H : (impl_gapsOf.l0 k l0 (l0.length : Int) 0 ([] : List Int)) = some r := h
 clear h
 have H' := am H
 clear H
 go_enter Try.func27, Try.ntmps27
 go_wp2_with (first | ((with_reducible refine gate_dst (N := 2) rfl ?_); refine box_event ?hg (N := 2) ?hd (cs := #[.slice none 0 0]) (t := 43) ?hr ?_; (case hd => rfl); (case hg => rfl); (case hr => first | (go_simp; done) | (go_simp; rfl)); intro gb290 hg w2 hbox hb; have n0_ := am (below_step (kB HB) hb); have n1_ := am (hbox); have n2_ := am ((by rw [hg]; exact (below_size (kB HB)) : w.heap.size ≤ gb290)); have n3_ := am ((by rw [hg]; exact (below_size (kB HB)) : w.heap.size ≤ gb290)); clear HB; have HB := n0_; have BK290 := n1_; have GW290 := n2_; have GE290 := n3_; clear n0_ n1_ n2_ n3_; clear hb hbox hg) | ((with_reducible refine gate_dst (N := 3) rfl ?_); refine box_event ?hg (N := 3) ?hd (cs := #[.slice none 0 0]) (t := 43) ?hr ?_; (case hd => rfl); (case hg => rfl); (case hr => first | (go_simp; done) | (go_simp; rfl)); intro gb291 hg w3 hbox hb; have n0_ := am (blk_below (g := gb290) (o := .cells #[.slice none 0 0] 43 (0, 0)) (kK BK290) hb); have n1_ := am (below_step (kB1 HB GE290.out) hb); have n2_ := am (hbox); have n3_ := am ((by rw [hg]; exact (below_size (kB1 HB GE290.out)) : w.heap.size ≤ gb291)); have n4_ := am ((by rw [hg]; exact (below_size (kB1 HB GE290.out)) : w.heap.size ≤ gb291)); have n5_ := am ((by rw [hg]; exact Nat.ne_of_lt (blk_lt (g := gb290) (o := .cells #[.slice none 0 0] 43 (0, 0)) (kK BK290)) : gb290 ≠ gb291)); have n6_ := am ((by rw [hg]; exact Nat.ne_of_gt (blk_lt (g := gb290) (o := .cells #[.slice none 0 0] 43 (0, 0)) (kK BK290)) : gb291 ≠ gb290)); clear BK290 HB; have BK290 := n0_; have HB := n1_; have BK291 := n2_; have GW291 := n3_; have GE291 := n4_; have NB290_291 := n5_; have NB291_290 := n6_; clear n0_ n1_ n2_ n3_ n4_ n5_ n6_; clear hb hbox hg))
 go_loopg [8] k (fun kq v8 w' => ∃ (x8_1 : Int) (x292000_1 : List Int) (u292000 : Value), v8 = .int .i64 x8_1 ∧ Aside0 (impl_gapsOf.l0 kq l0 (l0.length : Int) x8_1 x292000_1 = some r) ∧ Aside0 (kq ≤ k) ∧ Aside0 (Kd.R (Kd.int .i64) 2 w' w.heap.size (fun _ => True) u292000 x292000_1) ∧ Aside0 (w'.heap[gb290]? = some (.cells #[(.slice none 0 0)] 43 (0, 0))) ∧ Aside0 (w'.heap[gb291]? = some (.cells #[u292000] 43 (0, 0))) ∧ Aside0 (Below w.heap.size w w'))
 case atStart => exact ⟨(0), (([] : List Int)), (.slice none 0 0), (by first | rfl | (simp; done) | (simp [*]; done)), H', ⟨Nat.le_refl _⟩, ⟨by first | exact Kd.R_nil _ _ _ _ _ | exact Kd.N_nil _ _ _ _ _ | exact Kd.V_nil _ _ _ _ _ | exact Kd.Q_nil _ _ _ _ _ | exact Kd.S_nil _ _ _ _ _⟩, ⟨kK BK290⟩, ⟨kK BK291⟩, ⟨kB2 HB GE290.out GE291.out⟩⟩
 case round =>
  clear H'
  obtain ⟨x8_1, x292000_1, u292000, rfl, HA, HK1, HO_292000, BK290, BK291, HB⟩ := hrel
  cases gk with
  | zero => exact absurd HA.out (by simp [impl_gapsOf.l0])
  | succ k1 =>
   have H := HA.out
   clear HA
   simp only [impl_gapsOf.l0] at H
   by_cases c4 : x8_1 < (l0.length : Int)
   ·rw [if_pos c4] at H
    have c4b0 : decide (x8_1 < (l0.length : Int)) = true := decide_eq_true c4
    clear c4
    by_cases c5 : 0 ≤ x8_1
    ·rw [if_pos c5] at H
     have c5b0 : decide (0 ≤ x8_1) = true := decide_eq_true c5
     clear c5
     by_cases c6 : x8_1 < (l0.length : Int)
     ·rw [if_pos c6] at H
      have c6b0 : decide (x8_1 < (l0.length : Int)) = true := decide_eq_true c6
      clear c6
      by_cases c7 : x292000_1.length < 17592186044416
      ·rw [if_pos c7] at H
       have LMc7 := am c7
       clear c7
       obtain ⟨y294, hy294⟩ : ∃ y_ : List Int, y_ = (x292000_1 ++ [(rd_T40 l0 x8_1).f1]) := ⟨_, rfl⟩
       replace H : (impl_gapsOf.l0 k1 l0 (l0.length : Int) (wrap64 (x8_1 + 1)) y294) = some r := by first | (rw [hy294]; with_reducible exact H) | (have H2_ := (Option.bind_some _ _).symm.trans H; rw [hy294]; with_reducible exact H2_) | (have H2_ := (Option.bind_some _ _).symm.trans H; with_reducible exact H2_) | with_reducible exact H | (rw [hy294]; exact H) | exact H
       have Ny294 := am hy294
       clear hy294
       have H' := am H
       clear H
       have p292 : 0 ≤ (x8_1 : Int) := of_decide_eq_true kM
       have q292 : x8_1 < (l0.length : Int) := of_decide_eq_true kM
       obtain ⟨ad292, e292, hx292_0, hx292_1⟩ := at_T40 HR0.out x8_1 p292 q292
       cases e292
       replace hx292_0 := (HB.out.cell (World.block_lt_of_cell? w _ hx292_0)).trans hx292_0
       replace hx292_1 := (HB.out.cell (World.block_lt_of_cell? w _ hx292_1)).trans hx292_1
       replace p292 := eq_true p292
       replace q292 := eq_true q292
       go_wp2_with (first | ((with_reducible refine gate_dst (N := 5) rfl ?_); refine box_event ?hg (N := 5) ?hd (cs := #[.int .i64 0, .int .i64 0]) (t := 40) ?hr ?_; (case hd => rfl); (case hg => rfl); (case hr => first | (go_simp; done) | (go_simp; rfl)); intro gb293 hg w8 hbox hb; have n0_ := am (Kd.R_below (kR HO_292000) hb); have n1_ := am (blk_below (g := gb290) (o := .cells #[.slice none 0 0] 43 (0, 0)) (kK BK290) hb); have n2_ := am (blk_below (g := gb291) (o := .cells #[u292000] 43 (0, 0)) (kK BK291) hb); have n3_ := am (below_step (kB2 HB GE290.out GE291.out) hb); have n4_ := am (hbox); have n5_ := am ((by rw [hg]; exact (below_size (kB2 HB GE290.out GE291.out)) : w.heap.size ≤ gb293)); have n6_ := am ((by rw [hg]; exact (below_size (kB2 HB GE290.out GE291.out)) : w.heap.size ≤ gb293)); have n7_ := am ((by rw [hg]; exact Nat.ne_of_lt (blk_lt (g := gb290) (o := .cells #[.slice none 0 0] 43 (0, 0)) (kK BK290)) : gb290 ≠ gb293)); have n8_ := am ((by rw [hg]; exact Nat.ne_of_gt (blk_lt (g := gb290) (o := .cells #[.slice none 0 0] 43 (0, 0)) (kK BK290)) : gb293 ≠ gb290)); have n9_ := am ((by rw [hg]; exact Nat.ne_of_lt (blk_lt (g := gb291) (o := .cells #[u292000] 43 (0, 0)) (kK BK291)) : gb291 ≠ gb293)); have n10_ := am ((by rw [hg]; exact Nat.ne_of_gt (blk_lt (g := gb291) (o := .cells #[u292000] 43 (0, 0)) (kK BK291)) : gb293 ≠ gb291)); clear HO_292000 BK290 BK291 HB; have HO_292000 := n0_; have BK290 := n1_; have BK291 := n2_; have HB := n3_; have BK293 := n4_; have GW293 := n5_; have GE293 := n6_; have NB290_293 := n7_; have NB293_290 := n8_; have NB291_293 := n9_; have NB293_291 := n10_; clear n0_ n1_ n2_ n3_ n4_ n5_ n6_ n7_ n8_ n9_ n10_ hb hbox hg; have hnb9 := NB293_290.out; have hnc9 := NB290_293.out; have hnb10 := NB293_291.out; have hnc10 := NB291_293.out; have hcz11_0 : w8.cell? ⟨gb293, 0, none⟩ = some (.int .i64 0) := (blk_cell BK293.out 0).trans rfl; have hcz11_1 : w8.cell? ⟨gb293, 1, none⟩ = some (.int .i64 0) := (blk_cell BK293.out 1).trans rfl; have hfz11_0 := blk_frozen BK293.out 0; have hfz11_1 := blk_frozen BK293.out 1; have hnb12 := NB291_290.out; have hnc12 := NB290_291.out; have hcz13_0 : w8.cell? ⟨gb291, 0, none⟩ = some (u292000) := (blk_cell BK291.out 0).trans rfl; have hfz13_0 := blk_frozen BK291.out 0) | ((with_reducible refine gate_builtin (b := .append) (xs := #[.tmp 13, .tmp 16]) rfl ?_); at_builtin; refine Kd.R_append (Kd.int .i64) (w0 := w) w.heap.size rfl (.tmp 13) (.tmp 16) 26 2 (.int .i64 0) 8 rfl Try.underlying26 info2 rfl (by decide) (by omega) u292000 x292000_1 ((rd_T40 l0 x8_1).f1) [.int .i64 ((rd_T40 l0 x8_1).f1)] (fun _ => True) (fun _ => False) rfl (by first | (go_simp; done) | (go_simp; rfl)) ?aP (fun _ hk => hk.elim) ?aF ?aO ?aB ?aS ?aL ?_; (case aP => exact rfl); (case aB => exact (kB3 HB GE290.out GE291.out GE293.out)); (case aF => exact (fun _ _ => trivial)); (case aO => exact (by (with_reducible repeat (first | apply Kd.R_alloc | apply Kd.R_drewN | apply Kd.R_drew)); exact Kd.R_mono (Kd.R_far (p := ⟨gb293, 1, none⟩) (Kd.R_far (p := ⟨gb293, 0, none⟩) (Kd.R_types HO_292000.out BK293.out (by decide)) (fun _ hk => hk.2) (.int .i64 ((rd_T40 l0 x8_1).f0))) (fun _ hk => hk.2) (.int .i64 ((rd_T40 l0 x8_1).f1))) (fun _ hk => trivial))); (case aS => exact (below_size (kB3 HB GE290.out GE291.out GE293.out))); (case aL => have := LMc7.out; omega); intro v295 w14 ho hb hg hat; rw [← Ny294.out] at ho; have n0_ := am (blk_grown (g := gb290) (o := .cells #[.slice none 0 0] 43 (0, 0)) (by (with_reducible repeat (first | refine blk_drewN ?_ _ | refine blk_drew ?_ | refine blk_alloc ?_ _)); refine blk_far ?_ NB290_293.out _; (with_reducible repeat (first | refine blk_drewN ?_ _ | refine blk_drew ?_ | refine blk_alloc ?_ _)); refine blk_far ?_ NB290_293.out _; (with_reducible repeat (first | refine blk_drewN ?_ _ | refine blk_drew ?_ | refine blk_alloc ?_ _)); exact BK290.out) hg (Kd.R_ne HO_292000.out BK290.out (by decide))); have n1_ := am (blk_grown (g := gb291) (o := .cells #[u292000] 43 (0, 0)) (by (with_reducible repeat (first | refine blk_drewN ?_ _ | refine blk_drew ?_ | refine blk_alloc ?_ _)); refine blk_far ?_ NB291_293.out _; (with_reducible repeat (first | refine blk_drewN ?_ _ | refine blk_drew ?_ | refine blk_alloc ?_ _)); refine blk_far ?_ NB291_293.out _; (with_reducible repeat (first | refine blk_drewN ?_ _ | refine blk_drew ?_ | refine blk_alloc ?_ _)); exact BK291.out) hg (Kd.R_ne HO_292000.out BK291.out (by decide))); have n2_ := am (blk_grown (g := gb293) (o := .cells #[.int .i64 ((rd_T40 l0 x8_1).f0), .int .i64 ((rd_T40 l0 x8_1).f1)] 40 (0, 0)) (by (with_reducible repeat (first | refine blk_drewN ?_ _ | refine blk_drew ?_ | refine blk_alloc ?_ _)); refine blk_put (cs := #[.int .i64 ((rd_T40 l0 x8_1).f0), .int .i64 0]) ?_ 1 _ rfl; (with_reducible repeat (first | refine blk_drewN ?_ _ | refine blk_drew ?_ | refine blk_alloc ?_ _)); refine blk_put (cs := #[.int .i64 0, .int .i64 0]) ?_ 0 _ rfl; (with_reducible repeat (first | refine blk_drewN ?_ _ | refine blk_drew ?_ | refine blk_alloc ?_ _)); exact BK293.out) hg (Kd.R_ne HO_292000.out BK293.out (by decide))); have n3_ := am (hb); have n4_ := am (ho); clear BK290 BK291 BK293 HB HO_292000; have BK290 := n0_; have BK291 := n1_; have BK293 := n2_; have HB := n3_; have HO296 := n4_; clear n0_ n1_ n2_ n3_ n4_ ho hb hg hat; obtain ⟨Ao15, co15, eo15⟩ := Kd.R_slice HO296.out; subst eo15; have hcz16_0 : w14.cell? ⟨gb291, 0, none⟩ = some (u292000) := (blk_cell BK291.out 0).trans rfl; have hfz16_0 := blk_frozen BK291.out 0))
       go_roundg k1
       case measure => have := HK1.out; omega
       case rel => exact ⟨(wrap64 (x8_1 + 1)), (y294), (.slice Ao15 y294.length co15), (by first | rfl | (simp; done) | (simp [*]; done)), H', ⟨by have := HK1.out; omega⟩, ⟨by (with_reducible repeat (first | apply Kd.R_alloc | apply Kd.R_drewN | apply Kd.R_drew)); exact Kd.R_mono (Kd.R_far (p := ⟨gb291, 0, none⟩) (Kd.R_types HO296.out BK291.out (by decide)) (fun _ hk => hk.2) (.slice Ao15 y294.length co15)) (fun _ hk => trivial)⟩, ⟨by (with_reducible repeat (first | refine blk_drewN ?_ _ | refine blk_drew ?_ | refine blk_alloc ?_ _)); refine blk_far ?_ NB290_291.out _; (with_reducible repeat (first | refine blk_drewN ?_ _ | refine blk_drew ?_ | refine blk_alloc ?_ _)); exact BK290.out⟩, ⟨by (with_reducible repeat (first | refine blk_drewN ?_ _ | refine blk_drew ?_ | refine blk_alloc ?_ _)); refine blk_put (cs := #[u292000]) ?_ 0 _ rfl; (with_reducible repeat (first | refine blk_drewN ?_ _ | refine blk_drew ?_ | refine blk_alloc ?_ _)); exact BK291.out⟩, ⟨kB3 HB GE290.out GE291.out GE293.out⟩⟩
      ·rw [if_neg c7] at H
       exact absurd H (by simp)
     ·rw [if_neg c6] at H
      exact absurd H (by simp)
    ·rw [if_neg c5] at H
     exact absurd H (by simp)
   ·rw [if_neg c4] at H
    have c4b0 : decide (x8_1 < (l0.length : Int)) = false := decide_eq_false c4
    clear c4
    obtain rfl := Option.some.inj H
    have hnb17 := NB291_290.out
    have hnc17 := NB290_291.out
    have hcz18_0 : wr.cell? ⟨gb291, 0, none⟩ = some (u292000) := (blk_cell BK291.out 0).trans rfl
    have hfz18_0 := blk_frozen BK291.out 0
    obtain ⟨Ao19, co19, eo19⟩ := Kd.R_slice HO_292000.out
    subst eo19
    have hcz20_0 : wr.cell? ⟨gb290, 0, none⟩ = some (.slice none 0 0) := (blk_cell BK290.out 0).trans rfl
    have hfz20_0 := blk_frozen BK290.out 0
    go_wp2
    refine bodyPost_ret (results_cell_row rfl _ _ gb290 43 #[.slice Ao19 x292000_1.length co19] (0, 0) _ rfl (by (with_reducible repeat (first | refine blk_drewN ?_ _ | refine blk_drew ?_ | refine blk_alloc ?_ _)); refine blk_put (cs := #[.slice none 0 0]) ?_ 0 _ rfl; (with_reducible repeat (first | refine blk_drewN ?_ _ | refine blk_drew ?_ | refine blk_alloc ?_ _)); exact BK290.out) Try.underlying43 rfl (by kernel_rfl)) rfl ?_
    exact ⟨_, by first | rfl | (simp [errW_none, errW_some] <;> rfl) | (simp [*, errW_none, errW_some] <;> rfl), by (with_reducible repeat (first | apply Kd.R_alloc | apply Kd.R_drewN | apply Kd.R_drew)); exact Kd.R_mono (Kd.R_far (p := ⟨gb290, 0, none⟩) (Kd.R_types HO_292000.out BK290.out (by decide)) (fun _ hk => hk.2) (.slice Ao19 x292000_1.length co19)) (fun _ hk => trivial), kB2 HB GE290.out GE291.out⟩
/-! ### impl_divisor: function 64 -/
def impl_divisor.l0 : Nat → Int → Int → Option (Int)
 | 0, _, _ => none
 | k + 1, x0, x1 => if x1 = 0 then (some x0) else (impl_divisor.l0 k x1 (Int.tmod x0 x1))
def impl_divisor.f (k : Nat) (a0 : Int) (a1 : Int) : Option (Int) := impl_divisor.l0 k a0 a1
theorem impl_divisor.mono_l : ∀ k, (∀ y0 y1, LeO (impl_divisor.l0 k y0 y1) (impl_divisor.l0 (k + 1) y0 y1))
 | 0 => fun _ _ r h => by simp [impl_divisor.l0] at h
 | k + 1 => by
  have ih0 := impl_divisor.mono_l k
  ·intro y0 y1
   unfold impl_divisor.l0
   repeat' first
   | with_reducible first | exact ih0 _ _ | exact LeO.refl _ | exact LeO.none _ | refine LeO.ite ?_ ?_ | refine LeO.bind ?_ (fun _ => ?_)
   | exact ih0 _ _
   | exact LeO.none _
   | refine LeO.ite ?_ ?_
   | refine LeO.bind ?_ (fun _ => ?_)
theorem impl_divisor.mono : ∀ a0 a1 k, LeO (impl_divisor.f k a0 a1) (impl_divisor.f (k + 1) a0 a1) := by
 intro a0 a1 k
 have ih0 := impl_divisor.mono_l k
 unfold impl_divisor.f
 repeat' first
   | with_reducible first | exact ih0 _ _ | exact LeO.refl _ | exact LeO.none _ | refine LeO.ite ?_ ?_ | refine LeO.bind ?_ (fun _ => ?_)
   | exact ih0 _ _
   | exact LeO.none _
   | refine LeO.ite ?_ ?_
   | refine LeO.bind ?_ (fun _ => ?_)
set_option maxHeartbeats 8000000 in
set_option maxRecDepth 100000 in
theorem impl_divisor.calls (k : Nat) (a0 : Int) (a1 : Int) (r : Int) (w : World) (h : impl_divisor.f k a0 a1 = some r) :
  Calls Try.prog 64 #[.int .i64 a0, .int .i64 a1] w fun e w' => e = .returned (.int .i64 r) ∧ Drawn0 w w' := by
 have H : (impl_divisor.l0 k a0 a1) = some r := h
 clear h
 have H' := am H
 clear H
 go_enter Try.func64, Try.ntmps64
 go_wp2
 repeat (go_quiet (fail); try go_wp2)
 go_loopg [0, 1] k (fun kq v0 v1 w' => ∃ (x0_1 : Int) (x1_1 : Int), v0 = .int .i64 x0_1 ∧ v1 = .int .i64 x1_1 ∧ Aside0 (impl_divisor.l0 kq x0_1 x1_1 = some r) ∧ Aside0 (kq ≤ k) ∧ Drawn0 w w')
 case atStart => exact ⟨(a0), (a1), (by first | rfl | (simp; done) | (simp [*]; done)), (by first | rfl | (simp; done) | (simp [*]; done)), H', ⟨Nat.le_refl _⟩, by repeat (first | exact Drawn0.refl _ | apply Drawn0.step)⟩
 case round =>
  clear H'
  obtain ⟨x0_1, x1_1, rfl, rfl, HA, HK1, ⟨m1, rfl⟩⟩ := hrel
  cases gk with
  | zero => exact absurd HA.out (by simp [impl_divisor.l0])
  | succ k1 =>
   have H := HA.out
   clear HA
   simp only [impl_divisor.l0] at H
   by_cases c3 : x1_1 = 0
   ·rw [if_pos c3] at H
    have c3b0 : (x1_1 == 0) = true := beq_iff_eq.mpr c3
    have c3b1 : (x1_1 != 0) = false := bne_eq_false_iff_eq.mpr c3
    clear c3
    obtain rfl := Option.some.inj H
    go_wp2
    repeat (go_quiet (fail); try go_wp2)
    go_ret
    exact ⟨by first | rfl | (simp; done) | (simp [*]; done), by repeat (first | exact Drawn0.refl _ | apply Drawn0.step)⟩
   ·rw [if_neg c3] at H
    have c3b0 : (x1_1 == 0) = false := beq_eq_false_iff_ne.mpr c3
    have c3b1 : (x1_1 != 0) = true := bne_iff_ne.mpr c3
    have H' := am H
    clear H
    go_wp2
    repeat (go_quiet (fail); try go_wp2)
    go_roundg k1
    case measure => have := HK1.out; omega
    case rel => exact ⟨(x1_1), (Int.tmod x0_1 x1_1), (by first | rfl | (simp; done) | (simp [*]; done)), (by first | rfl | (simp; done) | (simp [*]; done)), H', ⟨by have := HK1.out; omega⟩, by repeat (first | exact Drawn0.refl _ | apply Drawn0.step)⟩
/-! ### impl_Tasks_multiple: function 28 -/
def impl_Tasks_multiple.l0 : Nat → Int → List Int → Int → Int → Option (Int)
 | 0, _, _, _, _ => none
 | k + 1, x3, x7, x8, x9 => if x9 < x8 then (if 0 ≤ x9 then (if x9 < (x7.length : Int) then ((impl_divisor.f k x3 (rd x7 x9)).bind fun t299 => (if t299 = 0 then (none) else (impl_Tasks_multiple.l0 k (wrap64 ((wrap64 (Int.tdiv x3 t299)) * (rd x7 x9))) x7 x8 (wrap64 (x9 + 1))))) else (none)) else (none)) else (some x3)
def impl_Tasks_multiple.f (k : Nat) (l0_0 : List Int) : Option (Int) := impl_Tasks_multiple.l0 k 1 l0_0 (l0_0.length : Int) 0
theorem impl_Tasks_multiple.mono_l : ∀ k, (∀ y0 y1 y2 y3, LeO (impl_Tasks_multiple.l0 k y0 y1 y2 y3) (impl_Tasks_multiple.l0 (k + 1) y0 y1 y2 y3))
 | 0 => fun _ _ _ _ r h => by simp [impl_Tasks_multiple.l0] at h
 | k + 1 => by
  have ih0 := impl_Tasks_multiple.mono_l k
  ·intro y0 y1 y2 y3
   unfold impl_Tasks_multiple.l0
   repeat' first
   | with_reducible first | exact ih0 _ _ _ _ | exact impl_divisor.mono _ _ _ | exact LeO.refl _ | exact LeO.none _ | refine LeO.ite ?_ ?_ | refine LeO.bind ?_ (fun _ => ?_)
   | exact ih0 _ _ _ _
   | exact impl_divisor.mono _ _ _
   | exact LeO.none _
   | refine LeO.ite ?_ ?_
   | refine LeO.bind ?_ (fun _ => ?_)
theorem impl_Tasks_multiple.mono : ∀ a0 k, LeO (impl_Tasks_multiple.f k a0) (impl_Tasks_multiple.f (k + 1) a0) := by
 intro a0 k
 have ih0 := impl_Tasks_multiple.mono_l k
 unfold impl_Tasks_multiple.f
 repeat' first
   | with_reducible first | exact ih0 _ _ _ _ | exact impl_divisor.mono _ _ _ | exact LeO.refl _ | exact LeO.none _ | refine LeO.ite ?_ ?_ | refine LeO.bind ?_ (fun _ => ?_)
   | exact ih0 _ _ _ _
   | exact impl_divisor.mono _ _ _
   | exact LeO.none _
   | refine LeO.ite ?_ ?_
   | refine LeO.bind ?_ (fun _ => ?_)
set_option maxHeartbeats 8000000 in
set_option maxRecDepth 100000 in
theorem impl_Tasks_multiple.calls (k : Nat) (A0_0 : Option Addr) (c0_0 : Nat) (l0_0 : List Int) (r : Int) (w : World) (hr0_0 : Kd.C (Kd.int .i64) w A0_0 l0_0.length l0_0) (hc0_0 : l0_0.length ≤ c0_0) (h : impl_Tasks_multiple.f k l0_0 = some r) :
  Calls Try.prog 28 #[.agg #[.slice A0_0 l0_0.length c0_0]] w fun e w' => e = .returned (.int .i64 r) ∧ Below w.heap.size w w' := by
 have hu43 := Try.underlying43
 have HR0_0 := am hr0_0
 have HC0_0 := am hc0_0
 clear hr0_0 hc0_0
 have HB := am (Below.refl w.heap.size w)
 have H : (impl_Tasks_multiple.l0 k 1 l0_0 (l0_0.length : Int) 0) = some r := h
 clear h
 have H' := am H
 clear H
 go_enter Try.func28, Try.ntmps28
 go_wp2_with (first | ((with_reducible refine gate_dst (N := 1) rfl ?_); refine box_event ?hg (N := 1) ?hd (cs := #[.slice A0_0 l0_0.length c0_0]) (t := 43) ?hr ?_; (case hd => rfl); (case hg => rfl); (case hr => first | (go_simp; done) | (go_simp; rfl)); intro gb297 hg w2 hbox hb; have n0_ := am (below_step (kB HB) hb); have n1_ := am (hbox); have n2_ := am ((by rw [hg]; exact (below_size (kB HB)) : w.heap.size ≤ gb297)); have n3_ := am ((by rw [hg]; exact (below_size (kB HB)) : w.heap.size ≤ gb297)); clear HB; have HB := n0_; have BK297 := n1_; have GW297 := n2_; have GE297 := n3_; clear n0_ n1_ n2_ n3_ hb hbox hg; have hcz3_0 : w2.cell? ⟨gb297, 0, none⟩ = some (.slice A0_0 l0_0.length c0_0) := (blk_cell BK297.out 0).trans rfl; have hfz3_0 := blk_frozen BK297.out 0))
 go_loopg [3, 9] k (fun kq v3 v9 w' => ∃ (x3_1 : Int) (x9_1 : Int), v3 = .int .i64 x3_1 ∧ v9 = .int .i64 x9_1 ∧ Aside0 (impl_Tasks_multiple.l0 kq x3_1 l0_0 (l0_0.length : Int) x9_1 = some r) ∧ Aside0 (kq ≤ k) ∧ Aside0 (w'.heap[gb297]? = some (.cells #[(.slice A0_0 l0_0.length c0_0)] 43 (0, 0))) ∧ Aside0 (Below w.heap.size w w'))
 case atStart => exact ⟨(1), (0), (by first | rfl | (simp; done) | (simp [*]; done)), (by first | rfl | (simp; done) | (simp [*]; done)), H', ⟨Nat.le_refl _⟩, ⟨kK BK297⟩, ⟨kB1 HB GE297.out⟩⟩
 case round =>
  clear H'
  try clear hcz3_0
  try clear hfz3_0
  obtain ⟨x3_1, x9_1, rfl, rfl, HA, HK1, BK297, HB⟩ := hrel
  cases gk with
  | zero => exact absurd HA.out (by simp [impl_Tasks_multiple.l0])
  | succ k1 =>
   have H := HA.out
   clear HA
   simp only [impl_Tasks_multiple.l0] at H
   by_cases c4 : x9_1 < (l0_0.length : Int)
   ·rw [if_pos c4] at H
    have c4b0 : decide (x9_1 < (l0_0.length : Int)) = true := decide_eq_true c4
    clear c4
    by_cases c5 : 0 ≤ x9_1
    ·rw [if_pos c5] at H
     have c5b0 : decide (0 ≤ x9_1) = true := decide_eq_true c5
     clear c5
     by_cases c6 : x9_1 < (l0_0.length : Int)
     ·rw [if_pos c6] at H
      have c6b0 : decide (x9_1 < (l0_0.length : Int)) = true := decide_eq_true c6
      clear c6
      replace H := Option.bind_eq_some_iff.mp H
      obtain ⟨t299, A70, H⟩ := H
      try dsimp only at H
      have A7 := am A70
      clear A70
      by_cases c8 : t299 = 0
      ·rw [if_pos c8] at H
       exact absurd H (by simp)
      ·rw [if_neg c8] at H
       have c8b0 : (t299 == 0) = false := beq_eq_false_iff_ne.mpr c8
       have c8b1 : (t299 != 0) = true := bne_iff_ne.mpr c8
       have H' := am H
       clear H
       have p298 : 0 ≤ (x9_1 : Int) := of_decide_eq_true kM
       have q298 : x9_1 < (l0_0.length : Int) := of_decide_eq_true kM
       obtain ⟨ad298, e298, hx298_0⟩ := Kd.at_int HR0_0.out x9_1 p298 q298
       cases e298
       replace hx298_0 := (HB.out.cell (World.block_lt_of_cell? w _ hx298_0)).trans hx298_0
       replace p298 := eq_true p298
       replace q298 := eq_true q298
       go_wp2_with (first | ((with_reducible refine gate_callee (f := 64) rfl ?_); refine goesL_ (some 16) rfl rfl Try.func64 (by kernel_rfl) rfl #[.int .i64 x3_1, .int .i64 (rd l0_0 x9_1)] rfl kA ?_; (with_reducible refine (impl_divisor.calls k1 x3_1 (rd l0_0 x9_1) t299 _ A7.out).mono ?_); rintro e w' ⟨rfl, ⟨nd, rfl⟩⟩; refine ⟨_, rfl, ?_⟩))
       go_roundg k1
       case measure => have := HK1.out; omega
       case rel => exact ⟨(wrap64 ((wrap64 (Int.tdiv x3_1 t299)) * (rd l0_0 x9_1))), (wrap64 (x9_1 + 1)), (by first | rfl | (simp; done) | (simp [*]; done)), (by first | rfl | (simp; done) | (simp [*]; done)), H', ⟨by have := HK1.out; omega⟩, ⟨kK BK297⟩, ⟨kB1 HB GE297.out⟩⟩
     ·rw [if_neg c6] at H
      exact absurd H (by simp)
    ·rw [if_neg c5] at H
     exact absurd H (by simp)
   ·rw [if_neg c4] at H
    have c4b0 : decide (x9_1 < (l0_0.length : Int)) = false := decide_eq_false c4
    clear c4
    obtain rfl := Option.some.inj H
    go_wp2
    go_ret
    exact ⟨by first | rfl | (simp [errW_none, errW_some] <;> rfl) | (simp [*, errW_none, errW_some] <;> rfl), kB1 HB GE297.out⟩
/-! ### impl_Class_meets: function 82 -/
def impl_Class_meets.f (k : Nat) (a0_0 : Int) (a0_1 : Int) (a1_0 : Int) (a1_1 : Int) : Option (Bool) := (impl_divisor.f k a0_1 a1_1).bind fun t302 => (if t302 = 0 then (none) else (some ((Int.tmod (wrap64 (a0_0 - a1_0)) t302) == 0)))
theorem impl_Class_meets.mono : ∀ a0 a1 a2 a3 k, LeO (impl_Class_meets.f k a0 a1 a2 a3) (impl_Class_meets.f (k + 1) a0 a1 a2 a3) := by
 intro a0 a1 a2 a3 k
 unfold impl_Class_meets.f
 repeat' first
   | with_reducible first | exact impl_divisor.mono _ _ _ | exact LeO.refl _ | exact LeO.none _ | refine LeO.ite ?_ ?_ | refine LeO.bind ?_ (fun _ => ?_)
   | exact impl_divisor.mono _ _ _
   | exact LeO.none _
   | refine LeO.ite ?_ ?_
   | refine LeO.bind ?_ (fun _ => ?_)
set_option maxHeartbeats 8000000 in
set_option maxRecDepth 100000 in
theorem impl_Class_meets.calls (k : Nat) (a0_0 : Int) (a0_1 : Int) (a1_0 : Int) (a1_1 : Int) (r : Bool) (w : World) (h : impl_Class_meets.f k a0_0 a0_1 a1_0 a1_1 = some r) :
  Calls Try.prog 82 #[.agg #[.int .i64 a0_0, .int .i64 a0_1], .agg #[.int .i64 a1_0, .int .i64 a1_1]] w fun e w' => e = .returned (.bool r) ∧ Below w.heap.size w w' := by
 have hu40 := Try.underlying40
 have HB := am (Below.refl w.heap.size w)
 have H : ((impl_divisor.f k a0_1 a1_1).bind fun t302 => (if t302 = 0 then (none) else (some ((Int.tmod (wrap64 (a0_0 - a1_0)) t302) == 0)))) = some r := h
 clear h
 replace H := Option.bind_eq_some_iff.mp H
 obtain ⟨t302, A30, H⟩ := H
 try dsimp only at H
 have A3 := am A30
 clear A30
 by_cases c4 : t302 = 0
 ·rw [if_pos c4] at H
  exact absurd H (by simp)
 ·rw [if_neg c4] at H
  have c4b0 : (t302 == 0) = false := beq_eq_false_iff_ne.mpr c4
  have c4b1 : (t302 != 0) = true := bne_iff_ne.mpr c4
  obtain rfl := Option.some.inj H
  go_enter Try.func82, Try.ntmps82
  go_wp2_with (first | ((with_reducible refine gate_dst (N := 2) rfl ?_); refine box_event ?hg (N := 2) ?hd (cs := #[.int .i64 a0_0, .int .i64 a0_1]) (t := 40) ?hr ?_; (case hd => rfl); (case hg => rfl); (case hr => first | (go_simp; done) | (go_simp; rfl)); intro gb300 hg w5 hbox hb; have n0_ := am (below_step (kB HB) hb); have n1_ := am (hbox); have n2_ := am ((by rw [hg]; exact (below_size (kB HB)) : w.heap.size ≤ gb300)); have n3_ := am ((by rw [hg]; exact (below_size (kB HB)) : w.heap.size ≤ gb300)); clear HB; have HB := n0_; have BK300 := n1_; have GW300 := n2_; have GE300 := n3_; clear n0_ n1_ n2_ n3_; clear hb hbox hg) | ((with_reducible refine gate_dst (N := 3) rfl ?_); refine box_event ?hg (N := 3) ?hd (cs := #[.int .i64 a1_0, .int .i64 a1_1]) (t := 40) ?hr ?_; (case hd => rfl); (case hg => rfl); (case hr => first | (go_simp; done) | (go_simp; rfl)); intro gb301 hg w6 hbox hb; have n0_ := am (blk_below (g := gb300) (o := .cells #[.int .i64 a0_0, .int .i64 a0_1] 40 (0, 0)) (kK BK300) hb); have n1_ := am (below_step (kB1 HB GE300.out) hb); have n2_ := am (hbox); have n3_ := am ((by rw [hg]; exact (below_size (kB1 HB GE300.out)) : w.heap.size ≤ gb301)); have n4_ := am ((by rw [hg]; exact (below_size (kB1 HB GE300.out)) : w.heap.size ≤ gb301)); have n5_ := am ((by rw [hg]; exact Nat.ne_of_lt (blk_lt (g := gb300) (o := .cells #[.int .i64 a0_0, .int .i64 a0_1] 40 (0, 0)) (kK BK300)) : gb300 ≠ gb301)); have n6_ := am ((by rw [hg]; exact Nat.ne_of_gt (blk_lt (g := gb300) (o := .cells #[.int .i64 a0_0, .int .i64 a0_1] 40 (0, 0)) (kK BK300)) : gb301 ≠ gb300)); clear BK300 HB; have BK300 := n0_; have HB := n1_; have BK301 := n2_; have GW301 := n3_; have GE301 := n4_; have NB300_301 := n5_; have NB301_300 := n6_; clear n0_ n1_ n2_ n3_ n4_ n5_ n6_ hb hbox hg; have hnb7 := NB300_301.out; have hnc7 := NB301_300.out; have hcz8_0 : w6.cell? ⟨gb300, 0, none⟩ = some (.int .i64 a0_0) := (blk_cell BK300.out 0).trans rfl; have hcz8_1 : w6.cell? ⟨gb300, 1, none⟩ = some (.int .i64 a0_1) := (blk_cell BK300.out 1).trans rfl; have hfz8_0 := blk_frozen BK300.out 0; have hfz8_1 := blk_frozen BK300.out 1; have hcz9_0 : w6.cell? ⟨gb301, 0, none⟩ = some (.int .i64 a1_0) := (blk_cell BK301.out 0).trans rfl; have hcz9_1 : w6.cell? ⟨gb301, 1, none⟩ = some (.int .i64 a1_1) := (blk_cell BK301.out 1).trans rfl; have hfz9_0 := blk_frozen BK301.out 0; have hfz9_1 := blk_frozen BK301.out 1) | (go_at_call 64; (with_reducible refine (impl_divisor.calls k a0_1 a1_1 t302 _ A3.out).mono ?_); rintro e w' ⟨rfl, ⟨nd, rfl⟩⟩; (try first | exact ⟨rfl, _, World.drewN_drewN _ _ _⟩ | exact ⟨rfl, _, Eq.trans (World.drewN_drewN _ _ _) (congrArg (World.drewN _) (Nat.add_assoc _ _ _))⟩)))
  repeat (go_quiet (first | ((with_reducible refine gate_dst (N := 2) rfl ?_); refine box_event ?hg (N := 2) ?hd (cs := #[.int .i64 a0_0, .int .i64 a0_1]) (t := 40) ?hr ?_; (case hd => rfl); (case hg => rfl); (case hr => first | (go_simp; done) | (go_simp; rfl)); intro gb300 hg w5 hbox hb; have n0_ := am (below_step (kB HB) hb); have n1_ := am (hbox); have n2_ := am ((by rw [hg]; exact (below_size (kB HB)) : w.heap.size ≤ gb300)); have n3_ := am ((by rw [hg]; exact (below_size (kB HB)) : w.heap.size ≤ gb300)); clear HB; have HB := n0_; have BK300 := n1_; have GW300 := n2_; have GE300 := n3_; clear n0_ n1_ n2_ n3_; clear hb hbox hg) | ((with_reducible refine gate_dst (N := 3) rfl ?_); refine box_event ?hg (N := 3) ?hd (cs := #[.int .i64 a1_0, .int .i64 a1_1]) (t := 40) ?hr ?_; (case hd => rfl); (case hg => rfl); (case hr => first | (go_simp; done) | (go_simp; rfl)); intro gb301 hg w6 hbox hb; have n0_ := am (blk_below (g := gb300) (o := .cells #[.int .i64 a0_0, .int .i64 a0_1] 40 (0, 0)) (kK BK300) hb); have n1_ := am (below_step (kB1 HB GE300.out) hb); have n2_ := am (hbox); have n3_ := am ((by rw [hg]; exact (below_size (kB1 HB GE300.out)) : w.heap.size ≤ gb301)); have n4_ := am ((by rw [hg]; exact (below_size (kB1 HB GE300.out)) : w.heap.size ≤ gb301)); have n5_ := am ((by rw [hg]; exact Nat.ne_of_lt (blk_lt (g := gb300) (o := .cells #[.int .i64 a0_0, .int .i64 a0_1] 40 (0, 0)) (kK BK300)) : gb300 ≠ gb301)); have n6_ := am ((by rw [hg]; exact Nat.ne_of_gt (blk_lt (g := gb300) (o := .cells #[.int .i64 a0_0, .int .i64 a0_1] 40 (0, 0)) (kK BK300)) : gb301 ≠ gb300)); clear BK300 HB; have BK300 := n0_; have HB := n1_; have BK301 := n2_; have GW301 := n3_; have GE301 := n4_; have NB300_301 := n5_; have NB301_300 := n6_; clear n0_ n1_ n2_ n3_ n4_ n5_ n6_ hb hbox hg; have hnb7 := NB300_301.out; have hnc7 := NB301_300.out; have hcz8_0 : w6.cell? ⟨gb300, 0, none⟩ = some (.int .i64 a0_0) := (blk_cell BK300.out 0).trans rfl; have hcz8_1 : w6.cell? ⟨gb300, 1, none⟩ = some (.int .i64 a0_1) := (blk_cell BK300.out 1).trans rfl; have hfz8_0 := blk_frozen BK300.out 0; have hfz8_1 := blk_frozen BK300.out 1; have hcz9_0 : w6.cell? ⟨gb301, 0, none⟩ = some (.int .i64 a1_0) := (blk_cell BK301.out 0).trans rfl; have hcz9_1 : w6.cell? ⟨gb301, 1, none⟩ = some (.int .i64 a1_1) := (blk_cell BK301.out 1).trans rfl; have hfz9_0 := blk_frozen BK301.out 0; have hfz9_1 := blk_frozen BK301.out 1) | (go_at_call 64; (try simp only [i64_w]); (with_reducible refine (impl_divisor.calls k a0_1 a1_1 t302 _ A3.out).mono ?_); rintro e w' ⟨rfl, ⟨nd, rfl⟩⟩; (try first | exact ⟨rfl, _, World.drewN_drewN _ _ _⟩ | exact ⟨rfl, _, Eq.trans (World.drewN_drewN _ _ _) (congrArg (World.drewN _) (Nat.add_assoc _ _ _))⟩))); try go_wp2_with (first | ((with_reducible refine gate_dst (N := 2) rfl ?_); refine box_event ?hg (N := 2) ?hd (cs := #[.int .i64 a0_0, .int .i64 a0_1]) (t := 40) ?hr ?_; (case hd => rfl); (case hg => rfl); (case hr => first | (go_simp; done) | (go_simp; rfl)); intro gb300 hg w5 hbox hb; have n0_ := am (below_step (kB HB) hb); have n1_ := am (hbox); have n2_ := am ((by rw [hg]; exact (below_size (kB HB)) : w.heap.size ≤ gb300)); have n3_ := am ((by rw [hg]; exact (below_size (kB HB)) : w.heap.size ≤ gb300)); clear HB; have HB := n0_; have BK300 := n1_; have GW300 := n2_; have GE300 := n3_; clear n0_ n1_ n2_ n3_; clear hb hbox hg) | ((with_reducible refine gate_dst (N := 3) rfl ?_); refine box_event ?hg (N := 3) ?hd (cs := #[.int .i64 a1_0, .int .i64 a1_1]) (t := 40) ?hr ?_; (case hd => rfl); (case hg => rfl); (case hr => first | (go_simp; done) | (go_simp; rfl)); intro gb301 hg w6 hbox hb; have n0_ := am (blk_below (g := gb300) (o := .cells #[.int .i64 a0_0, .int .i64 a0_1] 40 (0, 0)) (kK BK300) hb); have n1_ := am (below_step (kB1 HB GE300.out) hb); have n2_ := am (hbox); have n3_ := am ((by rw [hg]; exact (below_size (kB1 HB GE300.out)) : w.heap.size ≤ gb301)); have n4_ := am ((by rw [hg]; exact (below_size (kB1 HB GE300.out)) : w.heap.size ≤ gb301)); have n5_ := am ((by rw [hg]; exact Nat.ne_of_lt (blk_lt (g := gb300) (o := .cells #[.int .i64 a0_0, .int .i64 a0_1] 40 (0, 0)) (kK BK300)) : gb300 ≠ gb301)); have n6_ := am ((by rw [hg]; exact Nat.ne_of_gt (blk_lt (g := gb300) (o := .cells #[.int .i64 a0_0, .int .i64 a0_1] 40 (0, 0)) (kK BK300)) : gb301 ≠ gb300)); clear BK300 HB; have BK300 := n0_; have HB := n1_; have BK301 := n2_; have GW301 := n3_; have GE301 := n4_; have NB300_301 := n5_; have NB301_300 := n6_; clear n0_ n1_ n2_ n3_ n4_ n5_ n6_ hb hbox hg; have hnb7 := NB300_301.out; have hnc7 := NB301_300.out; have hcz8_0 : w6.cell? ⟨gb300, 0, none⟩ = some (.int .i64 a0_0) := (blk_cell BK300.out 0).trans rfl; have hcz8_1 : w6.cell? ⟨gb300, 1, none⟩ = some (.int .i64 a0_1) := (blk_cell BK300.out 1).trans rfl; have hfz8_0 := blk_frozen BK300.out 0; have hfz8_1 := blk_frozen BK300.out 1; have hcz9_0 : w6.cell? ⟨gb301, 0, none⟩ = some (.int .i64 a1_0) := (blk_cell BK301.out 0).trans rfl; have hcz9_1 : w6.cell? ⟨gb301, 1, none⟩ = some (.int .i64 a1_1) := (blk_cell BK301.out 1).trans rfl; have hfz9_0 := blk_frozen BK301.out 0; have hfz9_1 := blk_frozen BK301.out 1) | (go_at_call 64; (try simp only [i64_w]); (with_reducible refine (impl_divisor.calls k a0_1 a1_1 t302 _ A3.out).mono ?_); rintro e w' ⟨rfl, ⟨nd, rfl⟩⟩; (try first | exact ⟨rfl, _, World.drewN_drewN _ _ _⟩ | exact ⟨rfl, _, Eq.trans (World.drewN_drewN _ _ _) (congrArg (World.drewN _) (Nat.add_assoc _ _ _))⟩))))
  go_ret
  exact ⟨by first | rfl | (simp [errW_none, errW_some] <;> rfl) | (simp [*, errW_none, errW_some] <;> rfl), kB2 HB GE300.out GE301.out⟩
end Go.Proofs.Ytdkhecebffjpjaa.X
