import Derived.Test.YtdkhecebffjpjaaVQF1
import Derived.Test.YtdkhecebffjpjaaVQF3
import Derived.Test.YtdkhecebffjpjaaY0
import Derived.Test.YtdkhecebffjpjaaY8
import Derived.Test.YtdkhecebffjpjaaY9
import Derived.Test.YtdkhecebffjpjaaY19
namespace Go.Proofs.Ytdkhecebffjpjaa.X
set_option linter.unusedVariables false
set_option linter.unusedSimpArgs false
open Go.RowKit Go.Proofs.YtdkhecebffjpjaaW.PrintWords Go.Proofs.YtdkhecebffjpjaaW.PrintLast
theorem emb_of {l : List S40} (h : areClassesB l = true) : ∃ P : List (Nat × Nat), l = P.map embS ∧ 1 ≤ P.length ∧ P.length ≤ 8 ∧ ∀ d ∈ P, d.1 < d.2 ∧ d.2 ≤ 40 := by
 have hlen := classes_len h
 have hmem := classes_mem h
 obtain ⟨P, rfl⟩ : ∃ P : List (Nat × Nat), l = P.map embS := ⟨l.map fun d => (d.f0.toNat, d.f1.toNat), by
  rw [List.map_map]
  have : ∀ x ∈ l, (embS ∘ fun d : S40 => (d.f0.toNat, d.f1.toNat)) x = x := fun x hx => by
   have := hmem x hx
   cases x with
   | mk f0 f1 =>
    simp only at this
    simp only [Function.comp, embS]
    rw [Int.toNat_of_nonneg (by omega), Int.toNat_of_nonneg (by omega)]
  rw [List.map_congr_left this, List.map_id']⟩
 rw [List.length_map] at hlen
 refine ⟨P, rfl, hlen.1, hlen.2, fun d hd => ?_⟩
 have := hmem (embS d) (List.mem_map.2 ⟨d, hd, rfl⟩)
 simp only [embS] at this
 omega
theorem hasB_emb (d : Nat × Nat) (n : Nat) : hasB (embS d).f0 (embS d).f1 (n : Int) = hasN d n := by
 unfold hasB hasN embS
 simp only
 rw [← Int.ofNat_tmod, Bool.eq_iff_iff, beq_iff_eq, beq_iff_eq]
 omega
theorem emb_gaps {P : List (Nat × Nat)} (hP : ∀ d ∈ P, d.1 < d.2 ∧ d.2 ≤ 40) : ∀ x ∈ P.map embS, 1 ≤ x.f1 ∧ x.f1 ≤ 40 := by
 intro x hx
 obtain ⟨d, hd, rfl⟩ := List.mem_map.1 hx
 have := hP d hd
 simp only [embS]
 omega
theorem apart_same (l : List S40) (hl : l.length ≤ 8) (hg : ∀ x ∈ l, 1 ≤ x.f1 ∧ x.f1 ≤ 40) : apartAll l l.length 0 = apartD l l.length 0 :=
 Option.some.inj ((specApart_eq l hl hg 2000 (by omega)).symm.trans (specApartD_eq l hl hg 2000 (by omega)))
theorem exact_same (l : List S40) (hl : l.length ≤ 8) (hg : ∀ x ∈ l, 1 ≤ x.f1 ∧ x.f1 ≤ 40) : exactB l = exactD l :=
 Option.some.inj ((specExact_eq l hl hg 9223372036870000000 (by omega)).symm.trans (specExactD_eq l hl hg 9223372036870000000 (by omega)))
theorem apartD_at (l : List S40) : ∀ (d i : Nat), i + d = l.length → apartD l d i = true → ∀ a b : Nat, b < a → i ≤ a → a < l.length → meetD (rd_T40 l (a : Int)).f0 (rd_T40 l (a : Int)).f1 (rd_T40 l (b : Int)).f0 (rd_T40 l (b : Int)).f1 = false := by
 intro d
 induction d with
 | zero => intro i hi _ a b _ h2 h3; omega
 | succ d ih =>
  intro i hi h a b hb hia ha
  simp only [apartD, Bool.and_eq_true] at h
  by_cases e : i = a
  ·subst e
   have h1 := h.1
   unfold apartBD at h1
   rw [List.all_eq_true] at h1
   have := h1 (rd_T40 l (b : Int)) (by
    rw [rdC_get l b (by omega), List.mem_iff_getElem]
    exact ⟨b, by rw [List.length_take]; omega, by rw [List.getElem_take]⟩)
   simpa using this
  ·exact ih (i + 1) (by omega) h.2 a b hb (by omega) ha
theorem apart_emb (P : List (Nat × Nat)) (hl : P.length ≤ 8) (hP : ∀ d ∈ P, d.1 < d.2 ∧ d.2 ≤ 40) : apartAll (P.map embS) (P.map embS).length 0 = true ↔ P.Pairwise AptN := by
 rw [apart_same _ (by rw [List.length_map]; exact hl) (emb_gaps hP)]
 constructor
 ·intro h
  rw [List.pairwise_iff_getElem]
  intro i j hi hj hij hd
  have := apartD_at (P.map embS) _ 0 (by omega) h j i hij (by omega) (by rw [List.length_map]; exact hj)
  rw [rd_emb P embS i hi, rd_emb P embS j hj] at this
  have hpi := hP _ (List.getElem_mem hi)
  have hpj := hP _ (List.getElem_mem hj)
  generalize P[i] = u at *
  generalize P[j] = v at *
  obtain ⟨x, y⟩ := u
  obtain ⟨z, t⟩ := v
  simp only at hpi hpj hd
  unfold meetD embS at this
  simp only at this
  rw [wrap64_id (by omega) (by omega), Int.toNat_natCast, Int.toNat_natCast, beq_eq_false_iff_ne] at this
  refine this (Int.tmod_eq_zero_of_dvd ?_)
  rw [Nat.gcd_comm t y, show (z : Int) - (x : Int) = -((x : Int) - (z : Int)) by omega, Int.dvd_neg]
  exact hd
 ·intro hA
  refine apartD_of _ (fun i j hj hi => ?_) _ 0 (by omega)
  rw [List.length_map] at hi
  have hA := List.pairwise_iff_getElem.1 hA j i (by omega) hi hj
  have hpi := hP _ (List.getElem_mem hi)
  have hpj := hP _ (List.getElem_mem (show j < P.length by omega))
  rw [rd_emb P embS i hi, rd_emb P embS j (by omega)]
  generalize P[i] = u at hA hpi
  generalize P[j] = v at hA hpj
  obtain ⟨x, y⟩ := u
  obtain ⟨z, t⟩ := v
  unfold AptN at hA
  simp only at hA hpi hpj
  show meetD (x : Int) (y : Int) (z : Int) (t : Int) = false
  refine meetD_eq _ _ y t (by omega) (by omega) (fun hd => ?_)
  rw [Nat.gcd_comm y t, show (x : Int) - (z : Int) = -((z : Int) - (x : Int)) by omega, Int.dvd_neg] at hd
  exact hA hd
theorem span_dvd (P : List (Nat × Nat)) (hP : ∀ d ∈ P, d.1 < d.2 ∧ d.2 ≤ 40) : ∀ d ∈ P, d.2 ∣ spanN (P.map embS) := by
 intro d hd
 have := (mulF_dvd (gapsL (P.map embS)) 1 (fun g hg => by
  obtain ⟨x, hx, rfl⟩ := List.mem_map.1 hg
  exact (emb_gaps hP x hx).1)).2 ((d.2 : Nat) : Int) (by
   unfold gapsL
   rw [List.map_map]
   exact List.mem_map.2 ⟨d, hd, rfl⟩)
 rwa [Int.toNat_natCast] at this
theorem dens_emb (P : List (Nat × Nat)) (hl : P.length ≤ 8) (hP : ∀ d ∈ P, d.1 < d.2 ∧ d.2 ≤ 40) : ((densP (P.map embS)).1 == (densP (P.map embS)).2) = true ↔ (P.map fun d => spanN (P.map embS) / d.2).sum = spanN (P.map embS) := by
 have hr := spanN_range (P.map embS) (by rw [List.length_map]; exact hl) (emb_gaps hP)
 have hgl : gapsL (P.map embS) = P.map fun d => ((d.2 : Nat) : Int) := by
  unfold gapsL
  rw [List.map_map]
  rfl
 have hden : densF (gapsL (P.map embS)) ((spanN (P.map embS) : Nat) : Int) 0 = (((P.map fun d => spanN (P.map embS) / d.2).sum : Nat) : Int) := by
  generalize spanN (P.map embS) = M at hr
  rw [hgl]
  have := densF_sum M hr.2 P 0 (fun d hd => by have := hP d hd; omega) (by omega)
  rw [Nat.zero_add] at this
  exact this
 have hs : (P.map fun d => spanN (P.map embS) / d.2).sum ≤ P.length * spanN (P.map embS) := by
  generalize spanN (P.map embS) = M
  clear hr hgl hden hl hP
  induction P with
  | nil => simp
  | cons d P ih =>
   rw [List.map_cons, List.sum_cons, List.length_cons, Nat.succ_mul]
   have := Nat.div_le_self M d.2
   omega
 unfold densP
 change (wrap64 (Int.tdiv (densF (gapsL (P.map embS)) ((spanN (P.map embS) : Nat) : Int) 0) (gI (densF (gapsL (P.map embS)) ((spanN (P.map embS) : Nat) : Int) 0) ((spanN (P.map embS) : Nat) : Int))) == wrap64 (Int.tdiv ((spanN (P.map embS) : Nat) : Int) (gI (densF (gapsL (P.map embS)) ((spanN (P.map embS) : Nat) : Int) 0) ((spanN (P.map embS) : Nat) : Int)))) = true ↔ _
 rw [hden]
 generalize (P.map fun d => spanN (P.map embS) / d.2).sum = S at hs
 have hs2 : S ≤ 8 * spanN (P.map embS) := Nat.le_trans hs (Nat.mul_le_mul_right _ hl)
 generalize spanN (P.map embS) = M at hr hs2
 rw [gI_nat _ _ (by omega), ← Int.ofNat_tdiv, ← Int.ofNat_tdiv]
 have q1 := Nat.div_le_self S (Nat.gcd S M)
 have q2 := Nat.div_le_self M (Nat.gcd S M)
 have n1 : (0 : Int) ≤ ((S / Nat.gcd S M : Nat) : Int) := Int.natCast_nonneg _
 have n2 : (0 : Int) ≤ ((M / Nat.gcd S M : Nat) : Int) := Int.natCast_nonneg _
 rw [wrap64_id (by omega) (by omega), wrap64_id (by omega) (by omega), beq_iff_eq]
 constructor
 ·intro e
  have e2 : S / Nat.gcd S M = M / Nat.gcd S M := by omega
  have a1 := Nat.div_mul_cancel (Nat.gcd_dvd_left S M)
  have a2 := Nat.div_mul_cancel (Nat.gcd_dvd_right S M)
  rw [e2] at a1
  exact a1.symm.trans a2
 ·intro e
  rw [e]
theorem open_none (P : List (Nat × Nat)) : ∀ (d n : Nat), openF (P.map embS) d n = none ↔ ∀ y, n ≤ y → y < n + d → ∃ e ∈ P, hasN e y = true
 | 0, n => by
  simp only [openF, true_iff]
  intro y h1 h2
  omega
 | d + 1, n => by
  have ih := open_none P d (n + 1)
  simp only [openF]
  have ho : openP (P.map embS) n = true ↔ ¬ ∃ e ∈ P, hasN e n = true := by
   unfold openP
   rw [List.all_eq_true]
   constructor
   ·rintro h ⟨e, he, hh⟩
    have := h (embS e) (List.mem_map.2 ⟨e, he, rfl⟩)
    rw [hasB_emb, hh] at this
    simp at this
   ·intro h x hx
    obtain ⟨e, he, rfl⟩ := List.mem_map.1 hx
    rw [hasB_emb]
    have : ¬ hasN e n = true := fun z => h ⟨e, he, z⟩
    simpa using this
  by_cases h : openP (P.map embS) n = true
  ·rw [if_pos h]
   constructor
   ·intro e; cases e
   ·intro e
    exact absurd (e n (by omega) (by omega)) (ho.1 h)
  ·rw [if_neg h, ih]
   constructor
   ·intro e y h1 h2
    by_cases hy : y = n
    ·subst hy
     exact Classical.byContradiction fun z => h (ho.2 z)
    ·exact e y (by omega) (by omega)
   ·intro e y h1 h2
    exact e y (by omega) (by omega)
theorem exact_law (l : List S40) (h : areClassesB l = true) : exactB l = (apartAll l l.length 0 && decide ((openR l).2 = 4)) := by
 obtain ⟨P, rfl, h1, hl, hP⟩ := emb_of h
 unfold exactB
 by_cases ha : apartAll (P.map embS) (P.map embS).length 0 = true
 ·rw [ha, Bool.true_and, Bool.true_and, Bool.eq_iff_iff, dens_emb P hl hP, decide_eq_true_iff]
  rw [exact_count P _ ((apart_emb P hl hP).1 ha) (fun d hd => ⟨(hP d hd).1, span_dvd P hP d hd⟩)]
  have := open_none P (spanN (P.map embS)) 0
  unfold openR
  cases ho : openF (P.map embS) (spanN (P.map embS)) 0 with
  | none =>
   simp only [true_iff]
   have := this.1 ho
   refine ⟨fun _ => trivial, fun _ n hn => this n (by omega) (by omega)⟩
  | some m =>
   simp only
   constructor
   ·intro e
    have := this.2 (fun y _ hy => e y (by omega))
    rw [ho] at this
    cases this
   ·intro e
    exact absurd e (by decide)
 ·rw [Bool.not_eq_true] at ha
  rw [ha, Bool.false_and, Bool.false_and]
theorem idx_at (P : List (Nat × Nat)) (hA : P.Pairwise AptN) (i : Nat) (hi : i < P.length) (n : Nat) : idxC (fun c => hasB c.f0 c.f1 (n : Int)) (P.map embS) = (i : Int) ↔ hasN P[i] n = true := by
 have hget : ∀ j, (hj : j < (P.map embS).length) → hasB ((P.map embS)[j]).f0 ((P.map embS)[j]).f1 (n : Int) = hasN (P[j]'(by rw [List.length_map] at hj; exact hj)) n := by
  intro j hj
  rw [List.getElem_map, hasB_emb]
 unfold idxC
 constructor
 ·intro h
  cases hf : (P.map embS).findIdx? (fun c => hasB c.f0 c.f1 (n : Int)) with
  | none =>
   rw [hf] at h
   simp only at h
   omega
  | some j =>
   rw [hf] at h
   simp only at h
   have hj : j = i := by omega
   subst hj
   obtain ⟨h1, h2, _⟩ := List.findIdx?_eq_some_iff_getElem.1 hf
   rw [hget j h1] at h2
   exact h2
 ·intro h
  have : (P.map embS).findIdx? (fun c => hasB c.f0 c.f1 (n : Int)) = some i := by
   rw [List.findIdx?_eq_some_iff_getElem]
   refine ⟨by rw [List.length_map]; exact hi, by rw [hget i (by rw [List.length_map]; exact hi)]; exact h, fun j hji hz => ?_⟩
   rw [hget j (by rw [List.length_map]; omega)] at hz
   exact List.pairwise_iff_getElem.1 hA j i (by omega) hi hji (has_meet hz h)
  rw [this]
theorem idx_range (p : S40 → Bool) (l : List S40) : -1 ≤ idxC p l ∧ idxC p l < (l.length : Int) := by
 unfold idxC
 cases h : l.findIdx? p with
 | none =>
  simp only
  omega
 | some i =>
  obtain ⟨h1, _⟩ := List.findIdx?_eq_some_iff_getElem.1 h
  simp only
  omega
theorem turns_range (l : List S40) : ∀ (d n : Nat), ∀ x ∈ turnsF l d n, -1 ≤ x ∧ x < (l.length : Int)
 | 0, _, x, h => by simp [turnsF] at h
 | d + 1, n, x, h => by
  simp only [turnsF] at h
  rcases List.mem_cons.1 h with rfl | h
  ·exact idx_range _ _
  ·exact turns_range l d (n + 1) x h
theorem places_turns (P : List (Nat × Nat)) (hA : P.Pairwise AptN) (i : Nat) (hi : i < P.length) : ∀ (d n : Nat), placesFrom (i : Int) (turnsF (P.map embS) d n) (n : Int) = posN (P[i]).2 (P[i]).1 d n
 | 0, n => rfl
 | d + 1, n => by
  have ih := places_turns P hA i hi d (n + 1)
  have hx := idx_at P hA i hi n
  simp only [turnsF, placesFrom, posN]
  rw [show (n : Int) + 1 = ((n + 1 : Nat) : Int) from rfl, ih]
  unfold hasN at hx
  rw [beq_iff_eq] at hx
  by_cases e : n % (P[i]).2 = (P[i]).1
  ·rw [if_pos (hx.2 e), if_pos e]
  ·rw [if_neg (fun z => e (hx.1 z)), if_neg e]
theorem waits_turns (P : List (Nat × Nat)) (hA : P.Pairwise AptN) (hP : ∀ d ∈ P, d.1 < d.2 ∧ d.2 ≤ 40) (i : Nat) (hi : i < P.length) (D : Nat) (hD : (P[i]).2 ∣ D) (h0 : 1 ≤ D) : ∃ m, waitsL (turnsF (P.map embS) D 0) (i : Int) = List.replicate (m + 1) ((P[i]).2 : Int) ∧ (placesFrom (i : Int) (turnsF (P.map embS) D 0) 0).headD (-1) = ((P[i]).1 : Int) := by
 obtain ⟨m, rfl⟩ := hD
 have hp := places_turns P hA i hi ((P[i]).2 * m) 0
 have hm : m ≠ 0 := by
  intro e
  rw [e, Nat.mul_zero] at h0
  omega
 obtain ⟨m, rfl⟩ : ∃ u, m = u + 1 := ⟨m - 1, by omega⟩
 rw [Int.natCast_zero] at hp
 refine ⟨m, ?_, ?_⟩
 ·unfold waitsL
  rw [turnsF_length, hp, Nat.mul_comm, posN_full _ _ _ (hP _ (List.getElem_mem hi)).1, waitsP_prog]
 ·rw [hp, Nat.mul_comm, posN_full _ _ _ (hP _ (List.getElem_mem hi)).1]
  rfl
theorem step_turns (P : List (Nat × Nat)) (hA : P.Pairwise AptN) (hP : ∀ d ∈ P, d.1 < d.2 ∧ d.2 ≤ 40) (i : Nat) (hi : i < P.length) (D : Nat) (hD : (P[i]).2 ∣ D) (h0 : 1 ≤ D) : stepC (turnsF (P.map embS) D 0) (i : Int) = some (embS P[i]) := by
 obtain ⟨m, hw, hh⟩ := waits_turns P hA hP i hi D hD h0
 unfold stepC
 rw [hw, hh]
 have hr : rd (List.replicate (m + 1) ((P[i]).2 : Int)) 0 = ((P[i]).2 : Int) := by
  have := rd_get (List.replicate (m + 1) ((P[i]).2 : Int)) 0 (by simp)
  rw [Int.natCast_zero] at this
  rw [this, List.getElem_replicate]
 rw [hr, if_neg (by simp [List.replicate_succ]), if_pos (by
  rw [List.all_eq_true]
  intro x hx
  rw [List.eq_of_mem_replicate hx]
  exact beq_self_eq_true _)]
 rfl
theorem cot_turns (P : List (Nat × Nat)) (hA : P.Pairwise AptN) (hP : ∀ d ∈ P, d.1 < d.2 ∧ d.2 ≤ 40) (D : Nat) (hD : ∀ d ∈ P, d.2 ∣ D) (h0 : 1 ≤ D) : ∀ (d i : Nat), i + d = P.length → cotL (turnsF (P.map embS) D 0) d i = some ((P.drop i).map embS)
 | 0, i, h => by
  rw [List.drop_of_length_le (by omega)]
  rfl
 | d + 1, i, h => by
  simp only [cotL]
  rw [step_turns P hA hP i (by omega) D (hD _ (List.getElem_mem _)) h0, cot_turns P hA hP D hD h0 d (i + 1) (by omega), List.drop_eq_getElem_cons (show i < P.length by omega)]
  rfl
theorem turns_are (l : List S40) (D : Nat) (h1 : 1 ≤ D) (h2 : D ≤ 120) (a : Int) (ha : (l.length : Int) ≤ a) (ha2 : a ≤ 8) : areTurnsB (turnsF l D 0) a = true := by
 unfold areTurnsB withinB
 rw [turnsF_length, Bool.and_eq_true, List.all_eq_true]
 refine ⟨by simp; omega, fun x hx => ?_⟩
 have := turns_range l D 0 x hx
 rw [wrap64_id (by omega) (by omega)]
 simp
 omega
theorem turns_back (l : List S40) (h : areClassesB l = true) (ha : apartAll l l.length 0 = true) (hs : ¬ spanN l > 120) : cotR (turnsF l (spanN l) 0) (l.length : Int) = (l, 0) ∧ ∀ i : Nat, i < l.length → ∃ m, waitsR (turnsF l (spanN l) 0) (i : Int) = (List.replicate m (rd_T40 l (i : Int)).f1, 0) := by
 obtain ⟨P, rfl, h1, hl, hP⟩ := emb_of h
 have hA := (apart_emb P hl hP).1 ha
 have hr := spanN_range (P.map embS) (by rw [List.length_map]; exact hl) (emb_gaps hP)
 have hl2 : ((P.map embS).length : Int) ≤ 8 := by rw [List.length_map]; omega
 have hl1 : 1 ≤ ((P.map embS).length : Int) := by rw [List.length_map]; omega
 constructor
 ·unfold cotR
  have ht := turns_are (P.map embS) _ hr.1 (by omega) ((P.map embS).length : Int) (by omega) hl2
  have hc := cot_turns P hA hP (spanN (P.map embS)) (span_dvd P hP) hr.1 P.length 0 (by omega)
  rw [if_pos (by unfold withinB; simp; rw [List.length_map] at hl1 hl2; omega), if_pos ht, toNat_nat, show (P.map embS).length = P.length from List.length_map .., hc, List.drop_zero]
  unfold endC
  simp only [List.nil_append]
  rw [if_pos (by
   rw [List.all_eq_true]
   intro x hx
   unfold okC
   exact decide_eq_true (emb_gaps hP x hx).2)]
 ·intro i hi
  have hi2 : i < P.length := by rw [List.length_map] at hi; exact hi
  obtain ⟨m, hw, _⟩ := waits_turns P hA hP i hi2 _ (span_dvd P hP _ (List.getElem_mem hi2)) hr.1
  refine ⟨m + 1, ?_⟩
  unfold waitsR
  rw [if_pos (turns_are _ _ hr.1 (by omega) 8 hl2 (by omega)), if_pos (by unfold withinB; simp; omega), hw, rd_emb P embS i hi2]
  rfl
theorem cotL_get (l : List Int) : ∀ (d i : Nat) (C : List S40), cotL l d i = some C → ∀ j, j < d → ∃ h : j < C.length, stepC l ((i + j : Nat) : Int) = some C[j]
 | 0, i, C, _, j, hj => absurd hj (Nat.not_lt_zero _)
 | d + 1, i, C, h, j, hj => by
  simp only [cotL] at h
  cases hs : stepC l (i : Int) with
  | none => rw [hs] at h; cases h
  | some c =>
   rw [hs] at h
   simp only [Option.map_eq_some_iff] at h
   obtain ⟨C', h', rfl⟩ := h
   cases j with
   | zero => exact ⟨by simp, by simpa using hs⟩
   | succ j =>
    obtain ⟨h1, h2⟩ := cotL_get l d (i + 1) C' h' j (by omega)
    refine ⟨by simpa using h1, ?_⟩
    rw [show i + (j + 1) = i + 1 + j by omega, h2]
    rfl
theorem step_class (l : List Int) (t : Int) (c : S40) (h : stepC l t = some c) : ∃ a G m : Nat, c = embS (a, G) ∧ a < G ∧ m * G = l.length ∧ ∀ y, y < l.length → y % G = a → l[y]? = some t := by
 unfold stepC at h
 by_cases h1 : waitsL l t = []
 ·rw [if_pos h1] at h
  cases h
 ·rw [if_neg h1] at h
  by_cases h2 : ((waitsL l t).all fun n => n == rd (waitsL l t) 0) = true
  ·rw [if_pos h2] at h
   have hc := Option.some.inj h
   cases hp : placesFrom t l 0 with
   | nil => exact absurd ((waits_nil l t).2 hp) h1
   | cons p r =>
    obtain ⟨a, G, m, e1, e2, e3, e4, e5⟩ := waits_class l t (rd (waitsL l t) 0) p r hp (fun w hw => by
     have := List.all_eq_true.1 h2 w hw
     exact beq_iff_eq.1 this)
    refine ⟨a, G, m, ?_, e3, e4, e5⟩
    rw [← hc, hp, e2]
    show (⟨p, (G : Int)⟩ : S40) = embS (a, G)
    rw [e1]
    rfl
  ·rw [if_neg h2] at h
   cases h
theorem cot_apart (l : List Int) (m : Int) (C : List S40) (h : cotR l m = (C, 0)) : areClassesB C = true ∧ apartAll C C.length 0 = true := by
 unfold cotR at h
 by_cases h1 : withinB m 1 8 = true
 ·rw [if_pos h1] at h
  by_cases h2 : areTurnsB l m = true
  ·rw [if_pos h2] at h
   unfold withinB at h1
   simp only [Bool.and_eq_true, decide_eq_true_eq] at h1
   have hlen := areTurns_len h2
   cases hc : cotL l m.toNat 0 with
   | none =>
    rw [hc] at h
    simp [endC] at h
   | some C' =>
    rw [hc] at h
    simp only [endC, List.nil_append] at h
    by_cases h3 : (C'.all okC) = true
    ·rw [if_pos h3] at h
     have hC : C' = C := (Prod.mk.inj h).1
     subst hC
     have hCl := cotL_length l _ _ _ hc
     have hget := cotL_get l _ _ _ hc
     -- the classes as pairs
     have hall : ∀ x ∈ C', ∃ d : Nat × Nat, x = embS d ∧ d.1 < d.2 ∧ d.2 ≤ 40 := by
      intro x hx
      obtain ⟨j, hj, rfl⟩ := List.getElem_of_mem hx
      obtain ⟨h4, h5⟩ := hget j (by omega)
      obtain ⟨a, G, q, e1, e2, e3, e4⟩ := step_class l _ _ h5
      have hok := List.all_eq_true.1 h3 _ (List.getElem_mem hj)
      unfold okC at hok
      have hok := of_decide_eq_true hok
      rw [e1] at hok
      refine ⟨(a, G), e1, e2, ?_⟩
      simp only [embS] at hok
      simp only
      omega
     have hex : ∃ P : List (Nat × Nat), C' = P.map embS ∧ ∀ d ∈ P, d.1 < d.2 ∧ d.2 ≤ 40 := by
      clear h3 h hCl hget hc
      induction C' with
      | nil => exact ⟨[], rfl, by simp⟩
      | cons x C' ih =>
       obtain ⟨P, e1, e2⟩ := ih (fun y hy => hall y (List.mem_cons_of_mem _ hy))
       obtain ⟨d, e3, e4⟩ := hall x (List.mem_cons_self ..)
       refine ⟨d :: P, by rw [List.map_cons, e3, e1], fun y hy => ?_⟩
       rcases List.mem_cons.1 hy with rfl | hy
       ·exact e4
       ·exact e2 y hy
     obtain ⟨P, rfl, hP⟩ := hex
     have hPl : P.length = m.toNat := by rw [List.length_map] at hCl; exact hCl
     constructor
     ·unfold areClassesB
      rw [Bool.and_eq_true]
      constructor
      ·unfold withinB
       rw [List.length_map]
       simp
       omega
      ·rw [List.all_eq_true]
       intro x hx
       obtain ⟨d, hd, rfl⟩ := List.mem_map.1 hx
       have := hP d hd
       unfold classOk withinB embS
       simp only
       rw [wrap64_id (by omega) (by omega)]
       simp
       omega
     ·rw [apart_emb P (by omega) hP, List.pairwise_iff_getElem]
      intro i j hi hj hij hd
      obtain ⟨a1, b1⟩ := hget i (by omega)
      obtain ⟨a2, b2⟩ := hget j (by omega)
      obtain ⟨a, G, q, e1, e2, e3, e4⟩ := step_class l _ _ b1
      obtain ⟨b, H, s, f1, f2, f3, f4⟩ := step_class l _ _ b2
      rw [List.getElem_map] at e1 f1
      have g1 : P[i] = (a, G) := by
       generalize P[i] = u at e1
       obtain ⟨x, y⟩ := u
       unfold embS at e1
       injection e1 with e1 e1'
       simp only at e1 e1'
       rw [show x = a by omega, show y = G by omega]
      have g2 : P[j] = (b, H) := by
       generalize P[j] = u at f1
       obtain ⟨x, y⟩ := u
       unfold embS at f1
       injection f1 with f1 f1'
       simp only at f1 f1'
       rw [show x = b by omega, show y = H by omega]
      rw [g1, g2] at hd
      simp only at hd
      obtain ⟨y, y1, y2⟩ := common_slot G H a b e2 f2 hd
      have z1 : y % l.length % G = a := by
       rw [Nat.mod_mod_of_dvd _ ⟨q, by rw [Nat.mul_comm]; exact e3.symm⟩]
       exact y1
      have z2 : y % l.length % H = b := by
       rw [Nat.mod_mod_of_dvd _ ⟨s, by rw [Nat.mul_comm]; exact f3.symm⟩]
       exact y2
      have hy := Nat.mod_lt y (show 0 < l.length by omega)
      have := (e4 _ hy z1).symm.trans (f4 _ hy z2)
      have := Option.some.inj this
      omega
    ·rw [if_neg h3] at h
     simp at h
  ·rw [if_neg h2] at h
   simp at h
 ·rw [if_neg h1] at h
  simp at h
end Go.Proofs.Ytdkhecebffjpjaa.X
