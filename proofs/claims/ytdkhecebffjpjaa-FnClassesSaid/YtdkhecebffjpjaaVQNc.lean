import Derived.Test.YtdkhecebffjpjaaVQNb
import Derived.Test.YtdkhecebffjpjaaVQY
import Derived.Test.YtdkhecebffjpjaaY0
import Derived.Test.YtdkhecebffjpjaaY8
import Derived.Test.YtdkhecebffjpjaaY16
import Derived.Test.YtdkhecebffjpjaaY18
namespace Go.Proofs.Ytdkhecebffjpjaa.X
set_option linter.unusedVariables false
set_option linter.unusedSimpArgs false
open Go.RowKit Go.Proofs.YtdkhecebffjpjaaW.PrintWords Go.Proofs.YtdkhecebffjpjaaW.PrintLast
theorem apartD_of (l : List S40) (h : ∀ i j : Nat, j < i → i < l.length → meetD (rd_T40 l (i : Int)).f0 (rd_T40 l (i : Int)).f1 (rd_T40 l (j : Int)).f0 (rd_T40 l (j : Int)).f1 = false) : ∀ (d i : Nat), i + d = l.length → apartD l d i = true := by
 intro d
 induction d with
 | zero => intro i _; rfl
 | succ d ih =>
  intro i hi
  simp only [apartD]
  rw [ih (i + 1) (by omega), Bool.and_true]
  unfold apartBD
  rw [List.all_eq_true]
  intro x hx
  obtain ⟨j, hj, rfl⟩ := List.getElem_of_mem hx
  have hj2 := hj
  rw [List.length_take] at hj2
  have := h i j (by omega) (by omega)
  rw [rdC_get l j (by omega)] at this
  rw [List.getElem_take, this]
  rfl
theorem lcm_eq (x g : Nat) (hg : 1 ≤ g) : lcmN x g = Nat.lcm x g := by
 unfold lcmN Nat.lcm
 have h0 : 0 < Nat.gcd x g := Nat.gcd_pos_of_pos_right x hg
 obtain ⟨u, hu⟩ := Nat.gcd_dvd_left x g
 generalize hgc : Nat.gcd x g = c at hu h0
 rw [hu, Nat.mul_div_cancel_left _ h0, Nat.mul_assoc, Nat.mul_div_cancel_left _ h0]
theorem mulF_dvd : ∀ (l : List Int) (x : Nat), (∀ g ∈ l, 1 ≤ g) → x ∣ mulF l x ∧ ∀ g ∈ l, g.toNat ∣ mulF l x := by
 intro l
 induction l with
 | nil => intro x _; simp [mulF]
 | cons g r ih =>
  intro x hg
  have hg1 := hg g (List.mem_cons_self ..)
  obtain ⟨h1, h2⟩ := ih (lcmN x g.toNat) (fun y hy => hg y (List.mem_cons_of_mem _ hy))
  rw [lcm_eq x g.toNat (by omega)] at h1 h2
  simp only [mulF]
  rw [lcm_eq x g.toNat (by omega)]
  refine ⟨Nat.dvd_trans (Nat.dvd_lcm_left _ _) h1, fun y hy => ?_⟩
  rcases List.mem_cons.1 hy with rfl | hy
  ·exact Nat.dvd_trans (Nat.dvd_lcm_right _ _) h1
  ·exact h2 y hy
theorem densF_sum (D : Nat) (hD : D ≤ 6553600000000) : ∀ (Q : List (Nat × Nat)) (s : Nat), (∀ d ∈ Q, 1 ≤ d.2) → s + Q.length * 6553600000000 ≤ 9000000000000000000 → densF (Q.map fun d => ((d.2 : Nat) : Int)) (D : Int) (s : Int) = ((s + (Q.map fun d => D / d.2).sum : Nat) : Int) := by
 intro Q
 induction Q with
 | nil => intro s _ _; simp [densF]
 | cons d Q ih =>
  intro s hQ hs
  have hd := hQ d (List.mem_cons_self ..)
  have hq : D / d.2 ≤ D := Nat.div_le_self _ _
  rw [List.length_cons, Nat.succ_mul] at hs
  simp only [List.map_cons, densF, List.sum_cons]
  have e1 : wrap64 (Int.tdiv (D : Int) (d.2 : Int)) = ((D / d.2 : Nat) : Int) := by
   rw [← Int.ofNat_tdiv]
   generalize D / d.2 = u at hq
   exact wrap64_id (by omega) (by omega)
  rw [e1, ← Int.natCast_add]
  generalize D / d.2 = u at hq
  rw [wrap64_id (x := ((s + u : Nat) : Int)) (by omega) (by omega), ih (s + u) (fun y hy => hQ y (List.mem_cons_of_mem _ hy)) (by omega), Nat.add_assoc]
theorem natl_exact (P : List (Nat × Nat)) (hl : P.length ≤ 8) (hP : ∀ d ∈ P, d.1 < d.2 ∧ d.2 ≤ 40) (h : Natl P) : exactD (P.map embS) = true := by
 unfold exactD
 rw [Bool.and_eq_true]
 constructor
 ·refine apartD_of _ (fun i j hj hi => ?_) _ 0 (by omega)
  rw [List.length_map] at hi
  have hA := List.pairwise_iff_getElem.1 (natl_apt h) j i (by omega) hi hj
  have hpi := hP _ (List.getElem_mem hi)
  have hpj := hP _ (List.getElem_mem (show j < P.length by omega))
  rw [rd_emb P embS i hi, rd_emb P embS j (by omega)]
  generalize P[i] = u at hA hpi
  generalize P[j] = v at hA hpj
  obtain ⟨x, y⟩ := u
  obtain ⟨z, t⟩ := v
  unfold AptN at hA
  simp only at hA hpi hpj
  show meetD (x : Int) (y : Int) (z : Int) (t : Int) = false
  refine meetD_eq _ _ y t (by omega) (by omega) (fun hd => ?_)
  rw [Nat.gcd_comm y t, show (x : Int) - (z : Int) = -((z : Int) - (x : Int)) by omega, Int.dvd_neg] at hd
  exact hA hd
 ·have hgl : gapsL (P.map embS) = P.map fun d => ((d.2 : Nat) : Int) := by
   unfold gapsL
   rw [List.map_map]
   rfl
  have hg1 : ∀ g ∈ gapsL (P.map embS), 1 ≤ g ∧ g ≤ 40 := by
   rw [hgl]
   intro g hg
   obtain ⟨d, hd, rfl⟩ := List.mem_map.1 hg
   have := hP d hd
   omega
  have hr := mulF_range _ (by rw [gapsL_length, List.length_map]; exact hl) hg1
  have hdv := (mulF_dvd (gapsL (P.map embS)) 1 (fun g hg => (hg1 g hg).1)).2
  have hs := natl_sum h (mulF (gapsL (P.map embS)) 1) (fun d hd => ⟨by
   have := hdv ((d.2 : Nat) : Int) (by rw [hgl]; exact List.mem_map.2 ⟨d, hd, rfl⟩)
   rwa [Int.toNat_natCast] at this, by have := hP d hd; omega⟩)
  have hden : densF (gapsL (P.map embS)) ((mulF (gapsL (P.map embS)) 1 : Nat) : Int) 0 = ((mulF (gapsL (P.map embS)) 1 : Nat) : Int) := by
   generalize hM : mulF (gapsL (P.map embS)) 1 = M at hr hs
   rw [hgl]
   have := densF_sum M hr.2 P 0 (fun d hd => by have := hP d hd; omega) (by omega)
   rw [hs, Nat.zero_add] at this
   exact this
  unfold densD
  rw [hden]
  exact beq_self_eq_true _
theorem natural_both (l : List S40) (h : areClassesB l = true) : ∃ b c : Bool, (∀ k, 10000 < k → impl_Class_isNatural.f k 0 1 l = some b) ∧ (∀ k, 10000 < k → spec_l05Natural.f k l = some c) ∧ b = (exactD l && c) := by
 have hlen := classes_len h
 have hmem := classes_mem h
 obtain ⟨P, rfl⟩ : ∃ P : List (Nat × Nat), l = P.map embS := ⟨l.map fun d => (d.f0.toNat, d.f1.toNat), by
  rw [List.map_map]
  have : ∀ x ∈ l, (embS ∘ fun d : S40 => (d.f0.toNat, d.f1.toNat)) x = x := fun x hx => by
   have := hmem x hx
   cases x with
   | mk f0 f1 =>
    simp only at this
    simp only [Function.comp, embS]
    rw [Int.toNat_of_nonneg (by omega), Int.toNat_of_nonneg (by omega)]
  rw [List.map_congr_left this, List.map_id']⟩
 rw [List.length_map] at hlen
 have hP : ∀ d ∈ P, d.1 < d.2 ∧ d.2 ≤ 40 := fun d hd => by
  have := hmem (embS d) (List.mem_map.2 ⟨d, hd, rfl⟩)
  simp only [embS] at this
  omega
 have hE : P.map embS = P.map (embC 0 1) := by
  refine List.map_congr_left (fun d _ => ?_)
  unfold embS embC
  simp
 obtain ⟨b, hb, hbi⟩ := natI_f 6 P 0 1 10000 hlen.2 (by omega) (fun d hd => by have := hP d hd; omega) (by omega)
 obtain ⟨c, hc, hci⟩ := specNat_f 6 P 10000 (by intro e; subst e; simp at hlen) hlen.2 (fun d hd => by have := hP d hd; omega) (by omega)
 refine ⟨b, c, fun k hk => ?_, fun k hk => ?_, ?_⟩
 ·rw [hE]
  exact at_rounds (g := fun k => impl_Class_isNatural.f k 0 1 (P.map (embC 0 1))) (fun k => impl_Class_isNatural.mono 0 1 _ k) (k := 10000) (by omega) hb
 ·exact at_rounds (g := fun k => spec_l05Natural.f k (P.map embS)) (fun k => spec_l05Natural.mono _ k) (k := 10000) (by omega) hc
 ·cases b with
  | true =>
   have hN := hbi.1 rfl
   rw [natl_exact P hlen.2 hP hN, hci.2 hN]
   rfl
  | false =>
   cases c with
   | true => exact absurd (hbi.2 (hci.1 rfl)) (by decide)
   | false => rw [Bool.and_false]
end Go.Proofs.Ytdkhecebffjpjaa.X
