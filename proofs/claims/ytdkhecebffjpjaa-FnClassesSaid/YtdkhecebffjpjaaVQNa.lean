import Derived.Test.YtdkhecebffjpjaaVQZe
import Derived.Test.YtdkhecebffjpjaaVQN
import Derived.Test.YtdkhecebffjpjaaY0
import Derived.Test.YtdkhecebffjpjaaY10
import Derived.Test.YtdkhecebffjpjaaY18
namespace Go.Proofs.Ytdkhecebffjpjaa.X
set_option linter.unusedVariables false
set_option linter.unusedSimpArgs false
open Go.RowKit Go.Proofs.YtdkhecebffjpjaaW.PrintWords Go.Proofs.YtdkhecebffjpjaaW.PrintLast
def subN (m r : Nat) (L : List (Nat × Nat)) : List (Nat × Nat) := (L.filter fun d => d.1 % m == r).map fun d => (d.1 / m, d.2 / m)
inductive Natl : List (Nat × Nat) → Prop
 | one : Natl [(0, 1)]
 | split (m : Nat) (L : List (Nat × Nat)) (h2 : 2 ≤ m) (hd : ∀ d ∈ L, m ∣ d.2) (hs : ∀ r, r < m → Natl (subN m r L)) : Natl L
theorem mem_subN {m r : Nat} {L : List (Nat × Nat)} {e : Nat × Nat} (h : e ∈ subN m r L) : ∃ d ∈ L, d.1 % m = r ∧ e = (d.1 / m, d.2 / m) := by
 unfold subN at h
 rw [List.mem_map] at h
 obtain ⟨d, hd, rfl⟩ := h
 rw [List.mem_filter] at hd
 exact ⟨d, hd.1, by simpa using hd.2, rfl⟩
theorem natl_ne {L : List (Nat × Nat)} (h : Natl L) : L ≠ [] := by
 induction h with
 | one => simp
 | split m L h2 hd hs ih =>
  intro e
  subst e
  exact ih 0 (by omega) rfl
theorem subN_sub (p m r s : Nat) (hp : 0 < p) (hr : r < p) (L : List (Nat × Nat)) : subN m s (subN p r L) = subN (p * m) (r + p * s) L := by
 unfold subN
 rw [List.filter_map, List.map_map, List.filter_filter]
 have e1 : (fun d : Nat × Nat => ((fun d : Nat × Nat => d.1 % m == s) ∘ fun d => (d.1 / p, d.2 / p)) d && (d.1 % p == r)) = fun d => d.1 % (p * m) == r + p * s := by
  funext d
  rw [Nat.mod_mul]
  have h1 : d.1 % p < p := Nat.mod_lt _ hp
  show (d.1 / p % m == s && d.1 % p == r) = (d.1 % p + p * (d.1 / p % m) == r + p * s)
  rw [Bool.eq_iff_iff]
  simp only [Bool.and_eq_true, beq_iff_eq]
  constructor
  ·rintro ⟨h2, h⟩
   rw [h, h2]
  ·intro e
   have h : d.1 % p = r := by
    have := congrArg (· % p) e
    simp only [Nat.add_mul_mod_self_left] at this
    rw [Nat.mod_eq_of_lt h1, Nat.mod_eq_of_lt hr] at this
    exact this
   exact ⟨Nat.eq_of_mul_eq_mul_left hp (by omega), h⟩
 rw [e1]
 congr 1
 funext d
 simp [Nat.div_div_eq_div_mul]
theorem natl_refine {L : List (Nat × Nat)} (p m : Nat) (hp : 2 ≤ p) (hm : 1 ≤ m) (hd : ∀ d ∈ L, p * m ∣ d.2) (h : ∀ t, t < p * m → Natl (subN (p * m) t L)) (r : Nat) (hr : r < p) : Natl (subN p r L) := by
 by_cases h1 : m = 1
 ·subst h1
  simpa using h r (by omega)
 ·refine Natl.split m _ (by omega) (fun e he => ?_) (fun s hs => ?_)
  ·obtain ⟨d, hdL, _, rfl⟩ := mem_subN he
   obtain ⟨q, hq⟩ := hd d hdL
   exact ⟨q, by rw [hq, Nat.mul_assoc, Nat.mul_div_cancel_left _ (by omega)]⟩
  ·rw [subN_sub p m r s (by omega) hr]
   refine h _ ?_
   have : p * s + p ≤ p * m := by rw [← Nat.mul_succ]; exact Nat.mul_le_mul_left p hs
   omega
def PrN (p : Nat) : Prop := 2 ≤ p ∧ ∀ q, 2 ≤ q → q ∣ p → q = p
theorem pr_coprime {p m : Nat} (hp : PrN p) (h : ¬ p ∣ m) : Nat.Coprime p m := by
 have h0 : 0 < Nat.gcd p m := Nat.gcd_pos_of_pos_left m (by have := hp.1; omega)
 by_cases h1 : 2 ≤ Nat.gcd p m
 ·have e := hp.2 _ h1 (Nat.gcd_dvd_left p m)
  exact absurd (e ▸ Nat.gcd_dvd_right p m) h
 ·show Nat.gcd p m = 1
  omega
theorem natl_prime {L : List (Nat × Nat)} (h : Natl L) : ∀ p, PrN p → (∀ d ∈ L, p ∣ d.2) → ∀ r, r < p → Natl (subN p r L) := by
 induction h with
 | one =>
  intro p hp hd
  have h1 := hd (0, 1) (by simp)
  have := Nat.le_of_dvd (by omega) h1
  have := hp.1
  omega
 | split m L h2 hd hs ih =>
  intro p hp hpd r hr
  by_cases hpm : p ∣ m
  ·obtain ⟨q, rfl⟩ := hpm
   exact natl_refine p q hp.1 (by rcases Nat.eq_zero_or_pos q with rfl | h <;> omega) hd hs r hr
  ·have hc := pr_coprime hp hpm
   have hM : ∀ d ∈ L, p * m ∣ d.2 := fun d hdL => Nat.Coprime.mul_dvd_of_dvd_of_dvd hc (hpd d hdL) (hd d hdL)
   refine natl_refine p m hp.1 (by omega) hM (fun t ht => ?_) r hr
   have hts : t / m < p := Nat.div_lt_of_lt_mul (by rw [Nat.mul_comm]; exact ht)
   have := ih (t % m) (Nat.mod_lt _ (by omega)) p hp (fun e he => by
    obtain ⟨d, hdL, _, rfl⟩ := mem_subN he
    obtain ⟨q, hq⟩ := hM d hdL
    exact ⟨q, by rw [hq, Nat.mul_comm p m, Nat.mul_assoc, Nat.mul_div_cancel_left _ (by omega)]⟩) (t / m) hts
   rw [subN_sub m p _ _ (by omega) (Nat.mod_lt _ (by omega)), Nat.mod_add_div, Nat.mul_comm m p] at this
   exact this
theorem least_pr {G p : Nat} (h2 : 2 ≤ p) (hd : p ∣ G) (hl : ∀ q, 2 ≤ q → q < p → ¬ q ∣ G) : PrN p :=
 ⟨h2, fun q hq hqp => by
  have := Nat.le_of_dvd (by omega) hqp
  by_cases e : q < p
  ·exact absurd (Nat.dvd_trans hqp hd) (hl q hq e)
  ·omega⟩
theorem parts_len (m : Nat) (L : List (Nat × Nat)) (h : ∀ r, r < m → subN m r L ≠ []) : m ≤ L.length := by
 have hex : ∀ r, r < m → ∃ d ∈ L, d.1 % m = r := fun r hr => by
  obtain ⟨e, he⟩ := List.exists_mem_of_ne_nil _ (h r hr)
  obtain ⟨d, hd, hdr, _⟩ := mem_subN he
  exact ⟨d, hd, hdr⟩
 have hgen : ∀ (n : Nat) (K : List (Nat × Nat)), (∀ r, r < n → ∃ d ∈ K, d.1 % m = r) → n ≤ K.length := by
  intro n
  induction n with
  | zero => intros; omega
  | succ n ih =>
   intro K hK
   obtain ⟨d, hd, hdn⟩ := hK n (by omega)
   have hlt : (K.filter fun e => !(e.1 % m == n)).length < K.length := by
    have h1 := List.length_filter_lt_length_iff_exists (p := fun e : Nat × Nat => !(e.1 % m == n)) (l := K)
    exact h1.2 ⟨d, hd, by simp [hdn]⟩
   have := ih (K.filter fun e => !(e.1 % m == n)) (fun r hr => by
    obtain ⟨e, he, her⟩ := hK r (by omega)
    exact ⟨e, List.mem_filter.2 ⟨he, by simp [her]; omega⟩, her⟩)
   omega
 exact hgen m L hex
theorem natl_len1 {x y : Nat} (h : Natl [(x, y)]) : (x, y) = (0, 1) := by
 cases h with
 | one => rfl
 | split m _ h2 hd hs =>
  have := parts_len m [(x, y)] (fun r hr => natl_ne (hs r hr))
  simp at this
  omega
theorem sum_parts (f : Nat × Nat → Nat) (m : Nat) (hm : 0 < m) (L : List (Nat × Nat)) : (L.map f).sum = ((List.range m).map fun r => ((L.filter fun d => d.1 % m == r).map f).sum).sum := by
 induction L with
 | nil =>
  simp only [List.map_nil, List.filter_nil, List.sum_nil]
  generalize List.range m = R
  induction R with
  | nil => rfl
  | cons a t ih => simpa using ih
 | cons d L ih =>
  have hlt : d.1 % m < m := Nat.mod_lt _ hm
  have hgen : ∀ R : List Nat, R.Nodup → (R.map fun r => (((d :: L).filter fun d => d.1 % m == r).map f).sum).sum = (if d.1 % m ∈ R then f d else 0) + (R.map fun r => ((L.filter fun d => d.1 % m == r).map f).sum).sum := by
   intro R hR
   induction R with
   | nil => simp
   | cons a t iht =>
    rw [List.nodup_cons] at hR
    rw [List.map_cons, List.sum_cons, iht hR.2, List.map_cons, List.sum_cons, List.filter_cons]
    by_cases e : d.1 % m = a
    ·subst e
     simp [hR.1]
     omega
    ·have e2 : (d.1 % m == a) = false := by simpa using e
     simp only [e2, List.mem_cons, e, false_or, Bool.false_eq_true, if_false]
     omega
  rw [hgen _ List.nodup_range, List.map_cons, List.sum_cons, ih, if_pos (List.mem_range.2 hlt)]
theorem natl_sum {L : List (Nat × Nat)} (h : Natl L) : ∀ N, (∀ d ∈ L, d.2 ∣ N ∧ 0 < d.2) → (L.map fun d => N / d.2).sum = N := by
 induction h with
 | one => intro N _; simp
 | split m L h2 hd hs ih =>
  intro N hN
  have hmN : m ∣ N := by
   obtain ⟨e, he⟩ := List.exists_mem_of_ne_nil _ (natl_ne (hs 0 (by omega)))
   obtain ⟨d, hdL, _, _⟩ := mem_subN he
   exact Nat.dvd_trans (hd d hdL) (hN d hdL).1
  rw [sum_parts _ m (by omega)]
  have hr : ∀ r ∈ List.range m, ((L.filter fun d => d.1 % m == r).map fun d => N / d.2).sum = N / m := by
   intro r hr
   have hr := List.mem_range.1 hr
   have := ih r hr (N / m) (fun e he => by
    obtain ⟨d, hdL, _, rfl⟩ := mem_subN he
    obtain ⟨q, hq⟩ := hd d hdL
    obtain ⟨⟨u, hu⟩, h0⟩ := hN d hdL
    rw [hq] at h0 hu
    have hq0 : 0 < q := Nat.pos_of_mul_pos_left h0
    simp only [hq]
    rw [Nat.mul_div_cancel_left _ (by omega), hu, Nat.mul_assoc, Nat.mul_div_cancel_left _ (by omega)]
    exact ⟨⟨u, rfl⟩, hq0⟩)
   rw [← this]
   unfold subN
   rw [List.map_map]
   congr 1
   refine List.map_congr_left (fun d hdL => ?_)
   have hdL := (List.mem_filter.1 hdL).1
   obtain ⟨q, hq⟩ := hd d hdL
   simp only [Function.comp, hq]
   rw [Nat.mul_div_cancel_left _ (by omega), Nat.div_div_eq_div_mul]
  have hc : ((List.range m).map fun r => ((L.filter fun d => d.1 % m == r).map fun d => N / d.2).sum) = (List.range m).map fun _ => N / m := List.map_congr_left hr
  rw [hc]
  have : ∀ n, ((List.range n).map fun _ => N / m).sum = n * (N / m) := by
   intro n
   rw [List.map_const', List.length_range]
   induction n with
   | zero => simp
   | succ n ih => rw [List.replicate_succ, List.sum_cons, ih, Nat.succ_mul]; omega
  rw [this, Nat.mul_div_cancel' hmN]
def AptN (d e : Nat × Nat) : Prop := ¬ (((Nat.gcd d.2 e.2 : Nat) : Int) ∣ ((d.1 : Int) - (e.1 : Int)))
theorem apt_of_parts (m : Nat) (hm : 2 ≤ m) : ∀ (L : List (Nat × Nat)), (∀ d ∈ L, m ∣ d.2) → (∀ r, r < m → (subN m r L).Pairwise AptN) → L.Pairwise AptN := by
 intro L
 induction L with
 | nil => intros; exact List.Pairwise.nil
 | cons x L ih =>
  intro hd hs
  refine List.Pairwise.cons (fun y hy => ?_) (ih (fun d hdL => hd d (List.mem_cons_of_mem _ hdL)) (fun r hr => ?_))
  ·obtain ⟨u, hu⟩ := hd x (List.mem_cons_self ..)
   obtain ⟨v, hv⟩ := hd y (List.mem_cons_of_mem _ hy)
   intro hdv
   rw [hu, hv, Nat.gcd_mul_left] at hdv
   have hmd : (m : Int) ∣ (x.1 : Int) - (y.1 : Int) := Int.dvd_trans (by rw [Int.natCast_mul]; exact Int.dvd_mul_right _ _) hdv
   have hxy : x.1 % m = y.1 % m := by
    have h1 := Int.emod_emod_of_dvd
    have := (Int.emod_eq_emod_iff_emod_sub_eq_zero (m := (x.1 : Int)) (n := (m : Int)) (k := (y.1 : Int))).2 (Int.emod_eq_zero_of_dvd hmd)
    exact_mod_cast this
   have hp := hs (x.1 % m) (Nat.mod_lt _ (by omega))
   have e1 : subN m (x.1 % m) (x :: L) = (x.1 / m, x.2 / m) :: subN m (x.1 % m) L := by
    unfold subN
    rw [List.filter_cons, if_pos (by simp), List.map_cons]
   rw [e1, List.pairwise_cons] at hp
   refine hp.1 (y.1 / m, y.2 / m) ?_ ?_
   ·unfold subN
    exact List.mem_map.2 ⟨y, List.mem_filter.2 ⟨hy, by simp [hxy]⟩, rfl⟩
   ·simp only
    rw [hu, hv, Nat.mul_div_cancel_left _ (by omega), Nat.mul_div_cancel_left _ (by omega)]
    obtain ⟨t, ht⟩ := hdv
    refine ⟨t, ?_⟩
    have ex := Nat.div_add_mod x.1 m
    have ey := Nat.div_add_mod y.1 m
    have hq : (m : Int) * (((x.1 / m : Nat) : Int) - ((y.1 / m : Nat) : Int)) = (m : Int) * ((Nat.gcd u v : Int) * t) := by
     rw [← Int.mul_assoc, ← Int.natCast_mul, ← ht, Int.mul_sub, ← Int.natCast_mul, ← Int.natCast_mul]
     omega
    exact Int.eq_of_mul_eq_mul_left (by omega) hq
  ·have hp := hs r hr
   by_cases e : x.1 % m = r
   ·have e1 : subN m r (x :: L) = (x.1 / m, x.2 / m) :: subN m r L := by
     unfold subN
     rw [List.filter_cons, if_pos (by simp [e]), List.map_cons]
    rw [e1, List.pairwise_cons] at hp
    exact hp.2
   ·have e1 : subN m r (x :: L) = subN m r L := by
     unfold subN
     rw [List.filter_cons, if_neg (by simp [e])]
    rw [e1] at hp
    exact hp
theorem natl_apt {L : List (Nat × Nat)} (h : Natl L) : L.Pairwise AptN := by
 induction h with
 | one => exact List.Pairwise.cons (fun _ h => by simp at h) List.Pairwise.nil
 | split m L h2 hd hs ih => exact apt_of_parts m h2 L hd ih
theorem wrap_nat (u : Nat) (h : u ≤ 1000000) : wrap64 (u : Int) = u := wrap64_id (by omega) (by omega)
def embS (d : Nat × Nat) : S40 := ⟨(d.1 : Int), (d.2 : Int)⟩
def gcdF : List (Nat × Nat) → Nat → Nat
 | [], x => x
 | d :: r, x => gcdF r (Nat.gcd d.2 x)
theorem gcdF_dvd : ∀ (L : List (Nat × Nat)) (x p : Nat), p ∣ gcdF L x ↔ p ∣ x ∧ ∀ d ∈ L, p ∣ d.2 := by
 intro L
 induction L with
 | nil => intro x p; simp [gcdF]
 | cons d r ih =>
  intro x p
  simp only [gcdF, ih, Nat.dvd_gcd_iff, List.mem_cons, forall_eq_or_imp]
  constructor
  ·rintro ⟨⟨h1, h2⟩, h3⟩
   exact ⟨h2, h1, h3⟩
  ·rintro ⟨h2, h1, h3⟩
   exact ⟨⟨h1, h2⟩, h3⟩
theorem subN_len (m r : Nat) (L : List (Nat × Nat)) : (subN m r L).length ≤ L.length := by
 unfold subN
 rw [List.length_map]
 exact List.length_filter_le _ _
theorem rd_emb (P : List (Nat × Nat)) (f : Nat × Nat → S40) (i : Nat) (h : i < P.length) : rd_T40 (P.map f) (i : Int) = f P[i] := by
 rw [rdC_get _ i (by simpa using h), List.getElem_map]
theorem take_get (P : List (Nat × Nat)) (i : Nat) (h : i < P.length) : P.take (i + 1) = P.take i ++ [P[i]] := by
 rw [List.take_add_one, List.getElem?_eq_getElem h]
 rfl
theorem specNat_l0 (P : List (Nat × Nat)) (hl : P.length ≤ 8) (hg : ∀ d ∈ P, 1 ≤ d.2 ∧ d.2 ≤ 40) : ∀ (d i k x : Nat), i + d = P.length → 100 + d < k → x ≤ 40 →
  spec_l05Natural.l0 k (P.map embS) (x : Int) (i : Int) = if gcdF (P.drop i) x = 1 then some false else spec_l05Natural.l1 (k - 1 - d) (P.map embS) ((gcdF (P.drop i) x : Nat) : Int) 2 := by
 intro d
 induction d with
 | zero =>
  intro i k x hi hk hx
  obtain ⟨k, rfl⟩ : ∃ m, k = m + 1 := ⟨k - 1, by omega⟩
  simp only [spec_l05Natural.l0]
  rw [if_neg (by rw [List.length_map]; omega), List.drop_of_length_le (by omega), show gcdF [] x = x from rfl]
  by_cases h : x = 1
  ·rw [if_pos (by omega), if_pos h]
  ·rw [if_neg (by omega), if_neg h]
   rfl
 | succ d ih =>
  intro i k x hi hk hx
  obtain ⟨k, rfl⟩ : ∃ m, k = m + 1 := ⟨k - 1, by omega⟩
  have hgi := hg _ (List.getElem_mem (show i < P.length by omega))
  simp only [spec_l05Natural.l0]
  rw [if_pos (by rw [List.length_map]; omega), if_pos (by omega), rd_emb P embS i (by omega)]
  unfold spec_l01Gcd.f
  have hgc : Nat.gcd (P[i]).2 x ≤ 40 := Nat.le_trans (Nat.gcd_le_left x (by omega)) hgi.2
  rw [show (embS P[i]).f1 = (((P[i]).2 : Nat) : Int) from rfl, specGcd_l0 40 k _ _ (by omega) (by omega), gF_nat 40 _ x hx, Option.bind_some, wrap_succ (n := P.length) (by omega) (by omega), ih (i + 1) k _ (by omega) (by omega) hgc, List.drop_eq_getElem_cons (show i < P.length by omega), show gcdF (P[i] :: P.drop (i + 1)) x = gcdF (P.drop (i + 1)) (Nat.gcd (P[i]).2 x) from rfl, show k + 1 - 1 - (d + 1) = k - 1 - d by omega]
theorem specNat_l1 (l : List S40) (G : Nat) (hG : G ≤ 40) : ∀ (d q k : Nat), q + d = G → 2 ≤ q → 100 + d < k → (∀ j, 2 ≤ j → j < q → ¬ j ∣ G) →
  ∃ p k', k ≤ k' + d + 1 ∧ 2 ≤ p ∧ p ≤ G ∧ p ∣ G ∧ (∀ j, 2 ≤ j → j < p → ¬ j ∣ G) ∧ spec_l05Natural.l1 k l (G : Int) (q : Int) = spec_l05Natural.l2 k' l (p : Int) 0 := by
 intro d
 induction d with
 | zero =>
  intro q k hq h2 hk hj
  obtain ⟨k, rfl⟩ : ∃ m, k = m + 1 := ⟨k - 1, by omega⟩
  obtain rfl : q = G := by omega
  refine ⟨q, k, by omega, h2, Nat.le_refl _, Nat.dvd_refl _, hj, ?_⟩
  simp only [spec_l05Natural.l1]
  rw [if_neg (by omega), if_pos (by rw [← Int.ofNat_tmod, Nat.mod_self]; rfl)]
 | succ d ih =>
  intro q k hq h2 hk hj
  obtain ⟨k, rfl⟩ : ∃ m, k = m + 1 := ⟨k - 1, by omega⟩
  by_cases hd : q ∣ G
  ·refine ⟨q, k, by omega, h2, by omega, hd, hj, ?_⟩
   simp only [spec_l05Natural.l1]
   rw [if_neg (by omega), if_pos (by rw [← Int.ofNat_tmod, Nat.mod_eq_zero_of_dvd hd]; rfl)]
  ·obtain ⟨p, k', h3, h4, h5, h6, h7, h8⟩ := ih (q + 1) k (by omega) (by omega) (by omega) (fun j hj2 hjq => by
    by_cases e : j = q
    ·exact e ▸ hd
    ·exact hj j hj2 (by omega))
   refine ⟨p, k', by omega, h4, h5, h6, h7, ?_⟩
   simp only [spec_l05Natural.l1]
   rw [if_neg (by omega), if_neg (fun e => hd (by
    rw [← Int.ofNat_tmod] at e
    exact Nat.dvd_of_mod_eq_zero (by omega))), wrap_succ (n := 40) (by omega) (by omega), h8]
theorem subN_snoc (m r : Nat) (L : List (Nat × Nat)) (d : Nat × Nat) : subN m r (L ++ [d]) = if d.1 % m = r then subN m r L ++ [(d.1 / m, d.2 / m)] else subN m r L := by
 unfold subN
 rw [List.filter_append, List.map_append]
 by_cases h : d.1 % m = r
 ·simp [h]
 ·simp [h]
theorem specNat_l3 (P : List (Nat × Nat)) (hl : P.length ≤ 8) (hg : ∀ d ∈ P, d.1 < d.2 ∧ d.2 ≤ 40) (p r : Nat) (hp : 2 ≤ p) (hp2 : p ≤ 40) : ∀ (d i k : Nat), i + d = P.length → d < k →
  spec_l05Natural.l3 k (P.map embS) (p : Int) (r : Int) ((subN p r (P.take i)).map embS) (i : Int) = if subN p r P = [] then some false else (spec_l05Natural.f (k - 1 - d) ((subN p r P).map embS)).bind fun t => if t = true then spec_l05Natural.l2 (k - 1 - d) (P.map embS) (p : Int) (wrap64 ((r : Int) + 1)) else some false := by
 intro d
 induction d with
 | zero =>
  intro i k hi hk
  obtain ⟨k, rfl⟩ : ∃ m, k = m + 1 := ⟨k - 1, by omega⟩
  simp only [spec_l05Natural.l3]
  rw [if_neg (by rw [List.length_map]; omega), List.take_of_length_le (by omega), List.length_map]
  by_cases h : subN p r P = []
  ·rw [if_pos (by rw [h]; rfl), if_pos h]
  ·have := List.length_pos_iff.2 h
   rw [if_neg (by omega), if_neg h]
   rfl
 | succ d ih =>
  intro i k hi hk
  obtain ⟨k, rfl⟩ : ∃ m, k = m + 1 := ⟨k - 1, by omega⟩
  have hgi := hg _ (List.getElem_mem (show i < P.length by omega))
  have hn := ih (i + 1) k (by omega) (by omega)
  rw [take_get P i (by omega), subN_snoc] at hn
  have hlen := subN_len p r (P.take i)
  rw [List.length_take] at hlen
  simp only [spec_l05Natural.l3]
  rw [if_pos (by rw [List.length_map]; omega), if_pos (by omega), if_neg (by omega), rd_emb P embS i (by omega)]
  generalize P[i] = e at hgi hn
  obtain ⟨x, y⟩ := e
  simp only at hgi hn
  have hdx : x / p ≤ x := Nat.div_le_self _ _
  have hdy : y / p ≤ y := Nat.div_le_self _ _
  have hm : Int.tmod (embS (x, y)).f0 (p : Int) = ((x % p : Nat) : Int) := (Int.ofNat_tmod x p).symm
  have h1 : wrap64 (Int.tdiv (embS (x, y)).f0 (p : Int)) = ((x / p : Nat) : Int) := by
   rw [show Int.tdiv (embS (x, y)).f0 (p : Int) = ((x / p : Nat) : Int) from (Int.ofNat_tdiv x p).symm, wrap_nat _ (Nat.le_trans hdx (by omega))]
  have h2 : wrap64 (Int.tdiv (embS (x, y)).f1 (p : Int)) = ((y / p : Nat) : Int) := by
   rw [show Int.tdiv (embS (x, y)).f1 (p : Int) = ((y / p : Nat) : Int) from (Int.ofNat_tdiv y p).symm, wrap_nat _ (Nat.le_trans hdy (by omega))]
  rw [hm, h1, h2, wrap_succ (n := P.length) (by omega) (by omega), show k + 1 - 1 - (d + 1) = k - 1 - d by omega]
  by_cases h : x % p = r
  ·rw [if_pos h, List.map_append] at hn
   rw [if_pos (by omega), if_pos (by rw [List.length_map]; omega), ← hn]
   rfl
  ·rw [if_neg h] at hn
   rw [if_neg (by omega), ← hn]
theorem specNat_l2 (P : List (Nat × Nat)) (hl : P.length ≤ 8) (hg : ∀ d ∈ P, d.1 < d.2 ∧ d.2 ≤ 40) (p : Nat) (hp : 2 ≤ p) (hp2 : p ≤ 40) (K : Nat)
  (hF : ∀ r k, r < p → K < k → subN p r P ≠ [] → ∃ b, spec_l05Natural.f k ((subN p r P).map embS) = some b ∧ (b = true ↔ Natl (subN p r P))) :
  ∀ (d r k : Nat), r + d = p → K + 12 * d + 12 < k → ∃ b, spec_l05Natural.l2 k (P.map embS) (p : Int) (r : Int) = some b ∧ (b = true ↔ ∀ q, r ≤ q → q < p → Natl (subN p q P)) := by
 intro d
 induction d with
 | zero =>
  intro r k hr hk
  obtain ⟨k, rfl⟩ : ∃ m, k = m + 1 := ⟨k - 1, by omega⟩
  refine ⟨true, ?_, fun _ q h1 h2 => by omega, fun _ => rfl⟩
  simp only [spec_l05Natural.l2]
  rw [if_neg (by omega)]
 | succ d ih =>
  intro r k hr hk
  obtain ⟨k, rfl⟩ : ∃ m, k = m + 1 := ⟨k - 1, by omega⟩
  have h3 := specNat_l3 P hl hg p r hp hp2 P.length 0 k (by omega) (by omega)
  rw [List.take_zero, show subN p r [] = [] from rfl, List.map_nil, Int.natCast_zero] at h3
  simp only [spec_l05Natural.l2]
  rw [if_pos (by omega), h3]
  by_cases he : subN p r P = []
  ·exact ⟨false, if_pos he, fun h => by simp at h, fun h => absurd he (natl_ne (h r (Nat.le_refl _) (by omega)))⟩
  ·rw [if_neg he]
   obtain ⟨b, hb, hiff⟩ := hF r (k - 1 - P.length) (by omega) (by omega) he
   rw [hb, Option.bind_some, wrap_succ (n := 40) (by omega) (by omega)]
   cases b with
   | false =>
    refine ⟨false, rfl, fun h => by simp at h, fun h => ?_⟩
    exact hiff.2 (h r (Nat.le_refl _) (by omega))
   | true =>
    obtain ⟨c, hc, hciff⟩ := ih (r + 1) (k - 1 - P.length) (by omega) (by omega)
    refine ⟨c, by rw [if_pos rfl, hc], hciff.trans ⟨fun h q h1 h2 => ?_, fun h q h1 h2 => h q (by omega) h2⟩⟩
    by_cases e : q = r
    ·subst e
     exact hiff.1 rfl
    ·exact h q (by omega) h2
theorem sub_gaps {P : List (Nat × Nat)} {n m r : Nat} (hm : 2 ≤ m) (hd : ∀ d ∈ P, m ∣ d.2) (hg : ∀ d ∈ P, d.1 < d.2 ∧ d.2 ≤ 40 ∧ d.2 < 2 ^ (n + 1)) : ∀ d ∈ subN m r P, d.1 < d.2 ∧ d.2 ≤ 40 ∧ d.2 < 2 ^ n := by
 intro e he
 obtain ⟨d, hdP, _, rfl⟩ := mem_subN he
 obtain ⟨h1, h2, h3⟩ := hg d hdP
 obtain ⟨q, hq⟩ := hd d hdP
 have e1 : d.2 / m = q := by rw [hq, Nat.mul_div_cancel_left _ (by omega)]
 have hlt : d.1 / m < q := Nat.div_lt_of_lt_mul (by omega)
 have hle : q * 2 ≤ d.2 := by rw [hq, Nat.mul_comm]; exact Nat.mul_le_mul_right q hm
 simp only [e1]
 rw [Nat.pow_succ] at h3
 exact ⟨hlt, by omega, by omega⟩
theorem natl_small {x y : Nat} (hxy : x < y) : Natl [(x, y)] ↔ y = 1 := by
 constructor
 ·intro h
  have := natl_len1 h
  simp only [Prod.mk.injEq] at this
  exact this.2
 ·rintro rfl
  obtain rfl : x = 0 := by omega
  exact Natl.one
theorem specNat_f : ∀ (n : Nat) (P : List (Nat × Nat)) (k : Nat), P ≠ [] → P.length ≤ 8 → (∀ d ∈ P, d.1 < d.2 ∧ d.2 ≤ 40 ∧ d.2 < 2 ^ n) → 1000 * (n + 1) < k →
  ∃ b, spec_l05Natural.f k (P.map embS) = some b ∧ (b = true ↔ Natl P) := by
 intro n
 induction n with
 | zero =>
  intro P k hne hl hg hk
  obtain ⟨d, hd⟩ := List.exists_mem_of_ne_nil _ hne
  have := hg d hd
  omega
 | succ n ih =>
  intro P k hne hl hg hk
  obtain ⟨k, rfl⟩ : ∃ m, k = m + 1 := ⟨k - 1, by omega⟩
  simp only [spec_l05Natural.f]
  rw [List.length_map]
  by_cases h1 : P.length = 1
  ·rw [if_pos (by omega), if_pos (by omega)]
   obtain ⟨e, rfl⟩ := List.length_eq_one_iff.1 h1
   obtain ⟨x, y⟩ := e
   have hxy := hg (x, y) (by simp)
   refine ⟨_, rfl, ?_⟩
   rw [natl_small hxy.1, beq_iff_eq]
   show ((y : Nat) : Int) = 1 ↔ y = 1
   omega
  ·rw [if_neg (by omega)]
   have hP1 : ¬ (∃ m, 2 ≤ m ∧ ∀ d ∈ P, m ∣ d.2) → ¬ Natl P := by
    intro hno hN
    cases hN with
    | one => exact h1 rfl
    | split m _ h2 hd hs => exact hno ⟨m, h2, hd⟩
   have e := specNat_l0 P hl (fun d hd => by have := hg d hd; omega) P.length 0 k 0 (by omega) (by omega) (by omega)
   rw [List.drop_zero, Int.natCast_zero] at e
   rw [e]
   have hG : ∀ p, p ∣ gcdF P 0 ↔ ∀ d ∈ P, p ∣ d.2 := fun p => by rw [gcdF_dvd]; simp
   generalize gcdF P 0 = G at hG
   obtain ⟨d0, hd0⟩ := List.exists_mem_of_ne_nil _ hne
   have hGd := (hG G).1 (Nat.dvd_refl _) d0 hd0
   have hd0g := hg d0 hd0
   have hGle : G ≤ 40 := Nat.le_trans (Nat.le_of_dvd (by omega) hGd) hd0g.2.1
   have hG0 : 0 < G := Nat.pos_of_dvd_of_pos hGd (by omega)
   by_cases hG1 : G = 1
   ·rw [if_pos hG1]
    refine ⟨false, rfl, fun h => by simp at h, fun hN => absurd hN (hP1 ?_)⟩
    rintro ⟨m, h2, hd⟩
    have := Nat.le_of_dvd (by omega) ((hG m).2 hd)
    omega
   ·rw [if_neg hG1]
    obtain ⟨p, k', h3, h4, h5, h6, h7, h8⟩ := specNat_l1 (P.map embS) G hGle (G - 2) 2 (k - 1 - P.length) (by omega) (by omega) (by omega) (fun j _ _ => by omega)
    rw [show ((2 : Nat) : Int) = 2 from rfl] at h8
    rw [h8]
    have hdiv := (hG p).1 h6
    obtain ⟨b, hb, hiff⟩ := specNat_l2 P hl (fun d hd => by have := hg d hd; omega) p h4 (by omega) (1000 * (n + 1)) (fun r k hr hk hs => ih _ k hs (Nat.le_trans (subN_len p r P) hl) (sub_gaps h4 hdiv hg) hk) p 0 k' (by omega) (by omega)
    rw [Int.natCast_zero] at hb
    refine ⟨b, hb, hiff.trans ⟨fun h => Natl.split p P h4 hdiv (fun r hr => h r (by omega) hr), fun h q _ hq => ?_⟩⟩
    exact natl_prime h p (least_pr h4 h6 h7) hdiv q hq
end Go.Proofs.Ytdkhecebffjpjaa.X
