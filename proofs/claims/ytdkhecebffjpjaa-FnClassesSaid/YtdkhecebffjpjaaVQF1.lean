import Derived.Test.YtdkhecebffjpjaaVQNc
import Derived.Test.YtdkhecebffjpjaaVQW
import Derived.Test.YtdkhecebffjpjaaY0
namespace Go.Proofs.Ytdkhecebffjpjaa.X
set_option linter.unusedVariables false
set_option linter.unusedSimpArgs false
open Go.RowKit Go.Proofs.YtdkhecebffjpjaaW.PrintWords Go.Proofs.YtdkhecebffjpjaaW.PrintLast
def hasN (d : Nat × Nat) (n : Nat) : Bool := n % d.2 == d.1
theorem has_meet {d e : Nat × Nat} {n : Nat} (h1 : hasN d n = true) (h2 : hasN e n = true) : ((Nat.gcd d.2 e.2 : Nat) : Int) ∣ ((d.1 : Int) - (e.1 : Int)) := by
 unfold hasN at h1 h2
 rw [beq_iff_eq] at h1 h2
 have a1 : ((Nat.gcd d.2 e.2 : Nat) : Int) ∣ (n : Int) - (d.1 : Int) := by
  refine Int.dvd_trans (Int.natCast_dvd_natCast.2 (Nat.gcd_dvd_left d.2 e.2)) ?_
  have := Nat.div_add_mod n d.2
  rw [h1] at this
  refine ⟨((n / d.2 : Nat) : Int), ?_⟩
  rw [← Int.natCast_mul]
  omega
 have a2 : ((Nat.gcd d.2 e.2 : Nat) : Int) ∣ (n : Int) - (e.1 : Int) := by
  refine Int.dvd_trans (Int.natCast_dvd_natCast.2 (Nat.gcd_dvd_right d.2 e.2)) ?_
  have := Nat.div_add_mod n e.2
  rw [h2] at this
  refine ⟨((n / e.2 : Nat) : Int), ?_⟩
  rw [← Int.natCast_mul]
  omega
 have := Int.dvd_sub a2 a1
 rwa [show ((n : Int) - (e.1 : Int)) - ((n : Int) - (d.1 : Int)) = (d.1 : Int) - (e.1 : Int) by omega] at this
theorem count_one (r : Nat) : ∀ g : Nat, (List.range g).countP (fun x => x == r) = if r < g then 1 else 0
 | 0 => by simp
 | g + 1 => by
  rw [List.range_succ, List.countP_append, count_one r g]
  by_cases h : g = r
  ·subst h
   simp
  ·have : (g == r) = false := beq_eq_false_iff_ne.2 h
   simp only [List.countP_singleton, this, Bool.false_eq_true, if_false, Nat.add_zero]
   by_cases h2 : r < g
   ·rw [if_pos h2, if_pos (show r < g + 1 by omega)]
   ·rw [if_neg h2, if_neg (show ¬ r < g + 1 by omega)]
theorem count_has (g r : Nat) (hr : r < g) : ∀ m : Nat, (List.range (m * g)).countP (fun n => n % g == r) = m
 | 0 => by simp
 | m + 1 => by
  rw [Nat.succ_mul, List.range_add, List.countP_append, count_has g r hr m, List.countP_map]
  congr 1
  have : (List.range g).countP ((fun n => n % g == r) ∘ fun x => m * g + x) = (List.range g).countP (fun x => x == r) := by
   refine List.countP_congr (fun x hx => ?_)
   have hx := List.mem_range.1 hx
   simp only [Function.comp, beq_iff_eq]
   rw [Nat.add_comm, Nat.add_mul_mod_self_right, Nat.mod_eq_of_lt hx]
  rw [this, count_one, if_pos hr]
theorem count_sum (p : Nat → Bool) (f : Nat → Nat) : ∀ R : List Nat, R.countP p + (R.map f).sum = (R.map fun n => (if p n = true then 1 else 0) + f n).sum
 | [] => rfl
 | n :: R => by
  have ih := count_sum p f R
  rw [List.countP_cons, List.map_cons, List.map_cons, List.sum_cons, List.sum_cons, ← ih]
  omega
theorem swap_sum (R : List Nat) : ∀ P : List (Nat × Nat), (P.map fun d => R.countP (hasN d)).sum = (R.map fun n => P.countP fun d => hasN d n).sum
 | [] => by
  simp only [List.map_nil, List.sum_nil, List.countP_nil]
  induction R with
  | nil => rfl
  | cons n R ih => simpa using ih
 | d :: P => by
  rw [List.map_cons, List.sum_cons, swap_sum R P, count_sum]
  congr 1
  refine List.map_congr_left (fun n _ => ?_)
  rw [List.countP_cons, Nat.add_comm]
theorem sum_full (c : Nat → Nat) : ∀ R : List Nat, (∀ n ∈ R, c n ≤ 1) → (R.map c).sum ≤ R.length ∧ ((R.map c).sum = R.length ↔ ∀ n ∈ R, c n ≠ 0)
 | [], _ => by simp
 | n :: R, h => by
  obtain ⟨h1, h2⟩ := sum_full c R (fun x hx => h x (List.mem_cons_of_mem _ hx))
  have h3 := h n (List.mem_cons_self ..)
  rw [List.map_cons, List.sum_cons, List.length_cons]
  refine ⟨by omega, ?_, ?_⟩
  ·intro e x hx
   rcases List.mem_cons.1 hx with rfl | hx
   ·omega
   ·exact h2.1 (by omega) x hx
  ·intro e
   have := h2.2 (fun x hx => e x (List.mem_cons_of_mem _ hx))
   have := e n (List.mem_cons_self ..)
   omega
theorem apart_count (n : Nat) : ∀ P : List (Nat × Nat), P.Pairwise AptN → P.countP (fun d => hasN d n) ≤ 1
 | [], _ => by simp
 | d :: P, h => by
  obtain ⟨h1, h2⟩ := List.pairwise_cons.1 h
  have ih := apart_count n P h2
  rw [List.countP_cons]
  by_cases e : hasN d n = true
  ·have : P.countP (fun d => hasN d n) = 0 := by
    rw [List.countP_eq_zero]
    intro x hx hz
    exact h1 x hx (has_meet e hz)
   rw [if_pos e]
   omega
  ·rw [if_neg e]
   omega
theorem exact_count (P : List (Nat × Nat)) (D : Nat) (hA : P.Pairwise AptN) (hP : ∀ d ∈ P, d.1 < d.2 ∧ d.2 ∣ D) : ((P.map fun d => D / d.2).sum = D) ↔ ∀ n, n < D → ∃ d ∈ P, hasN d n = true := by
 have e : (P.map fun d => D / d.2) = P.map fun d => (List.range D).countP (hasN d) := by
  refine List.map_congr_left (fun d hd => ?_)
  obtain ⟨h1, m, rfl⟩ := hP d hd
  rw [Nat.mul_div_cancel_left _ (by omega), Nat.mul_comm]
  exact (count_has d.2 d.1 h1 m).symm
 have h := (sum_full (fun n => P.countP fun d => hasN d n) (List.range D) (fun n _ => apart_count n P hA)).2
 rw [List.length_range] at h
 rw [e, swap_sum, h]
 constructor
 ·intro h n hn
  have := List.countP_pos_iff.1 (Nat.pos_of_ne_zero (h n (List.mem_range.2 hn)))
  exact this
 ·intro h n hn
  obtain ⟨d, hd, hh⟩ := h n (List.mem_range.1 hn)
  have := List.countP_pos_iff (p := fun d => hasN d n).2 ⟨d, hd, hh⟩
  exact Nat.pos_iff_ne_zero.1 this
theorem bezout (a b : Nat) : ∃ x y : Int, ((Nat.gcd a b : Nat) : Int) = (a : Int) * x + (b : Int) * y := by
 induction a, b using Nat.gcd.induction with
 | H0 b => exact ⟨0, 1, by simp⟩
 | H1 a b ha ih =>
  obtain ⟨x, y, h⟩ := ih
  refine ⟨y - ((b / a : Nat) : Int) * x, x, ?_⟩
  rw [Nat.gcd_rec, h]
  have hb : (b : Int) = (a : Int) * ((b / a : Nat) : Int) + ((b % a : Nat) : Int) := by
   rw [← Int.natCast_mul, ← Int.natCast_add, Nat.div_add_mod]
  generalize ((b / a : Nat) : Int) = q at *
  generalize ((b % a : Nat) : Int) = r at *
  rw [hb, Int.mul_sub, Int.add_mul, Int.mul_assoc]
  omega
theorem common_slot (g h a b : Nat) (ha : a < g) (hb : b < h) (hd : ((Nat.gcd g h : Nat) : Int) ∣ ((a : Int) - (b : Int))) : ∃ y : Nat, y % g = a ∧ y % h = b := by
 obtain ⟨c, hc⟩ := hd
 obtain ⟨u, v, huv⟩ := bezout g h
 have hg0 : (0 : Int) < (g : Int) * (h : Int) := Int.mul_pos (by omega) (by omega)
 have e : (a : Int) - (g : Int) * (u * c) = (b : Int) + (h : Int) * (v * c) := by
  have : (a : Int) - (b : Int) = (g : Int) * (u * c) + (h : Int) * (v * c) := by
   rw [hc, huv, Int.add_mul, Int.mul_assoc, Int.mul_assoc]
  omega
 have hn := Int.emod_nonneg ((a : Int) - (g : Int) * (u * c)) (show (g : Int) * (h : Int) ≠ 0 by omega)
 refine ⟨(((a : Int) - (g : Int) * (u * c)) % ((g : Int) * (h : Int))).toNat, ?_, ?_⟩
 ·have : ((((a : Int) - (g : Int) * (u * c)) % ((g : Int) * (h : Int))).toNat : Int) % (g : Int) = (a : Int) := by
   rw [Int.toNat_of_nonneg hn, Int.emod_emod_of_dvd _ (Int.dvd_mul_right (g : Int) (h : Int)), Int.sub_eq_add_neg, ← Int.mul_neg, Int.add_mul_emod_self_left]
   exact Int.emod_eq_of_lt (by omega) (by omega)
  omega
 ·have : ((((a : Int) - (g : Int) * (u * c)) % ((g : Int) * (h : Int))).toNat : Int) % (h : Int) = (b : Int) := by
   rw [Int.toNat_of_nonneg hn, Int.emod_emod_of_dvd _ (Int.dvd_mul_left (g : Int) (h : Int)), e, Int.add_mul_emod_self_left]
   exact Int.emod_eq_of_lt (by omega) (by omega)
  omega
def posN (g r : Nat) : Nat → Nat → List Int
 | 0, _ => []
 | d + 1, n => if n % g = r then (n : Int) :: posN g r d (n + 1) else posN g r d (n + 1)
def progN (g : Nat) : Nat → Nat → List Int
 | 0, _ => []
 | m + 1, p => (p : Int) :: progN g m (p + g)
theorem posN_skip (g r : Nat) : ∀ (c d n : Nat), (∀ j, j < c → (n + j) % g ≠ r) → posN g r (d + c) n = posN g r d (n + c)
 | 0, d, n, _ => rfl
 | c + 1, d, n, h => by
  rw [← Nat.add_assoc]
  simp only [posN]
  rw [if_neg (show ¬ n % g = r from h 0 (by omega)), posN_skip g r c d (n + 1) (fun j hj => by rw [Nat.add_right_comm]; exact h (j + 1) (by omega)), Nat.add_right_comm n 1 c]
  rfl
theorem mod_next {n g r t : Nat} (h : n % g = r) (h0 : 0 < t) (h1 : t < g) : (n + t) % g ≠ r := by
 intro e
 have := Nat.sub_mod_eq_zero_of_mod_eq (e.trans h.symm)
 rw [Nat.add_sub_cancel_left, Nat.mod_eq_of_lt h1] at this
 omega
theorem posN_prog (g r : Nat) : ∀ (q s n : Nat), n % g = r → 1 ≤ s → s ≤ g → posN g r (q * g + s) n = progN g (q + 1) n
 | 0, s, n, h, h1, h2 => by
  obtain ⟨s, rfl⟩ : ∃ u, s = u + 1 := ⟨s - 1, by omega⟩
  rw [Nat.zero_mul, Nat.zero_add]
  simp only [posN, progN]
  rw [if_pos h]
  have := posN_skip g r s 0 (n + 1) (fun j hj => by rw [Nat.add_assoc]; exact mod_next h (by omega) (by omega))
  rw [Nat.zero_add] at this
  rw [this]
  rfl
 | q + 1, s, n, h, h1, h2 => by
  have ih := posN_prog g r q s (n + g) (by rw [Nat.add_mod_right]; exact h) h1 h2
  rw [show (q + 1) * g + s = ((q * g + s) + (g - 1)) + 1 by rw [Nat.succ_mul]; omega]
  simp only [posN]
  rw [if_pos h, posN_skip g r (g - 1) (q * g + s) (n + 1) (fun j hj => by rw [Nat.add_assoc]; exact mod_next h (by omega) (by omega)), show n + 1 + (g - 1) = n + g by omega, ih]
  rfl
theorem posN_full (g r m : Nat) (hr : r < g) : posN g r (m * g) 0 = progN g m r := by
 cases m with
 | zero => simp [posN, progN]
 | succ q =>
  have := posN_skip g r r (q * g + (g - r)) 0 (fun j hj => by rw [Nat.zero_add, Nat.mod_eq_of_lt (by omega)]; omega)
  rw [show (q + 1) * g = q * g + (g - r) + r by rw [Nat.succ_mul]; omega, this, Nat.zero_add]
  exact posN_prog g r q (g - r) r (Nat.mod_eq_of_lt hr) (by omega) (by omega)
theorem waitsW_prog (g : Nat) (f n : Int) : ∀ (q p : Nat), n - ((p + q * g : Nat) : Int) + f = (g : Int) → waitsW f n (p : Int) (progN g q (p + g)) = List.replicate (q + 1) (g : Int)
 | 0, p, h => by
  rw [Nat.zero_mul, Nat.add_zero] at h
  simp only [progN, waitsW, h]
  rfl
 | q + 1, p, h => by
  have ih := waitsW_prog g f n q (p + g) (by rw [show p + g + q * g = p + (q + 1) * g by rw [Nat.succ_mul]; omega]; exact h)
  simp only [progN, waitsW]
  rw [ih, show ((p + g : Nat) : Int) - (p : Int) = (g : Int) by omega]
  rfl
theorem waitsP_prog (g m r : Nat) : waitsP ((m * g : Nat) : Int) (progN g m r) = List.replicate m (g : Int) := by
 cases m with
 | zero => rfl
 | succ q =>
  simp only [progN, waitsP]
  refine waitsW_prog g (r : Int) _ q r ?_
  rw [Nat.succ_mul]
  omega
theorem waitsW_all (g f n : Int) : ∀ (r : List Int) (p : Int), (∀ w ∈ waitsW f n p r, w = g) → n - (p + (r.length : Int) * g) + f = g ∧ r = (List.range r.length).map fun q => p + ((q + 1 : Nat) : Int) * g
 | [], p, h => by
  have := h (n - p + f) (List.mem_cons_self ..)
  simp
  omega
 | q :: r, p, h => by
  simp only [waitsW] at h
  have h1 := h (q - p) (List.mem_cons_self ..)
  obtain ⟨h2, h3⟩ := waitsW_all g f n r q (fun w hw => h w (List.mem_cons_of_mem _ hw))
  have hq : q = p + g := by omega
  subst hq
  constructor
  ·rw [List.length_cons, Int.natCast_succ, Int.add_mul, Int.one_mul]
   omega
  ·rw [List.length_cons, List.range_succ_eq_map, List.map_cons, List.map_map]
   congr 1
   ·simp
   ·rw [show List.map ((fun q : Nat => p + ((q + 1 : Nat) : Int) * g) ∘ Nat.succ) (List.range r.length) = List.map (fun q => p + g + ((q + 1 : Nat) : Int) * g) (List.range r.length) from List.map_congr_left (fun x _ => by
     simp only [Function.comp]
     rw [Int.natCast_succ (Nat.succ x), Int.add_mul, Int.one_mul]
     simp only [Nat.succ_eq_add_one]
     omega)]
    exact h3
theorem places_val (t : Int) : ∀ (l : List Int) (j : Int) (q : Int), q ∈ placesFrom t l j → ∃ i : Nat, q = j + (i : Int) ∧ l[i]? = some t
 | [], _, _, h => by simp [placesFrom] at h
 | x :: xs, j, q, h => by
  have ih := places_val t xs (j + 1) q
  simp only [placesFrom] at h
  by_cases e : x = t
  ·rw [if_pos e, List.mem_cons] at h
   rcases h with h | h
   ·exact ⟨0, by omega, by rw [e]; rfl⟩
   ·obtain ⟨i, h1, h2⟩ := ih h
    exact ⟨i + 1, by omega, h2⟩
  ·rw [if_neg e] at h
   obtain ⟨i, h1, h2⟩ := ih h
   exact ⟨i + 1, by omega, h2⟩
theorem waits_class (l : List Int) (t g : Int) (p : Int) (r : List Int) (hp : placesFrom t l 0 = p :: r) (hw : ∀ w ∈ waitsL l t, w = g) : ∃ (a G m : Nat), p = (a : Int) ∧ g = (G : Int) ∧ a < G ∧ m * G = l.length ∧ ∀ y, y < l.length → y % G = a → l[y]? = some t := by
 unfold waitsL at hw
 rw [hp] at hw
 simp only [waitsP] at hw
 obtain ⟨h1, h2⟩ := waitsW_all g p (l.length : Int) r p hw
 have hlast := places_val t l 0
 rw [hp] at hlast
 obtain ⟨a, ha, ha2⟩ := hlast p (List.mem_cons_self ..)
 have ha3 : p = (a : Int) := by omega
 have hla := (List.getElem?_eq_some_iff.1 ha2).1
 subst ha3
 -- the last place
 have hlst : (a : Int) + (r.length : Int) * g < (l.length : Int) := by
  cases hr : r.length with
  | zero => simp; omega
  | succ q =>
   have hm : (a : Int) + ((q + 1 : Nat) : Int) * g ∈ r := by
    rw [h2]
    exact List.mem_map.2 ⟨q, List.mem_range.2 (by omega), rfl⟩
   obtain ⟨i, hi, hi2⟩ := hlast _ (List.mem_cons_of_mem _ hm)
   have := (List.getElem?_eq_some_iff.1 hi2).1
   omega
 have hg : (a : Int) < g := by omega
 obtain ⟨G, rfl⟩ : ∃ G : Nat, g = (G : Int) := ⟨g.toNat, by omega⟩
 have hn : (r.length + 1) * G = l.length := by
  have : ((r.length * G : Nat) : Int) = (r.length : Int) * (G : Int) := Int.natCast_mul ..
  rw [Nat.succ_mul]
  omega
 refine ⟨a, G, r.length + 1, rfl, rfl, by omega, hn, fun y hy hym => ?_⟩
 have hdm := Nat.div_add_mod y G
 rw [hym] at hdm
 have hyq : y / G < r.length + 1 := by
  rw [Nat.div_lt_iff_lt_mul (by omega), hn]
  exact hy
 have hin : (y : Int) ∈ (a : Int) :: r := by
  cases hq : y / G with
  | zero =>
   rw [hq, Nat.mul_zero] at hdm
   rw [← hdm, Nat.zero_add]
   exact List.mem_cons_self ..
  | succ q =>
   rw [h2]
   refine List.mem_cons_of_mem _ (List.mem_map.2 ⟨q, List.mem_range.2 (by omega), ?_⟩)
   rw [hq] at hdm
   rw [← Int.natCast_mul, Nat.mul_comm]
   omega
 obtain ⟨i, hi, hi2⟩ := hlast _ hin
 have : i = y := by omega
 rw [← this]
 exact hi2
end Go.Proofs.Ytdkhecebffjpjaa.X
