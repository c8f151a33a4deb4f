import Derived.Test.YtdkhecebffjpjaaVQNa
import Derived.Test.YtdkhecebffjpjaaY0
import Derived.Test.YtdkhecebffjpjaaY8
import Derived.Test.YtdkhecebffjpjaaY15
import Derived.Test.YtdkhecebffjpjaaY16
namespace Go.Proofs.Ytdkhecebffjpjaa.X
set_option linter.unusedVariables false
set_option linter.unusedSimpArgs false
open Go.RowKit Go.Proofs.YtdkhecebffjpjaaW.PrintWords Go.Proofs.YtdkhecebffjpjaaW.PrintLast
def embC (a g : Nat) (d : Nat × Nat) : S40 := ⟨((a + g * d.1 : Nat) : Int), ((g * d.2 : Nat) : Int)⟩
def partN (a g m : Nat) (Q : List (Nat × Nat)) (r : Nat) : List S40 := (Q.filter fun d => d.1 % m == r).map (embC a g)
def partsN (a g m : Nat) (Q : List (Nat × Nat)) : List (List S40) := (List.range m).map (partN a g m Q)
theorem partsN_length (a g m : Nat) (Q : List (Nat × Nat)) : (partsN a g m Q).length = m := by simp [partsN]
theorem rdL_parts (a g m : Nat) (Q : List (Nat × Nat)) (r : Nat) (h : r < m) : rd_L3 (partsN a g m Q) (r : Int) = partN a g m Q r := by
 unfold rd_L3 partsN
 rw [Int.toNat_natCast, List.getD_eq_getElem?_getD, List.getElem?_map, List.getElem?_range h]
 rfl
theorem parts_nil (a g m : Nat) : partsN a g m [] = List.replicate m [] := by
 unfold partsN partN
 simp only [List.filter_nil, List.map_nil]
 rw [List.map_const', List.length_range]
theorem partsN_get (a g m : Nat) (Q : List (Nat × Nat)) (i : Nat) (h : i < (partsN a g m Q).length) : (partsN a g m Q)[i] = partN a g m Q i := by simp [partsN]
theorem parts_set (a g m : Nat) (Q : List (Nat × Nat)) (d : Nat × Nat) (h : d.1 % m < m) : (partsN a g m Q).set (d.1 % m) (partN a g m Q (d.1 % m) ++ [embC a g d]) = partsN a g m (Q ++ [d]) := by
 apply List.ext_getElem
 ·simp [partsN]
 intro i h1 h2
 have hi : i < m := by simpa [partsN] using h2
 rw [List.getElem_set, partsN_get, partsN_get]
 unfold partN
 by_cases e : d.1 % m = i
 ·rw [if_pos e]
  subst e
  rw [List.filter_append, List.map_append]
  simp
 ·rw [if_neg e, List.filter_append, List.map_append]
  simp [e]
theorem partN_len (a g m : Nat) (Q : List (Nat × Nat)) (r : Nat) : (partN a g m Q r).length ≤ Q.length := by
 unfold partN
 rw [List.length_map]
 exact List.length_filter_le _ _
theorem partN_sub (a g m : Nat) (P : List (Nat × Nat)) (hm : 0 < m) (hd : ∀ d ∈ P, m ∣ d.2) (r : Nat) : partN a g m P r = (subN m r P).map (embC (a + g * r) (g * m)) := by
 unfold partN subN
 rw [List.map_map]
 refine List.map_congr_left (fun d hdP => ?_)
 rw [List.mem_filter] at hdP
 obtain ⟨q, hq⟩ := hd d hdP.1
 have hr : d.1 % m = r := by simpa using hdP.2
 have hx := Nat.div_add_mod d.1 m
 rw [hr] at hx
 unfold embC
 simp only [Function.comp]
 have e1 : a + g * d.1 = a + g * r + g * m * (d.1 / m) := by
  calc a + g * d.1 = a + g * (m * (d.1 / m) + r) := by rw [hx]
   _ = a + g * r + g * m * (d.1 / m) := by rw [Nat.mul_add, Nat.mul_assoc]; omega
 have e2 : g * d.2 = g * m * (d.2 / m) := by rw [hq, Nat.mul_div_cancel_left _ hm, Nat.mul_assoc]
 rw [← e1, ← e2]
theorem natI_l1 (a g m : Nat) (hg : 1 ≤ g) (hm : 2 ≤ m) (P : List (Nat × Nat)) (hl : P.length ≤ 8) (hP : ∀ d ∈ P, a + g * d.1 ≤ 40) (b : Bool) : ∀ (d i k : Nat), i + d = P.length → d < k →
  impl_Class_isNatural.l1 k (P.map (embC a g)) (partsN a g m (P.take i)) b (P.map (embC a g)) (P.length : Int) (i : Int) (a : Int) (g : Int) (m : Int) = impl_Class_isNatural.l2 (k - 1 - d) (P.map (embC a g)) b (partsN a g m P) (m : Int) 0 (a : Int) (g : Int) (m : Int) := by
 intro d
 induction d with
 | zero =>
  intro i k hi hk
  obtain ⟨k, rfl⟩ : ∃ m, k = m + 1 := ⟨k - 1, by omega⟩
  simp only [impl_Class_isNatural.l1]
  rw [if_neg (by omega), List.take_of_length_le (by omega), partsN_length]
  rfl
 | succ d ih =>
  intro i k hi hk
  obtain ⟨k, rfl⟩ : ∃ m, k = m + 1 := ⟨k - 1, by omega⟩
  have hPi := hP _ (List.getElem_mem (show i < P.length by omega))
  have hn := ih (i + 1) k (by omega) (by omega)
  rw [take_get P i (by omega)] at hn
  simp only [impl_Class_isNatural.l1]
  rw [if_pos (by omega), if_pos (by omega), if_pos (by rw [List.length_map]; omega), if_neg (by omega), if_neg (by omega), rd_emb P (embC a g) i (by omega)]
  generalize P[i] = e at hPi hn
  obtain ⟨x, y⟩ := e
  simp only at hPi
  have hgx : g * x ≤ 40 := by omega
  have hxg : x ≤ g * x := Nat.le_mul_of_pos_left x hg
  have hk1 : wrap64 ((embC a g (x, y)).f0 - (a : Int)) = ((g * x : Nat) : Int) := by
   rw [show (embC a g (x, y)).f0 = ((a + g * x : Nat) : Int) from rfl, Int.natCast_add, show (a : Int) + ((g * x : Nat) : Int) - (a : Int) = ((g * x : Nat) : Int) by omega]
   exact wrap_nat _ (by omega)
  have hk2 : wrap64 (Int.tdiv ((g * x : Nat) : Int) (g : Int)) = (x : Int) := by
   rw [← Int.ofNat_tdiv, Nat.mul_div_cancel_left _ hg]
   exact wrap_nat _ (by omega)
  have hlt : x % m < m := Nat.mod_lt _ (by omega)
  rw [hk1, hk2, ← Int.ofNat_tmod, partsN_length, if_pos (by omega), if_pos (by omega), rdL_parts a g m _ _ hlt, if_pos (by have := partN_len a g m (P.take i) (x % m); rw [List.length_take] at this; omega), Int.toNat_natCast, wrap_succ (n := P.length) (by omega) (by omega)]
  have hs := parts_set a g m (P.take i) (x, y) hlt
  rw [show k + 1 - 1 - (d + 1) = k - 1 - d by omega, ← hn, ← hs]
theorem natI_l2 (a g m : Nat) (hm : 2 ≤ m) (hm2 : m ≤ 8) (hab : a ≤ 40 ∧ g ≤ 40) (P : List (Nat × Nat)) (K : Nat) (T : Prop)
  (hF : (∀ d ∈ P, m ∣ d.2) → ∀ r k, r < m → K < k → ∃ b, impl_Class_isNatural.f k ((a + g * r : Nat) : Int) ((g * m : Nat) : Int) ((subN m r P).map (embC (a + g * r) (g * m))) = some b ∧ (b = true ↔ Natl (subN m r P)))
  (hL : ∀ k, K < k → ∃ c, impl_Class_isNatural.l0 k (P.map (embC a g)) (a : Int) (g : Int) ((m + 1 : Nat) : Int) = some c ∧ (c = true ↔ T)) :
  ∀ (d r k : Nat) (b : Bool), r + d = m → K + d + 1 < k → (b = true ↔ (∀ d ∈ P, m ∣ d.2) ∧ ∀ q, q < r → Natl (subN m q P)) →
  ∃ c, impl_Class_isNatural.l2 k (P.map (embC a g)) b (partsN a g m P) (m : Int) (r : Int) (a : Int) (g : Int) (m : Int) = some c ∧ (c = true ↔ ((∀ d ∈ P, m ∣ d.2) ∧ ∀ q, q < m → Natl (subN m q P)) ∨ T) := by
 intro d
 induction d with
 | zero =>
  intro r k b hr hk hb
  obtain ⟨k, rfl⟩ : ∃ m, k = m + 1 := ⟨k - 1, by omega⟩
  obtain rfl : r = m := by omega
  simp only [impl_Class_isNatural.l2]
  rw [if_neg (by omega)]
  cases b with
  | true => exact ⟨true, if_pos rfl, fun _ => .inl (hb.1 rfl), fun _ => rfl⟩
  | false =>
   obtain ⟨c, hc, hiff⟩ := hL k (by omega)
   refine ⟨c, ?_, hiff.trans ⟨.inr, ?_⟩⟩
   ·rw [if_neg (by decide), wrap_succ (n := 40) (by omega) (by omega), hc]
   ·rintro (h | h)
    ·exact absurd (hb.2 h) (by decide)
    ·exact h
 | succ d ih =>
  intro r k b hr hk hb
  obtain ⟨k, rfl⟩ : ∃ m, k = m + 1 := ⟨k - 1, by omega⟩
  simp only [impl_Class_isNatural.l2]
  rw [if_pos (by omega), if_pos (by omega), if_pos (by rw [partsN_length]; omega), wrap_succ (i := r) (n := 40) (by omega) (by omega)]
  cases b with
  | true =>
   have hD := hb.1 rfl
   have hgr : g * r ≤ 320 := Nat.mul_le_mul hab.2 (show r ≤ 8 by omega)
   have hgm : g * m ≤ 320 := Nat.mul_le_mul hab.2 hm2
   obtain ⟨c, hc, hiff⟩ := hF hD.1 r k (by omega) (by omega)
   have e1 : wrap64 ((a : Int) + wrap64 ((r : Int) * (g : Int))) = ((a + g * r : Nat) : Int) := by
    rw [← Int.natCast_mul, Nat.mul_comm r g, wrap_nat (g * r) (by omega), ← Int.natCast_add]
    exact wrap_nat _ (by omega)
   have e2 : wrap64 ((g : Int) * (m : Int)) = ((g * m : Nat) : Int) := by
    rw [← Int.natCast_mul]
    exact wrap_nat _ (by omega)
   rw [if_pos rfl, e1, e2, rdL_parts a g m P r (by omega), partN_sub a g m P (by omega) hD.1 r, hc, Option.bind_some]
   refine ih (r + 1) k c (by omega) (by omega) (hiff.trans ⟨fun h => ⟨hD.1, fun q hq => ?_⟩, fun h => h.2 r (by omega)⟩)
   by_cases e : q = r
   ·exact e ▸ h
   ·exact hD.2 q (by omega)
  | false =>
   rw [if_neg (by decide)]
   refine ih (r + 1) k false (by omega) (by omega) ⟨fun h => by simp at h, fun h => ?_⟩
   exact hb.2 ⟨h.1, fun q hq => h.2 q (by omega)⟩
theorem natDiv_all (a g m : Nat) (hg : 1 ≤ g) (hgm : g * m ≤ 320) (P : List (Nat × Nat)) : (P.map (embC a g)).all (natDiv (g : Int) (m : Int)) = true ↔ ∀ d ∈ P, m ∣ d.2 := by
 rw [List.all_eq_true]
 have e : ∀ d : Nat × Nat, natDiv (g : Int) (m : Int) (embC a g d) = true ↔ m ∣ d.2 := by
  intro d
  unfold natDiv
  rw [← Int.natCast_mul, wrap_nat _ (by omega), show (embC a g d).f1 = ((g * d.2 : Nat) : Int) from rfl, ← Int.ofNat_tmod, Nat.mul_mod_mul_left, beq_iff_eq]
  constructor
  ·intro h
   have h2 : g * (d.2 % m) = 0 := by omega
   rcases Nat.mul_eq_zero.1 h2 with h3 | h3
   ·omega
   ·exact Nat.dvd_of_mod_eq_zero h3
  ·intro h
   rw [Nat.mod_eq_zero_of_dvd h, Nat.mul_zero]
   rfl
 constructor
 ·intro h d hd
  exact (e d).1 (h _ (List.mem_map.2 ⟨d, hd, rfl⟩))
 ·intro h x hx
  obtain ⟨d, hd, rfl⟩ := List.mem_map.1 hx
  exact (e d).2 (h d hd)
theorem natI_l0 (a g : Nat) (hg : 1 ≤ g) (hab : a ≤ 40 ∧ g ≤ 40) (P : List (Nat × Nat)) (hl : P.length ≤ 8) (hP : ∀ d ∈ P, a + g * d.1 ≤ 40) (K : Nat)
  (hF : ∀ m, 2 ≤ m → (∀ d ∈ P, m ∣ d.2) → ∀ r k, r < m → K < k → ∃ b, impl_Class_isNatural.f k ((a + g * r : Nat) : Int) ((g * m : Nat) : Int) ((subN m r P).map (embC (a + g * r) (g * m))) = some b ∧ (b = true ↔ Natl (subN m r P))) :
  ∀ (d m k : Nat), m + d = P.length + 1 → 2 ≤ m → K + 30 * d + 1 < k →
  ∃ c, impl_Class_isNatural.l0 k (P.map (embC a g)) (a : Int) (g : Int) (m : Int) = some c ∧ (c = true ↔ ∃ q, m ≤ q ∧ q ≤ P.length ∧ (∀ d ∈ P, q ∣ d.2) ∧ ∀ r, r < q → Natl (subN q r P)) := by
 intro d
 induction d with
 | zero =>
  intro m k hm h2 hk
  obtain ⟨k, rfl⟩ : ∃ m, k = m + 1 := ⟨k - 1, by omega⟩
  refine ⟨false, ?_, fun h => by simp at h, fun ⟨q, h3, h4, _⟩ => by omega⟩
  simp only [impl_Class_isNatural.l0]
  rw [show impl_Class_46.f (P.map (embC a g)) = some ((P.length : Nat) : Int) by (unfold impl_Class_46.f; rw [List.length_map]), Option.bind_some, if_neg (by omega)]
 | succ d ih =>
  intro m k hm h2 hk
  obtain ⟨k, rfl⟩ : ∃ m, k = m + 1 := ⟨k - 1, by omega⟩
  have hgm : g * m ≤ 320 := Nat.mul_le_mul hab.2 (show m ≤ 8 by omega)
  have hgm0 : 0 < g * m := Nat.mul_pos hg (by omega)
  have hz : wrap64 ((g : Int) * (m : Int)) = ((g * m : Nat) : Int) := by
   rw [← Int.natCast_mul]
   exact wrap_nat _ (by omega)
  have h1 := natI_l1 a g m hg h2 P hl hP ((P.map (embC a g)).all (natDiv (g : Int) (m : Int))) P.length 0 k (by omega) (by omega)
  rw [List.take_zero, parts_nil, Int.natCast_zero] at h1
  obtain ⟨c, hc, hiff⟩ := natI_l2 a g m h2 (by omega) hab P (K + 30 * d + 1) (∃ q, m + 1 ≤ q ∧ q ≤ P.length ∧ (∀ d ∈ P, q ∣ d.2) ∧ ∀ r, r < q → Natl (subN q r P)) (fun hD r k hr hk => hF m h2 hD r k hr (by omega)) (fun k hk => ih (m + 1) k (by omega) (by omega) (by omega)) m 0 (k - 1 - P.length) _ (by omega) (by omega) ((natDiv_all a g m hg hgm P).trans ⟨fun h => ⟨h, fun q hq => by omega⟩, fun h => h.1⟩)
  rw [Int.natCast_zero] at hc
  refine ⟨c, ?_, hiff.trans ⟨?_, ?_⟩⟩
  ·simp only [impl_Class_isNatural.l0]
   rw [show impl_Class_46.f (P.map (embC a g)) = some ((P.length : Nat) : Int) by (unfold impl_Class_46.f; rw [List.length_map]), Option.bind_some, if_pos (by omega), if_pos (by omega), if_pos (by omega), impl_Class_isNatural_1.f, if_neg (by rw [hz]; omega), Option.bind_some, Int.toNat_natCast, List.length_map, h1, hc]
  ·rintro (h | ⟨q, h3, h4, h5⟩)
   ·exact ⟨m, Nat.le_refl _, by omega, h⟩
   ·exact ⟨q, by omega, h4, h5⟩
  ·rintro ⟨q, h3, h4, h5⟩
   by_cases e : q = m
   ·subst e
    exact .inl h5
   ·exact .inr ⟨q, by omega, h4, h5⟩
theorem natI_nil (a g : Int) (k : Nat) (hk : 3 < k) : impl_Class_isNatural.f k a g [] = some false := by
 obtain ⟨k, rfl⟩ : ∃ m, k = m + 3 := ⟨k - 3, by omega⟩
 simp only [impl_Class_isNatural.f, impl_Class_isNatural.j0, impl_Class_isNatural.l0, impl_Class_46.f]
 simp
theorem natI_f : ∀ (n : Nat) (P : List (Nat × Nat)) (a g k : Nat), P.length ≤ 8 → 1 ≤ g → (∀ d ∈ P, d.1 < d.2 ∧ g * d.2 ≤ 40 ∧ a + g * d.1 ≤ 40 ∧ d.2 < 2 ^ n) → 1000 * (n + 1) < k →
  ∃ b, impl_Class_isNatural.f k (a : Int) (g : Int) (P.map (embC a g)) = some b ∧ (b = true ↔ Natl P) := by
 intro n
 induction n with
 | zero =>
  intro P a g k hl hg hP hk
  by_cases hne : P = []
  ·subst hne
   exact ⟨false, natI_nil _ _ k (by omega), fun h => by simp at h, fun h => absurd rfl (natl_ne h)⟩
  ·obtain ⟨d, hd⟩ := List.exists_mem_of_ne_nil _ hne
   have := hP d hd
   omega
 | succ n ih =>
  intro P a g k hl hg hP hk
  by_cases hne : P = []
  ·subst hne
   exact ⟨false, natI_nil _ _ k (by omega), fun h => by simp at h, fun h => absurd rfl (natl_ne h)⟩
  obtain ⟨d0, hd0⟩ := List.exists_mem_of_ne_nil _ hne
  have h0 := hP d0 hd0
  have hgg : g ≤ g * d0.2 := Nat.le_mul_of_pos_right g (by omega)
  have hab : a ≤ 40 ∧ g ≤ 40 := by omega
  obtain ⟨k, rfl⟩ : ∃ m, k = m + 1 := ⟨k - 1, by omega⟩
  obtain ⟨k, rfl⟩ : ∃ m, k = m + 1 := ⟨k - 1, by omega⟩
  have hlen : 1 ≤ P.length := List.length_pos_iff.2 hne
  obtain ⟨c, hc, hiff⟩ := natI_l0 a g hg hab P hl (fun d hd => (hP d hd).2.2.1) (1000 * (n + 1)) (fun m hm hD r k hr hk => ih _ (a + g * r) (g * m) k (Nat.le_trans (subN_len m r P) hl) (Nat.mul_pos hg (by omega)) (fun e he => by
   obtain ⟨d, hdP, hdr, rfl⟩ := mem_subN he
   obtain ⟨p1, p2, p3, p4⟩ := hP d hdP
   obtain ⟨q, hq⟩ := hD d hdP
   have e1 : d.2 / m = q := by rw [hq, Nat.mul_div_cancel_left _ (by omega)]
   have hlt : d.1 / m < q := Nat.div_lt_of_lt_mul (by omega)
   have hle : q * 2 ≤ d.2 := by rw [hq, Nat.mul_comm]; exact Nat.mul_le_mul_right q hm
   have hx := Nat.div_add_mod d.1 m
   rw [hdr] at hx
   have e2 : a + g * r + g * m * (d.1 / m) = a + g * d.1 := by
    calc a + g * r + g * m * (d.1 / m) = a + g * (m * (d.1 / m) + r) := by rw [Nat.mul_add, Nat.mul_assoc]; omega
     _ = a + g * d.1 := by rw [hx]
   have e3 : g * m * q = g * d.2 := by rw [hq, Nat.mul_assoc]
   simp only [e1]
   rw [Nat.pow_succ] at p4
   exact ⟨hlt, by omega, by omega, by omega⟩) hk) (P.length - 1) 2 k (by omega) (by omega) (by omega)
  rw [show ((2 : Nat) : Int) = 2 from rfl] at hc
  simp only [impl_Class_isNatural.f]
  rw [List.length_map]
  by_cases h1 : P.length = 1
  ·rw [if_pos (by omega), if_pos (by omega)]
   obtain ⟨e, rfl⟩ := List.length_eq_one_iff.1 h1
   obtain ⟨x, y⟩ := e
   have hxy := hP (x, y) (by simp)
   have hr0 : rd_T40 ([(x, y)].map (embC a g)) 0 = embC a g (x, y) := by
    have := rd_emb [(x, y)] (embC a g) 0 (by simp)
    simpa using this
   rw [hr0]
   have hbb : ((embC a g (x, y)).f0 == (a : Int) && ((embC a g (x, y)).f1 == (g : Int))) = true ↔ Natl [(x, y)] := by
    rw [natl_small hxy.1, Bool.and_eq_true, beq_iff_eq, beq_iff_eq]
    show ((a + g * x : Nat) : Int) = (a : Int) ∧ ((g * y : Nat) : Int) = (g : Int) ↔ y = 1
    constructor
    ·rintro ⟨_, h⟩
     have h2 : g * y = g * 1 := by omega
     exact Nat.eq_of_mul_eq_mul_left hg h2
    ·rintro rfl
     obtain rfl : x = 0 := by omega
     simp
   generalize ((embC a g (x, y)).f0 == (a : Int) && ((embC a g (x, y)).f1 == (g : Int))) = b at hbb
   cases b with
   | true => exact ⟨true, by simp only [impl_Class_isNatural.j0]; rw [if_pos trivial], hbb⟩
   | false =>
    refine ⟨c, by simp only [impl_Class_isNatural.j0]; rw [if_neg (by decide)]; exact hc, hiff.trans ⟨?_, fun h => ?_⟩⟩
    ·rintro ⟨q, h3, h4, _⟩
     simp only [List.length_cons, List.length_nil] at h4
     omega
    ·exact absurd (hbb.2 h) (by decide)
  ·rw [if_neg (by omega)]
   refine ⟨c, by simp only [impl_Class_isNatural.j0]; rw [if_neg (by decide)]; exact hc, hiff.trans ⟨?_, fun h => ?_⟩⟩
   ·rintro ⟨q, h3, h4, h5, h6⟩
    exact Natl.split q P h3 h5 h6
   ·cases h with
    | one => exact absurd rfl h1
    | split m _ h2 hd hs => exact ⟨m, h2, parts_len m P (fun r hr => natl_ne (hs r hr)), hd, hs⟩
end Go.Proofs.Ytdkhecebffjpjaa.X
