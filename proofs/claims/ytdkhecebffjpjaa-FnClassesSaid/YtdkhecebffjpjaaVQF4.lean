import Derived.Test.YtdkhecebffjpjaaVQZs
import Derived.Test.YtdkhecebffjpjaaVQF3
import Derived.Test.YtdkhecebffjpjaaY0
import Derived.Test.YtdkhecebffjpjaaY2
import Derived.Test.YtdkhecebffjpjaaY3
import Derived.Test.YtdkhecebffjpjaaY4
import Derived.Test.YtdkhecebffjpjaaY5
import Derived.Test.YtdkhecebffjpjaaY6
import Derived.Test.YtdkhecebffjpjaaY7
import Derived.Test.YtdkhecebffjpjaaY22
import Derived.Test.YtdkhecebffjpjaaY23
namespace Go.Proofs.Ytdkhecebffjpjaa.X
set_option linter.unusedVariables false
set_option linter.unusedSimpArgs false
open Go.RowKit Go.Proofs.YtdkhecebffjpjaaW.PrintWords Go.Proofs.YtdkhecebffjpjaaW.PrintLast
theorem bits_low (x : Int) : 0 ≤ Go.bits .and .u64 x 16777215 ∧ Go.bits .and .u64 x 16777215 ≤ 16777215 := by
 unfold Go.bits
 simp only
 rw [BitVec.toNat_and]
 have h := @Nat.and_le_right (BitVec.ofInt IntKind.u64.bits x).toNat (BitVec.ofInt IntKind.u64.bits 16777215).toNat
 have h2 : (BitVec.ofInt IntKind.u64.bits 16777215).toNat = 16777215 := by decide
 rw [h2] at h ⊢
 generalize (BitVec.ofInt IntKind.u64.bits x).toNat &&& 16777215 = u at h
 rw [Go.IntWalk.u64_in _ (by omega)]
 omega
def okS (c : List Int) (p : Int) : Prop := c.length ≤ 4096 ∧ (∀ x ∈ c, 0 ≤ x ∧ x ≤ 255) ∧ 0 ≤ p ∧ p ≤ 4096
theorem from_l0 (c : List Int) (hc : c.length ≤ 4096) : ∀ (d i k : Nat) (s : Int), i + d = c.length → d < k → ∃ s', spec_l01From.l0 k c (i : Int) c 0 s = some (c, 0, s') := by
 intro d
 induction d with
 | zero =>
  intro i k s hi hk
  obtain ⟨k, rfl⟩ : ∃ m, k = m + 1 := ⟨k - 1, by omega⟩
  simp only [spec_l01From.l0]
  rw [if_neg (by omega)]
  exact ⟨_, rfl⟩
 | succ d ih =>
  intro i k s hi hk
  obtain ⟨k, rfl⟩ : ∃ m, k = m + 1 := ⟨k - 1, by omega⟩
  simp only [spec_l01From.l0]
  rw [if_pos (by omega), if_pos (by omega), if_pos (by omega), wrap_succ (n := c.length) (by omega) (by omega)]
  exact ih (i + 1) k _ (by omega) (by omega)
theorem from_ok (c : List Int) (hc : c.length ≤ 4096) (hb : ∀ x ∈ c, 0 ≤ x ∧ x ≤ 255) (k : Nat) (hk : 5000 < k) : ∃ p s, spec_l01From.f k c = some (c, p, s) ∧ okS c p := by
 unfold spec_l01From.f
 obtain ⟨s', h⟩ := from_l0 c hc c.length 0 k (IntKind.u64.wrap (14041 + (IntKind.u64.wrap ((c.length : Int))))) (by omega) (by omega)
 exact ⟨0, s', h, hc, hb, by omega, by omega⟩
theorem tmod_in (v a : Int) (hv : 0 ≤ v) (ha : 1 ≤ a) : 0 ≤ Int.tmod v a ∧ Int.tmod v a < a :=
 ⟨Int.tmod_nonneg _ hv, Int.tmod_lt_of_pos _ (by omega)⟩
theorem next_ok {c : List Int} {p : Int} (h : okS c p) (s a : Int) : ∃ r p' s', spec_l01Next.f c p s a = some (r, p', s') ∧ okS c p' ∧ (1 ≤ a → 0 ≤ r ∧ r < a) ∧ (a < 1 → r = 0) := by
 obtain ⟨h1, h2, h3, h4⟩ := h
 unfold spec_l01Next.f
 by_cases ha : a < 1
 ·rw [if_pos ha]
  exact ⟨0, p, s, rfl, ⟨h1, h2, h3, h4⟩, fun z => by omega, fun _ => rfl⟩
 ·have hb := bits_low ((IntKind.u64.wrap ((IntKind.u64.wrap (s * 6364136223846793005)) + 1442695040888963407)) / 8589934592)
  generalize Go.bits .and .u64 ((IntKind.u64.wrap ((IntKind.u64.wrap (s * 6364136223846793005)) + 1442695040888963407)) / 8589934592) 16777215 = b at hb
  rw [if_neg ha, wrap64_id (x := b) (by omega) (by omega)]
  by_cases hp : p < (c.length : Int)
  ·obtain ⟨q, rfl⟩ : ∃ q : Nat, p = (q : Int) := ⟨p.toNat, by omega⟩
   have hx := h2 _ (rd_in c q (by omega))
   rw [if_pos hp, if_pos h3, if_neg (by omega), wrap64_id (x := rd c (q : Int)) (by omega) (by omega), wrap64_id (x := b + rd c (q : Int)) (by omega) (by omega), wrap64_id (x := (q : Int) + 1) (by omega) (by omega)]
   exact ⟨_, _, _, rfl, ⟨h1, h2, by omega, by omega⟩, fun _ => tmod_in _ a (by omega) (by omega), fun z => absurd z ha⟩
  ·rw [if_neg hp, if_neg (by omega)]
   exact ⟨_, _, _, rfl, ⟨h1, h2, h3, h4⟩, fun _ => tmod_in _ a (by omega) (by omega), fun z => absurd z ha⟩
theorem pick_ok {c : List Int} {p : Int} (h : okS c p) (s : Int) (l : List Int) (hl : 1 ≤ l.length) : ∃ r p' s', spec_l01Pick.f c p s l = some (r, p', s') ∧ okS c p' ∧ r ∈ l := by
 obtain ⟨i, p', s', e, h', hr, _⟩ := next_ok h s (l.length : Int)
 have hr := hr (by omega)
 obtain ⟨q, rfl⟩ : ∃ q : Nat, i = (q : Int) := ⟨i.toNat, by omega⟩
 unfold spec_l01Pick.f
 rw [e, Option.bind_some]
 simp only
 rw [if_pos hr.1, if_pos hr.2]
 exact ⟨_, _, _, rfl, h', rd_in l q (by omega)⟩
def okL (l : List S40) : Prop := 1 ≤ l.length ∧ l.length ≤ 8 ∧ ∀ x ∈ l, 1 ≤ x.f1 ∧ x.f1 ≤ 40
theorem parts_mem (c : S40) (m : Int) : ∀ d n, ∀ x ∈ partsF c m d n, x.f1 = wrap64 (m * c.f1)
 | 0, _, x, h => by simp [partsF] at h
 | d + 1, n, x, h => by
  simp only [partsF] at h
  rcases List.mem_cons.1 h with rfl | h
  ·rfl
  ·exact parts_mem c m d (n + 1) x h
theorem split_ok (l : List S40) (hl : okL l) (i m : Nat) (hi : i < l.length) (hm1 : 2 ≤ m) (hm : l.length + m ≤ 9) (hg : m * (rd_T40 l (i : Int)).f1 ≤ 40) (k : Nat) (hk : 100 < k) : ∃ L, spec_l05Split.f k l (i : Int) (m : Int) = some L ∧ okL L := by
 obtain ⟨h1, h2, h3⟩ := hl
 refine ⟨splitL l i m, ?_, ?_, ?_, ?_⟩
 ·unfold spec_l05Split.f
  have e := specSplit_l0 l h2 i m hi (by omega) m 0 k (l.take i) (by omega) (by omega) (by rw [List.length_take]; omega)
  rw [Int.natCast_zero] at e
  rw [Option.bind_some, if_pos (by omega), if_pos (by omega), toNat_nat, Option.bind_some, if_pos (by rw [List.length_nil, List.length_take]; omega), List.nil_append, e]
  rfl
 ·rw [splitL_length l i m hi]
  omega
 ·rw [splitL_length l i m hi]
  omega
 ·intro x hx
  unfold splitL at hx
  have hc := h3 _ (rdC_in l i hi)
  rcases List.mem_append.1 hx with hx | hx
  ·exact h3 x (List.mem_of_mem_take hx)
  ·rcases List.mem_append.1 hx with hx | hx
   ·have hpos : 1 * 1 ≤ (m : Int) * (rd_T40 l (i : Int)).f1 := Int.mul_le_mul (by omega) hc.1 (by omega) (by omega)
    rw [parts_mem _ _ _ _ x hx, wrap64_id (by omega) (by omega)]
    omega
   ·exact h3 x (List.mem_of_mem_drop hx)
theorem order_l0 {c : List Int} (n : Nat) (hn : n ≤ 8) : ∀ (d i k : Nat) (o : List Int) (p s : Int), i + d = n → d < k → okS c p → o.length = i → (∀ x ∈ o, 0 ≤ x ∧ x < (n : Int)) → ∃ o' p' s', spec_l01DrawOrder.l0 k (n : Int) o (i : Int) c p s = some (o', p', s') ∧ okS c p' ∧ o'.length = n ∧ ∀ x ∈ o', 0 ≤ x ∧ x < (n : Int) := by
 intro d
 induction d with
 | zero =>
  intro i k o p s hi hk hs ho hx
  obtain ⟨k, rfl⟩ : ∃ m, k = m + 1 := ⟨k - 1, by omega⟩
  simp only [spec_l01DrawOrder.l0]
  rw [if_neg (by omega)]
  exact ⟨o, p, s, rfl, hs, by omega, hx⟩
 | succ d ih =>
  intro i k o p s hi hk hs ho hx
  obtain ⟨k, rfl⟩ : ∃ m, k = m + 1 := ⟨k - 1, by omega⟩
  obtain ⟨r, p', s', e, hs', hr, _⟩ := next_ok hs s ((i + 1 : Nat) : Int)
  have hr := hr (by omega)
  obtain ⟨q, rfl⟩ : ∃ q : Nat, r = (q : Int) := ⟨r.toNat, by omega⟩
  simp only [spec_l01DrawOrder.l0]
  rw [if_pos (by omega), wrap_succ (n := n) (by omega) (by omega), e, Option.bind_some]
  simp only
  have em : main_main.f o (q : Int) (i : Int) = some (o.take q ++ [(i : Int)] ++ o.drop q) := by
   unfold main_main.f spec_l01Own.f
   have ht : (o.take q).length ≤ 8 := by rw [List.length_take]; omega
   have hd : (o.drop q).length ≤ 8 := by rw [List.length_drop]; omega
   rw [if_pos (by omega), if_pos (by omega), toNat_nat, Option.bind_some, if_pos (by rw [List.length_nil]; omega), Option.bind_some, Option.bind_some, List.nil_append, if_pos (by rw [List.length_singleton]; omega), Option.bind_some, if_pos (by rw [List.length_append, List.length_singleton]; omega)]
  rw [em, Option.bind_some]
  refine ih (i + 1) k _ p' s' (by omega) (by omega) hs' ?_ ?_
  ·rw [List.length_append, List.length_append, List.length_singleton, List.length_take, List.length_drop]
   omega
  ·intro x hxm
   rcases List.mem_append.1 hxm with hxm | hxm
   ·rcases List.mem_append.1 hxm with hxm | hxm
    ·exact hx x (List.mem_of_mem_take hxm)
    ·rw [List.mem_singleton.1 hxm]
     omega
   ·exact hx x (List.mem_of_mem_drop hxm)
theorem order_ok {c : List Int} {p : Int} (hs : okS c p) (s : Int) (n : Nat) (hn : n ≤ 8) (k : Nat) (hk : 20 < k) : ∃ o p' s', spec_l01DrawOrder.f k c p s (n : Int) = some (o, p', s') ∧ okS c p' ∧ o.length = n ∧ ∀ x ∈ o, 0 ≤ x ∧ x < (n : Int) := by
 unfold spec_l01DrawOrder.f
 have := order_l0 (c := c) n hn n 0 k [] p s (by omega) (by omega) hs rfl (by simp)
 simpa using this
theorem natural_l1 {c : List Int} {p : Int} (hs : okS c p) (s : Int) (l : List S40) (hl : okL l) (o : List Int) (ho : o.length ≤ 8) (hx : ∀ x ∈ o, 0 ≤ x ∧ x < (l.length : Int)) : ∀ (d i k : Nat) (a : List S40), i + d = o.length → d < k → a.length = i → (∀ x ∈ a, 1 ≤ x.f1 ∧ x.f1 ≤ 40) → ∃ L, spec_l05DrawNatural.l1 k l o a (o.length : Int) (i : Int) c p s = some (L, p, s) ∧ L.length = o.length ∧ ∀ x ∈ L, 1 ≤ x.f1 ∧ x.f1 ≤ 40 := by
 intro d
 induction d with
 | zero =>
  intro i k a hi hk ha hm
  obtain ⟨k, rfl⟩ : ∃ m, k = m + 1 := ⟨k - 1, by omega⟩
  simp only [spec_l05DrawNatural.l1]
  rw [if_neg (by omega)]
  exact ⟨a, rfl, by omega, hm⟩
 | succ d ih =>
  intro i k a hi hk ha hm
  obtain ⟨k, rfl⟩ : ∃ m, k = m + 1 := ⟨k - 1, by omega⟩
  have hr := hx _ (rd_in o i (by omega))
  simp only [spec_l05DrawNatural.l1]
  rw [if_pos (by omega), if_pos (by omega), if_pos (by omega), if_pos hr.1, if_pos hr.2, if_pos (by omega), wrap_succ (n := o.length) (by omega) (by omega)]
  obtain ⟨q, hq⟩ : ∃ q : Nat, rd o (i : Int) = (q : Int) := ⟨(rd o (i : Int)).toNat, by omega⟩
  rw [hq] at hr ⊢
  refine ih (i + 1) k _ (by omega) (by omega) (by rw [List.length_append, List.length_singleton]; omega) (fun x hxm => ?_)
  rcases List.mem_append.1 hxm with hxm | hxm
  ·exact hm x hxm
  ·rw [List.mem_singleton.1 hxm]
   exact hl.2.2 _ (rdC_in l q (by omega))
theorem natural_l0 {c : List Int} : ∀ (d k : Nat) (l : List S40) (p s : Int), d ≤ 4 → 300 + d < k → okS c p → okL l → ∃ L p' s', spec_l05DrawNatural.l0 k l (d : Int) c p s = some (L, p', s') ∧ okS c p' ∧ okL L := by
 intro d
 induction d with
 | zero =>
  intro k l p s _ hk hs hl
  obtain ⟨k, rfl⟩ : ∃ m, k = m + 1 := ⟨k - 1, by omega⟩
  obtain ⟨r, p1, s1, e1, hs1, _, _⟩ := next_ok hs s 2
  simp only [spec_l05DrawNatural.l0]
  rw [if_neg (by omega), e1, Option.bind_some]
  simp only
  by_cases h : r = 0
  ·obtain ⟨o, p2, s2, e2, hs2, ho, hx⟩ := order_ok hs1 s1 l.length hl.2.1 k (by omega)
   rw [if_pos h, e2, Option.bind_some]
   simp only
   obtain ⟨L, e3, hL, hg⟩ := natural_l1 hs2 s2 l hl o (by have := hl.2.1; omega) hx o.length 0 k [] (by omega) (by have := hl.2.1; omega) rfl (by simp)
   rw [Int.natCast_zero] at e3
   exact ⟨L, p2, s2, e3, hs2, by have := hl.1; omega, by have := hl.2.1; omega, hg⟩
  ·rw [if_neg h]
   exact ⟨l, p1, s1, rfl, hs1, hl⟩
 | succ d ih =>
  intro k l p s hd hk hs hl
  obtain ⟨k, rfl⟩ : ∃ m, k = m + 1 := ⟨k - 1, by omega⟩
  obtain ⟨i, p1, s1, e1, hs1, hi, _⟩ := next_ok hs s (l.length : Int)
  have hi := hi (by have := hl.1; omega)
  obtain ⟨i, rfl⟩ : ∃ q : Nat, i = (q : Int) := ⟨i.toNat, by omega⟩
  obtain ⟨b, p2, s2, e2, hs2, hb⟩ := pick_ok hs1 s1 [1, 2, 4] (by simp)
  have hb : 1 ≤ b ∧ b ≤ 4 := by
   simp only [List.mem_cons, List.not_mem_nil, or_false] at hb
   omega
  obtain ⟨m, p3, s3, e3, hs3, hm, _⟩ := next_ok hs2 s2 b
  have hm := hm hb.1
  have hll := hl.2.1
  obtain ⟨M, hM⟩ : ∃ q : Nat, 2 + m = (q : Int) := ⟨(2 + m).toNat, by omega⟩
  have hg := hl.2.2 _ (rdC_in l i (by omega))
  simp only [spec_l05DrawNatural.l0]
  rw [if_pos (by omega), e1, Option.bind_some]
  simp only
  rw [e2, Option.bind_some]
  simp only
  rw [e3, Option.bind_some]
  simp only
  rw [hM, wrap64_id (x := (M : Int)) (by omega) (by omega), wrap64_id (x := (l.length : Int) + (M : Int)) (by omega) (by omega), wrap64_id (x := (l.length : Int) + (M : Int) - 1) (by omega) (by omega), wrap64_id (x := ((d + 1 : Nat) : Int) - 1) (by omega) (by omega), show ((d + 1 : Nat) : Int) - 1 = (d : Int) by omega]
  by_cases h1 : (l.length : Int) + (M : Int) - 1 ≤ 8
  ·have hmul : (M : Int) * (rd_T40 l (i : Int)).f1 ≤ 8 * 40 := Int.mul_le_mul (by omega) hg.2 (by omega) (by omega)
   have hmul0 : 0 * 0 ≤ (M : Int) * (rd_T40 l (i : Int)).f1 := Int.mul_le_mul (by omega) (by omega) (by omega) (by omega)
   rw [if_pos h1, if_pos (by omega), if_pos hi.2, wrap64_id (x := (M : Int) * (rd_T40 l (i : Int)).f1) (by omega) (by omega)]
   by_cases h2 : (M : Int) * (rd_T40 l (i : Int)).f1 ≤ 40
   ·obtain ⟨L, e4, hL⟩ := split_ok l hl i M (by omega) (by omega) (by omega) h2 k (by omega)
    rw [if_pos h2, e4, Option.bind_some]
    exact ih k L p3 s3 (by omega) (by omega) hs3 hL
   ·rw [if_neg h2]
    exact ih k l p3 s3 (by omega) (by omega) hs3 hl
  ·rw [if_neg h1]
   exact ih k l p3 s3 (by omega) (by omega) hs3 hl
theorem natural_ok {c : List Int} {p : Int} (hs : okS c p) (s : Int) (k : Nat) (hk : 1000 < k) : ∃ L p' s', spec_l05DrawNatural.f k c p s = some (L, p', s') ∧ okS c p' ∧ okL L := by
 unfold spec_l05DrawNatural.f
 obtain ⟨r, p1, s1, e1, hs1, hr, _⟩ := next_ok hs s 5
 have hr := hr (by omega)
 obtain ⟨r, rfl⟩ : ∃ q : Nat, r = (q : Int) := ⟨r.toNat, by omega⟩
 rw [e1, Option.bind_some]
 exact natural_l0 r k _ p1 s1 (by omega) (by omega) hs1 ⟨by simp, by simp, by simp⟩
theorem draw_l0 {c : List Int} : ∀ (d k : Nat) (l : List S40) (p s : Int), d < k → okS c p → l.length + d ≤ 8 → ∃ L p' s', spec_l05Draw.l0 k l (d : Int) c p s = some (L, p', s') ∧ okS c p' ∧ L.length = l.length + d := by
 intro d
 induction d with
 | zero =>
  intro k l p s hk hs hl
  obtain ⟨k, rfl⟩ : ∃ m, k = m + 1 := ⟨k - 1, by omega⟩
  simp only [spec_l05Draw.l0]
  rw [if_neg (by omega)]
  exact ⟨l, p, s, rfl, hs, rfl⟩
 | succ d ih =>
  intro k l p s hk hs hl
  obtain ⟨k, rfl⟩ : ∃ m, k = m + 1 := ⟨k - 1, by omega⟩
  obtain ⟨b, p1, s1, e1, hs1, hb⟩ := pick_ok hs s [4, 10, 40] (by simp)
  obtain ⟨m, p2, s2, e2, hs2, _, _⟩ := next_ok hs1 s1 b
  obtain ⟨r, p3, s3, e3, hs3, _, _⟩ := next_ok hs2 s2 (wrap64 (1 + m))
  simp only [spec_l05Draw.l0]
  rw [if_pos (by omega), e1, Option.bind_some]
  simp only
  rw [e2, Option.bind_some]
  simp only
  rw [e3, Option.bind_some]
  simp only
  rw [if_pos (by omega), wrap64_id (x := ((d + 1 : Nat) : Int) - 1) (by omega) (by omega), show ((d + 1 : Nat) : Int) - 1 = (d : Int) by omega]
  obtain ⟨L, p', s', h1, h2, h3⟩ := ih k (l ++ [⟨r, wrap64 (1 + m)⟩]) p3 s3 (by omega) hs3 (by rw [List.length_append, List.length_singleton]; omega)
  exact ⟨L, p', s', h1, h2, by rw [h3, List.length_append, List.length_singleton]; omega⟩
theorem draw_ok {c : List Int} {p : Int} (hs : okS c p) (s : Int) (k : Nat) (hk : 1100 < k) : ∃ L p' s', spec_l05Draw.f k c p s = some (L, p', s') ∧ okS c p' ∧ 1 ≤ L.length ∧ L.length ≤ 8 := by
 unfold spec_l05Draw.f
 obtain ⟨r, p1, s1, e1, hs1, _, _⟩ := next_ok hs s 4
 rw [e1, Option.bind_some]
 simp only
 by_cases h : r > 0
 ·obtain ⟨L, p2, s2, e2, hs2, hL⟩ := natural_ok hs1 s1 k (by omega)
  obtain ⟨q, p3, s3, e3, hs3, _, _⟩ := next_ok hs2 s2 4
  have hL1 := hL.1
  have hL2 := hL.2.1
  rw [if_pos h, e2, Option.bind_some]
  simp only
  rw [e3, Option.bind_some]
  simp only
  by_cases h0 : q = 0
  ·rw [if_pos h0]
   by_cases h1 : (L.length : Int) > 1
   ·rw [if_pos h1, if_pos (by omega)]
    refine ⟨_, _, _, rfl, hs3, ?_, ?_⟩
    ·rw [List.length_drop]
     have : (1 : Int).toNat = 1 := rfl
     omega
    ·rw [List.length_drop]
     omega
   ·rw [if_neg h1]
    exact ⟨_, _, _, rfl, hs3, hL1, hL2⟩
  ·rw [if_neg h0]
   by_cases h1 : q = 1
   ·obtain ⟨i, p4, s4, e4, hs4, hi, _⟩ := next_ok hs3 s3 (L.length : Int)
    have hi := hi (by omega)
    obtain ⟨b, p5, s5, e5, hs5, _, _⟩ := next_ok hs4 s4 (rd_T40 L i).f1
    rw [if_pos h1, e4, Option.bind_some]
    simp only
    rw [if_pos hi.1, if_pos hi.2, e5, Option.bind_some]
    exact ⟨_, _, _, rfl, hs5, by rw [List.length_set]; exact hL1, by rw [List.length_set]; exact hL2⟩
   ·rw [if_neg h1]
    exact ⟨_, _, _, rfl, hs3, hL1, hL2⟩
 ·obtain ⟨q, p2, s2, e2, hs2, hq, _⟩ := next_ok hs1 s1 6
  have hq := hq (by omega)
  obtain ⟨d, hd⟩ : ∃ d : Nat, 1 + q = (d : Int) := ⟨(1 + q).toNat, by omega⟩
  rw [if_neg h, e2, Option.bind_some]
  simp only
  rw [hd, wrap64_id (x := (d : Int)) (by omega) (by omega)]
  obtain ⟨L, p', s', h1, h2, h3⟩ := draw_l0 d k [] p2 s2 (by omega) hs2 (by simp; omega)
  rw [List.length_nil, Nat.zero_add] at h3
  exact ⟨L, p', s', h1, h2, by omega, by omega⟩
theorem bad_l0 {c : List Int} {p s : Int} : ∀ (d k : Nat) (l : List S40), d < k → l.length + d = 9 → ∃ L, spec_l05Bad.l0 k l c p s = some (L, p, s) ∧ L.length = 9 := by
 intro d
 induction d with
 | zero =>
  intro k l hk hl
  obtain ⟨k, rfl⟩ : ∃ m, k = m + 1 := ⟨k - 1, by omega⟩
  simp only [spec_l05Bad.l0]
  rw [if_neg (by omega)]
  exact ⟨l, rfl, by omega⟩
 | succ d ih =>
  intro k l hk hl
  obtain ⟨k, rfl⟩ : ∃ m, k = m + 1 := ⟨k - 1, by omega⟩
  simp only [spec_l05Bad.l0]
  rw [if_pos (by omega), if_pos (by omega)]
  exact ih k _ (by omega) (by rw [List.length_append, List.length_singleton]; omega)
theorem bad_ok {c : List Int} {p : Int} (hs : okS c p) (s : Int) (l : List S40) (h1 : 1 ≤ l.length) (h2 : l.length ≤ 8) (k : Nat) (hk : 100 < k) : ∃ L p' s', spec_l05Bad.f k c p s l = some (L, p', s') ∧ L.length ≤ 9 := by
 unfold spec_l05Bad.f
 obtain ⟨r, p1, s1, e1, hs1, _, _⟩ := next_ok hs s 40
 rw [Option.bind_some, if_pos (by rw [List.length_nil]; omega), Option.bind_some, List.nil_append, e1, Option.bind_some]
 simp only
 by_cases r0 : r = 0
 ·rw [if_pos r0]
  exact ⟨_, _, _, rfl, by simp⟩
 rw [if_neg r0]
 by_cases r1 : r = 1
 ·obtain ⟨b, p2, s2, e2, _, _⟩ := pick_ok hs1 s1 [(-1), (rd_T40 l 0).f1, 1099511627776] (by simp)
  rw [if_pos r1, if_pos (by omega), e2, Option.bind_some]
  exact ⟨_, _, _, rfl, by rw [List.length_set]; omega⟩
 rw [if_neg r1]
 by_cases r2 : r = 2
 ·obtain ⟨b, p2, s2, e2, _, _⟩ := pick_ok hs1 s1 [0, 41, (-3)] (by simp)
  rw [if_pos r2, e2, Option.bind_some, if_pos (by omega)]
  exact ⟨_, _, _, rfl, by rw [List.length_set]; omega⟩
 rw [if_neg r2]
 by_cases r3 : r = 3
 ·obtain ⟨L, e, hL⟩ := bad_l0 (c := c) (p := p1) (s := s1) (9 - l.length) k l (by omega) (by omega)
  rw [if_pos r3, e]
  exact ⟨L, p1, s1, rfl, by omega⟩
 rw [if_neg r3]
 exact ⟨l, p1, s1, rfl, by omega⟩
theorem spoil_ok (c : List Int) (hc : c.length ≤ 4096) (hb : ∀ x ∈ c, 0 ≤ x ∧ x ≤ 255) (k : Nat) (hk : 6000 < k) : ∃ L, spec_DrawTurnsOfClasses.f k c = some L ∧ L.length ≤ 9 := by
 unfold spec_DrawTurnsOfClasses.f spec_l05Spoil.f
 obtain ⟨p, s, e1, hs⟩ := from_ok c hc hb k (by omega)
 obtain ⟨L, p2, s2, e2, hs2, h1, h2⟩ := draw_ok hs s k (by omega)
 obtain ⟨M, p3, s3, e3, h3⟩ := bad_ok hs2 s2 L h1 h2 k (by omega)
 rw [e1, Option.bind_some]
 simp only
 rw [e2, Option.bind_some]
 simp only
 rw [e3, Option.bind_some, Option.bind_some]
 exact ⟨M, rfl, h3⟩
theorem badT_l0 {c : List Int} {p s : Int} : ∀ (d k : Nat) (l : List Int), d < k → l.length + d = 121 → ∃ L, spec_l01BadTurns.l0 k l c p s = some (L, p, s) ∧ L.length = 121 := by
 intro d
 induction d with
 | zero =>
  intro k l hk hl
  obtain ⟨k, rfl⟩ : ∃ m, k = m + 1 := ⟨k - 1, by omega⟩
  simp only [spec_l01BadTurns.l0]
  rw [if_neg (by omega)]
  exact ⟨l, rfl, by omega⟩
 | succ d ih =>
  intro k l hk hl
  obtain ⟨k, rfl⟩ : ∃ m, k = m + 1 := ⟨k - 1, by omega⟩
  simp only [spec_l01BadTurns.l0]
  rw [if_pos (by omega), if_pos (by omega)]
  exact ih k _ (by omega) (by rw [List.length_append, List.length_singleton]; omega)
theorem badT_ok {c : List Int} {p : Int} (hs : okS c p) (s : Int) (l : List Int) (h1 : 1 ≤ l.length) (h2 : l.length ≤ 120) (k : Nat) (hk : 200 < k) : ∃ L p' s', spec_l01BadTurns.f k c p s l = some (L, p', s') ∧ L.length ≤ 121 := by
 unfold spec_l01BadTurns.f spec_l01Own.f
 obtain ⟨r, p1, s1, e1, hs1, _, _⟩ := next_ok hs s 40
 rw [Option.bind_some, if_pos (by rw [List.length_nil]; omega), Option.bind_some, List.nil_append, e1, Option.bind_some]
 simp only
 by_cases r0 : r = 0
 ·rw [if_pos r0]
  exact ⟨_, _, _, rfl, by simp⟩
 rw [if_neg r0]
 by_cases r1 : r = 1
 ·obtain ⟨i, p2, s2, e2, hs2, hi, _⟩ := next_ok hs1 s1 (l.length : Int)
  have hi := hi (by omega)
  obtain ⟨b, p3, s3, e3, _, _⟩ := pick_ok hs2 s2 [(-2), 8, 1099511627776, 7] (by simp)
  rw [if_pos r1, e2, Option.bind_some]
  simp only
  rw [e3, Option.bind_some]
  simp only
  rw [if_pos hi.1, if_pos hi.2]
  exact ⟨_, _, _, rfl, by rw [List.length_set]; omega⟩
 rw [if_neg r1]
 by_cases r2 : r = 2
 ·obtain ⟨L, e, hL⟩ := badT_l0 (c := c) (p := p1) (s := s1) (121 - l.length) k l (by omega) (by omega)
  rw [if_pos r2, e]
  exact ⟨L, p1, s1, rfl, by omega⟩
 rw [if_neg r2]
 exact ⟨l, p1, s1, rfl, by omega⟩
theorem mn_le (a b : Int) : mn a b = if a ≤ b then a else b := by
 unfold mn
 split <;> split <;> omega
theorem drawT_l0 {c : List Int} (l : List S40) (hl : okL l) : ∀ (d n k : Nat) (x : List Int) (m p s : Int), n + d = min (spanN l) 120 → 9223372036860001000 + d < k → okS c p → x.length = n → ∃ X K, spec_DrawClassesOfTurns.l0 k l x m (n : Int) c p s = some (X, K) ∧ X.length ≤ 121 := by
 have hr := spanN_range l hl.2.1 hl.2.2
 intro d
 induction d with
 | zero =>
  intro n k x m p s hi hk hs hx
  obtain ⟨k, rfl⟩ : ∃ m, k = m + 1 := ⟨k - 1, by omega⟩
  obtain ⟨r, p1, s1, e1, hs1, _, _⟩ := next_ok hs s 6
  simp only [spec_DrawClassesOfTurns.l0]
  rw [specSpan_eq l hl.2.1 hl.2.2 k (by omega), Option.bind_some, mn_le, if_neg (by split <;> omega), e1, Option.bind_some]
  simp only
  by_cases r0 : r = 0
  ·obtain ⟨i, p2, s2, e2, hs2, hi2, _⟩ := next_ok hs1 s1 (x.length : Int)
   have hi2 := hi2 (by omega)
   obtain ⟨b, p3, s3, e3, hs3, _, _⟩ := next_ok hs2 s2 (wrap64 (m + 1))
   obtain ⟨L, p4, s4, e4, h4⟩ := badT_ok hs3 s3 (x.set i.toNat (wrap64 (b - 1))) (by rw [List.length_set]; omega) (by rw [List.length_set]; omega) k (by omega)
   rw [if_pos r0, e2, Option.bind_some]
   simp only
   rw [e3, Option.bind_some]
   simp only
   rw [if_pos hi2.1, if_pos hi2.2, e4, Option.bind_some]
   exact ⟨_, _, rfl, h4⟩
  rw [if_neg r0]
  by_cases r1 : r = 1
  ·obtain ⟨b, p2, s2, e2, hs2, _⟩ := pick_ok hs1 s1 [1, 8, wrap64 (m + 1), 0, 9] (by simp)
   obtain ⟨L, p4, s4, e4, h4⟩ := badT_ok hs2 s2 x (by omega) (by omega) k (by omega)
   rw [if_pos r1, e2, Option.bind_some]
   simp only
   rw [e4, Option.bind_some]
   exact ⟨_, _, rfl, h4⟩
  ·obtain ⟨L, p4, s4, e4, h4⟩ := badT_ok hs1 s1 x (by omega) (by omega) k (by omega)
   rw [if_neg r1, e4, Option.bind_some]
   exact ⟨_, _, rfl, h4⟩
 | succ d ih =>
  intro n k x m p s hi hk hs hx
  obtain ⟨k, rfl⟩ : ∃ m, k = m + 1 := ⟨k - 1, by omega⟩
  simp only [spec_DrawClassesOfTurns.l0]
  rw [specSpan_eq l hl.2.1 hl.2.2 k (by omega), Option.bind_some, mn_le, if_pos (by split <;> omega), l05In_eq l hl.2.1 hl.2.2 _ k (by omega), Option.bind_some, if_pos (by omega), wrap_succ (n := 120) (by omega) (by omega)]
  exact ih (n + 1) k _ m p s (by omega) (by omega) hs (by rw [List.length_append, List.length_singleton]; omega)
theorem drawT_ok (c : List Int) (hc : c.length ≤ 4096) (hb : ∀ x ∈ c, 0 ≤ x ∧ x ≤ 255) (k : Nat) (hk : 9223372036860002000 < k) : ∃ X K, spec_DrawClassesOfTurns.f k c = some (X, K) ∧ X.length ≤ 121 := by
 unfold spec_DrawClassesOfTurns.f
 obtain ⟨p, s, e1, hs⟩ := from_ok c hc hb k (by omega)
 obtain ⟨L, p2, s2, e2, hs2, hL⟩ := natural_ok hs s k (by omega)
 rw [e1, Option.bind_some]
 simp only
 rw [e2, Option.bind_some]
 have := drawT_l0 (c := c) L hL (min (spanN L) 120) 0 k [] (L.length : Int) p2 s2 (by omega) (by omega) hs2 rfl
 simpa using this
end Go.Proofs.Ytdkhecebffjpjaa.X
