/- Texts of tasks read: both sides' answers; no condition beside those stated. -/
import Derived.Lib.Split
import Derived.Lib.SplitLaws
import Derived.Lib.IndexBytes
import Derived.Test.YtjhiigfbjbkedaaDoorQJn
import Derived.Test.YtjhiigfbjbkedaaDoorQB
import Derived.Test.YtjhiigfbjbkedaaDoorX1
import Derived.Test.YtjhiigfbjbkedaaDoorX2
import Derived.Test.YtjhiigfbjbkedaaDoorX3
import Derived.Test.YtjhiigfbjbkedaaDoorX4
import Derived.Test.YtjhiigfbjbkedaaDoorX5
namespace Go.Proofs.YtjhiigfbjbkedaaDoor.X
set_option linter.unusedVariables false
set_option linter.unusedSimpArgs false
open Go.RowKit Go.Proofs.YtjhiigfbjbkedaaDoorW.PrintWords Go.Proofs.YtjhiigfbjbkedaaDoorW.PrintLast
def consP (p : List UInt8) : List (List UInt8) → List (List UInt8)
  | [] => [p]
  | w :: r => (p ++ w) :: r
def splitC : List UInt8 → List (List UInt8)
  | [] => [[]]
  | b :: l => if b = 44 then [] :: splitC l else consP [b] (splitC l)
theorem splitC_ne (l : List UInt8) : splitC l ≠ [] := by
  cases l with
  | nil => simp [splitC]
  | cons b l =>
    simp only [splitC]
    by_cases h : b = 44
    · rw [if_pos h]; simp
    · rw [if_neg h]
      cases splitC l <;> simp [consP]
theorem consP_consP (p q : List UInt8) (W : List (List UInt8)) (h : W ≠ []) : consP p (consP q W) = consP (p ++ q) W := by
  cases W with
  | nil => exact absurd rfl h
  | cons w r => simp [consP]
theorem consP_nil (W : List (List UInt8)) (h : W ≠ []) : consP [] W = W := by
  cases W with
  | nil => exact absurd rfl h
  | cons w r => simp [consP]
theorem splitC_eq44 (l : List UInt8) : splitC (44 :: l) = [] :: splitC l := by simp only [splitC]; rw [if_pos trivial]
theorem splitC_ne44 (b : UInt8) (l : List UInt8) (h : ¬ b = 44) : splitC (b :: l) = consP [b] (splitC l) := by simp only [splitC]; rw [if_neg h]
theorem join_splitC (l : List UInt8) : Lib.join (splitC l) [44] = l := by
  induction l with
  | nil => simp [splitC, Lib.join_one]
  | cons b l ih =>
    by_cases h : b = 44
    · subst h
      rw [splitC_eq44]
      have hne := splitC_ne l
      cases hW : splitC l with
      | nil => exact absurd hW hne
      | cons w r =>
        rw [hW, Lib.join_cons] at ih
        rw [Lib.join_cons, List.nil_append, ← ih]
        simp [Lib.joinTail]
    · rw [splitC_ne44 b l h]
      have hne := splitC_ne l
      cases hW : splitC l with
      | nil => exact absurd hW hne
      | cons w r =>
        rw [hW, Lib.join_cons] at ih
        simp only [consP]
        rw [Lib.join_cons, List.append_assoc, ih]
        rfl
theorem splitC_free (x : List UInt8) (h : (44 : UInt8) ∉ x) : splitC x = [x] := by
  induction x with
  | nil => rfl
  | cons b x ih =>
    rw [List.mem_cons, not_or] at h
    rw [splitC_ne44 b x (fun e => h.1 e.symm), ih h.2]
    rfl
theorem splitC_app (x t : List UInt8) (h : (44 : UInt8) ∉ x) : splitC (x ++ 44 :: t) = x :: splitC t := by
  induction x with
  | nil => exact splitC_eq44 t
  | cons b x ih =>
    rw [List.mem_cons, not_or] at h
    rw [List.cons_append, splitC_ne44 b _ (fun e => h.1 e.symm), ih h.2]
    rfl
theorem splitC_join (xs : List (List UInt8)) (hne : xs ≠ []) (h : ∀ x ∈ xs, (44 : UInt8) ∉ x) : splitC (Lib.join xs [44]) = xs := by
  induction xs with
  | nil => exact absurd rfl hne
  | cons x r ih =>
    cases r with
    | nil => rw [Lib.join_one, splitC_free x (h x (List.mem_cons_self ..))]
    | cons y r =>
      have e : Lib.join (x :: y :: r) [44] = x ++ 44 :: Lib.join (y :: r) [44] := by
        rw [Lib.join_cons, Lib.join_cons]
        simp [Lib.joinTail]
      rw [e, splitC_app _ _ (h x (List.mem_cons_self ..)), ih (by simp) (fun z hz => h z (List.mem_cons_of_mem _ hz))]
theorem splitC_len (l : List UInt8) : (splitC l).length ≤ l.length + 1 ∧ ∀ w ∈ splitC l, w.length ≤ l.length := by
  induction l with
  | nil => simp [splitC]
  | cons b l ih =>
    by_cases h : b = 44
    · subst h
      rw [splitC_eq44]
      refine ⟨by simp only [List.length_cons]; omega, fun w hw => ?_⟩
      rcases List.mem_cons.1 hw with rfl | hw
      · simp
      · have := ih.2 w hw
        simp only [List.length_cons]; omega
    · rw [splitC_ne44 b l h]
      have hne := splitC_ne l
      cases hW : splitC l with
      | nil => exact absurd hW hne
      | cons w r =>
        rw [hW] at ih
        simp only [consP, List.length_cons] at ih ⊢
        refine ⟨by omega, fun v hv => ?_⟩
        rcases List.mem_cons.1 hv with rfl | hv
        · have := ih.2 w (List.mem_cons_self ..)
          simp; omega
        · have := ih.2 v (List.mem_cons_of_mem _ hv)
          omega
theorem idx_splitC (s : List UInt8) : (Lib.indexByte s 44 = -1 ∧ splitC s = [s]) ∨ ∃ i : Nat, Lib.indexByte s 44 = i ∧ splitC s = s.take i :: splitC (s.drop (i + 1)) := by
  induction s with
  | nil => exact .inl ⟨rfl, rfl⟩
  | cons b l ih =>
    by_cases h : b = 44
    · subst h
      exact .inr ⟨0, by simp [Lib.indexByte], splitC_eq44 l⟩
    · have hb : (b == 44) = false := by simpa using h
      rcases ih with ⟨h1, h2⟩ | ⟨i, h1, h2⟩
      · refine .inl ⟨by simp [Lib.indexByte, hb, h1], ?_⟩
        rw [splitC_ne44 b l h, h2]
        rfl
      · refine .inr ⟨i + 1, ?_, ?_⟩
        · simp only [Lib.indexByte, hb, h1]
          rw [if_neg (by decide), if_neg (by first | (simp; done) | (simp; omega))]
          omega
        · rw [splitC_ne44 b l h, h2]
          rfl
theorem splitK_eq : ∀ (k : Nat) (s : List UInt8), Lib.count s [44] = k → Lib.splitK [44] 0 k s = splitC s := by
  intro k
  induction k with
  | zero =>
    intro s hs
    rcases idx_splitC s with ⟨h1, h2⟩ | ⟨i, h1, h2⟩
    · rw [h2]; rfl
    · have := Lib.count_hit (s := s) (sub := [44]) (i := i) (by simp) (by rw [Lib.index_one]; exact h1)
      omega
  | succ k ih =>
    intro s hs
    rcases idx_splitC s with ⟨h1, h2⟩ | ⟨i, h1, h2⟩
    · have := Lib.count_miss (s := s) (sub := [44]) (by rw [Lib.index_one]; exact h1)
      omega
    · have hc := Lib.count_hit (s := s) (sub := [44]) (i := i) (by simp) (by rw [Lib.index_one]; exact h1)
      simp only [Lib.splitK]
      rw [Lib.index_one, h1, if_neg (by first | (simp; done) | (simp; omega)), Int.toNat_natCast, Nat.add_zero, h2]
      congr 1
      refine ih _ ?_
      simp only [List.length_singleton] at hc
      show Lib.count (s.drop (i + 1)) [44] = k
      omega
def bs (a : ByteArray) : List UInt8 := a.data.toList
theorem mkB_bs (a : ByteArray) : mkB (bs a) = a := by
  apply ByteArray.ext
  simp [mkB, bs]
theorem bs_mkB (l : List UInt8) : bs (mkB l) = l := by simp [mkB, bs]
theorem bs_len (a : ByteArray) : (bs a).length = a.size := Array.length_toList
theorem splitB_eq (a : ByteArray) : Lib.splitB (mkB [44]) 0 (Lib.countB a (mkB [44])) a = (splitC (bs a)).map mkB := by
  have h := Lib.splitB_data (mkB [44]) 0 (Lib.countB a (mkB [44])) a
  have e : Lib.splitK (mkB [44]).data.toList 0 (Lib.countB a (mkB [44])) a.data.toList = splitC (bs a) := splitK_eq _ _ rfl
  rw [e] at h
  rw [← h, List.map_map]
  have : ∀ x ∈ Lib.splitB (mkB [44]) 0 (Lib.countB a (mkB [44])) a, (mkB ∘ fun x : ByteArray => x.data.toList) x = x := fun x _ => mkB_bs x
  rw [List.map_congr_left this, List.map_id']
theorem implSplit_eq (a : ByteArray) (h : a.size ≤ 1048576) : strings_Split.f a (⟨#[44]⟩ : ByteArray) = some ((splitC (bs a)).map mkB) := by
  have := splitB_eq a
  unfold strings_Split.f
  rw [show (⟨#[44]⟩ : ByteArray) = mkB [44] from rfl, if_pos ⟨by omega, by rw [mkB_size]; simp⟩, this]
theorem bt_get (a : ByteArray) (i : Nat) (h : i < a.size) : bt a (i : Int) = (((bs a)[i]'(by rw [bs_len]; exact h)).toNat : Int) := by
  unfold bt
  rw [dif_pos (by rw [Int.toNat_natCast]; exact h)]
  simp [bs]
  rfl
theorem extract_mk (a : ByteArray) (i j : Nat) : a.extract i j = mkB (((bs a).drop i).take (j - i)) := by
  have h := Lib.extract_data a i j
  rw [← mkB_bs (a.extract i j)]
  unfold bs
  rw [h]
theorem specSplit_l0 (a : ByteArray) (hs : a.size ≤ 1048576) : ∀ (d at_ i k : Nat) (o : List ByteArray), i + d = a.size → at_ ≤ i → d < k → o.length ≤ i →
    spec_l01Split.l0 k a 44 o (at_ : Int) (i : Int) = some (o ++ (consP (((bs a).drop at_).take (i - at_)) (splitC ((bs a).drop i))).map mkB) := by
  intro d
  have hbl := bs_len a
  induction d with
  | zero =>
    intro at_ i k o hi ha hk ho
    obtain ⟨k, rfl⟩ : ∃ m, k = m + 1 := ⟨k - 1, by omega⟩
    simp only [spec_l01Split.l0]
    rw [if_neg (by omega), if_pos (by omega), if_pos (by omega), if_pos (by omega), Int.toNat_natCast, extract_mk, List.drop_of_length_le (i := i) (by omega), show i = a.size by omega]
    simp [splitC, consP]
  | succ d ih =>
    intro at_ i k o hi ha hk ho
    obtain ⟨k, rfl⟩ : ∃ m, k = m + 1 := ⟨k - 1, by omega⟩
    have hdrop : (bs a).drop i = (bs a)[i]'(by omega) :: (bs a).drop (i + 1) := List.drop_eq_getElem_cons (by omega)
    simp only [spec_l01Split.l0]
    rw [if_pos (by omega), if_pos (by omega), bt_get a i (by omega), hdrop]
    have hgp : ((bs a).drop at_).take (i + 1 - at_) = ((bs a).drop at_).take (i - at_) ++ [(bs a)[i]'(by omega)] := by
      rw [show i + 1 - at_ = (i - at_) + 1 by omega, List.take_add_one, List.getElem?_drop, List.getElem?_eq_getElem (by omega)]
      have : at_ + (i - at_) = i := by omega
      simp [this]
    generalize (bs a)[i]'(by omega) = b at hgp
    have hb := b.toNat_lt
    by_cases h : b = 44
    · subst h
      rw [if_pos (by rfl), if_pos (by omega), if_pos (by omega), if_pos (by omega), if_pos (by omega), Int.toNat_natCast, Int.toNat_natCast, extract_mk, wrap_succ (n := a.size) (by omega) (by omega), ih (i + 1) (i + 1) k _ (by omega) (by omega) (by omega) (by simp; omega), splitC_eq44, Nat.sub_self, List.take_zero, consP_nil _ (splitC_ne _)]
      simp [consP]
    · rw [if_neg (fun e => h (by
        apply UInt8.toNat_inj.1
        have : (44 : UInt8).toNat = 44 := rfl
        omega)), wrap_succ (n := a.size) (by omega) (by omega), ih at_ (i + 1) k o (by omega) (by omega) (by omega) (by omega), splitC_ne44 b _ h, consP_consP _ _ _ (splitC_ne _), hgp]
theorem specSplit_eq (a : ByteArray) (hs : a.size ≤ 1048576) (k : Nat) (hk : a.size < k) : spec_l01Split.f k a 44 = some ((splitC (bs a)).map mkB) := by
  unfold spec_l01Split.f
  have := specSplit_l0 a hs a.size 0 0 k [] (by omega) (by omega) hk (by simp)
  rw [List.drop_zero, List.take_zero, consP_nil _ (splitC_ne _), List.nil_append, Int.natCast_zero] at this
  exact this
def numL : List UInt8 → Int → Int
  | [], n => n
  | b :: r, n => if b.toNat < 48 then -1 else if 57 < b.toNat then -1 else numL r (n * 10 + ((b.toNat : Int) - 48))
def numF (w : List UInt8) : Int := if w.length = 0 then -1 else if 9 < w.length then -1 else if 1 < w.length ∧ w.head? = some 48 then -1 else numL w 0
theorem specNum2_l0 (w : List UInt8) (hw : w.length ≤ 9) : ∀ (d i k : Nat) (n : Int), i + d = w.length → d < k → 0 ≤ n → n < ((10 ^ i : Nat) : Int) → spec_l01Number.l0 k (mkB w) n (i : Int) = some (numL (w.drop i) n) := by
  intro d
  have hsz := mkB_size w
  induction d with
  | zero =>
    intro i k n hi hk h0 h1
    obtain ⟨k, rfl⟩ : ∃ m, k = m + 1 := ⟨k - 1, by omega⟩
    simp only [spec_l01Number.l0]
    rw [if_neg (by omega), List.drop_of_length_le (by omega)]
    rfl
  | succ d ih =>
    intro i k n hi hk h0 h1
    obtain ⟨k, rfl⟩ : ∃ m, k = m + 1 := ⟨k - 1, by omega⟩
    have hp : 10 ^ i ≤ 10 ^ 8 := Nat.pow_le_pow_right (by omega) (by omega)
    have hp2 : 10 ^ (i + 1) = 10 * 10 ^ i := by rw [Nat.pow_succ, Nat.mul_comm]
    rw [show (10 : Nat) ^ 8 = 100000000 from rfl] at hp
    have hdrop : w.drop i = w[i]'(by omega) :: w.drop (i + 1) := List.drop_eq_getElem_cons (by omega)
    have hbt : bt (mkB w) (i : Int) = ((w[i]'(by omega)).toNat : Int) := by
      rw [bt_get (mkB w) i (by omega)]
      simp [bs_mkB]
    simp only [spec_l01Number.l0]
    rw [if_pos (by omega), if_pos (by omega), hbt, hdrop]
    have hih := ih (i + 1) k
    rw [hp2] at hih
    generalize w[i]'(by omega) = b
    have hb := b.toNat_lt
    simp only [numL]
    by_cases h2 : b.toNat < 48
    · rw [if_pos (by omega), if_pos h2]
    · rw [if_neg (by omega), if_neg h2]
      by_cases h3 : 57 < b.toNat
      · rw [if_pos (by omega), if_pos h3]
      · generalize 10 ^ i = p at hp h1 hih
        rw [if_neg (by omega), if_neg h3, wrap_succ (n := w.length) (by omega) (by omega), wrap64_id (x := n * 10) (by omega) (by omega), show ((b.toNat : Int) - 48) % 256 = (b.toNat : Int) - 48 by omega, wrap64_id (by omega) (by omega)]
        exact hih _ (by omega) (by omega) (by omega) (by omega)
theorem specNum2_eq (w : List UInt8) (k : Nat) (hk : 20 < k) : spec_l01Number.f k (mkB w) = some (numF w) := by
  obtain ⟨k, rfl⟩ : ∃ m, k = m + 1 := ⟨k - 1, by omega⟩
  have hsz := mkB_size w
  unfold spec_l01Number.f numF
  by_cases h0 : w.length = 0
  · rw [if_pos (by omega), if_pos h0]
    simp only [spec_l01Number.j0]
    rw [if_pos trivial]
  · rw [if_neg (by omega), if_neg h0]
    by_cases h9 : 9 < w.length
    · rw [if_pos (by omega), if_pos h9]
      simp only [spec_l01Number.j0]
      rw [if_pos trivial]
    · have hl := specNum2_l0 w (by omega) w.length 0 k 0 (by omega) (by omega) (by omega) (by simp)
      rw [List.drop_zero, Int.natCast_zero] at hl
      rw [if_neg (by omega), if_neg h9]
      by_cases h1 : 1 < w.length
      · rw [if_pos (by omega), if_pos (by omega)]
        have hbt : bt (mkB w) 0 = ((w[0]'(by omega)).toNat : Int) := by
          have := bt_get (mkB w) 0 (by omega)
          rw [Int.natCast_zero] at this
          rw [this]
          simp [bs_mkB]
        have hh : w.head? = some (w[0]'(by omega)) := by rw [List.head?_eq_getElem?, List.getElem?_eq_getElem (by omega)]
        rw [hbt, hh]
        generalize w[0]'(by omega) = b
        simp only [spec_l01Number.j0]
        by_cases hb : b = 48
        · subst hb
          rw [if_pos (by rfl), if_pos ⟨h1, rfl⟩]
        · have hb2 : ((b.toNat : Int) == 48) = false := by
            rw [beq_eq_false_iff_ne]
            intro e
            apply hb
            apply UInt8.toNat_inj.1
            have : (48 : UInt8).toNat = 48 := rfl
            omega
          rw [hb2, if_neg (by decide), if_neg (fun e => hb (Option.some.inj e.2)), hl]
      · rw [if_neg (by omega), if_neg (fun e => h1 e.1)]
        simp only [spec_l01Number.j0]
        rw [if_neg (by decide), hl]
theorem specRead_l0 (W : List (List UInt8)) (hW : W.length ≤ 1048577) : ∀ (d i k : Nat) (o : List Int), i + d = W.length → 1048600 + d < k → o.length = i → spec_l01ReadTasks.l0 k (W.map mkB) (i : Int) o = some (o ++ (W.drop i).map numF, isTasksB (o ++ (W.drop i).map numF)) := by
  intro d
  induction d with
  | zero =>
    intro i k o hi hk ho
    obtain ⟨k, rfl⟩ : ∃ m, k = m + 1 := ⟨k - 1, by omega⟩
    simp only [spec_l01ReadTasks.l0]
    rw [if_neg (by rw [List.length_map]; omega), List.drop_of_length_le (by omega), List.map_nil, List.append_nil, l01Is_eq o (by omega) k (by omega), Option.bind_some]
  | succ d ih =>
    intro i k o hi hk ho
    obtain ⟨k, rfl⟩ : ∃ m, k = m + 1 := ⟨k - 1, by omega⟩
    have hdrop : W.drop i = W[i]'(by omega) :: W.drop (i + 1) := List.drop_eq_getElem_cons (by omega)
    have hrd : rdOf ByteArray.empty (W.map mkB) (i : Int) = mkB (W[i]'(by omega)) := by
      unfold rdOf
      rw [Int.toNat_natCast, List.getD_eq_getElem?_getD, List.getElem?_map, List.getElem?_eq_getElem (by omega)]
      rfl
    simp only [spec_l01ReadTasks.l0]
    rw [if_pos (by rw [List.length_map]; omega), if_pos (by omega), hrd, specNum2_eq _ k (by omega), Option.bind_some, if_pos (by omega), wrap_succ (n := W.length) (by omega) (by omega), ih (i + 1) k _ (by omega) (by omega) (by simp; omega), hdrop, List.map_cons, List.append_assoc]
    rfl
def specR (W : List (List UInt8)) : List Int × Int := if isTasksB (W.map numF) = true then (W.map numF, 0) else ([], 6)
theorem specParse_eq (a : ByteArray) (hs : a.size ≤ 1048576) (k : Nat) (hk : 3000000 < k) : spec_ParseTasks.f k a = some (specR (splitC (bs a))) := by
  have hlen := (splitC_len (bs a)).1
  rw [bs_len] at hlen
  unfold spec_ParseTasks.f spec_l01ReadTasks.f
  rw [specSplit_eq a hs k (by omega), Option.bind_some]
  have := specRead_l0 (splitC (bs a)) (by omega) (splitC (bs a)).length 0 k [] (by omega) (by omega) rfl
  rw [List.drop_zero, List.nil_append, Int.natCast_zero] at this
  rw [this, Option.bind_some]
  unfold specR
  by_cases h : isTasksB ((splitC (bs a)).map numF) = true
  · rw [if_pos h, if_pos h]
  · rw [if_neg h, if_neg h]
/-! the program's side -/
def implW : List (List UInt8) → List Int → Option (List Int)
  | [], gs => some gs
  | w :: r, gs => if (parseP w).2 = true then none else if gs.length = 8 then none else implW r (gs ++ [(parseP w).1])
def implR (t : List UInt8) : Option (List Int) → List Int × Int
  | none => ([], 6)
  | some gs => if isTasksB gs = true then (if txtL gs = t then (gs, 0) else ([], 6)) else ([], 6)
theorem toList_mkB (l : List UInt8) : (mkB l).toList = l := by
  rw [ByteArray.toList_eq]
  simp [mkB]
theorem implParse_l0 (t : List UInt8) (W : List (List UInt8)) (hW : W.length ≤ 1048577) (hw : ∀ w ∈ W, w.length ≤ 1048577) : ∀ (d i k : Nat) (gs : List Int), i + d = W.length → 1000 + d < k → gs.length ≤ 8 →
    impl_ParseTasks.l0 k (mkB t) (W.map mkB) (W.length : Int) (i : Int) gs = some (implR t (implW (W.drop i) gs)) := by
  intro d
  induction d with
  | zero =>
    intro i k gs hi hk hg
    obtain ⟨k, rfl⟩ : ∃ m, k = m + 1 := ⟨k - 1, by omega⟩
    simp only [impl_ParseTasks.l0]
    rw [if_neg (by omega), List.drop_of_length_le (by omega), impl_IsTasks.f, Option.bind_some]
    simp only [implW, implR]
    by_cases h : isTasksB gs = true
    · rw [if_pos h, if_pos h, show (⟨#[44]⟩ : ByteArray) = mkB [44] from rfl, implJoined_eq gs (isTasks_len h).2 (isTasks_mem h) k (by omega), Option.bind_some, toList_mkB, toList_mkB]
      by_cases h2 : txtL gs = t
      · rw [if_pos h2, if_pos h2]
      · rw [if_neg h2, if_neg h2]
    · rw [if_neg h, if_neg h]
  | succ d ih =>
    intro i k gs hi hk hg
    obtain ⟨k, rfl⟩ : ∃ m, k = m + 1 := ⟨k - 1, by omega⟩
    have hdrop : W.drop i = W[i]'(by omega) :: W.drop (i + 1) := List.drop_eq_getElem_cons (by omega)
    have hrd : rdOf ByteArray.empty (W.map mkB) (i : Int) = mkB (W[i]'(by omega)) := by
      unfold rdOf
      rw [Int.toNat_natCast, List.getD_eq_getElem?_getD, List.getElem?_map, List.getElem?_eq_getElem (by omega)]
      rfl
    have hwi := hw _ (List.getElem_mem (show i < W.length by omega))
    simp only [impl_ParseTasks.l0]
    rw [if_pos (by omega), if_pos (by omega), if_pos (by rw [List.length_map]; omega), hrd, hdrop]
    generalize W[i]'(by omega) = w at hwi
    have hf : strconv_ParseInt_23.f (mkB w) 10 64 = some (parseP w) := by
      unfold strconv_ParseInt_23.f
      rw [if_pos ⟨rfl, rfl, by rw [mkB_size]; omega⟩]
      rw [show (mkB w).data.toList = w from bs_mkB w]
    rw [hf, Option.bind_some]
    simp only [implW]
    by_cases h : (parseP w).2 = true
    · rw [if_pos h, if_pos h]
      rfl
    · rw [if_neg h, if_neg h]
      by_cases h8 : gs.length = 8
      · rw [if_pos (by omega), if_pos h8]
        rfl
      · rw [if_neg (by omega), if_neg h8, if_pos (by omega), wrap_succ (n := W.length) (by omega) (by omega), ih (i + 1) k _ (by omega) (by omega) (by simp; omega)]
theorem implParse_eq (a : ByteArray) (hs : a.size ≤ 1048576) (k : Nat) (hk : 3000000 < k) : impl_ParseTasks.f k a = some (implR (bs a) (implW (splitC (bs a)) [])) := by
  have hlen := splitC_len (bs a)
  rw [bs_len] at hlen
  unfold impl_ParseTasks.f
  rw [implSplit_eq a hs, Option.bind_some, List.length_map]
  have := implParse_l0 (bs a) (splitC (bs a)) (by omega) (fun w hw => by have := hlen.2 w hw; omega) (splitC (bs a)).length 0 k [] (by omega) (by omega) (by simp)
  rw [mkB_bs, List.drop_zero, Int.natCast_zero] at this
  exact this
/-! both answers are one -/
theorem parse_digs : ∀ n ∈ List.range 41, parseP (digs n) = (((n : Nat) : Int), false) := by decide +kernel
theorem num_digs : ∀ n ∈ List.range 41, numF (digs n) = ((n : Nat) : Int) := by decide +kernel
theorem digs_free : ∀ n ∈ List.range 41, (44 : UInt8) ∉ digs n := by decide +kernel
theorem numL_ge : ∀ (w : List UInt8) (n : Int), 0 ≤ n → numL w n = -1 ∨ n ≤ numL w n := by
  intro w
  induction w with
  | nil => intro n _; exact .inr (Int.le_refl _)
  | cons b r ih =>
    intro n hn
    simp only [numL]
    by_cases h2 : b.toNat < 48
    · rw [if_pos h2]; exact .inl rfl
    · rw [if_neg h2]
      by_cases h3 : 57 < b.toNat
      · rw [if_pos h3]; exact .inl rfl
      · rw [if_neg h3]
        rcases ih (n * 10 + ((b.toNat : Int) - 48)) (by omega) with h | h
        · exact .inl h
        · exact .inr (by omega)
theorem ofNat_toNat' (b : UInt8) (n : Nat) (h : n = b.toNat) : UInt8.ofNat n = b := by
  subst h
  exact UInt8.ofNat_toNat
theorem num_inv (w : List UInt8) (h : 1 ≤ numF w ∧ numF w ≤ 40) : w = digs (numF w).toNat := by
  unfold numF at h ⊢
  by_cases h0 : w.length = 0
  · rw [if_pos h0] at h; omega
  · rw [if_neg h0] at h ⊢
    by_cases h9 : 9 < w.length
    · rw [if_pos h9] at h; omega
    · rw [if_neg h9] at h ⊢
      by_cases hz : 1 < w.length ∧ w.head? = some 48
      · rw [if_pos hz] at h; omega
      · rw [if_neg hz] at h ⊢
        match w, h0, hz, h with
        | [], h0, _, _ => exact absurd rfl h0
        | [a], _, _, h =>
          simp only [numL] at h ⊢
          by_cases h2 : a.toNat < 48
          · rw [if_pos h2] at h; omega
          · rw [if_neg h2] at h ⊢
            by_cases h3 : 57 < a.toNat
            · rw [if_pos h3] at h; omega
            · rw [if_neg h3] at h ⊢
              unfold digs
              rw [if_pos (by omega), ofNat_toNat' a _ (by omega)]
        | [a, b], _, hz, h =>
          have ha : a ≠ 48 := fun e => hz ⟨by simp, by simp [e]⟩
          have ha2 : a.toNat ≠ 48 := fun e => ha (UInt8.toNat_inj.1 e)
          simp only [numL] at h ⊢
          by_cases h2 : a.toNat < 48
          · rw [if_pos h2] at h; omega
          · rw [if_neg h2] at h ⊢
            by_cases h3 : 57 < a.toNat
            · rw [if_pos h3] at h; omega
            · rw [if_neg h3] at h ⊢
              by_cases h4 : b.toNat < 48
              · rw [if_pos h4] at h; omega
              · rw [if_neg h4] at h ⊢
                by_cases h5 : 57 < b.toNat
                · rw [if_pos h5] at h; omega
                · rw [if_neg h5] at h ⊢
                  unfold digs
                  rw [if_neg (by omega), ofNat_toNat' a _ (by omega), ofNat_toNat' b _ (by omega)]
        | a :: b :: c :: r, _, hz, h =>
          exfalso
          have ha : a ≠ 48 := fun e => hz ⟨by simp, by simp [e]⟩
          have ha2 : a.toNat ≠ 48 := fun e => ha (UInt8.toNat_inj.1 e)
          simp only [numL] at h
          by_cases h2 : a.toNat < 48
          · rw [if_pos h2] at h; omega
          · rw [if_neg h2] at h
            by_cases h3 : 57 < a.toNat
            · rw [if_pos h3] at h; omega
            · rw [if_neg h3] at h
              by_cases h4 : b.toNat < 48
              · rw [if_pos h4] at h; omega
              · rw [if_neg h4] at h
                by_cases h5 : 57 < b.toNat
                · rw [if_pos h5] at h; omega
                · rw [if_neg h5] at h
                  by_cases h6 : c.toNat < 48
                  · rw [if_pos h6] at h; omega
                  · rw [if_neg h6] at h
                    by_cases h7 : 57 < c.toNat
                    · rw [if_pos h7] at h; omega
                    · rw [if_neg h7] at h
                      have := numL_ge r (((0 * 10 + ((a.toNat : Int) - 48)) * 10 + ((b.toNat : Int) - 48)) * 10 + ((c.toNat : Int) - 48)) (by omega)
                      omega
theorem implW_ok : ∀ (W : List (List UInt8)) (gs : List Int), (∀ w ∈ W, parseP w = (numF w, false)) → gs.length + W.length ≤ 8 → implW W gs = some (gs ++ W.map numF) := by
  intro W
  induction W with
  | nil => intro gs _ _; simp [implW]
  | cons w r ih =>
    intro gs h hl
    have hw := h w (List.mem_cons_self ..)
    rw [List.length_cons] at hl
    simp only [implW]
    rw [hw, if_neg (by simp), if_neg (by omega), ih _ (fun v hv => h v (List.mem_cons_of_mem _ hv)) (by simp; omega)]
    simp
theorem parse_both (t : List UInt8) : implR t (implW (splitC t) []) = specR (splitC t) := by
  by_cases h : isTasksB ((splitC t).map numF) = true
  · have hlen := isTasks_len h
    have hmem := isTasks_mem h
    rw [List.length_map] at hlen
    have hinv : ∀ w ∈ splitC t, w = digs (numF w).toNat ∧ 1 ≤ numF w ∧ numF w ≤ 40 := fun w hw => by
      have := hmem (numF w) (List.mem_map.2 ⟨w, hw, rfl⟩)
      exact ⟨num_inv w this, this⟩
    have hok := implW_ok (splitC t) [] (fun w hw => by
      obtain ⟨h1, h2⟩ := hinv w hw
      have := parse_digs (numF w).toNat (List.mem_range.2 (by omega))
      rw [← h1, Int.toNat_of_nonneg (by omega)] at this
      exact this) (by simp; omega)
    rw [hok, List.nil_append]
    unfold specR
    rw [if_pos h]
    simp only [implR]
    rw [if_pos h, if_pos]
    unfold txtL
    rw [List.map_map]
    have : ∀ w ∈ splitC t, ((fun x : Int => digs x.toNat) ∘ numF) w = w := fun w hw => (hinv w hw).1.symm
    rw [List.map_congr_left this, List.map_id']
    exact join_splitC t
  · unfold specR
    rw [if_neg h]
    cases hW : implW (splitC t) [] with
    | none => rfl
    | some gs =>
      simp only [implR]
      by_cases h1 : isTasksB gs = true
      · rw [if_pos h1]
        by_cases h2 : txtL gs = t
        · exfalso
          have hlen := isTasks_len h1
          have hmem := isTasks_mem h1
          have hsp : splitC t = gs.map fun x => digs x.toNat := by
            rw [← h2]
            unfold txtL
            refine splitC_join _ (by intro e; have := congrArg List.length e; rw [List.length_map, List.length_nil] at this; omega) (fun x hx => ?_)
            obtain ⟨g, hg, rfl⟩ := List.mem_map.1 hx
            have := hmem g hg
            exact digs_free g.toNat (List.mem_range.2 (by omega))
          have hgs : (splitC t).map numF = gs := by
            rw [hsp, List.map_map]
            have : ∀ g ∈ gs, (numF ∘ fun x : Int => digs x.toNat) g = g := fun g hg => by
              have := hmem g hg
              have e := num_digs g.toNat (List.mem_range.2 (by omega))
              rw [Int.toNat_of_nonneg (by omega)] at e
              exact e
            rw [List.map_congr_left this, List.map_id']
          rw [hgs] at h
          exact h h1
        · rw [if_neg h2]
      · rw [if_neg h1]
theorem specR_len (W : List (List UInt8)) : (specR W).1.length ≤ 1048576 := by
  unfold specR
  by_cases h : isTasksB (W.map numF) = true
  · rw [if_pos h]
    have := isTasks_len h
    show (W.map numF).length ≤ 1048576
    omega
  · rw [if_neg h]; simp
end Go.Proofs.YtjhiigfbjbkedaaDoor.X
