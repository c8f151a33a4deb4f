/- Numbers in decimal with a sign between them; no condition beside those stated. -/
import Derived.Lib.Join
import Derived.Lib.ItoaNum
import Derived.Test.YtjhiigfbjbkedaaDoorQB
import Derived.Test.YtjhiigfbjbkedaaDoorX3
import Derived.Test.YtjhiigfbjbkedaaDoorX4
namespace Go.Proofs.YtjhiigfbjbkedaaDoor.X
set_option linter.unusedVariables false
set_option linter.unusedSimpArgs false
open Go.RowKit Go.Proofs.YtjhiigfbjbkedaaDoorW.PrintWords Go.Proofs.YtjhiigfbjbkedaaDoorW.PrintLast
def digs (n : Nat) : List UInt8 := if n < 10 then [UInt8.ofNat (48 + n)] else [UInt8.ofNat (48 + n / 10), UInt8.ofNat (48 + n % 10)]
theorem dec_digs (n : Nat) (h : n < 100) : Lib.decDigits n = digs n := by
  unfold digs
  by_cases h1 : n < 10
  · rw [if_pos h1, Lib.decDigits_one h1]
  · rw [if_neg h1, Lib.decDigits_two h1 h]
theorem digs_len (n : Nat) : 1 ≤ (digs n).length ∧ (digs n).length ≤ 2 := by
  unfold digs
  by_cases h1 : n < 10
  · rw [if_pos h1]; simp
  · rw [if_neg h1]; simp
def mkB (a : List UInt8) : ByteArray := ⟨a.toArray⟩
theorem mkB_append (a b : List UInt8) : mkB a ++ mkB b = mkB (a ++ b) := by
  unfold mkB
  apply ByteArray.ext
  simp
theorem mkB_size (a : List UInt8) : (mkB a).size = a.length := by simp [mkB, ByteArray.size]
def txtL (l : List Int) : List UInt8 := Lib.join (l.map fun x => digs x.toNat) [44]
theorem txt_one (x : Int) : txtL [x] = digs x.toNat := by
  unfold txtL
  rw [List.map_cons, List.map_nil, Lib.join_one]
theorem txt_snoc (l : List Int) (x : Int) (h : l ≠ []) : txtL (l ++ [x]) = txtL l ++ [44] ++ digs x.toNat := by
  cases l with
  | nil => exact absurd rfl h
  | cons y r =>
    unfold txtL
    simp only [List.cons_append, List.map_cons, List.map_append, List.map_nil, Lib.join_cons]
    simp [Lib.joinTail, List.append_assoc]
theorem txt_len (l : List Int) : (txtL l).length ≤ 3 * l.length := by
  cases l with
  | nil => simp [txtL, Lib.join_nil]
  | cons y r =>
    have h1 := digs_len y.toNat
    have h2 : (Lib.joinTail [44] (r.map fun x => digs x.toNat)).length ≤ 3 * r.length := by
      induction r with
      | nil => simp [Lib.joinTail]
      | cons z t ih =>
        have := digs_len z.toNat
        simp only [Lib.joinTail, List.map_cons, List.flatten_cons, List.length_append, List.length_cons, List.length_nil] at ih ⊢
        omega
    unfold txtL
    rw [List.map_cons, Lib.join_cons, List.length_append, List.length_cons]
    omega
theorem implDec_eq (n : Nat) (h : n < 100) : impl_decimal.f (n : Int) = some (mkB (digs n)) := by
  unfold impl_decimal.f strconv_FormatInt_41.f
  rw [if_pos ⟨rfl, by omega, by omega⟩, Option.bind_some, Int.toNat_natCast, dec_digs n h]
  rfl
theorem implJoin_eq (l : List Int) (hl : l.length ≤ 8) : strings_Join.f (l.map fun x => mkB (digs x.toNat)) (mkB [44]) = some (mkB (txtL l)) := by
  have e : ((l.map fun x => mkB (digs x.toNat)).map fun b => b.data.toList) = l.map fun x => digs x.toNat := by
    rw [List.map_map]
    refine List.map_congr_left (fun x _ => ?_)
    simp [mkB]
  have e2 : (mkB [44]).data.toList = [44] := rfl
  have hlen := txt_len l
  unfold txtL at hlen
  unfold strings_Join.f
  rw [e, e2, if_pos ⟨by rw [List.length_map]; omega, by omega⟩]
  rfl
theorem implJoined_l0 (l : List Int) (hl : l.length ≤ 8) (hg : ∀ x ∈ l, 1 ≤ x ∧ x ≤ 40) : ∀ (d i k : Nat), i + d = l.length → d < k → impl_joined.l0 k (mkB [44]) ((l.take i).map fun x => mkB (digs x.toNat)) l (l.length : Int) (i : Int) = some (mkB (txtL l)) := by
  intro d
  induction d with
  | zero =>
    intro i k hi hk
    obtain ⟨k, rfl⟩ : ∃ m, k = m + 1 := ⟨k - 1, by omega⟩
    simp only [impl_joined.l0]
    rw [if_neg (by omega), List.take_of_length_le (by omega), implJoin_eq l hl]
    rfl
  | succ d ih =>
    intro i k hi hk
    obtain ⟨k, rfl⟩ : ∃ m, k = m + 1 := ⟨k - 1, by omega⟩
    have hgi := hg _ (rd_in l i (by omega))
    have hn := ih (i + 1) k (by omega) (by omega)
    rw [take_rd l i (by omega)] at hn
    simp only [impl_joined.l0]
    rw [if_pos (by omega), if_pos (by omega), if_pos (by omega)]
    generalize hx : rd l (i : Int) = x at hgi hn
    obtain ⟨n, rfl⟩ : ∃ n : Nat, x = (n : Int) := ⟨x.toNat, by omega⟩
    rw [implDec_eq n (by omega), Option.bind_some, if_pos (by rw [List.length_map, List.length_take]; omega), wrap_succ (n := l.length) (by omega) (by omega)]
    rw [List.map_append, List.map_cons, List.map_nil, Int.toNat_natCast] at hn
    exact hn
theorem implJoined_eq (l : List Int) (hl : l.length ≤ 8) (hg : ∀ x ∈ l, 1 ≤ x ∧ x ≤ 40) (k : Nat) (hk : 100 < k) : impl_joined.f k l (mkB [44]) = some (mkB (txtL l)) := by
  unfold impl_joined.f
  have := implJoined_l0 l hl hg l.length 0 k (by omega) (by omega)
  rw [List.take_zero, Int.natCast_zero] at this
  exact this
end Go.Proofs.YtjhiigfbjbkedaaDoor.X
