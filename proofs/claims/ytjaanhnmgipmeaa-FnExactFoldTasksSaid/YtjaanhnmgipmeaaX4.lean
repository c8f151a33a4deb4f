/- Written by wip/tool/xprint.py for this claim: functions as plain Lean functions, each with a proof that the Go code comes to its answers; no condition beside those stated. -/
import Derived.Test.YtjaanhnmgipmeaaX0
namespace Go.Proofs.Ytjaanhnmgipmeaa.X
open Go.RowKit Go.Proofs.YtjaanhnmgipmeaaW.PrintWords Go.Proofs.YtjaanhnmgipmeaaW.PrintLast Go.Proofs.YtjaanhnmgipmeaaW.PrintMore
attribute [local go_sem] max2_int min2_int max_two min_two max_three min_three max_four min_four   -- for this text's walks alone
set_option linter.unusedVariables false
set_option linter.unusedSimpArgs false

/-! ### slices_Delete_int64_int64: function 54, by hand -/
def delRen : Go.Shelf.Ren where
  f := fun x => match x with | 45 => 54 | n => n
  t := fun x => match x with | 22 => 22 | 23 => 2 | 3 => 3 | 4 => 4 | 0 => 0 | n => n
  g := fun n => n
open Go.Shelf in
theorem laysDel : SlLaysE.n45 Try.prog delRen :=
  { mixed := by kernel_rfl,
    f45 := ⟨"slices.Delete[[]int64,int64]", of_decide_eq_true (by kernel_rfl), Try.func54.trans (congrArg some rfl)⟩,
    t0 := Try.underlying0, a0 := Try.isAgg0, z0 := Try.sizeOf0, v0 := Try.zeroValue0, t3 := Try.underlying3, a3 := Try.isAgg3, z3 := Try.sizeOf3, v3 := Try.zeroValue3, t4 := Try.underlying4, a4 := Try.isAgg4, z4 := Try.sizeOf4, v4 := Try.zeroValue4, t22 := Try.underlying22, a22 := Try.isAgg22, z22 := Try.sizeOf22, v22 := Try.zeroValue22, a23 := Try.isAgg2, z23 := Try.sizeOf2 }
theorem heap_put {w : World} {g q : Nat} {cur : Array Value} {e : TypeId} {fr : Nat × Nat} (d : Array Int) (hb : w.heap[g]? = some (.cells cur e fr)) :
    (Go.Sort.putRow (Value.int .i64) (Go.Sort.ahead w q) g 0 d).heap[g]? = some (.cells (Go.Sort.putCells (Value.int .i64) 0 d cur) e fr) := by
  simp [Go.Sort.putRow, Go.Sort.mapBlock, Go.Sort.ahead, Array.getElem?_modify, hb, Go.Sort.onCells]
theorem grownBy_put {w : World} {g q : Nat} (d : Array Int) : w.grownBy (Go.Sort.putRow (Value.int .i64) (Go.Sort.ahead w q) g 0 d) (some g) := by
  refine ⟨rfl, rfl, rfl, by simp [Go.Sort.putRow, Go.Sort.mapBlock, Go.Sort.ahead], fun k hk hne => ?_⟩
  have : g ≠ k := fun e => hne (by rw [e])
  simp [Go.Sort.putRow, Go.Sort.mapBlock, Go.Sort.ahead, Array.getElem?_modify, this]
theorem encs_map (l : List Int) : encs (Value.int .i64) l = l.map (Value.int .i64) := by
  induction l with
  | nil => rfl
  | cons x l ih => simp [encs] at ih ⊢; try exact ih
theorem del_at (g cap j : Nat) (l : List Int) (base : Nat) (ok : Nat → Prop) (W : World) (h : Kd.R (Kd.int .i64) 2 W base ok (.slice (some ⟨g, 0, none⟩) l.length cap) l) (hj : j < l.length) :
    Calls Try.prog 54 #[.slice (some ⟨g, 0, none⟩) l.length cap, .int .i64 (j : Int), .int .i64 ((j + 1 : Nat) : Int)] W fun e w' => e = .returned (.slice (some ⟨g, 0, none⟩) (l.length - 1) cap) ∧ Kd.R (Kd.int .i64) 2 w' base ok (.slice (some ⟨g, 0, none⟩) (l.length - 1) cap) (l.take j ++ l.drop (j + 1)) ∧ W.grownBy w' (some g) := by
  have ho := Kd.own_of_R h
  have hok := h.1
  obtain ⟨h1, h2⟩ := ho
  rcases h2 with ⟨h2, _⟩ | ⟨g', cap', cur, he, hg, hh, r1, r2, r3, r4⟩
  · cases h2
  · cases he
    have hH : Go.Sort.Holds (Value.int .i64) W g 0 l.toArray := Go.holds_of_blockI hh (by rw [← encs_map, ← r4, Nat.mul_one])
    refine (AnyE.slices_Delete laysDel (Value.int .i64) (fun _ => rfl) 0 (fun w => by exact Try.zeroValue2 w) _ (Option.map_eq_some_iff.1 info2).choose_spec.1 (congrArg (fun z => z.2.1) (Option.map_eq_some_iff.1 info2).choose_spec.2) g 0 cap j (j + 1) l.toArray W hH (by simpa using r1) (by have := r2; unfold maxLen at this; omega) (by omega) (by simp; omega)).mono ?_
    rintro e w' ⟨rfl, q, rfl⟩
    have hl : (l.take j ++ l.drop (j + 1)).length = l.length - 1 := by simp; omega
    have e1 : l.toArray.size - (j + 1 - j) = l.length - 1 := by simp
    have e2 : l.toArray.toList.take j ++ l.toArray.toList.drop (j + 1) ++ List.replicate (j + 1 - j) 0 = (l.take j ++ l.drop (j + 1)) ++ [0] := by simp
    rw [e1, e2]
    generalize l.take j ++ l.drop (j + 1) = a at hl ⊢
    refine ⟨rfl, Kd.R_of_own ?_ (fun k hk => hok k (by simpa [Value.ownBlock] using hk)), grownBy_put _⟩
    have h5 : (a ++ [0]).length ≤ cur.size := by rw [List.length_append, List.length_singleton]; omega
    refine ⟨by rw [encs_map, List.length_map, Nat.mul_one], .inr ⟨g, cap, _, by rw [hl], hg, heap_put _ hh, by omega, r2, by simp [Go.Sort.putCells, r3], ?_⟩⟩
    have := congrArg (List.take a.length) (Go.take_putCellsI cur (a ++ [0]) h5)
    rw [List.take_take, List.map_append, List.take_append_of_le_length (by rw [List.length_map]; omega), List.take_of_length_le (l := a.map (Value.int .i64)) (by rw [List.length_map]; omega), Nat.min_eq_left (by simp)] at this
    rw [Nat.mul_one, encs_map]
    exact this
def slices_Delete_int64_int64.f (l0 : List Int) (a1 a2 : Int) : Option (List Int) := if 0 ≤ a1 ∧ a1 < (l0.length : Int) ∧ a2 = a1 + 1 then some (l0.take a1.toNat ++ l0.drop (a1.toNat + 1)) else none
theorem del_call (g cap : Nat) (l r : List Int) (a b : Int) (base : Nat) (ok : Nat → Prop) (W : World) (h : Kd.R (Kd.int .i64) 2 W base ok (.slice (some ⟨g, 0, none⟩) l.length cap) l) (hf : slices_Delete_int64_int64.f l a b = some r) :
    Calls Try.prog 54 #[.slice (some ⟨g, 0, none⟩) l.length cap, .int .i64 a, .int .i64 b] W fun e w' => ∃ v, e = .returned v ∧ Kd.R (Kd.int .i64) 2 w' base ok v r ∧ W.grownBy w' (some g) := by
  unfold slices_Delete_int64_int64.f at hf
  by_cases hc : 0 ≤ a ∧ a < (l.length : Int) ∧ b = a + 1
  · rw [if_pos hc] at hf
    obtain rfl := Option.some.inj hf
    obtain ⟨j, rfl⟩ : ∃ j : Nat, a = (j : Int) := ⟨a.toNat, by omega⟩
    obtain rfl : b = ((j + 1 : Nat) : Int) := by omega
    refine (del_at g cap j l base ok W h (by omega)).mono ?_
    rintro e w' ⟨rfl, h1, h2⟩
    exact ⟨_, rfl, h1, h2⟩
  · rw [if_neg hc] at hf
    exact absurd hf (by simp)


end Go.Proofs.Ytjaanhnmgipmeaa.X
