import Derived.Lib.SmallJoins
import Derived.ChangeSlices
import Derived.Deep.Slices
import Derived.OpenShut
import Derived.SizedLaws
/- A law's argument that is a struct of one slice of whole numbers, opened; no condition beside those stated. -/
namespace Go.Proofs.Ytdkhecebffjpjaa.Xrow
set_option linter.unusedVariables false
set_option linter.unusedSimpArgs false
open Go.ChangeShapes Go.WideShapes Go.RowKit Go.Joins Go.Deep
section
variable {H : Type} {enc : TypeId × Value → H} {P : Program} {w : World} {base : Nat} {spare : Nat → Bool} {held : Bool}
theorem open_agg1 {r : Reach} {b0 : Nat} {t : TypeId} {f0 : Field} {v : Value} {d : DataW H} {p : List MemPlace} (hs : P.underlying t = some (.struct #[f0])) (hone : oneCellFields P #[f0] = true) (hC : P.cellsOf t = 1)
  (hv : Value.okWide P w r b0 t v) (h : DataW.Trod enc P w base spare held t v d p) :
  ∃ (v0 : Value) (y0 : DataW H × List MemPlace) (n : Nat), v = .agg #[v0] ∧ d = .agg [y0.1] ∧ p = y0.2 ∧ DataW.trod enc P w base spare held n f0.type [v0] = some y0 := by
 obtain ⟨cs, rfl, hsz⟩ := okWide_struct hs hv
 obtain ⟨l⟩ := cs
 obtain ⟨c0, rfl⟩ : ∃ c0, l = [c0] := by
  have : l.length = 1 := hsz.trans hC
  match l, this with
  | [c0], _ => exact ⟨c0, rfl⟩
 obtain ⟨fuel, hf⟩ := h
 obtain ⟨xs, n, _, hx, _, hlen, hfs⟩ := DataW.trod_struct hs hf
 obtain ⟨o0, k0⟩ := hone_of hone 0 f0 rfl
 match xs, hlen with
 | [y0], _ =>
  simp only [List.map_cons, List.map_nil, List.flatMap_cons, List.flatMap_nil, List.append_nil, Prod.mk.injEq] at hx
  have h0 := hfs 0 f0 rfl
  exact ⟨c0, y0, n, rfl, hx.1, hx.2, by simpa [Value.cells, o0, k0] using h0⟩
theorem field_ints {t e : TypeId} {k : IntKind} {n : Nat} {u : Value} {y : DataW H × List MemPlace} (ht : P.underlying t = some (.slice e)) (he : P.underlying e = some (.int k)) (hc : P.cellsOf e = 1)
  (h : DataW.trod enc P w 0 (fun _ => true) held n t [u] = some y) :
  ∃ (a : Option Addr) (len cap : Nat) (zs : List Int), u = .slice a len cap ∧ ((a = none ∧ len = 0 ∧ cap = 0 ∧ zs = []) ∨ ∃ x, a = some x ∧ len ≤ cap ∧ cap ≤ maxLen ∧ zs.length = cap ∧ (∀ i, i < zs.length → w.cell? (x.add i) = some (.int k (zs.getD i 0))) ∧ ∀ n ∈ zs, (Lit.int k n).wf = true) := by
 rcases open_ints ht he hc h with ⟨hcs, _⟩ | ⟨x, l, c, zs, hcs, _, hl, hm, hz, _, hcell, hwz⟩
 ·simp only [List.cons.injEq, and_true] at hcs
  exact ⟨none, 0, 0, [], hcs, .inl ⟨rfl, rfl, rfl, rfl⟩⟩
 ·simp only [List.cons.injEq, and_true] at hcs
  exact ⟨some x, l, c, zs, hcs, .inr ⟨x, rfl, hl, hm, by simpa using hz, hcell, hwz⟩⟩
theorem open_pairs {t e q : TypeId} {a : Option Addr} {len cap : Nat} {d : DataW H} {ps : List MemPlace} {ts : List TypeId} {ds : List (DataW H)} {j : Nat}
  (hsz : (DataW.weightsEach P ts ds).all (· ≤ reachBytes) = true) (htt : ts[j]? = some t) (hd : ds[j]? = some d) (ht : P.underlying t = some (.slice e)) (he : P.underlying e = some (.array 2 q)) (hq : P.underlying q = some (.int .i64)) (hc : P.cellsOf e = 2) (hcq : P.cellsOf q = 1) (_hx : P.cellsOf t = 1) {B : Nat} (hB : P.bytesOf e = B)
  (h : DataW.Trod enc P w 0 (fun _ => true) held t (.slice a len cap) d ps) :
  ∃ zs : List (Int × Int), ((a = none ∧ len = 0 ∧ cap = 0 ∧ zs = []) ∨ ∃ x, a = some x ∧ len ≤ cap ∧ cap ≤ maxLen ∧ zs.length = cap ∧ (∀ i, i < zs.length → w.cell? (x.add (i * 2)) = some (.int .i64 (zs.getD i (0, 0)).1) ∧ w.cell? (x.add (i * 2 + 1)) = some (.int .i64 (zs.getD i (0, 0)).2)) ∧ ∀ n ∈ zs, (Lit.int .i64 n.1).wf = true ∧ (Lit.int .i64 n.2).wf = true) ∧ len * B ≤ 140737488351232 := by
 obtain ⟨fuel, hf⟩ := h
 rcases open_slice ht hf with ⟨hcs, _⟩ | ⟨x, l, c, m, n, D, Pl, hcs, _, hl, hm, hmm, hdx, hx⟩
 ·simp [Value.cells] at hcs
  obtain ⟨rfl, rfl, rfl⟩ := hcs
  exact ⟨[], .inl ⟨rfl, rfl, rfl, rfl⟩, by omega⟩
 ·simp [Value.cells] at hcs
  obtain ⟨rfl, rfl, rfl⟩ := hcs
  have hmc : m = cap := by rw [hmm]; simp
  subst hmc
  have each : ∀ i, i < m → ∃ z : Int × Int, w.cell? (x.add (i * 2)) = some (.int .i64 z.1) ∧ w.cell? (x.add (i * 2 + 1)) = some (.int .i64 z.2) ∧ (Lit.int .i64 z.1).wf = true ∧ (Lit.int .i64 z.2).wf = true := by
   intro i hi
   obtain ⟨cs', h1, h2⟩ := hx i hi
   rw [hc] at h1
   obtain ⟨_, hlen, hcell⟩ := World.cells?_some h1
   obtain ⟨xs, k, _, _, _, hxl, hel⟩ := DataW.trod_array he h2
   match xs, hxl, cs', hlen with
   | [y0, y1], _, [v0, v1], _ =>
    have g0 := hel 0 (by omega)
    have g1 := hel 1 (by omega)
    simp [hcq] at g0 g1
    obtain ⟨n0, r0, _, f0⟩ := DataW.trod_int hq g0
    obtain ⟨n1, r1, _, f1⟩ := DataW.trod_int hq g1
    simp only [List.cons.injEq, and_true] at r0 r1
    subst r0 r1
    have e0 := hcell 0 (by omega)
    have e1 := hcell 1 (by omega)
    rw [add_add] at e0 e1
    exact ⟨(n0, n1), by simpa using e0, by simpa using e1, f0, f1⟩
  obtain ⟨z, hz⟩ := choose_lt each
  have hbytes : len * B ≤ 140737488351232 := by
   have hdd : d = .slice ((List.range len).map D) ((List.range (m - len)).map fun j => D (len + j)) := (Prod.mk.inj hdx).1
   rw [hdd] at hd
   have zz := sized_slice hsz htt hd ht
   rw [hB] at zz
   simp only [List.length_map, List.length_range] at zz
   exact Nat.le_trans (Nat.mul_le_mul_right _ (by omega)) zz
  have hgetD : ∀ i, i < m → ((List.range m).map z).getD i (0, 0) = z i := by
   intro i hi
   rw [List.getD_eq_getElem?_getD, List.getElem?_map, List.getElem?_range hi]
   rfl
  refine ⟨(List.range m).map z, .inr ⟨x, rfl, hl, hm, by simp, fun i hi => ?_, fun y hy => ?_⟩, hbytes⟩
  ·have hi' : i < m := by simpa using hi
   rw [hgetD i hi']
   exact ⟨(hz i hi').1, (hz i hi').2.1⟩
  ·obtain ⟨i, hi, rfl⟩ := List.mem_map.1 hy
   have hi' : i < m := by simpa using hi
   exact (hz i hi').2.2
end
end Go.Proofs.Ytdkhecebffjpjaa.Xrow
