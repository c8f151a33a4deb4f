/- The greatest waits; no condition beside those stated. -/
import Derived.Test.YtcjcocffhljggaaQW
import Derived.Test.YtcjcocffhljggaaX6
import Derived.Test.YtcjcocffhljggaaX7
namespace Go.Proofs.Ytcjcocffhljggaa.X
set_option linter.unusedVariables false
set_option linter.unusedSimpArgs false
open Go.RowKit Go.Proofs.YtcjcocffhljggaaW.PrintWords Go.Proofs.YtcjcocffhljggaaW.PrintLast
theorem mx_ge (a b : Int) : a ≤ mx a b ∧ b ≤ mx a b := by
  unfold mx
  split <;> omega
theorem mx_or (a b : Int) : mx a b = a ∨ mx a b = b := by
  unfold mx
  split <;> omega
def maxL (l : List Int) (a : Int) : Int := l.foldl mx a
theorem maxL_ge (l : List Int) : ∀ a, a ≤ maxL l a := by
  induction l with
  | nil => intro a; exact Int.le_refl _
  | cons x l ih =>
    intro a
    have h1 := ih (mx a x)
    have h2 := (mx_ge a x).1
    show a ≤ maxL l (mx a x)
    omega
theorem maxL_mem (l : List Int) : ∀ a, ∀ x ∈ l, x ≤ maxL l a := by
  induction l with
  | nil => intro a x h; simp at h
  | cons y l ih =>
    intro a x h
    show x ≤ maxL l (mx a y)
    rcases List.mem_cons.1 h with h | h
    · have h1 := maxL_ge l (mx a y)
      have h2 := (mx_ge a y).2
      omega
    · exact ih _ x h
theorem maxL_in (l : List Int) : ∀ a, maxL l a = a ∨ maxL l a ∈ l := by
  induction l with
  | nil => intro a; exact .inl rfl
  | cons y l ih =>
    intro a
    have := ih (mx a y)
    show maxL l (mx a y) = a ∨ maxL l (mx a y) ∈ y :: l
    rcases this with h | h
    · rcases mx_or a y with e | e
      · left; omega
      · right; rw [h, e]; exact List.mem_cons_self
    · right; exact List.mem_cons_of_mem _ h
theorem l01Greatest_l0 (w : List Int) (hm : w.length ≤ 1048576) : ∀ (d i k : Nat) (a : Int), i + d = w.length → d < k → spec_l01Greatest.l0 k w a (i : Int) = some (maxL (w.drop i) a) := by
  intro d
  induction d with
  | zero =>
    intro i k a hi hk
    obtain ⟨k, rfl⟩ : ∃ m, k = m + 1 := ⟨k - 1, by omega⟩
    simp only [spec_l01Greatest.l0]
    rw [if_neg (by omega), List.drop_of_length_le (by omega)]
    rfl
  | succ d ih =>
    intro i k a hi hk
    obtain ⟨k, rfl⟩ : ∃ m, k = m + 1 := ⟨k - 1, by omega⟩
    simp only [spec_l01Greatest.l0]
    rw [if_pos (by omega), if_pos (by omega), wrap_succ (n := w.length) (by omega) (by omega), ih (i + 1) k _ (by omega) (by omega), drop_rd w i (by omega)]
    rfl
theorem l01Greatest_eq (l : List Int) (i : Int) (hm : l.length ≤ 1048576) (k : Nat) (hk : l.length < k) : spec_l01Greatest.f k l i = some (maxL (waitsL l i) 0) := by
  unfold spec_l01Greatest.f
  have hw := waitsL_length l i
  rw [l01Waits_eq l i hm k hk, Option.bind_some]
  have := l01Greatest_l0 (waitsL l i) (by omega) (waitsL l i).length 0 k 0 (by omega) (by omega)
  simpa using this
theorem greatest_l0 (w : List Int) (hm : w.length ≤ 1048576) : ∀ (d i k : Nat) (a : Int), i + d = w.length → d < k → impl_greatest.l0 k a w (w.length : Int) (i : Int) = some (maxL (w.drop i) a) := by
  intro d
  induction d with
  | zero =>
    intro i k a hi hk
    obtain ⟨k, rfl⟩ : ∃ m, k = m + 1 := ⟨k - 1, by omega⟩
    simp only [impl_greatest.l0]
    rw [if_neg (by omega), List.drop_of_length_le (by omega)]
    rfl
  | succ d ih =>
    intro i k a hi hk
    obtain ⟨k, rfl⟩ : ∃ m, k = m + 1 := ⟨k - 1, by omega⟩
    simp only [impl_greatest.l0]
    rw [if_pos (by omega), if_pos (by omega), if_pos (by omega), wrap_succ (n := w.length) (by omega) (by omega), ih (i + 1) k _ (by omega) (by omega), drop_rd w i (by omega)]
    rfl
theorem greatest_eq (w : List Int) (hm : w.length ≤ 1048576) (k : Nat) (hk : w.length < k) : impl_greatest.f k w = some (maxL w 0) := by
  unfold impl_greatest.f
  have := greatest_l0 w hm w.length 0 k 0 (by omega) hk
  simpa using this
theorem maxW_pos (f n : Int) (hf : 0 ≤ f) : ∀ (r : List Int) (p a : Int), p < n → (∀ q ∈ r, q < n) → 1 ≤ maxL (waitsW f n p r) a
  | [], p, a, hp, _ => by
    show 1 ≤ mx a (n - p + f)
    have := (mx_ge a (n - p + f)).2
    omega
  | q :: r, p, a, hp, h => by
    show 1 ≤ maxL (waitsW f n q r) (mx a (q - p))
    exact maxW_pos f n hf r q _ (h q List.mem_cons_self) (fun x hx => h x (List.mem_cons_of_mem _ hx))
theorem waits_pos (l : List Int) (t : Int) : (waitsL l t = [] ∧ maxL (waitsL l t) 0 = 0) ∨ (waitsL l t ≠ [] ∧ 1 ≤ maxL (waitsL l t) 0) := by
  unfold waitsL
  have hr := places_range t l 0
  cases hp : placesFrom t l 0 with
  | nil => left; exact ⟨rfl, rfl⟩
  | cons p r =>
    right
    rw [hp] at hr
    have h0 := hr p List.mem_cons_self
    refine ⟨?_, maxW_pos p _ h0.1 r p 0 (by omega) (fun q hq => by have := hr q (List.mem_cons_of_mem _ hq); omega)⟩
    intro e
    have := waitsW_length p (l.length : Int) r p
    rw [show waitsW p (l.length : Int) p r = [] from e] at this
    simp at this
end Go.Proofs.Ytcjcocffhljggaa.X
