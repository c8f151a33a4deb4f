/- The greatest of a list; no condition beside those stated. -/
import Derived.Test.YtjaanhnmgipmeaaQA
import Derived.Test.YtjaanhnmgipmeaaX0
namespace Go.Proofs.Ytjaanhnmgipmeaa.X
set_option linter.unusedVariables false
set_option linter.unusedSimpArgs false
open Go.RowKit Go.Proofs.YtjaanhnmgipmeaaW.PrintWords Go.Proofs.YtjaanhnmgipmeaaW.PrintLast
theorem mx_ge (a b : Int) : a ≤ mx a b ∧ b ≤ mx a b := by
  unfold mx
  split <;> omega
theorem mx_or (a b : Int) : mx a b = a ∨ mx a b = b := by
  unfold mx
  split <;> omega
def maxL (l : List Int) (a : Int) : Int := l.foldl mx a
theorem maxL_ge (l : List Int) : ∀ a, a ≤ maxL l a := by
  induction l with
  | nil => intro a; exact Int.le_refl _
  | cons x l ih =>
    intro a
    have h1 := ih (mx a x)
    have h2 := (mx_ge a x).1
    show a ≤ maxL l (mx a x)
    omega
theorem maxL_mem (l : List Int) : ∀ a, ∀ x ∈ l, x ≤ maxL l a := by
  induction l with
  | nil => intro a x h; simp at h
  | cons y l ih =>
    intro a x h
    show x ≤ maxL l (mx a y)
    rcases List.mem_cons.1 h with h | h
    · have h1 := maxL_ge l (mx a y)
      have h2 := (mx_ge a y).2
      omega
    · exact ih _ x h
theorem maxL_in (l : List Int) : ∀ a, maxL l a = a ∨ maxL l a ∈ l := by
  induction l with
  | nil => intro a; exact .inl rfl
  | cons y l ih =>
    intro a
    have := ih (mx a y)
    show maxL l (mx a y) = a ∨ maxL l (mx a y) ∈ y :: l
    rcases this with h | h
    · rcases mx_or a y with e | e
      · left; omega
      · right; rw [h, e]; exact List.mem_cons_self
    · right; exact List.mem_cons_of_mem _ h
end Go.Proofs.Ytjaanhnmgipmeaa.X
