import Derived.Test.YtdkhecebffjpjaaU
import Derived.Test.YtdkhecebffjpjaaY0
namespace Go.Proofs.Ytdkhecebffjpjaa.X
open Go.RowKit Go.Proofs.YtdkhecebffjpjaaW.PrintWords Go.Proofs.YtdkhecebffjpjaaW.PrintLast Go.Proofs.YtdkhecebffjpjaaW.PrintMore
attribute [local go_sem] max2_int min2_int max_two min_two max_three min_three max_four min_four
set_option linter.unusedVariables false
set_option linter.unusedSimpArgs false
theorem eqA40 (d : Nat) (w : World) (x0 y0 : Int) (x1 y1 : Int) :
  (Op.equalIn (d + 2) 40 (.agg #[.int .i64 x0, .int .i64 x1]) (.agg #[.int .i64 y0, .int .i64 y1])).run Try.prog w = .ok (x0 == y0 && (x1 == y1)) w := by
 obtain ⟨i, hi, _⟩ := Option.map_eq_some_iff.mp info2
 have hs : Try.prog.cellsOf 2 = 1 := by kernel_rfl
 rw [run_equalIn_array (P := Try.prog) w (d + 1) _ _ Try.underlying40 hi, hs]
 have he : ∀ a b : Int, (Op.equalIn (d + 1) 2 (.int .i64 a) (.int .i64 b)).run Try.prog w = .ok (a == b) w := fun a b => by go_simp
 have hp : ∀ (a b : Int), (part 2 #[.int .i64 a, .int .i64 b] 0).run Try.prog w = .ok (.int .i64 a) w := fun a b => by go_simp
 have hq : ∀ (a b : Int), (part 2 #[.int .i64 a, .int .i64 b] 1).run Try.prog w = .ok (.int .i64 b) w := fun a b => by go_simp
 rw [show List.range 2 = [0, 1] from rfl]
 simp only [Op.eqItems, Nat.zero_mul, Nat.one_mul, Sem.run_bind, hp, he, Result.andThen_ok]
 cases h : (x0 == y0)
 ·simp
 ·cases h2 : (x1 == y1) <;> simp [hq, he, h2]
end Go.Proofs.Ytdkhecebffjpjaa.X
