-- thin
-- Written by a program of this session (wip/stage.sh) out of the translation: functions as Lean functions, and walks.
import Derived.Test.YtplbjaandkdhjaaDoorPAx0
namespace Go.Proofs.YtplbjaandkdhjaaDoor.PA
open Go.RowKit Go.Proofs.YtplbjaandkdhjaaDoorW.PrintWords Go.Proofs.YtplbjaandkdhjaaDoorW.PrintLast Go.Proofs.YtplbjaandkdhjaaDoorW.PrintMore
attribute [local go_sem] max2_int min2_int max_two min_two max_three min_three max_four min_four   -- for this text's walks alone
set_option linter.unusedVariables false
set_option linter.unusedSimpArgs false

theorem eqAof90 (d : Nat) (w : World) (x0 y0 x1 y1 : Int) (e : ∀ a b : Int, (Op.equalIn d 3 (.int .i64 a) (.int .i64 b)).run Tryd.prog w = .ok (a == b) w) :
  (Op.equalIn (d + 1) 90 (.agg #[.int .i64 x0, .int .i64 x1]) (.agg #[.int .i64 y0, .int .i64 y1])).run Tryd.prog w = .ok (x0 == y0 && (x1 == y1)) w := by
 have p0 : ∀ (a b : Int), (part 3 #[.int .i64 a, .int .i64 b] 0).run Tryd.prog w = .ok (.int .i64 a) w := fun a b => by go_simp
 have p1 : ∀ (a b : Int), (part 3 #[.int .i64 a, .int .i64 b] 1).run Tryd.prog w = .ok (.int .i64 b) w := fun a b => by go_simp
 have hs : (sizeOf 3).run Tryd.prog w = .ok 1 w := by kernel_rfl
 rw [Op.equalIn.eq_2]
 simp only [Sem.run_bind, run_underlying Tryd.underlying90, Result.andThen_ok, hs]
 simp only [Std.Legacy.Range.forIn_eq_forIn_range', Std.Legacy.Range.size]
 simp [List.range'_succ, p0, p1, e, Sem.run_ite]
 by_cases h1 : x0 = y0 <;> by_cases h2 : x1 = y1 <;> simp [h1, h2]
theorem eqA90 (d : Nat) (w : World) (x0 y0 x1 y1 : Int) :
  (Op.equalIn (d + 2) 90 (.agg #[.int .i64 x0, .int .i64 x1]) (.agg #[.int .i64 y0, .int .i64 y1])).run Tryd.prog w = .ok (x0 == y0 && (x1 == y1)) w :=
 eqAof90 (d + 1) w x0 y0 x1 y1 (fun a b => run_equalIn_int w d 3 _ _ a b Tryd.underlying3)

end Go.Proofs.YtplbjaandkdhjaaDoor.PA
