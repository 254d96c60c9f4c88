/- The pure law of ValDates. -/
import Derived.Test.YtplbjaandkdhjaaDoorL5
import Derived.Test.YtplbjaandkdhjaaDoorL6
import Derived.Test.YtplbjaandkdhjaaDoorPCx4
import Derived.Test.YtplbjaandkdhjaaDoorPAx0
import Derived.Test.YtplbjaandkdhjaaDoorH0
namespace Go.Proofs.YtplbjaandkdhjaaDoor.LValDates
open Go.RowKit Go.Proofs.YtplbjaandkdhjaaDoorW.PrintWords Go.Proofs.YtplbjaandkdhjaaDoor.PA Go.Proofs.YtplbjaandkdhjaaDoor.PB Go.Proofs.YtplbjaandkdhjaaDoor.PC Go.Proofs.YtplbjaandkdhjaaDoor.H1 Go.Proofs.YtplbjaandkdhjaaDoor.L1
set_option linter.unusedVariables false

theorem law (a0 a1 a2 : Int) (h0 : -9223372036854775808 ≤ a0 ∧ a0 ≤ 9223372036854775807) (h1 : -9223372036854775808 ≤ a1 ∧ a1 ≤ 9223372036854775807) (h2 : -9223372036854775808 ≤ a2 ∧ a2 ≤ 9223372036854775807) :
    ∃ k, cabinetrylaw01_ValDates.f k a0 a1 a2 = some true := by
  refine ⟨12000, ?_⟩
  unfold cabinetrylaw01_ValDates.f
  rw [days_f a0 a1 a2 12000 (by decide) h2.1 h2.2, refDays_f a0 a1 a2 12000 (by decide)]
  simp only [Option.bind_some, if_true]
  rw [show (12000 : Nat) = 11999 + 1 from rfl]
  simp only [cabinetrylaw01_ValDates.j0]
  rw [if_neg (by simp)]
  by_cases hv : validD a0 a1 a2
  · have e : daysV a0 a1 a2 = (ydays a0 + cum a0 (a1 - 1).toNat + a2, 0) := by unfold daysV; rw [if_pos hv]
    have hD : IsDate (ydays a0 + cum a0 (a1 - 1).toNat + a2) a0 a1 a2 := by
      unfold validD at hv
      exact ⟨hv.1, hv.2.1, hv.2.2.1, hv.2.2.2.1, hv.2.2.2.2.1, hv.2.2.2.2.2, rfl⟩
    rw [e]
    simp only [if_true]
    rw [split_is hD 11999 (by decide)]
    simp only [Option.bind_some, if_true]
    rw [known_ev 11999 (by decide)]
    rfl
  · have e : daysV a0 a1 a2 = (0, 1) := by unfold daysV; rw [if_neg hv]
    rw [e]
    simp only [if_neg (show ¬ (1 : Int) = 0 by decide)]
    rw [known_ev 11999 (by decide)]
    rfl
end Go.Proofs.YtplbjaandkdhjaaDoor.LValDates
