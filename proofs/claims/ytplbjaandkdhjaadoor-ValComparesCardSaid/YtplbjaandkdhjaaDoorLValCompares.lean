/- The pure law of ValCompares. -/
import Derived.Test.YtplbjaandkdhjaaDoorL5
import Derived.Test.YtplbjaandkdhjaaDoorL7
import Derived.Test.YtplbjaandkdhjaaDoorPCx5
import Derived.Test.YtplbjaandkdhjaaDoorPAx0
import Derived.Test.YtplbjaandkdhjaaDoorH0
namespace Go.Proofs.YtplbjaandkdhjaaDoor.LValCompares
open Go.RowKit Go.Proofs.YtplbjaandkdhjaaDoorW.PrintWords Go.Proofs.YtplbjaandkdhjaaDoor.PA Go.Proofs.YtplbjaandkdhjaaDoor.PB Go.Proofs.YtplbjaandkdhjaaDoor.PC Go.Proofs.YtplbjaandkdhjaaDoor.H1 Go.Proofs.YtplbjaandkdhjaaDoor.L1
set_option linter.unusedVariables false

theorem law (a0_0 a0_1 : Int) (a0_2 : ByteArray) (a1_0 a1_1 : Int) (a1_2 : ByteArray) (_ : -9223372036854775808 ≤ a0_0 ∧ a0_0 ≤ 9223372036854775807) (_ : -9223372036854775808 ≤ a0_1 ∧ a0_1 ≤ 9223372036854775807) (_ : a0_2.size ≤ 140737488351232) (_ : -9223372036854775808 ≤ a1_0 ∧ a1_0 ≤ 9223372036854775807) (_ : -9223372036854775808 ≤ a1_1 ∧ a1_1 ≤ 9223372036854775807) (_ : a1_2.size ≤ 140737488351232) :
    ∃ k, cabinetrylaw01_ValCompares.f k a0_0 a0_1 a0_2 a1_0 a1_1 a1_2 = some true := by
  refine ⟨5000, ?_⟩
  unfold cabinetrylaw01_ValCompares.f
  rw [known_ev 5000 (by decide), compare_f 5000 (by decide), refCompare_f 5000 (by decide)]
  simp only [Option.bind_some, if_true]
  split <;> rfl
end Go.Proofs.YtplbjaandkdhjaaDoor.LValCompares
