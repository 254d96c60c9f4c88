/- The pure law of ValDoes. -/
import Derived.Test.YtplbjaandkdhjaaDoorL5
import Derived.Test.YtplbjaandkdhjaaDoorPAx20
import Derived.Test.YtplbjaandkdhjaaDoorPCx2
import Derived.Test.YtplbjaandkdhjaaDoorPAx0
import Derived.Test.YtplbjaandkdhjaaDoorH0
namespace Go.Proofs.YtplbjaandkdhjaaDoor.LValDoes
open Go.RowKit Go.Proofs.YtplbjaandkdhjaaDoorW.PrintWords Go.Proofs.YtplbjaandkdhjaaDoor.PA Go.Proofs.YtplbjaandkdhjaaDoor.PB Go.Proofs.YtplbjaandkdhjaaDoor.PC Go.Proofs.YtplbjaandkdhjaaDoor.H1 Go.Proofs.YtplbjaandkdhjaaDoor.L1
set_option linter.unusedVariables false

theorem law (a0 a1_0 a1_1 : Int) (a1_2 : ByteArray) (a2_0 a2_1 : Int) (a2_2 : ByteArray) (h0 : -9223372036854775808 ≤ a0 ∧ a0 ≤ 9223372036854775807) (h1 : -9223372036854775808 ≤ a1_0 ∧ a1_0 ≤ 9223372036854775807) (h2 : -9223372036854775808 ≤ a1_1 ∧ a1_1 ≤ 9223372036854775807) (h3 : a1_2.size ≤ 140737488351232)
    (h4 : -9223372036854775808 ≤ a2_0 ∧ a2_0 ≤ 9223372036854775807) (h5 : -9223372036854775808 ≤ a2_1 ∧ a2_1 ≤ 9223372036854775807) (h6 : a2_2.size ≤ 140737488351232) :
    ∃ k, cabinetrylaw01_ValDoes.f k a0 a1_0 a1_1 a1_2 a2_0 a2_1 a2_2 = some true := by
  refine ⟨3000, ?_⟩
  unfold cabinetrylaw01_ValDoes.f
  rw [known_ev 3000 (by decide)]
  simp only [Option.bind_some]
  split
  · rfl
  · obtain ⟨v, e1, e2⟩ := do_same a0 a1_0 a1_1 a1_2 a2_0 a2_1 a2_2
    rw [e1, e2 3000 (Nat.le_refl _)]
    simp [cabinetryref01_SameValue.f]
end Go.Proofs.YtplbjaandkdhjaaDoor.LValDoes
