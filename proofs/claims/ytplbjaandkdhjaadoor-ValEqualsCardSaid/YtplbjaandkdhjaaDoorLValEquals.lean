/- The pure law of ValEquals. -/
import Derived.Test.YtplbjaandkdhjaaDoorH2
import Derived.Test.YtplbjaandkdhjaaDoorL2
import Derived.Test.YtplbjaandkdhjaaDoorL5
import Derived.Test.YtplbjaandkdhjaaDoorPAx23
import Derived.Test.YtplbjaandkdhjaaDoorPBx7
import Derived.Test.YtplbjaandkdhjaaDoorPCx5
import Derived.Test.YtplbjaandkdhjaaDoorPAx0
import Derived.Test.YtplbjaandkdhjaaDoorH0
namespace Go.Proofs.YtplbjaandkdhjaaDoor.LValEquals
open Go.RowKit Go.Proofs.YtplbjaandkdhjaaDoorW.PrintWords Go.Proofs.YtplbjaandkdhjaaDoor.PA Go.Proofs.YtplbjaandkdhjaaDoor.PB Go.Proofs.YtplbjaandkdhjaaDoor.PC Go.Proofs.YtplbjaandkdhjaaDoor.H1 Go.Proofs.YtplbjaandkdhjaaDoor.L1
set_option linter.unusedVariables false

theorem trim_any (s : ByteArray) (hs : s.size ≤ 140737488351232) : strings_TrimRight.f s (⟨#[32]⟩ : ByteArray) = some ⟨(Lib.trimRightS s.data.toList [32]).toArray⟩ := by
  unfold strings_TrimRight.f
  rw [if_pos ⟨by decide, by decide, by omega⟩]
theorem law (a0 a1 : ByteArray) (a2 : Bool) (h0 : a0.size ≤ 140737488351232) (h1 : a1.size ≤ 140737488351232) :
    ∃ k, cabinetrylaw01_ValEquals.f k a0 a1 a2 = some true := by
  refine ⟨30000, ?_⟩
  unfold cabinetrylaw01_ValEquals.f
  rw [known_ev 30000 (by decide)]
  simp only [Option.bind_some]
  split
  · rfl
  · rename_i hs
    rw [w64 (by omega) (by omega)] at hs
    unfold val_Equal.f cabinetryref01_Equal.f
    cases a2 with
    | true =>
      simp only [if_true]
      rw [trim_any a0 h0, trim_any a1 h1, bare_f a0 h0 30000 (by omega), bare_f a1 h1 30000 (by omega)]
      simp
    | false =>
      simp only [if_neg (show ¬ (false = true) by decide), strings_HasPrefix.f, stringslite_HasPrefix.f, cabinetryref01_Begins.f]
      by_cases h : (a0.size : Int) ≥ (a1.size : Int)
      · have h' : (a1.size : Int) ≤ (a0.size : Int) := h
        rw [if_pos h, if_pos (by omega), if_pos h']
        simp
      · rw [if_neg h]
        simp
end Go.Proofs.YtplbjaandkdhjaaDoor.LValEquals
