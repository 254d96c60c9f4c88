/- That the functions give what the document gives at the closed examples, and that val.Do is the reference's Do. -/
import Derived.Test.YtplbjaandkdhjaaDoorH4
import Derived.Test.YtplbjaandkdhjaaDoorL1
import Derived.Test.YtplbjaandkdhjaaDoorL4
import Derived.Test.YtplbjaandkdhjaaDoorPAx19
import Derived.Test.YtplbjaandkdhjaaDoorPAx20
import Derived.Test.YtplbjaandkdhjaaDoorPCx1
import Derived.Test.YtplbjaandkdhjaaDoorPAx0
import Derived.Test.YtplbjaandkdhjaaDoorH0
import Derived.KernelRfl
namespace Go.Proofs.YtplbjaandkdhjaaDoor.L1
open Go.RowKit Go.Proofs.YtplbjaandkdhjaaDoorW.PrintWords Go.Proofs.YtplbjaandkdhjaaDoor.PA Go.Proofs.YtplbjaandkdhjaaDoor.PB Go.Proofs.YtplbjaandkdhjaaDoor.PC Go.Proofs.YtplbjaandkdhjaaDoor.H1
set_option linter.unusedVariables false
set_option linter.unusedSimpArgs false

theorem known_at : cabinetrylaw01_known.f 40 = some true := by
  unfold cabinetrylaw01_known.f
  simp only [ByteArray.toList_eq]
  kernel_rfl
theorem known_ev (k : Nat) (h : 40 ≤ k) : cabinetrylaw01_known.f k = some true := at_rounds cabinetrylaw01_known.mono h known_at
theorem do_same (op a0 a1 : Int) (a2 : ByteArray) (b0 b1 : Int) (b2 : ByteArray) : ∃ v : Int × Int × ByteArray × Int × Int, val_Do.f op a0 a1 a2 b0 b1 b2 = some v ∧ ∀ k, 3000 ≤ k → cabinetryref01_Do.f k op a0 a1 a2 b0 b1 b2 = some v := by
  unfold val_Do.f cabinetryref01_Do.f
  rw [both_f, refBoth_f]
  simp only [Option.bind_some]
  by_cases hb : bothV a0 a1 a2 b0 b1 b2 = 0
  · rw [if_pos hb]
    have ha : validV a0 a1 a2 = 0 ∧ validV b0 b1 b2 = 0 := by
      unfold bothV at hb
      split at hb
      · rename_i h; exact ⟨h, hb⟩
      · rename_i h; exact absurd hb h
    by_cases ho : op < 0 ∨ 6 ≤ op
    · rw [if_pos ho]
      refine ⟨_, rfl, fun k _ => ?_⟩
      rw [if_pos hb]
      by_cases h0 : op < 0
      · rw [if_pos h0]
      · rw [if_neg h0, if_pos (by omega)]
    · rw [if_neg ho]
      by_cases hn : a0 = 0 ∨ b0 = 0
      · rw [if_pos hn]
        refine ⟨_, rfl, fun k hk => ?_⟩
        rw [if_pos hb, if_neg (by omega), if_neg (by omega)]
        obtain ⟨k, rfl⟩ : ∃ m, k = m + 1 := ⟨k - 1, by omega⟩
        unfold cabinetryref01_Done.f
        by_cases h0 : a0 = 0
        · rw [if_pos h0]; simp [cabinetryref01_Done.j0]
        · have : b0 = 0 := by omega
          rw [if_neg h0, this]; simp [cabinetryref01_Done.j0]
      · rw [if_neg hn]
        obtain ⟨r, h1, h2⟩ := both_give ha.1 ha.2 (show 0 ≤ op by omega) (show op < 6 by omega) (show a0 ≠ 0 by omega) (show b0 ≠ 0 by omega)
        refine ⟨(r.1, r.2.1, r.2.2.1, r.2.2.2, 0), by rw [h1]; rfl, fun k hk => ?_⟩
        rw [if_pos hb, if_neg (by omega), if_neg (by omega), h2 k hk]
        rfl
  · rw [if_neg hb]
    exact ⟨_, rfl, fun k _ => by rw [if_neg hb]⟩
end Go.Proofs.YtplbjaandkdhjaaDoor.L1
