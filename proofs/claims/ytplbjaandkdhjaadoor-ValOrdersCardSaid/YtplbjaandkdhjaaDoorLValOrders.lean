/- The pure law of ValOrders. -/
import Derived.Test.YtplbjaandkdhjaaDoorL5
import Derived.Test.YtplbjaandkdhjaaDoorL7
import Derived.Test.YtplbjaandkdhjaaDoorPCx6
import Derived.Test.YtplbjaandkdhjaaDoorPAx0
import Derived.Test.YtplbjaandkdhjaaDoorH0
namespace Go.Proofs.YtplbjaandkdhjaaDoor.LValOrders
open Go.RowKit Go.Proofs.YtplbjaandkdhjaaDoorW.PrintWords Go.Proofs.YtplbjaandkdhjaaDoor.PA Go.Proofs.YtplbjaandkdhjaaDoor.PB Go.Proofs.YtplbjaandkdhjaaDoor.PC Go.Proofs.YtplbjaandkdhjaaDoor.H1 Go.Proofs.YtplbjaandkdhjaaDoor.L1
set_option linter.unusedVariables false

theorem law (a0_0 a0_1 : Int) (a0_2 : ByteArray) (a1_0 a1_1 : Int) (a1_2 : ByteArray) (a2_0 a2_1 : Int) (a2_2 : ByteArray) (_ : -9223372036854775808 ≤ a0_0 ∧ a0_0 ≤ 9223372036854775807) (_ : -9223372036854775808 ≤ a0_1 ∧ a0_1 ≤ 9223372036854775807) (_ : a0_2.size ≤ 140737488351232) (_ : -9223372036854775808 ≤ a1_0 ∧ a1_0 ≤ 9223372036854775807) (_ : -9223372036854775808 ≤ a1_1 ∧ a1_1 ≤ 9223372036854775807) (_ : a1_2.size ≤ 140737488351232) (_ : -9223372036854775808 ≤ a2_0 ∧ a2_0 ≤ 9223372036854775807) (_ : -9223372036854775808 ≤ a2_1 ∧ a2_1 ≤ 9223372036854775807) (_ : a2_2.size ≤ 140737488351232) :
    ∃ k, cabinetrylaw01_ValOrders.f k a0_0 a0_1 a0_2 a1_0 a1_1 a1_2 a2_0 a2_1 a2_2 = some true := by
  refine ⟨5001, ?_⟩
  unfold cabinetrylaw01_ValOrders.f
  rw [known_ev 5001 (by decide), compare_f 5001 (by decide), compare_f 5001 (by decide), compare_f 5001 (by decide), compare_f 5001 (by decide)]
  simp only [Option.bind_some]
  split
  · rfl
  · have okab := cmpV_ok a0_0 a0_1 a0_2 a1_0 a1_1 a1_2
    have okba := cmpV_ok a1_0 a1_1 a1_2 a0_0 a0_1 a0_2
    have okbc := cmpV_ok a1_0 a1_1 a1_2 a2_0 a2_1 a2_2
    have okac := cmpV_ok a0_0 a0_1 a0_2 a2_0 a2_1 a2_2
    have vab := @cmpV_val a0_0 a0_1 a0_2 a1_0 a1_1 a1_2
    have vba := @cmpV_val a1_0 a1_1 a1_2 a0_0 a0_1 a0_2
    have vbc := @cmpV_val a1_0 a1_1 a1_2 a2_0 a2_1 a2_2
    have vac := @cmpV_val a0_0 a0_1 a0_2 a2_0 a2_1 a2_2
    generalize cmpV a0_0 a0_1 a0_2 a1_0 a1_1 a1_2 = p at *
    generalize cmpV a1_0 a1_1 a1_2 a0_0 a0_1 a0_2 = q at *
    generalize cmpV a1_0 a1_1 a1_2 a2_0 a2_1 a2_2 = r at *
    generalize cmpV a0_0 a0_1 a0_2 a2_0 a2_1 a2_2 = s at *
    have sym : (p.2 == 0) = (q.2 == 0) := by
      by_cases h : p.2 = 0
      · obtain ⟨h1, h2, h3, h4⟩ := okab.1 h
        rw [beq_iff_eq.mpr h, beq_iff_eq.mpr (okba.2 ⟨h2, h1, h3.symm, h3 ▸ h4⟩)]
      · have h5 : ¬ q.2 = 0 := fun h5 => by
          obtain ⟨h1, h2, h3, h4⟩ := okba.1 h5
          exact h (okab.2 ⟨h2, h1, h3.symm, h3 ▸ h4⟩)
        rw [beq_eq_false_iff_ne.mpr h, beq_eq_false_iff_ne.mpr h5]
    have neg : p.2 = 0 → (p.1 != wrap64 (-q.1)) = false := fun h => by
      obtain ⟨h1, h2, h3, h4⟩ := okab.1 h
      have hq := okba.2 ⟨h2, h1, h3.symm, h3 ▸ h4⟩
      rw [vab h, vba hq, ← h3]
      by_cases h5 : a0_0 = 4
      · rw [if_pos h5, if_pos h5]
        have b := cmpB_bound a1_2.data.toList a0_2.data.toList
        rw [w64 (by omega) (by omega), ← cmpB_swap]
        exact bne_self_eq_false _
      · rw [if_neg h5, if_neg h5]
        have b : -1 ≤ cmpI a1_1 a0_1 ∧ cmpI a1_1 a0_1 ≤ 1 := by
          unfold cmpI
          by_cases x : a1_1 < a0_1 <;> by_cases y : a0_1 < a1_1 <;> simp [x, y]
        rw [w64 (by omega) (by omega), ← cmpI_swap]
        exact bne_self_eq_false _
    have tr : p.2 = 0 → r.2 = 0 → s.2 = 0 ∧ (p.1 ≤ 0 → r.1 ≤ 0 → ¬ s.1 > 0) := fun h hr => by
      obtain ⟨h1, h2, h3, h4⟩ := okab.1 h
      obtain ⟨g1, g2, g3, g4⟩ := okbc.1 hr
      have hs := okac.2 ⟨h1, g2, h3.trans g3, h4⟩
      refine ⟨hs, ?_⟩
      rw [vab h, vbc hr, vac hs, ← h3]
      by_cases h5 : a0_0 = 4
      · rw [if_pos h5, if_pos h5, if_pos h5]
        intro x y
        have := cmpB_trans _ _ _ x y
        omega
      · rw [if_neg h5, if_neg h5, if_neg h5]
        intro x y
        have := cmpI_trans x y
        omega
    have fin : ∀ b : Bool, (p.2 = 0 → b = false) → (p.2 ≠ 0 → b = false) → cabinetrylaw01_ValOrders.j0 5001 p.1 p.2 q.2 r.1 r.2 s.1 s.2 b = some true := by
      intro b e1 e2
      have hb : b = false := by
        by_cases h : p.2 = 0
        · exact e1 h
        · exact e2 h
      subst hb
      rw [show (5001 : Nat) = 5000 + 1 from rfl]
      simp only [cabinetrylaw01_ValOrders.j0, known_ev 5000 (by decide), Option.bind_some]
      rw [if_neg (by decide)]
      have e3 : ((p.2 == 0) == (q.2 == 0)) = true := by rw [sym]; exact beq_self_eq_true _
      simp only [e3, if_true]
      by_cases h : p.2 = 0
      · rw [if_pos h]
        by_cases hr : r.2 = 0
        · have t := tr h hr
          rw [if_pos hr, if_pos t.1]
          by_cases x : p.1 ≤ 0
          · rw [if_pos x]
            by_cases y : r.1 ≤ 0
            · rw [if_pos y, if_neg (t.2 x y)]
            · rw [if_neg y]
          · rw [if_neg x]
        · rw [if_neg hr]
      · rw [if_neg h]
    by_cases h : p.2 = 0
    · rw [if_pos h]
      by_cases h2 : q.2 = 0
      · rw [if_pos h2, neg h]
        exact fin false (fun _ => rfl) (fun _ => rfl)
      · rw [if_neg h2]
        exact fin false (fun _ => rfl) (fun _ => rfl)
    · rw [if_neg h]
      exact fin false (fun _ => rfl) (fun _ => rfl)
end Go.Proofs.YtplbjaandkdhjaaDoor.LValOrders
