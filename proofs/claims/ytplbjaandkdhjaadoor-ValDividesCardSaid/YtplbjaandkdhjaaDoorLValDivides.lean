/- The pure law of ValDivides. -/
import Derived.Test.YtplbjaandkdhjaaDoorH4
import Derived.Test.YtplbjaandkdhjaaDoorL1
import Derived.Test.YtplbjaandkdhjaaDoorL2
import Derived.Test.YtplbjaandkdhjaaDoorL3
import Derived.Test.YtplbjaandkdhjaaDoorL5
import Derived.Test.YtplbjaandkdhjaaDoorPAx7
import Derived.Test.YtplbjaandkdhjaaDoorPAx8
import Derived.Test.YtplbjaandkdhjaaDoorPAx12
import Derived.Test.YtplbjaandkdhjaaDoorPCx3
import Derived.Test.YtplbjaandkdhjaaDoorPAx0
import Derived.Test.YtplbjaandkdhjaaDoorH0
namespace Go.Proofs.YtplbjaandkdhjaaDoor.LValDivides
open Go.RowKit Go.Proofs.YtplbjaandkdhjaaDoorW.PrintWords Go.Proofs.YtplbjaandkdhjaaDoor.PA Go.Proofs.YtplbjaandkdhjaaDoor.PB Go.Proofs.YtplbjaandkdhjaaDoor.PC Go.Proofs.YtplbjaandkdhjaaDoor.H1 Go.Proofs.YtplbjaandkdhjaaDoor.L1
set_option linter.unusedVariables false

theorem valid_iff (n : Int) : validV 2 n (⟨#[]⟩ : ByteArray) = if -1000000000000000 ≤ n ∧ n ≤ 1000000000000000 then 0 else 1 := by
  have e : (⟨#[]⟩ : ByteArray).toList = [] := by rw [ByteArray.toList_eq]
  have s : (⟨#[]⟩ : ByteArray).size = 0 := rfl
  unfold validV
  rw [s, e, if_neg (by decide)]
  by_cases h : -1000000000000000 ≤ n ∧ n ≤ 1000000000000000
  · simp [h]
  · simp [h]
/-- The quotient and the remainder, with the sign of the number. -/
theorem quo_rem {a b : Int} (hb : b ≠ 0) (a0 : -1000000000000000 ≤ a) (a1 : a ≤ 1000000000000000) : b * Int.tdiv a b + Int.tmod a b = a ∧ (-1000000000000000 ≤ Int.tdiv a b ∧ Int.tdiv a b ≤ 1000000000000000) ∧
    (0 ≤ a → 0 ≤ Int.tmod a b) ∧ (a ≤ 0 → Int.tmod a b ≤ 0) ∧ absV (Int.tmod a b) < absV b := by
  have pos : ∀ c : Int, 0 ≤ c → c ≤ 1000000000000000 → b * Int.tdiv c b + Int.tmod c b = c ∧ (-1000000000000000 ≤ Int.tdiv c b ∧ Int.tdiv c b ≤ 1000000000000000) ∧ 0 ≤ Int.tmod c b ∧ Int.tmod c b < absV b := by
    intro c h0 h1
    rw [Int.tdiv_eq_ediv_of_nonneg h0, Int.tmod_eq_emod_of_nonneg h0]
    refine ⟨Int.mul_ediv_add_emod c b, ?_, Int.emod_nonneg c hb, ?_⟩
    · by_cases hs : 0 < b
      · have := Int.ediv_nonneg h0 (Int.le_of_lt hs)
        have := Int.ediv_le_self b h0
        omega
      · have e : c / b = -(c / -b) := by rw [Int.ediv_neg, Int.neg_neg]
        have := Int.ediv_nonneg h0 (show 0 ≤ -b by omega)
        have := Int.ediv_le_self (-b) h0
        omega
    · unfold absV
      by_cases hs : b < 0
      · rw [if_pos hs, ← Int.emod_neg]
        exact Int.emod_lt_of_pos _ (by omega)
      · rw [if_neg hs]
        exact Int.emod_lt_of_pos _ (by omega)
  by_cases ha : 0 ≤ a
  · obtain ⟨p1, p2, p3, p4⟩ := pos a ha a1
    refine ⟨p1, p2, fun _ => p3, fun h => ?_, ?_⟩
    · obtain rfl : a = 0 := by omega
      simp
    · unfold absV at p4 ⊢
      rw [if_neg (by omega)]
      exact p4
  · obtain ⟨p1, p2, p3, p4⟩ := pos (-a) (by omega) (by omega)
    rw [Int.neg_tdiv, Int.neg_tmod] at p1
    rw [Int.neg_tdiv] at p2
    rw [Int.neg_tmod] at p3 p4
    have e : b * Int.tdiv a b = -(b * -Int.tdiv a b) := by rw [Int.mul_neg, Int.neg_neg]
    refine ⟨by omega, by omega, fun h => absurd h ha, fun _ => by omega, ?_⟩
    have hz : absV (Int.tmod a b) = -Int.tmod a b := by
      unfold absV
      split <;> omega
    rw [hz]
    exact p4
theorem mx_abs {a : Int} (h0 : -1000000000000000 ≤ a) (h1 : a ≤ 1000000000000000) : mx a (wrap64 (-a)) = absV a := by
  unfold mx absV
  rw [w64 (by omega) (by omega)]
  split <;> split <;> omega
theorem law (a0 a1 : Int) (h0 : -9223372036854775808 ≤ a0 ∧ a0 ≤ 9223372036854775807) (h1 : -9223372036854775808 ≤ a1 ∧ a1 ≤ 9223372036854775807) :
    ∃ k, cabinetrylaw01_ValDivides.f k a0 a1 = some true := by
  refine ⟨3001, ?_⟩
  have kn := known_ev 3000 (by decide)
  unfold cabinetrylaw01_ValDivides.f cabinetryref01_Num.f
  simp only [Option.bind_some]
  unfold val_Do.f
  rw [both_f, inNum_f, inNum_f]
  simp only [Option.bind_some]
  have hbv : bothV 2 a0 (⟨#[]⟩ : ByteArray) 2 a1 (⟨#[]⟩ : ByteArray) = if (-1000000000000000 ≤ a0 ∧ a0 ≤ 1000000000000000) ∧ (-1000000000000000 ≤ a1 ∧ a1 ≤ 1000000000000000) then 0 else 1 := by
    unfold bothV
    rw [valid_iff, valid_iff]
    by_cases p : -1000000000000000 ≤ a0 ∧ a0 ≤ 1000000000000000
    · rw [if_pos p, if_pos rfl]
      by_cases q : -1000000000000000 ≤ a1 ∧ a1 ≤ 1000000000000000
      · rw [if_pos q, if_pos ⟨p, q⟩]
      · rw [if_neg q, if_neg (fun h => q h.2)]
    · rw [if_neg p, if_neg (by decide), if_neg (fun h => p h.1)]
  by_cases hv : (-1000000000000000 ≤ a0 ∧ a0 ≤ 1000000000000000) ∧ (-1000000000000000 ≤ a1 ∧ a1 ≤ 1000000000000000)
  · obtain ⟨va, vb⟩ := hv
    rw [if_pos ⟨va, vb⟩] at hbv
    rw [hbv, decide_eq_true va, decide_eq_true vb]
    simp only [if_true, if_neg (show ¬ ((3 : Int) < 0 ∨ 6 ≤ (3 : Int)) by decide), if_neg (show ¬ ((4 : Int) < 0 ∨ 6 ≤ (4 : Int)) by decide), if_neg (show ¬ ((2 : Int) = 0 ∨ (2 : Int) = 0) by decide)]
    simp only [opV, wholeV64, wholeV65, and_self, if_true, if_neg (show ¬ (3 : Int) = 0 by decide), if_neg (show ¬ (3 : Int) = 1 by decide), if_neg (show ¬ (3 : Int) = 2 by decide), if_neg (show ¬ (4 : Int) = 0 by decide), if_neg (show ¬ (4 : Int) = 1 by decide), if_neg (show ¬ (4 : Int) = 2 by decide), if_neg (show ¬ (4 : Int) = 3 by decide), val_div.f, val_mod.f, number_f, died_f, Option.bind_some]
    rw [show (3001 : Nat) = 3000 + 1 from rfl]
    by_cases hb : a1 = 0
    · rw [if_pos hb, if_pos hb]
      simp only [Option.bind_some, cabinetrylaw01_ValDivides.j0, died]
      rw [if_neg (by decide), if_pos hb]
      simp only [if_true]
      rw [kn]
      rfl
    · obtain ⟨q1, q2, q3, q4, q5⟩ := quo_rem hb va.1 va.2
      have ra : absV (Int.tmod a0 a1) ≤ 1000000000000000 := by have := le_abs vb.1 vb.2; omega
      have rb := abs_le ra
      rw [if_neg hb, if_neg hb, w64 (x := Int.tdiv a0 a1) (by omega) (by omega)]
      unfold numV
      rw [if_pos q2, if_pos rb]
      simp only [Option.bind_some, cabinetrylaw01_ValDivides.j0]
      rw [if_neg (by decide), if_neg hb]
      simp only [if_true]
      rw [w64 (x := a1 * Int.tdiv a0 a1) (by omega) (by omega), w64 (x := a1 * Int.tdiv a0 a1 + Int.tmod a0 a1) (by omega) (by omega), if_pos q1, mx_abs rb.1 rb.2, mx_abs vb.1 vb.2, if_pos q5, kn]
      split
      · rfl
      · rename_i hr
        have : (decide (Int.tmod a0 a1 < 0) == decide (a0 < 0)) = true := by
          by_cases hs : a0 < 0
          · have := q4 (by omega)
            simp [hs]; omega
          · have := q3 (by omega)
            simp [hs]; omega
        rw [if_pos this]
        rfl
  · rw [if_neg hv] at hbv
    rw [hbv]
    simp only [if_neg (show ¬ (1 : Int) = 0 by decide), Option.bind_some]
    have fin : cabinetrylaw01_ValDivides.j0 3001 a0 a1 0 1 0 1 true 0 0 (⟨#[]⟩ : ByteArray) 0 0 (⟨#[]⟩ : ByteArray) = some true := by
      rw [show (3001 : Nat) = 3000 + 1 from rfl]
      simp only [cabinetrylaw01_ValDivides.j0]
      simp only [if_true]
      rw [kn]
      rfl
    by_cases va : -1000000000000000 ≤ a0 ∧ a0 ≤ 1000000000000000
    · have vb : ¬ (-1000000000000000 ≤ a1 ∧ a1 ≤ 1000000000000000) := fun h => hv ⟨va, h⟩
      rw [decide_eq_true va, decide_eq_false vb, if_pos rfl]
      exact fin
    · rw [decide_eq_false va, if_neg (by decide)]
      exact fin
end Go.Proofs.YtplbjaandkdhjaaDoor.LValDivides
