/- What values are: the pure laws that several statements share. -/
import Derived.Test.YtplbjaandkdhjaaDoorPAx0
import Derived.Test.YtplbjaandkdhjaaDoorPAx2
import Derived.Test.YtplbjaandkdhjaaDoorPAx3
import Derived.Test.YtplbjaandkdhjaaDoorPAx4
import Derived.Test.YtplbjaandkdhjaaDoorPAx10
import Derived.Test.YtplbjaandkdhjaaDoorPAx11
import Derived.Test.YtplbjaandkdhjaaDoorPAx12
namespace Go.Proofs.YtplbjaandkdhjaaDoor.L1
open Go.RowKit Go.Proofs.YtplbjaandkdhjaaDoorW.PrintWords Go.Proofs.YtplbjaandkdhjaaDoor.PA

/-- The error of a value. -/
def validV (a n : Int) (s : ByteArray) : Int :=
  if (s.size : Int) > 2048 then 3
  else if (a = 4 ∧ n = 0) ∨ (a ≠ 4 ∧ s.toList = [] ∧ ((a = 0 ∧ n = 0) ∨ (a = 1 ∧ (n = 0 ∨ n = 1)) ∨ (a = 2 ∧ -1000000000000000 ≤ n ∧ n ≤ 1000000000000000) ∨ (a = 3 ∧ 0 ≤ n ∧ n ≤ 3652059))) then 0 else 1

theorem isNum_f (n : Int) : val_isNum.f n = some (decide (-1000000000000000 ≤ n ∧ n ≤ 1000000000000000)) := by
  unfold val_isNum.f
  split
  · rename_i h
    have h' : -1000000000000000 ≤ n := h
    simp [h']
  · rename_i h
    have h' : ¬ (-1000000000000000 ≤ n) := h
    simp [h']
theorem isDay_f (n : Int) : val_isDay.f n = some (decide (0 ≤ n ∧ n ≤ 3652059)) := by
  unfold val_isDay.f
  split
  · rename_i h
    have h' : 0 ≤ n := h
    simp [h']
  · rename_i h
    have h' : ¬ (0 ≤ n) := h
    simp [h']
theorem inNum_f (n : Int) : cabinetryref01_InNum.f n = some (decide (-1000000000000000 ≤ n ∧ n ≤ 1000000000000000)) := by
  unfold cabinetryref01_InNum.f
  split
  · rename_i h
    have h' : -1000000000000000 ≤ n := h
    simp [h']
  · rename_i h
    have h' : ¬ (-1000000000000000 ≤ n) := h
    simp [h']
theorem validate_f (k : Nat) (a n : Int) (s : ByteArray) : val_Validate.f (k + 1) a n s = some (validV a n s) := by
  unfold val_Validate.f validV val_isValue.f
  by_cases h1 : (s.size : Int) > 2048
  · simp [h1]
  · simp only [if_neg h1, val_isValue.j0, isNum_f, isDay_f]
    by_cases h4 : a = 4
    · subst h4
      by_cases hn : n = 0 <;> simp [hn]
    · by_cases hs : s.toList = []
      · by_cases h0 : a = 0
        · subst h0; by_cases hn : n = 0 <;> simp [hn, hs]
        · by_cases ha1 : a = 1
          · subst ha1
            by_cases hn : n = 0
            · simp [hn, hs]
            · by_cases hn1 : n = 1 <;> simp [hn, hn1, hs]
          · by_cases ha2 : a = 2
            · subst ha2; simp [hs] <;> split <;> rfl
            · by_cases ha3 : a = 3
              · subst ha3; simp [hs] <;> split <;> rfl
              · simp [h4, hs, h0, ha1, ha2, ha3]
      · simp [h4, hs]
theorem refValidate_f (a n : Int) (s : ByteArray) : cabinetryref01_Validate.f a n s = some (validV a n s) := by
  unfold cabinetryref01_Validate.f validV
  by_cases h1 : (s.size : Int) > 2048
  · simp [h1]
  · simp only [if_neg h1, inNum_f]
    by_cases h4 : a = 4
    · subst h4
      by_cases hn : n = 0 <;> simp [hn]
    · by_cases hs : s.toList = []
      · by_cases h0 : a = 0
        · subst h0; by_cases hn : n = 0 <;> simp [hn, hs]
        · by_cases ha1 : a = 1
          · subst ha1
            by_cases hn : n = 0
            · simp [hn, hs]
            · by_cases hn1 : n = 1 <;> simp [hn, hn1, hs]
          · by_cases ha2 : a = 2
            · subst ha2; simp [hs] <;> split <;> rfl
            · by_cases ha3 : a = 3
              · subst ha3
                by_cases g1 : 0 ≤ n <;> by_cases g2 : n ≤ 3652059 <;> simp [hs, g1, g2]
              · simp [h4, h0, ha1, ha2, ha3]
      · by_cases h0 : a = 0
        · subst h0; by_cases hn : n = 0 <;> simp [hn, hs]
        · by_cases ha1 : a = 1
          · subst ha1
            by_cases hn : n = 0
            · simp [hn, hs]
            · by_cases hn1 : n = 1 <;> simp [hn1, hs, hn]
          · by_cases ha2 : a = 2
            · subst ha2; simp [hs] <;> split <;> rfl
            · by_cases ha3 : a = 3
              · subst ha3
                by_cases g1 : 0 ≤ n <;> by_cases g2 : n ≤ 3652059 <;> simp [hs, g1, g2]
              · simp [h4, h0, ha1, ha2, ha3, hs]
/-- The first error of two values. -/
def bothV (a n : Int) (s : ByteArray) (b m : Int) (t : ByteArray) : Int := if validV a n s = 0 then validV b m t else validV a n s
theorem both_f (k : Nat) (a n : Int) (s : ByteArray) (b m : Int) (t : ByteArray) : val_both.f (k + 1) a n s b m t = some (bothV a n s b m t) := by
  unfold val_both.f bothV
  rw [validate_f, validate_f]
  simp only [Option.bind_some]
  split <;> rfl
theorem refBoth_f (a n : Int) (s : ByteArray) (b m : Int) (t : ByteArray) : cabinetryref01_Both.f a n s b m t = some (bothV a n s b m t) := by
  unfold cabinetryref01_Both.f bothV
  rw [refValidate_f, refValidate_f]
  simp only [Option.bind_some]
  split <;> rfl
end Go.Proofs.YtplbjaandkdhjaaDoor.L1
