/- Days, months and years: the pure laws. -/
import Derived.Test.YtplbjaandkdhjaaDoorH1
import Derived.Test.YtplbjaandkdhjaaDoorL1
import Derived.Test.YtplbjaandkdhjaaDoorL2
import Derived.Test.YtplbjaandkdhjaaDoorPAx10
import Derived.Test.YtplbjaandkdhjaaDoorPAx20
import Derived.Test.YtplbjaandkdhjaaDoorPAx21
import Derived.Test.YtplbjaandkdhjaaDoorPAx22
import Derived.Test.YtplbjaandkdhjaaDoorPBx4
import Derived.Test.YtplbjaandkdhjaaDoorPBx5
import Derived.Test.YtplbjaandkdhjaaDoorPAx0
import Derived.Test.YtplbjaandkdhjaaDoorH0
import Derived.KernelRfl
namespace Go.Proofs.YtplbjaandkdhjaaDoor.L1
open Go.RowKit Go.Proofs.YtplbjaandkdhjaaDoorW.PrintWords Go.Proofs.YtplbjaandkdhjaaDoor.PA Go.Proofs.YtplbjaandkdhjaaDoor.PB Go.Proofs.YtplbjaandkdhjaaDoor.H1
set_option linter.unusedVariables false
set_option linter.unusedSimpArgs false

/-- How many days there are before a year. -/
def ydays (y : Int) : Int := 365 * (y - 1) + (y - 1) / 4 - (y - 1) / 100 + (y - 1) / 400
theorem leapB_iff {y : Int} (h : 0 ≤ y) : leapB y = true ↔ y % 4 = 0 ∧ (y % 100 ≠ 0 ∨ y % 400 = 0) := by
  unfold leapB
  rw [Int.tmod_eq_emod_of_nonneg h, Int.tmod_eq_emod_of_nonneg h, Int.tmod_eq_emod_of_nonneg h]
  simp
theorem ydays_succ {y : Int} (h : 1 ≤ y) : ydays (y + 1) = ydays y + (if leapB y = true then 366 else 365) := by
  unfold ydays
  by_cases hl : leapB y = true
  · rw [if_pos hl]; rw [leapB_iff (by omega)] at hl; omega
  · rw [if_neg hl]; rw [leapB_iff (by omega)] at hl; omega
theorem yearsDays_f {y : Int} (h0 : 1 ≤ y) (h1 : y ≤ 10001) : val_yearsDays.f y = some (ydays y) := by
  unfold val_yearsDays.f ydays
  have e : wrap64 (y - 1) = y - 1 := w64 (by omega) (by omega)
  rw [e, Int.tdiv_eq_ediv_of_nonneg (by omega), Int.tdiv_eq_ediv_of_nonneg (by omega), Int.tdiv_eq_ediv_of_nonneg (by omega)]
  rw [w64 (x := 365 * (y - 1)) (by omega) (by omega), w64 (x := (y - 1) / 4) (by omega) (by omega), w64 (x := (y - 1) / 100) (by omega) (by omega), w64 (x := (y - 1) / 400) (by omega) (by omega)]
  rw [w64 (x := 365 * (y - 1) + (y - 1) / 4) (by omega) (by omega), w64 (x := 365 * (y - 1) + (y - 1) / 4 - (y - 1) / 100) (by omega) (by omega), w64 (by omega) (by omega)]
theorem ydays_bd {y : Int} (h0 : 1 ≤ y) (h1 : y ≤ 10001) : 0 ≤ ydays y ∧ ydays y ≤ 3652425 := by unfold ydays; omega
theorem ydays_mono {a b : Int} (h0 : 1 ≤ a) (h : a ≤ b) : ydays a ≤ ydays b := by unfold ydays; omega
/-- How many days the first months of a year have. -/
def cum (y : Int) : Nat → Int
  | 0 => 0
  | m + 1 => cum y m + mdays y ((m : Int) + 1)
theorem mdays_bd (y m : Int) : 28 ≤ mdays y m ∧ mdays y m ≤ 31 := by
  unfold mdays
  split
  · split <;> omega
  · split <;> omega
theorem cum_bd (y : Int) (m : Nat) : 28 * (m : Int) ≤ cum y m ∧ cum y m ≤ 31 * (m : Int) := by
  induction m with
  | zero => simp [cum]
  | succ m ih =>
    have := mdays_bd y ((m : Int) + 1)
    simp only [cum]
    omega
theorem cum_mono (y : Int) (a b : Nat) (h : a ≤ b) : cum y a ≤ cum y b := by
  induction b with
  | zero => obtain rfl : a = 0 := by omega
            exact Int.le_refl _
  | succ b ih =>
    by_cases e : a = b + 1
    · subst e; exact Int.le_refl _
    · have := ih (by omega)
      have := mdays_bd y ((b : Int) + 1)
      simp only [cum]
      omega
theorem cum12 {y : Int} : cum y 12 = if leapB y = true then 366 else 365 := by
  simp only [cum, mdays]
  by_cases hl : leapB y = true
  · simp [hl]
  · simp [hl]
/-- A day's number, its year, its month and its day. -/
def IsDate (n y m d : Int) : Prop := 1 ≤ y ∧ y ≤ 9999 ∧ 1 ≤ m ∧ m ≤ 12 ∧ 1 ≤ d ∧ d ≤ mdays y m ∧ n = ydays y + cum y (m - 1).toNat + d
theorem cum_succ' {y m : Int} (h : 1 ≤ m) : cum y m.toNat = cum y (m - 1).toNat + mdays y m := by
  obtain ⟨k, rfl⟩ : ∃ k : Nat, m = k + 1 := ⟨(m - 1).toNat, by omega⟩
  rw [show ((k : Int) + 1).toNat = k + 1 by omega, show ((k : Int) + 1 - 1).toNat = k by omega]
  rfl
theorem isDate_year {n y m d : Int} (h : IsDate n y m d) : ydays y < n ∧ n ≤ ydays (y + 1) := by
  obtain ⟨h1, h2, h3, h4, h5, h6, rfl⟩ := h
  have := cum_bd y (m - 1).toNat
  have c := cum_succ' (y := y) h3
  have c2 := cum_mono y m.toNat 12 (by omega)
  rw [cum12] at c2
  rw [ydays_succ h1]
  constructor
  · omega
  · omega
theorem isDate_one {n y m d y' m' d' : Int} (h : IsDate n y m d) (h' : IsDate n y' m' d') : y = y' ∧ m = m' ∧ d = d' := by
  have a := isDate_year h
  have b := isDate_year h'
  obtain ⟨h1, h2, h3, h4, h5, h6, e⟩ := h
  obtain ⟨g1, g2, g3, g4, g5, g6, e'⟩ := h'
  have hy : y = y' := by
    by_cases l : y < y'
    · have := ydays_mono (a := y + 1) (b := y') (by omega) (by omega); omega
    · by_cases l2 : y' < y
      · have := ydays_mono (a := y' + 1) (b := y) (by omega) (by omega); omega
      · omega
  subst hy
  have c := cum_succ' (y := y) h3
  have c' := cum_succ' (y := y) g3
  have hm : m = m' := by
    by_cases l : m < m'
    · have := cum_mono y m.toNat (m' - 1).toNat (by omega); omega
    · by_cases l2 : m' < m
      · have := cum_mono y m'.toNat (m - 1).toNat (by omega); omega
      · omega
  subst hm
  exact ⟨rfl, rfl, by omega⟩
theorem isDate_bd {n y m d : Int} (h : IsDate n y m d) : 1 ≤ n ∧ n ≤ 3652059 := by
  have a := isDate_year h
  have b := ydays_bd h.1 (by have := h.2.1; omega)
  have c := ydays_mono (a := y + 1) (b := 10000) (by have := h.1; omega) (by have := h.2.1; omega)
  have e : ydays 10000 = 3652059 := by decide
  omega

/-! the number of a day -/
def validD (y m d : Int) : Prop := 1 ≤ y ∧ y ≤ 9999 ∧ 1 ≤ m ∧ m ≤ 12 ∧ 1 ≤ d ∧ d ≤ mdays y m
instance (y m d : Int) : Decidable (validD y m d) := by unfold validD; infer_instance
def daysV (y m d : Int) : Int × Int := if validD y m d then (ydays y + cum y (m - 1).toNat + d, 0) else (0, 1)
theorem monthDays_f {y m : Int} (h : 1 ≤ m) (h2 : m ≤ 12) : val_monthDays.f y m = some (mdays y m) := by
  unfold val_monthDays.f
  rw [if_pos ⟨h, h2⟩]
theorem days_l (y : Int) (M : Nat) (hM : M ≤ 11) (d : Nat) : ∀ (i : Nat) (x : Int) (k : Nat), d + i = M → d < k → 0 ≤ x → x + 31 * (d : Int) ≤ 10000000 → val_Days.l0 k y x (M : Int) (i : Int) = some (x + cum y M - cum y i, 0) := by
  induction d with
  | zero =>
    intro i x k hi hk h0 h1
    obtain rfl : i = M := by omega
    obtain ⟨k, rfl⟩ : ∃ m, k = m + 1 := ⟨k - 1, by omega⟩
    simp only [val_Days.l0]
    rw [if_neg (by omega), show x + cum y i - cum y i = x by omega]
  | succ d ih =>
    intro i x k hi hk h0 h1
    obtain ⟨k, rfl⟩ : ∃ m, k = m + 1 := ⟨k - 1, by omega⟩
    have e : wrap64 ((i : Int) + 1) = ((i + 1 : Nat) : Int) := by rw [w64 (by omega) (by omega)]; omega
    have mb := mdays_bd y ((i : Int) + 1)
    have c : cum y (i + 1) = cum y i + mdays y ((i : Int) + 1) := rfl
    have cM := cum_bd y M
    simp only [val_Days.l0]
    rw [if_pos (by omega), e, show ((i + 1 : Nat) : Int) = (i : Int) + 1 by omega, monthDays_f (by omega) (by omega)]
    simp only [Option.bind_some]
    rw [w64 (by omega) (by omega)]
    have := ih (i + 1) (x + mdays y ((i : Int) + 1)) k (by omega) (by omega) (by omega) (by omega)
    rw [show (((i + 1 : Nat)) : Int) = (i : Int) + 1 by omega] at this
    rw [this, c]
    congr 2
    omega
theorem days_f (y m d : Int) (k : Nat) (hk : 20 ≤ k) (h0 : -9223372036854775808 ≤ d) (h1 : d ≤ 9223372036854775807) : val_Days.f k y m d = some (daysV y m d) := by
  obtain ⟨k, rfl⟩ : ∃ m, k = m + 1 := ⟨k - 1, by omega⟩
  have no : ¬ validD y m d → daysV y m d = (0, 1) := fun h => by unfold daysV; rw [if_neg h]
  have j1 : val_Days.j0 (k + 1) y m d true = some (0, 1) := by simp [val_Days.j0]
  unfold val_Days.f
  by_cases a : y < 1
  · rw [if_pos a, j1, no (by unfold validD; omega)]
  rw [if_neg a]
  by_cases b : y > 9999
  · rw [if_pos b, j1, no (by unfold validD; omega)]
  rw [if_neg b]
  by_cases c : m < 1
  · rw [if_pos c, j1, no (by unfold validD; omega)]
  rw [if_neg c]
  by_cases e : m > 12
  · rw [if_pos e, j1, no (by unfold validD; omega)]
  rw [if_neg e]
  by_cases f : d < 1
  · rw [if_pos f, j1, no (by unfold validD; omega)]
  rw [if_neg f, monthDays_f (by omega) (by omega)]
  simp only [Option.bind_some]
  by_cases g : d > mdays y m
  · rw [decide_eq_true g, j1, no (by unfold validD; omega)]
  · have hv : validD y m d := by unfold validD; omega
    have yb := ydays_bd (y := y) (by omega) (by omega)
    have mb := mdays_bd y m
    obtain ⟨M, rfl⟩ : ∃ M : Nat, m = (M : Int) + 1 := ⟨(m - 1).toNat, by omega⟩
    rw [decide_eq_false g]
    simp only [val_Days.j0]
    rw [if_neg (by decide), yearsDays_f (by omega) (by omega)]
    simp only [Option.bind_some]
    rw [w64 (x := ydays y + d) (by omega) (by omega), w64 (x := (M : Int) + 1 - 1) (by omega) (by omega), show (M : Int) + 1 - 1 = (M : Int) by omega]
    have := days_l y M (by omega) M 0 (ydays y + d) k (by omega) (by omega) (by omega) (by omega)
    rw [show ((0 : Nat) : Int) = 0 from rfl] at this
    rw [this]
    unfold daysV
    rw [if_pos hv, show ((M : Int) + 1 - 1).toNat = M by omega]
    simp only [cum]
    congr 2
    omega

/-! the reference -/
theorem refLeap_f {y : Int} (h : 0 ≤ y) : cabinetryref01_leap.f y = some (leapB y) := by
  unfold cabinetryref01_leap.f
  have e := leapB_iff h
  rw [Int.tmod_eq_emod_of_nonneg h, Int.tmod_eq_emod_of_nonneg h, Int.tmod_eq_emod_of_nonneg h]
  by_cases h4 : y % 4 = 0
  · rw [if_pos h4]
    by_cases h1 : y % 100 = 0
    · rw [if_pos h1]
      by_cases h4' : y % 400 = 0
      · rw [e.mpr ⟨h4, Or.inr h4'⟩]; simp [h4']
      · have : leapB y = false := by
          cases hb : leapB y
          · rfl
          · have := e.mp hb; omega
        rw [this]; simp [h4']
    · rw [if_neg h1, e.mpr ⟨h4, Or.inl h1⟩]
  · rw [if_neg h4]
    have : leapB y = false := by
      cases hb : leapB y
      · rfl
      · have := e.mp hb; omega
    have h5 : ¬ y % 400 = 0 := by omega
    rw [this]; simp [h5]
theorem refLength_f {y : Int} (h : 0 ≤ y) (m : Int) : cabinetryref01_length.f y m = some (mdays y m) := by
  unfold cabinetryref01_length.f mdays
  rw [refLeap_f h]
  simp only [Option.bind_some]
  by_cases h2 : m = 2
  · rw [if_pos h2, if_pos h2]; split <;> rfl
  · rw [if_neg h2, if_neg h2]
    by_cases h4 : m = 4
    · rw [if_pos h4, if_pos (Or.inl h4)]
    · rw [if_neg h4]
      by_cases h6 : m = 6
      · rw [if_pos h6, if_pos (by omega)]
      · rw [if_neg h6]
        by_cases h9 : m = 9
        · rw [if_pos h9, if_pos (by omega)]
        · rw [if_neg h9]
          by_cases h11 : m = 11
          · rw [if_pos h11, if_pos (by omega)]
          · rw [if_neg h11, if_neg (by omega)]
theorem refDays_l {y : Int} (hy : 1 ≤ y) (hy2 : y ≤ 9999) (M : Nat) (hM : M ≤ 11) (d : Nat) : ∀ (i : Nat) (x : Int) (k : Nat), d + i = M → d < k → 0 ≤ x → x + 31 * (d : Int) ≤ 10000 →
    cabinetryref01_Days.l0 k y ((M : Int) + 1) x ((i : Int) + 1) = some (x + cum y M - cum y i + ydays y, 0) := by
  induction d with
  | zero =>
    intro i x k hi hk h0 h1
    obtain rfl : i = M := by omega
    obtain ⟨k, rfl⟩ : ∃ m, k = m + 1 := ⟨k - 1, by omega⟩
    have e : wrap64 (y - 1) = y - 1 := w64 (by omega) (by omega)
    simp only [cabinetryref01_Days.l0]
    rw [if_neg (by omega), e, Int.tdiv_eq_ediv_of_nonneg (by omega), Int.tdiv_eq_ediv_of_nonneg (by omega), Int.tdiv_eq_ediv_of_nonneg (by omega)]
    rw [w64 (x := 365 * (y - 1)) (by omega) (by omega), w64 (x := (y - 1) / 4) (by omega) (by omega), w64 (x := (y - 1) / 100) (by omega) (by omega), w64 (x := (y - 1) / 400) (by omega) (by omega)]
    rw [w64 (x := x + 365 * (y - 1)) (by omega) (by omega), w64 (x := x + 365 * (y - 1) + (y - 1) / 4) (by omega) (by omega), w64 (x := x + 365 * (y - 1) + (y - 1) / 4 - (y - 1) / 100) (by omega) (by omega), w64 (by omega) (by omega)]
    unfold ydays
    congr 2
    omega
  | succ d ih =>
    intro i x k hi hk h0 h1
    obtain ⟨k, rfl⟩ : ∃ m, k = m + 1 := ⟨k - 1, by omega⟩
    have e : wrap64 ((i : Int) + 1 + 1) = ((i + 1 : Nat) : Int) + 1 := by rw [w64 (by omega) (by omega)]; omega
    have mb := mdays_bd y ((i : Int) + 1)
    have c : cum y (i + 1) = cum y i + mdays y ((i : Int) + 1) := rfl
    simp only [cabinetryref01_Days.l0]
    rw [if_pos (by omega), e, refLength_f (by omega)]
    simp only [Option.bind_some]
    rw [w64 (by omega) (by omega)]
    have := ih (i + 1) (x + mdays y ((i : Int) + 1)) k (by omega) (by omega) (by omega) (by omega)
    rw [this, c]
    congr 2
    omega
theorem refDays_f (y m d : Int) (k : Nat) (hk : 20 ≤ k) : cabinetryref01_Days.f k y m d = some (daysV y m d) := by
  obtain ⟨k, rfl⟩ : ∃ m, k = m + 1 := ⟨k - 1, by omega⟩
  have no : ¬ validD y m d → daysV y m d = (0, 1) := fun h => by unfold daysV; rw [if_neg h]
  have j1 : cabinetryref01_Days.j0 (k + 1) y m d true = some (0, 1) := by simp [cabinetryref01_Days.j0]
  unfold cabinetryref01_Days.f
  by_cases a : y < 1
  · rw [if_pos a, j1, no (by unfold validD; omega)]
  rw [if_neg a]
  by_cases b : y > 9999
  · rw [if_pos b, j1, no (by unfold validD; omega)]
  rw [if_neg b]
  by_cases c : m < 1
  · rw [if_pos c, j1, no (by unfold validD; omega)]
  rw [if_neg c]
  by_cases e : m > 12
  · rw [if_pos e, j1, no (by unfold validD; omega)]
  rw [if_neg e]
  by_cases f : d < 1
  · rw [if_pos f, j1, no (by unfold validD; omega)]
  rw [if_neg f, refLength_f (by omega)]
  simp only [Option.bind_some]
  by_cases g : d > mdays y m
  · rw [decide_eq_true g, j1, no (by unfold validD; omega)]
  · have hv : validD y m d := by unfold validD; omega
    have mb := mdays_bd y m
    obtain ⟨M, rfl⟩ : ∃ M : Nat, m = (M : Int) + 1 := ⟨(m - 1).toNat, by omega⟩
    rw [decide_eq_false g]
    simp only [cabinetryref01_Days.j0]
    rw [if_neg (by decide)]
    have := refDays_l (y := y) (by omega) (by omega) M (by omega) M 0 d k (by omega) (by omega) (by omega) (by omega)
    rw [show ((0 : Nat) : Int) + 1 = 1 from rfl] at this
    rw [this]
    unfold daysV
    rw [if_pos hv, show ((M : Int) + 1 - 1).toNat = M by omega]
    simp only [cum]
    congr 2
    omega

/-! the date of a day -/
theorem split_m {n y : Int} (hy : 1 ≤ y) (hy2 : y ≤ 9999) (h1 : ydays y < n) (h2 : n ≤ ydays (y + 1)) (e : Nat) : ∀ (M : Nat) (k : Nat), e + M = 11 → e < k → cum y M < n - ydays y →
    ∃ m d, IsDate n y m d ∧ ∀ k, e < k → val_Split.l1 k y (n - ydays y - cum y M) ((M : Int) + 1) = some (y, m, d, 0) := by
  have yb := ydays_bd hy (by omega)
  have s := ydays_succ hy
  have lt : n - ydays y ≤ 366 := by split at s <;> omega
  have c12 := cum12 (y := y)
  induction e with
  | zero =>
    intro M k hM _ hc
    obtain rfl : M = 11 := by omega
    have c : cum y 12 = cum y 11 + mdays y 12 := rfl
    have cb := cum_bd y 11
    have le : n - ydays y - cum y 11 ≤ mdays y 12 := by
      rw [← c12] at s
      omega
    refine ⟨12, n - ydays y - cum y 11, ⟨hy, hy2, by decide, by decide, by omega, le, ?_⟩, fun k hk => ?_⟩
    · show n = ydays y + cum y 11 + (n - ydays y - cum y 11)
      omega
    · obtain ⟨k, rfl⟩ : ∃ m, k = m + 1 := ⟨k - 1, by omega⟩
      simp only [val_Split.l1]
      rw [show ((11 : Nat) : Int) + 1 = 12 from rfl, monthDays_f (by decide) (by decide)]
      simp only [Option.bind_some]
      rw [if_neg (by omega)]
  | succ e ih =>
    intro M k hM hk hc
    have cb := cum_bd y M
    have c : cum y (M + 1) = cum y M + mdays y ((M : Int) + 1) := rfl
    by_cases hd : n - ydays y - cum y M > mdays y ((M : Int) + 1)
    · obtain ⟨m, d, hD, hk2⟩ := ih (M + 1) (e + 1) (by omega) (by omega) (by omega)
      refine ⟨m, d, hD, fun k hk => ?_⟩
      obtain ⟨k, rfl⟩ : ∃ m, k = m + 1 := ⟨k - 1, by omega⟩
      have mb := mdays_bd y ((M : Int) + 1)
      simp only [val_Split.l1]
      rw [monthDays_f (by omega) (by omega)]
      simp only [Option.bind_some]
      rw [if_pos hd, w64 (by omega) (by omega), w64 (by omega) (by omega)]
      have := hk2 k (by omega)
      rw [c] at this
      rw [show n - ydays y - cum y M - mdays y ((M : Int) + 1) = n - ydays y - (cum y M + mdays y ((M : Int) + 1)) by omega, show (M : Int) + 1 + 1 = ((M + 1 : Nat) : Int) + 1 by omega]
      exact this
    · refine ⟨(M : Int) + 1, n - ydays y - cum y M, ⟨hy, hy2, by omega, by omega, by omega, by omega, ?_⟩, fun k hk => ?_⟩
      · rw [show ((M : Int) + 1 - 1).toNat = M by omega]; omega
      · obtain ⟨k, rfl⟩ : ∃ m, k = m + 1 := ⟨k - 1, by omega⟩
        simp only [val_Split.l1]
        rw [monthDays_f (by omega) (by omega)]
        simp only [Option.bind_some]
        rw [if_neg hd]
theorem split_y {n : Int} (hn : n ≤ 3652059) (e : Nat) : ∀ (y : Int), 1 ≤ y → y + e = 9999 → ydays y < n → ∃ y' m d, IsDate n y' m d ∧ ∀ k, e + 14 ≤ k → val_Split.l0 k n y = some (y', m, d, 0) := by
  induction e with
  | zero =>
    intro y h0 h1 h2
    obtain rfl : y = 9999 := by omega
    have e1 : ydays (9999 + 1) = 3652059 := by decide
    obtain ⟨m, d, hD, hk⟩ := split_m (n := n) (y := 9999) (by decide) (by decide) h2 (by omega) 11 0 12 rfl (by decide) (by simp only [cum]; omega)
    refine ⟨9999, m, d, hD, fun k hk2 => ?_⟩
    obtain ⟨k, rfl⟩ : ∃ m, k = m + 1 := ⟨k - 1, by omega⟩
    simp only [val_Split.l0]
    rw [show wrap64 (9999 + 1) = 9999 + 1 from w64 (by decide) (by decide), yearsDays_f (by decide) (by decide)]
    simp only [Option.bind_some]
    rw [if_neg (by omega), yearsDays_f (by decide) (by decide)]
    simp only [Option.bind_some]
    have yb := ydays_bd (y := 9999) (by decide) (by decide)
    rw [w64 (by omega) (by omega)]
    have := hk k (by omega)
    simp only [cum] at this
    rw [show n - ydays 9999 - 0 = n - ydays 9999 by omega] at this
    exact this
  | succ e ih =>
    intro y h0 h1 h2
    have yb := ydays_bd (y := y) (by omega) (by omega)
    by_cases hlt : ydays (y + 1) < n
    · obtain ⟨y', m, d, hD, hk⟩ := ih (y + 1) (by omega) (by omega) hlt
      refine ⟨y', m, d, hD, fun k hk2 => ?_⟩
      obtain ⟨k, rfl⟩ : ∃ m, k = m + 1 := ⟨k - 1, by omega⟩
      simp only [val_Split.l0]
      rw [w64 (by omega) (by omega), yearsDays_f (by omega) (by omega)]
      simp only [Option.bind_some]
      rw [if_pos hlt]
      exact hk k (by omega)
    · obtain ⟨m, d, hD, hk⟩ := split_m (n := n) (y := y) (by omega) (by omega) h2 (by omega) 11 0 12 rfl (by decide) (by simp only [cum]; omega)
      refine ⟨y, m, d, hD, fun k hk2 => ?_⟩
      obtain ⟨k, rfl⟩ : ∃ m, k = m + 1 := ⟨k - 1, by omega⟩
      simp only [val_Split.l0]
      rw [w64 (by omega) (by omega), yearsDays_f (by omega) (by omega)]
      simp only [Option.bind_some]
      rw [if_neg hlt, yearsDays_f (by omega) (by omega)]
      simp only [Option.bind_some]
      rw [w64 (by omega) (by omega)]
      have := hk k (by omega)
      simp only [cum] at this
      rw [show n - ydays y - 0 = n - ydays y by omega] at this
      exact this
theorem split_some {n : Int} (h0 : 1 ≤ n) (h1 : n ≤ 3652059) : ∃ y m d, IsDate n y m d ∧ ∀ k, 11000 ≤ k → val_Split.f k n = some (y, m, d, 0) := by
  have q0 : 0 ≤ n / 366 := by omega
  have q1 : n / 366 ≤ 9978 := by omega
  have hy : ydays (n / 366 + 1) < n := by
    unfold ydays
    omega
  obtain ⟨y, m, d, hD, hk⟩ := split_y h1 (9998 - (n / 366).toNat) (n / 366 + 1) (by omega) (by omega) hy
  refine ⟨y, m, d, hD, fun k hk2 => ?_⟩
  unfold val_Split.f
  rw [isDay_f]
  simp only [Option.bind_some]
  rw [if_pos (by simp; omega), if_neg (by omega), Int.tdiv_eq_ediv_of_nonneg (by omega), w64 (x := n / 366) (by omega) (by omega), w64 (by omega) (by omega)]
  exact hk k (by omega)
theorem split_zero (k : Nat) : val_Split.f k 0 = some (0, 0, 0, 0) := by
  unfold val_Split.f
  rw [isDay_f]
  simp
theorem split_no {n : Int} (h : ¬ (0 ≤ n ∧ n ≤ 3652059)) (k : Nat) : val_Split.f k n = some (0, 0, 0, 1) := by
  unfold val_Split.f
  rw [isDay_f]
  simp only [Option.bind_some]
  rw [if_neg (by simp only [decide_eq_true_eq]; exact h)]
/-- The date of a day's number is the date. -/
theorem split_is {n y m d : Int} (h : IsDate n y m d) (k : Nat) (hk : 11000 ≤ k) : val_Split.f k n = some (y, m, d, 0) := by
  have b := isDate_bd h
  obtain ⟨y', m', d', h', e⟩ := split_some b.1 b.2
  obtain ⟨rfl, rfl, rfl⟩ := isDate_one h h'
  exact e k hk
end Go.Proofs.YtplbjaandkdhjaaDoor.L1
