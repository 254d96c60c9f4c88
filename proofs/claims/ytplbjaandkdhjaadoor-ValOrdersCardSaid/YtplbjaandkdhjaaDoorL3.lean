/- The operations of values: what the program gives is what the reference gives: the pure laws. -/
import Derived.Test.YtplbjaandkdhjaaDoorL1
import Derived.Test.YtplbjaandkdhjaaDoorL2
import Derived.Test.YtplbjaandkdhjaaDoorPAx4
import Derived.Test.YtplbjaandkdhjaaDoorPAx5
import Derived.Test.YtplbjaandkdhjaaDoorPAx6
import Derived.Test.YtplbjaandkdhjaaDoorPAx7
import Derived.Test.YtplbjaandkdhjaaDoorPAx9
import Derived.Test.YtplbjaandkdhjaaDoorPAx10
import Derived.Test.YtplbjaandkdhjaaDoorPAx12
import Derived.Test.YtplbjaandkdhjaaDoorPAx13
import Derived.Test.YtplbjaandkdhjaaDoorPAx14
import Derived.Test.YtplbjaandkdhjaaDoorPAx16
import Derived.Test.YtplbjaandkdhjaaDoorPAx17
import Derived.Test.YtplbjaandkdhjaaDoorPAx0
import Derived.Test.YtplbjaandkdhjaaDoorH0
namespace Go.Proofs.YtplbjaandkdhjaaDoor.L1
open Go.RowKit Go.Proofs.YtplbjaandkdhjaaDoorW.PrintWords Go.Proofs.YtplbjaandkdhjaaDoor.PA Go.Proofs.YtplbjaandkdhjaaDoor.PB Go.Proofs.YtplbjaandkdhjaaDoor.H1

set_option linter.unusedVariables false
set_option linter.unusedSimpArgs false
/-- A result: its kind, its number, its text, why there is none. -/
abbrev R := Int × Int × ByteArray × Int
def died (n : Int) : R := (0, 0, (⟨#[]⟩ : ByteArray), n)
def numV (n : Int) : R := if -1000000000000000 ≤ n ∧ n ≤ 1000000000000000 then (2, n, (⟨#[]⟩ : ByteArray), 0) else died 3
theorem died_f (n : Int) : val_died.f n = some (died n) := rfl
theorem number_f (n : Int) : val_number.f n = some (numV n) := by
  unfold val_number.f numV
  rw [isNum_f]
  simp only [Option.bind_some, died_f]
  by_cases h : -1000000000000000 ≤ n ∧ n ≤ 1000000000000000
  · rw [if_pos h, if_pos (decide_eq_true h)]
  · rw [if_neg h, if_neg (by simp only [decide_eq_true_eq]; exact h)]
    try rfl
theorem limited_t (n : Int) : cabinetryref01_limited.f n true = some (numV n) := by
  unfold cabinetryref01_limited.f numV
  rw [if_pos rfl, inNum_f]
  simp only [Option.bind_some]
  by_cases h : -1000000000000000 ≤ n ∧ n ≤ 1000000000000000
  · rw [if_pos h, if_pos (decide_eq_true h)]; rfl
  · rw [if_neg h, if_neg (by simp only [decide_eq_true_eq]; exact h)]
    try rfl
theorem limited_n (n : Int) : cabinetryref01_limited.f n false = some (died 3) := by
  unfold cabinetryref01_limited.f
  rw [if_neg (by decide)]
  try rfl
/-- A number that is told with whether it is one, as a result. -/
def limV (p : Int × Bool) : R := if p.2 = true then numV p.1 else died 3
theorem limited_f (p : Int × Bool) : cabinetryref01_limited.f p.1 p.2 = some (limV p) := by
  obtain ⟨n, b⟩ := p
  cases b
  · exact limited_n n
  · exact limited_t n
def dayV (d n : Int) : R := if d = 0 then (3, 0, (⟨#[]⟩ : ByteArray), 0) else if wrap64 (d + n) < 1 then died 3 else if wrap64 (d + n) > 3652059 then died 3 else (3, wrap64 (d + n), (⟨#[]⟩ : ByteArray), 0)
theorem day_f (d n : Int) : val_day.f d n = some (dayV d n) := by
  unfold val_day.f dayV
  simp only [died_f, Option.bind_some]
  split
  · rfl
  · split
    · rfl
    · split <;> rfl
theorem moved_f (d n : Int) : cabinetryref01_moved.f d n = some (dayV d n) := by
  unfold cabinetryref01_moved.f dayV cabinetryref01_Date.f
  simp only [Option.bind_some]
  split
  · rfl
  · split
    · rfl
    · split <;> rfl
def textV (s : ByteArray) : R := if (s.size : Int) > 2048 then died 3 else (4, 0, s, 0)
theorem text_f (s : ByteArray) : val_text.f s = some (textV s) := by
  unfold val_text.f textV
  simp only [died_f, Option.bind_some]
  split <;> rfl
theorem refText_f (s : ByteArray) : cabinetryref01_text.f s = some (textV s) := by
  unfold cabinetryref01_text.f textV cabinetryref01_Text.f
  simp only [Option.bind_some]
  split <;> rfl

/-! products -/
def absV (a : Int) : Int := if a < 0 then -a else a
theorem abs_f {a : Int} (h0 : -1000000000000000 ≤ a) (h1 : a ≤ 1000000000000000) : cabinetryref01_abs.f a = some (absV a) := by
  unfold cabinetryref01_abs.f absV
  split
  · rw [w64 (by omega) (by omega)]
  · rfl
theorem size_f {a : Int} (h0 : -1000000000000000 ≤ a) (h1 : a ≤ 1000000000000000) : val_size.f a = some (absV a) := by
  unfold val_size.f absV mx
  rw [w64 (by omega) (by omega)]
  congr 1
  split <;> split <;> omega
def prodV (a b : Int) : Int × Bool := if a = 0 ∨ b = 0 then (0, true) else if absV a > 1000000000000000 / absV b then (0, false) else (a * b, true)
theorem absV_pos {a : Int} (h : a ≠ 0) : 1 ≤ absV a := by unfold absV; split <;> omega
theorem quo_w {b : Int} (hb : 1 ≤ b) : wrap64 (Int.tdiv (1000000000000000 : Int) b) = 1000000000000000 / b := by
  have e : Int.tdiv (1000000000000000 : Int) b = 1000000000000000 / b := Int.tdiv_eq_ediv_of_nonneg (by omega)
  rw [e]
  have h0 : 0 ≤ (1000000000000000 : Int) / b := Int.ediv_nonneg (by omega) (by omega)
  have h1 : (1000000000000000 : Int) / b ≤ 1000000000000000 := Int.ediv_le_self _ (by omega)
  exact w64 (by omega) (by omega)
theorem prod_le {a b : Int} (ha : a ≠ 0) (hb : b ≠ 0) (h : ¬ absV a > 1000000000000000 / absV b) : absV a * absV b ≤ 1000000000000000 := by
  have h1 : absV a ≤ 1000000000000000 / absV b := by omega
  have h2 := absV_pos hb
  have h3 := Int.mul_le_mul_of_nonneg_right h1 (show (0 : Int) ≤ absV b by omega)
  have h4 := Int.ediv_mul_le (1000000000000000 : Int) (show absV b ≠ 0 by omega)
  omega
theorem abs_mul' (a b : Int) : absV (a * b) = absV a * absV b := by
  unfold absV
  by_cases ha : a < 0 <;> by_cases hb : b < 0
  · have : 0 < a * b := Int.mul_pos_of_neg_of_neg ha hb
    rw [if_neg (by omega), if_pos ha, if_pos hb, Int.neg_mul_neg]
  · by_cases h0 : b = 0
    · subst h0; simp
    · have : a * b < 0 := Int.mul_neg_of_neg_of_pos ha (by omega)
      rw [if_pos this, if_pos ha, if_neg hb, Int.neg_mul]
  · by_cases h0 : a = 0
    · subst h0; simp
    · have : a * b < 0 := Int.mul_neg_of_pos_of_neg (by omega) hb
      rw [if_pos this, if_neg ha, if_pos hb, Int.mul_neg]
  · have : 0 ≤ a * b := Int.mul_nonneg (by omega) (by omega)
    rw [if_neg (by omega), if_neg ha, if_neg hb]
theorem abs_le {a : Int} {n : Int} (h : absV a ≤ n) : -n ≤ a ∧ a ≤ n := by
  unfold absV at h
  split at h <;> omega
theorem le_abs {a : Int} {n : Int} (h0 : -n ≤ a) (h1 : a ≤ n) : absV a ≤ n := by
  unfold absV
  split <;> omega
theorem product_f {a b : Int} (k : Nat) (a0 : -1000000000000000 ≤ a) (a1 : a ≤ 1000000000000000) (b0 : -1000000000000000 ≤ b) (b1 : b ≤ 1000000000000000) : cabinetryref01_product.f (k + 1) a b = some (prodV a b) := by
  unfold cabinetryref01_product.f prodV
  by_cases ha : a = 0
  · rw [if_pos ha, if_pos (Or.inl ha)]; simp [cabinetryref01_product.j0]
  · rw [if_neg ha]
    by_cases hb : b = 0
    · rw [if_pos (Or.inr hb)]; simp [cabinetryref01_product.j0, hb]
    · rw [if_neg (by omega)]
      simp only [cabinetryref01_product.j0]
      rw [if_neg (by simp [hb]), abs_f a0 a1, abs_f b0 b1]
      simp only [Option.bind_some]
      rw [if_neg (by have := absV_pos hb; omega), quo_w (absV_pos hb)]
      split
      · rfl
      · rename_i h
        have hp := prod_le ha hb h
        rw [← abs_mul'] at hp
        have := abs_le hp
        rw [w64 (by omega) (by omega)]
theorem prod_num {a b : Int} (a0 : -1000000000000000 ≤ a) (a1 : a ≤ 1000000000000000) (b0 : -1000000000000000 ≤ b) (b1 : b ≤ 1000000000000000) : (prodV a b).2 = true → -1000000000000000 ≤ (prodV a b).1 ∧ (prodV a b).1 ≤ 1000000000000000 := by
  unfold prodV
  by_cases h : a = 0 ∨ b = 0
  · rw [if_pos h]; intro _; exact ⟨by decide, by decide⟩
  · rw [if_neg h]
    split
    · intro h; cases h
    · rename_i h2
      intro _
      have hp := prod_le (by omega) (by omega) h2
      rw [← abs_mul'] at hp
      exact abs_le hp
theorem limV_num {n : Int} (h0 : -1000000000000000 ≤ n) (h1 : n ≤ 1000000000000000) : limV (n, true) = (2, n, (⟨#[]⟩ : ByteArray), 0) := by
  unfold limV numV
  rw [if_pos rfl, if_pos ⟨h0, h1⟩]
theorem limV_no (n : Int) : limV (n, false) = died 3 := by
  unfold limV
  rw [if_neg (by simp)]
theorem mul_f {a b : Int} (k : Nat) (a0 : -1000000000000000 ≤ a) (a1 : a ≤ 1000000000000000) (b0 : -1000000000000000 ≤ b) (b1 : b ≤ 1000000000000000) : val_mul.f (k + 1) a b = some (limV (prodV a b)) := by
  have z : limV (0, true) = numV 0 := rfl
  by_cases ha : a = 0
  · have e : prodV a b = (0, true) := by unfold prodV; rw [if_pos (Or.inl ha)]
    rw [e, z]
    unfold val_mul.f
    rw [if_pos ha]
    simp only [val_mul.j0, if_true, number_f, Option.bind_some]
  · by_cases hb : b = 0
    · have e : prodV a b = (0, true) := by unfold prodV; rw [if_pos (Or.inr hb)]
      rw [e, z]
      unfold val_mul.f
      rw [if_neg ha, hb]
      simp only [val_mul.j0, BEq.rfl, if_true, number_f, Option.bind_some]
    · have u : val_mul.f (k + 1) a b = if absV a > 1000000000000000 / absV b then some (died 3) else val_number.f (wrap64 (a * b)) := by
        unfold val_mul.f
        rw [if_neg ha]
        simp only [val_mul.j0]
        rw [if_neg (by simp [hb]), size_f a0 a1, size_f b0 b1]
        simp only [Option.bind_some]
        rw [if_neg (by have := absV_pos hb; omega), quo_w (absV_pos hb)]
        split
        · rfl
        · rw [number_f]; rfl
      rw [u]
      by_cases hov : absV a > 1000000000000000 / absV b
      · have e : prodV a b = (0, false) := by unfold prodV; rw [if_neg (by omega), if_pos hov]
        rw [if_pos hov, e, limV_no]
      · have e : prodV a b = (a * b, true) := by unfold prodV; rw [if_neg (by omega), if_neg hov]
        have hp := prod_le ha hb hov
        rw [← abs_mul'] at hp
        have := abs_le hp
        rw [if_neg hov, e, w64 (by omega) (by omega), number_f]
        rfl

/-! powers -/
/-- Both powers go on alike, for a base that is at least 2 in size: at most 50 rounds. -/
theorem pow_go {a b : Int} (ha2 : 2 ≤ absV a) (a0 : -1000000000000000 ≤ a) (a1 : a ≤ 1000000000000000) (b1 : b ≤ 1000000000000000) (d : Nat) :
    ∀ (i : Nat) (n : Int), d + i = 50 → (2 : Int) ^ i ≤ absV n → absV n ≤ 1000000000000000 → ∃ p : Int × Bool, (p.2 = true → absV p.1 ≤ 1000000000000000) ∧
      (∀ k, d + 1 < k → cabinetryref01_power.l0 k a b n i = some p) ∧ (∀ k, d + 1 < k → val_pow.l0 k a b i 2 n (⟨#[]⟩ : ByteArray) 0 = some (limV p)) := by
  induction d with
  | zero =>
    intro i n hi h1 h2
    exfalso
    obtain rfl : i = 50 := by omega
    have : (2 : Int) ^ 50 = 1125899906842624 := by decide
    omega
  | succ d ih =>
    intro i n hi h1 h2
    have nb := abs_le h2
    by_cases hlt : (i : Int) < b
    · have hpf : ∀ k, cabinetryref01_product.f (k + 1) n a = some (prodV n a) := fun k => product_f k nb.1 nb.2 a0 a1
      have hmf : ∀ k, val_mul.f (k + 1) n a = some (limV (prodV n a)) := fun k => mul_f k nb.1 nb.2 a0 a1
      have hw : wrap64 ((i : Int) + 1) = ((i + 1 : Nat) : Int) := by rw [w64 (by omega) (by omega)]; omega
      have hp1 : (1 : Int) ≤ 2 ^ i := Int.pow_pos (by decide)
      have hn0 : n ≠ 0 := by intro h; subst h; simp [absV] at h1; omega
      have ha0 : a ≠ 0 := by intro h; subst h; simp [absV] at ha2
      by_cases hov : absV n > 1000000000000000 / absV a
      · have e : prodV n a = (0, false) := by unfold prodV; rw [if_neg (by omega), if_pos hov]
        refine ⟨(0, false), by simp, ?_, ?_⟩
        · intro k hk
          obtain ⟨k, rfl⟩ : ∃ m, k = m + 2 := ⟨k - 2, by omega⟩
          simp only [cabinetryref01_power.l0]
          rw [if_pos hlt, hpf, e]; simp
        · intro k hk
          obtain ⟨k, rfl⟩ : ∃ m, k = m + 2 := ⟨k - 2, by omega⟩
          simp only [val_pow.l0]
          rw [if_pos hlt, hmf, e]; simp [limV, died]
      · have e : prodV n a = (n * a, true) := by unfold prodV; rw [if_neg (by omega), if_neg hov]
        have hle := prod_le hn0 ha0 hov
        rw [← abs_mul'] at hle
        have h3 : (2 : Int) ^ (i + 1) ≤ absV (n * a) := by
          rw [abs_mul', Int.pow_succ]
          exact Int.mul_le_mul h1 ha2 (by decide) (by omega)
        obtain ⟨p, q0, q1, q2⟩ := ih (i + 1) (n * a) (by omega) h3 hle
        have bb := abs_le hle
        refine ⟨p, q0, ?_, ?_⟩
        · intro k hk
          obtain ⟨k, rfl⟩ : ∃ m, k = m + 2 := ⟨k - 2, by omega⟩
          rw [cabinetryref01_power.l0]
          rw [if_pos hlt, hpf, e]
          simp only [Option.bind_some, if_true, hw]
          exact q1 (k + 1) (by omega)
        · intro k hk
          obtain ⟨k, rfl⟩ : ∃ m, k = m + 2 := ⟨k - 2, by omega⟩
          rw [val_pow.l0]
          rw [if_pos hlt, hmf, e]
          have el : limV (n * a, true) = (2, n * a, (⟨#[]⟩ : ByteArray), 0) := by
            unfold limV numV
            rw [if_pos rfl, if_pos ⟨bb.1, bb.2⟩]
          rw [el]
          simp only [Option.bind_some, if_true, hw]
          exact q2 (k + 1) (by omega)
    · refine ⟨(n, true), fun _ => h2, ?_, ?_⟩
      · intro k hk
        obtain ⟨k, rfl⟩ : ∃ m, k = m + 1 := ⟨k - 1, by omega⟩
        simp only [cabinetryref01_power.l0]
        rw [if_neg hlt]
      · intro k hk
        obtain ⟨k, rfl⟩ : ∃ m, k = m + 1 := ⟨k - 1, by omega⟩
        simp only [val_pow.l0]
        rw [if_neg hlt]
        unfold limV numV
        rw [if_pos rfl, if_pos ⟨nb.1, nb.2⟩]
theorem one_f : val_number.f 1 = some (2, 1, (⟨#[]⟩ : ByteArray), 0) := rfl
theorem powj_f (k : Nat) (a b : Int) : val_pow.j0 (k + 1) a b = val_pow.l0 k a b 0 2 1 (⟨#[]⟩ : ByteArray) 0 := by
  simp only [val_pow.j0, one_f, Option.bind_some]
theorem powl_stop (k : Nat) (a b i x n : Int) (s : ByteArray) (y : Int) (h : ¬ i < b) : val_pow.l0 (k + 1) a b i x n s y = some (x, n, s, y) := by
  rw [val_pow.l0, if_neg h]
theorem pow_f {a b : Int} (a0 : -1000000000000000 ≤ a) (a1 : a ≤ 1000000000000000) (b0 : -1000000000000000 ≤ b) (b1 : b ≤ 1000000000000000) :
    ∃ p : Int × Bool, (∀ k, 100 ≤ k → cabinetryref01_power.f k a b = some p) ∧ val_pow.f 100 a b = some (limV p) := by
  by_cases hb : b < 0
  · refine ⟨(0, false), fun k _ => ?_, ?_⟩
    · unfold cabinetryref01_power.f; rw [if_pos hb]
    · unfold val_pow.f; rw [if_pos hb, died_f]; rfl
  · by_cases ha : 2 ≤ absV a
    · obtain ⟨p, q0, q1, q2⟩ := pow_go (b := b) ha a0 a1 b1 50 0 1 rfl (by decide) (by decide)
      by_cases hb0 : b = 0
      · subst hb0
        refine ⟨(1, true), fun k hk => ?_, ?_⟩
        · obtain ⟨k, rfl⟩ : ∃ m, k = m + 1 := ⟨k - 1, by omega⟩
          unfold cabinetryref01_power.f; rw [if_neg (by decide), if_pos rfl]; simp [cabinetryref01_power.j0]
        · unfold val_pow.f
          rw [if_neg (by decide), size_f a0 a1]
          simp only [Option.bind_some]
          rw [if_neg (by omega), powj_f]
          rw [powl_stop 98 _ _ _ _ _ _ _ (by decide), limV_num (by decide) (by decide)]
      · have ha1 : a ≠ 1 := by intro h; subst h; simp [absV] at ha
        have ham : a ≠ -1 := by intro h; subst h; simp [absV] at ha
        have ha0 : a ≠ 0 := by intro h; subst h; simp [absV] at ha
        refine ⟨p, fun k hk => ?_, ?_⟩
        · obtain ⟨k, rfl⟩ : ∃ m, k = m + 1 := ⟨k - 1, by omega⟩
          unfold cabinetryref01_power.f
          rw [if_neg hb, if_neg hb0]
          simp only [cabinetryref01_power.j0]
          rw [if_neg (by simp [ha1]), if_neg ha0, if_neg ham]
          exact q1 k (by omega)
        · unfold val_pow.f
          rw [if_neg hb, size_f a0 a1]
          simp only [Option.bind_some]
          rw [if_neg (by omega), powj_f]
          exact q2 99 (by omega)
    · have h3 : a = 0 ∨ a = 1 ∨ a = -1 := by
        have := abs_le (show absV a ≤ 1 by omega); omega
      have hs : val_pow.f 100 a b = val_pow.l0 99 a (mn b (wrap64 (2 + Int.tmod b 2))) 0 2 1 (⟨#[]⟩ : ByteArray) 0 := by
        unfold val_pow.f
        rw [if_neg hb, size_f a0 a1]
        simp only [Option.bind_some]
        rw [if_pos (by omega), powj_f]
      have tm : Int.tmod b 2 = b % 2 := Int.tmod_eq_emod_of_nonneg (by omega)
      have wm : wrap64 (2 + Int.tmod b 2) = 2 + b % 2 := by rw [tm, w64 (by omega) (by omega)]
      have c4 : (b = 0 ∧ mn b (2 + b % 2) = 0) ∨ (b = 1 ∧ mn b (2 + b % 2) = 1) ∨ (2 ≤ b ∧ b % 2 = 0 ∧ mn b (2 + b % 2) = 2) ∨ (3 ≤ b ∧ b % 2 = 1 ∧ mn b (2 + b % 2) = 3) := by
        unfold mn; split <;> omega
      rw [wm] at hs
      rcases c4 with ⟨rfl, e⟩ | ⟨rfl, e⟩ | ⟨hb2, hm, e⟩ | ⟨hb2, hm, e⟩
      · rw [e] at hs
        refine ⟨(1, true), fun k hk => ?_, ?_⟩
        · obtain ⟨k, rfl⟩ : ∃ m, k = m + 1 := ⟨k - 1, by omega⟩
          unfold cabinetryref01_power.f; rw [if_neg (by decide), if_pos rfl]; simp [cabinetryref01_power.j0]
        · rw [hs]; rcases h3 with rfl | rfl | rfl <;> kernel_rfl
      · rw [e] at hs
        rcases h3 with rfl | rfl | rfl
        · refine ⟨(0, true), fun k hk => ?_, ?_⟩
          · obtain ⟨k, rfl⟩ : ∃ m, k = m + 1 := ⟨k - 1, by omega⟩
            unfold cabinetryref01_power.f; rw [if_neg (by omega), if_neg (by omega)]
            simp only [cabinetryref01_power.j0]
            rw [show ((0 : Int) == 1) = false from rfl, if_neg (by decide), if_pos trivial]
          · rw [hs]; kernel_rfl
        · refine ⟨(1, true), fun k hk => ?_, ?_⟩
          · obtain ⟨k, rfl⟩ : ∃ m, k = m + 1 := ⟨k - 1, by omega⟩
            unfold cabinetryref01_power.f; rw [if_neg (by omega), if_neg (by omega)]
            simp only [cabinetryref01_power.j0]
            rw [show ((1 : Int) == 1) = true from rfl, if_pos rfl]
          · rw [hs]; kernel_rfl
        · refine ⟨(-1, true), fun k hk => ?_, ?_⟩
          · obtain ⟨k, rfl⟩ : ∃ m, k = m + 1 := ⟨k - 1, by omega⟩
            unfold cabinetryref01_power.f; rw [if_neg (by omega), if_neg (by omega)]
            simp only [cabinetryref01_power.j0, tm]
            rw [show ((-1 : Int) == 1) = false from rfl, if_neg (by decide), if_neg (by decide), if_pos trivial]
            kernel_rfl
          · rw [hs]; kernel_rfl
      · rw [e] at hs
        rcases h3 with rfl | rfl | rfl
        · refine ⟨(0, true), fun k hk => ?_, ?_⟩
          · obtain ⟨k, rfl⟩ : ∃ m, k = m + 1 := ⟨k - 1, by omega⟩
            unfold cabinetryref01_power.f; rw [if_neg (by omega), if_neg (by omega)]
            simp only [cabinetryref01_power.j0]
            rw [show ((0 : Int) == 1) = false from rfl, if_neg (by decide), if_pos trivial]
          · rw [hs]; kernel_rfl
        · refine ⟨(1, true), fun k hk => ?_, ?_⟩
          · obtain ⟨k, rfl⟩ : ∃ m, k = m + 1 := ⟨k - 1, by omega⟩
            unfold cabinetryref01_power.f; rw [if_neg (by omega), if_neg (by omega)]
            simp only [cabinetryref01_power.j0]
            rw [show ((1 : Int) == 1) = true from rfl, if_pos rfl]
          · rw [hs]; kernel_rfl
        · refine ⟨(1, true), fun k hk => ?_, ?_⟩
          · obtain ⟨k, rfl⟩ : ∃ m, k = m + 1 := ⟨k - 1, by omega⟩
            unfold cabinetryref01_power.f; rw [if_neg (by omega), if_neg (by omega)]
            simp only [cabinetryref01_power.j0, tm]
            rw [show ((-1 : Int) == 1) = false from rfl, if_neg (by decide), if_neg (by decide), if_pos trivial, hm]
            kernel_rfl
          · rw [hs]; kernel_rfl
      · rw [e] at hs
        rcases h3 with rfl | rfl | rfl
        · refine ⟨(0, true), fun k hk => ?_, ?_⟩
          · obtain ⟨k, rfl⟩ : ∃ m, k = m + 1 := ⟨k - 1, by omega⟩
            unfold cabinetryref01_power.f; rw [if_neg (by omega), if_neg (by omega)]
            simp only [cabinetryref01_power.j0]
            rw [show ((0 : Int) == 1) = false from rfl, if_neg (by decide), if_pos trivial]
          · rw [hs]; kernel_rfl
        · refine ⟨(1, true), fun k hk => ?_, ?_⟩
          · obtain ⟨k, rfl⟩ : ∃ m, k = m + 1 := ⟨k - 1, by omega⟩
            unfold cabinetryref01_power.f; rw [if_neg (by omega), if_neg (by omega)]
            simp only [cabinetryref01_power.j0]
            rw [show ((1 : Int) == 1) = true from rfl, if_pos rfl]
          · rw [hs]; kernel_rfl
        · refine ⟨(-1, true), fun k hk => ?_, ?_⟩
          · obtain ⟨k, rfl⟩ : ∃ m, k = m + 1 := ⟨k - 1, by omega⟩
            unfold cabinetryref01_power.f; rw [if_neg (by omega), if_neg (by omega)]
            simp only [cabinetryref01_power.j0, tm]
            rw [show ((-1 : Int) == 1) = false from rfl, if_neg (by decide), if_neg (by decide), if_pos trivial, hm]
            kernel_rfl
          · rw [hs]; kernel_rfl
end Go.Proofs.YtplbjaandkdhjaaDoor.L1
