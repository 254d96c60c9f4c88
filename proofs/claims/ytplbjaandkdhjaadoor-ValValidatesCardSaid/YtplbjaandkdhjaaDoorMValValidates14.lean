-- Written by a program of this session (wip/merge.py): the texts of this claim, joined.
import Derived.KernelRfl
import Derived.Test.YtplbjaandkdhjaaDoorMValValidates1
import Derived.Test.YtplbjaandkdhjaaDoorMValValidates2
import Derived.Test.YtplbjaandkdhjaaDoorMValValidates3
import Derived.Test.YtplbjaandkdhjaaDoorMValValidates4
import Derived.Test.YtplbjaandkdhjaaDoorMValValidates5
import Derived.Test.YtplbjaandkdhjaaDoorMValValidates12
import Derived.Test.YtplbjaandkdhjaaDoorMValValidates13
namespace Go.Proofs.YtplbjaandkdhjaaDoor.PA
end Go.Proofs.YtplbjaandkdhjaaDoor.PA
namespace Go.Proofs.YtplbjaandkdhjaaDoor.PB
end Go.Proofs.YtplbjaandkdhjaaDoor.PB
namespace Go.Proofs.YtplbjaandkdhjaaDoor.PC
end Go.Proofs.YtplbjaandkdhjaaDoor.PC
namespace Go.Proofs.YtplbjaandkdhjaaDoor.H1
end Go.Proofs.YtplbjaandkdhjaaDoor.H1
namespace Go.Proofs.YtplbjaandkdhjaaDoor.L1
end Go.Proofs.YtplbjaandkdhjaaDoor.L1
namespace Go.Proofs.YtplbjaandkdhjaaDoor.PA
open Go.RowKit Go.Proofs.YtplbjaandkdhjaaDoorW.PrintWords Go.Proofs.YtplbjaandkdhjaaDoorW.PrintLast Go.Proofs.YtplbjaandkdhjaaDoorW.PrintMore
attribute [local go_sem] max2_int min2_int max_two min_two max_three min_three max_four min_four   -- for this text's walks alone
set_option linter.unusedVariables false
set_option linter.unusedSimpArgs false
mutual
def cabinetryref01_Days.j0 : Nat → Int → Int → Int → Bool → Option (Int × Int)
 | 0, _, _, _, _ => none
 | k + 1, x0, x1, x2, x35 => if x35 = true then (some (0, 1)) else (cabinetryref01_Days.l0 k x0 x1 x2 1)
def cabinetryref01_Days.l0 : Nat → Int → Int → Int → Int → Option (Int × Int)
 | 0, _, _, _, _ => none
 | k + 1, x0, x1, x8, x9 => if x9 < x1 then ((cabinetryref01_length.f x0 x9).bind fun t363 => (cabinetryref01_Days.l0 k x0 x1 (wrap64 (x8 + t363)) (wrap64 (x9 + 1)))) else (some (wrap64 ((wrap64 ((wrap64 ((wrap64 (x8 + (wrap64 (365 * (wrap64 (x0 - 1)))))) + (wrap64 (Int.tdiv (wrap64 (x0 - 1)) 4)))) - (wrap64 (Int.tdiv (wrap64 (x0 - 1)) 100)))) + (wrap64 (Int.tdiv (wrap64 (x0 - 1)) 400))), 0))
end
def cabinetryref01_Days.f (k : Nat) (a0 : Int) (a1 : Int) (a2 : Int) : Option (Int × Int) := if a0 < 1 then (cabinetryref01_Days.j0 k a0 a1 a2 true) else (if a0 > 9999 then (cabinetryref01_Days.j0 k a0 a1 a2 true) else (if a1 < 1 then (cabinetryref01_Days.j0 k a0 a1 a2 true) else (if a1 > 12 then (cabinetryref01_Days.j0 k a0 a1 a2 true) else (if a2 < 1 then (cabinetryref01_Days.j0 k a0 a1 a2 true) else ((cabinetryref01_length.f a0 a1).bind fun t362 => (cabinetryref01_Days.j0 k a0 a1 a2 (decide (a2 > t362))))))))
set_option maxHeartbeats 8000000 in
set_option maxRecDepth 100000 in
theorem cabinetryref01_Days.calls (k : Nat) (a0 : Int) (a1 : Int) (a2 : Int) (r1 : Int) (r2 : Int) (w : World) (h : cabinetryref01_Days.f k a0 a1 a2 = some (r1, r2)) :
  Calls Tryd.prog 23 #[.int .i64 a0, .int .i64 a1, .int .i64 a2] w fun e w' => e = .returned (.tuple #[.int .i64 r1, .int .i64 r2]) ∧ Drawn0 w w' := by
 have H : (if a0 < 1 then (cabinetryref01_Days.j0 k a0 a1 a2 true) else (if a0 > 9999 then (cabinetryref01_Days.j0 k a0 a1 a2 true) else (if a1 < 1 then (cabinetryref01_Days.j0 k a0 a1 a2 true) else (if a1 > 12 then (cabinetryref01_Days.j0 k a0 a1 a2 true) else (if a2 < 1 then (cabinetryref01_Days.j0 k a0 a1 a2 true) else ((cabinetryref01_length.f a0 a1).bind fun t362 => (cabinetryref01_Days.j0 k a0 a1 a2 (decide (a2 > t362))))))))) = some (r1, r2) := h
 clear h
 have HC4 := Aside0.mk H
 clear H
 go_enter Tryd.func23, Tryd.ntmps23
 go_upto_region 1 with (fail)
 go_cut [35] (fun v35 wc => ∃ (kq : Nat) (x35_3 : Bool), v35 = .bool x35_3 ∧ Aside0 (cabinetryref01_Days.j0 kq a0 a1 a2 x35_3 = some (r1, r2)) ∧ Aside0 (kq ≤ k) ∧ Drawn0 w wc)
 case first =>
  have H := HC4.out
  clear HC4
  by_cases c5 : a0 < 1
  ·rw [if_pos c5] at H
   have c5b0 : decide (a0 < 1) = true := decide_eq_true c5
   clear c5
   (first | rw [c5b0] | (simp only [i64_w, i32_w]; rw [c5b0]) | skip)
   have H' := Aside0.mk H
   clear H
   go_wp2
   go_meet
   case rel => exact ⟨_, (true), (by first | rfl | (simp; done) | (simp [*]; done)), H', ⟨by first | omega | exact Nat.le_refl _⟩, by repeat (first | exact Drawn0.refl _ | apply Drawn0.step)⟩
  ·rw [if_neg c5] at H
   have c5b0 : decide (a0 < 1) = false := decide_eq_false c5
   clear c5
   (first | rw [c5b0] | (simp only [i64_w, i32_w]; rw [c5b0]) | skip)
   by_cases c6 : a0 > 9999
   ·rw [if_pos c6] at H
    have c6b0 : decide (9999 < a0) = true := decide_eq_true c6
    clear c6
    have H' := Aside0.mk H
    clear H
    go_wp2
    go_meet
    case rel => exact ⟨_, (true), (by first | rfl | (simp; done) | (simp [*]; done)), H', ⟨by first | omega | exact Nat.le_refl _⟩, by repeat (first | exact Drawn0.refl _ | apply Drawn0.step)⟩
   ·rw [if_neg c6] at H
    have c6b0 : decide (9999 < a0) = false := decide_eq_false c6
    clear c6
    by_cases c7 : a1 < 1
    ·rw [if_pos c7] at H
     have c7b0 : decide (a1 < 1) = true := decide_eq_true c7
     clear c7
     have H' := Aside0.mk H
     clear H
     go_wp2
     go_meet
     case rel => exact ⟨_, (true), (by first | rfl | (simp; done) | (simp [*]; done)), H', ⟨by first | omega | exact Nat.le_refl _⟩, by repeat (first | exact Drawn0.refl _ | apply Drawn0.step)⟩
    ·rw [if_neg c7] at H
     have c7b0 : decide (a1 < 1) = false := decide_eq_false c7
     clear c7
     by_cases c8 : a1 > 12
     ·rw [if_pos c8] at H
      have c8b0 : decide (12 < a1) = true := decide_eq_true c8
      clear c8
      have H' := Aside0.mk H
      clear H
      go_wp2
      go_meet
      case rel => exact ⟨_, (true), (by first | rfl | (simp; done) | (simp [*]; done)), H', ⟨by first | omega | exact Nat.le_refl _⟩, by repeat (first | exact Drawn0.refl _ | apply Drawn0.step)⟩
     ·rw [if_neg c8] at H
      have c8b0 : decide (12 < a1) = false := decide_eq_false c8
      clear c8
      by_cases c9 : a2 < 1
      ·rw [if_pos c9] at H
       have c9b0 : decide (a2 < 1) = true := decide_eq_true c9
       clear c9
       have H' := Aside0.mk H
       clear H
       go_wp2
       go_meet
       case rel => exact ⟨_, (true), (by first | rfl | (simp; done) | (simp [*]; done)), H', ⟨by first | omega | exact Nat.le_refl _⟩, by repeat (first | exact Drawn0.refl _ | apply Drawn0.step)⟩
      ·rw [if_neg c9] at H
       have c9b0 : decide (a2 < 1) = false := decide_eq_false c9
       clear c9
       replace H := Option.bind_eq_some_iff.mp H
       obtain ⟨t362, A100, H⟩ := H
       replace H : (cabinetryref01_Days.j0 k a0 a1 a2 (decide (a2 > t362))) = some (r1, r2) := H
       have A10 := Aside0.mk A100
       clear A100
       have H' := Aside0.mk H
       clear H
       go_wp2_with (first | (go_at_call 71; (with_reducible refine (cabinetryref01_length.calls a0 a1 t362 _ A10.out).mono ?_); rintro e w' ⟨rfl, ⟨nd, rfl⟩⟩))
       go_meet
       case rel => exact ⟨_, (decide (a2 > t362)), (by first | rfl | (simp; done) | (simp [*]; done)), H', ⟨by first | omega | exact Nat.le_refl _⟩, by repeat (first | exact Drawn0.refl _ | apply Drawn0.step)⟩
 case rest =>
  clear HC4
  try clear c2; try clear p2; try clear c5; try clear c5b0; try clear c6; try clear c6b0; try clear c7; try clear c7b0; try clear c8; try clear c8b0; try clear c9; try clear c9b0
  obtain ⟨kq, x35_3, rfl, HA, HJ3, ⟨mc3, rfl⟩⟩ := hcut
  cases kq with
  | zero => exact absurd HA.out (by simp [cabinetryref01_Days.j0])
  | succ kj3 =>
   have H := HA.out
   clear HA
   simp only [cabinetryref01_Days.j0] at H
   by_cases c11 : x35_3 = true
   ·subst c11
    have H1 : (some (0, 1)) = some (r1, r2) := by rw [if_pos rfl] at H; exact H
    clear H
    have H := H1
    clear H1
    simp only [Option.some.injEq, Prod.mk.injEq] at H
    obtain ⟨rfl, rfl⟩ := H
    go_wp2
    go_ret2
    exact ⟨by first | rfl | (simp; done) | (simp [*]; done), by repeat (first | exact Drawn0.refl _ | apply Drawn0.step)⟩
   ·replace c11 := Bool.eq_false_iff.mpr c11
    subst c11
    have H1 : (cabinetryref01_Days.l0 kj3 a0 a1 a2 1) = some (r1, r2) := by rw [if_neg (show ¬ (false = true) by decide)] at H; exact H
    clear H
    have H := H1
    clear H1
    have H' := Aside0.mk H
    clear H
    go_wp2
    go_loopg [8, 9] kj3 (fun kq v8 v9 w' => ∃ (x8_2 : Int) (x9_2 : Int), v8 = .int .i64 x8_2 ∧ v9 = .int .i64 x9_2 ∧ Aside0 (cabinetryref01_Days.l0 kq a0 a1 x8_2 x9_2 = some (r1, r2)) ∧ Aside0 (kq ≤ kj3) ∧ Drawn0 w w')
    case atStart => exact ⟨(a2), (1), (by first | rfl | (simp; done) | (simp [*]; done)), (by first | rfl | (simp; done) | (simp [*]; done)), H', ⟨Nat.le_refl _⟩, by repeat (first | exact Drawn0.refl _ | apply Drawn0.step)⟩
    case round =>
     clear H'
     try clear c1; try clear c2; try clear p2; try clear c3; try clear c5; try clear c5b0; try clear c6; try clear c6b0; try clear c7; try clear c7b0; try clear c8; try clear c8b0; try clear c9; try clear c9b0; try clear c11; try clear p2
     obtain ⟨x8_2, x9_2, rfl, rfl, HA, HK2, ⟨m2, rfl⟩⟩ := hrel
     cases gk with
     | zero => exact absurd HA.out (by simp [cabinetryref01_Days.l0])
     | succ k2 =>
      have H := HA.out
      clear HA
      simp only [cabinetryref01_Days.l0] at H
      by_cases c12 : x9_2 < a1
      ·rw [if_pos c12] at H
       have c12b0 : decide (x9_2 < a1) = true := decide_eq_true c12
       clear c12
       replace H := Option.bind_eq_some_iff.mp H
       obtain ⟨t363, A130, H⟩ := H
       replace H : (cabinetryref01_Days.l0 k2 a0 a1 (wrap64 (x8_2 + t363)) (wrap64 (x9_2 + 1))) = some (r1, r2) := H
       have A13 := Aside0.mk A130
       clear A130
       have H' := Aside0.mk H
       clear H
       go_wp2_with (first | ((with_reducible refine gate_callee (f := 71) rfl ?_); refine goesL_ (some 45) rfl rfl Tryd.func71 (by kernel_rfl) rfl #[.int .i64 a0, .int .i64 x9_2] rfl (by (try simp only [List.map_toArray, List.map_cons, List.map_nil]); first | done | rfl | (simp only [List.length_drop, List.length_take]; rfl)) ?_; (with_reducible refine (cabinetryref01_length.calls a0 x9_2 t363 _ A13.out).mono ?_); rintro e w' ⟨rfl, ⟨nd, rfl⟩⟩; refine ⟨_, rfl, ?_⟩))
       go_roundg k2
       case measure => have := HJ3.out; have := HK2.out; omega
       case rel => exact ⟨(wrap64 (x8_2 + t363)), (wrap64 (x9_2 + 1)), (by first | rfl | (simp; done) | (simp [*]; done)), (by first | rfl | (simp; done) | (simp [*]; done)), H', ⟨by have := HJ3.out; have := HK2.out; omega⟩, by repeat (first | exact Drawn0.refl _ | apply Drawn0.step)⟩
      ·rw [if_neg c12] at H
       have c12b0 : decide (x9_2 < a1) = false := decide_eq_false c12
       clear c12
       simp only [Option.some.injEq, Prod.mk.injEq] at H
       obtain ⟨rfl, rfl⟩ := H
       go_wp2
       go_ret2
       exact ⟨by first | rfl | (simp; done) | (simp [*]; done), by repeat (first | exact Drawn0.refl _ | apply Drawn0.step)⟩
end Go.Proofs.YtplbjaandkdhjaaDoor.PA
namespace Go.Proofs.YtplbjaandkdhjaaDoor.L1
open Go.RowKit Go.Proofs.YtplbjaandkdhjaaDoorW.PrintWords Go.Proofs.YtplbjaandkdhjaaDoor.PA Go.Proofs.YtplbjaandkdhjaaDoor.PB Go.Proofs.YtplbjaandkdhjaaDoor.H1
set_option linter.unusedVariables false
set_option linter.unusedSimpArgs false
def ydays (y : Int) : Int := 365 * (y - 1) + (y - 1) / 4 - (y - 1) / 100 + (y - 1) / 400
theorem leapB_iff {y : Int} (h : 0 ≤ y) : leapB y = true ↔ y % 4 = 0 ∧ (y % 100 ≠ 0 ∨ y % 400 = 0) := by
  unfold leapB
  rw [Int.tmod_eq_emod_of_nonneg h, Int.tmod_eq_emod_of_nonneg h, Int.tmod_eq_emod_of_nonneg h]
  simp
theorem ydays_succ {y : Int} (h : 1 ≤ y) : ydays (y + 1) = ydays y + (if leapB y = true then 366 else 365) := by
  unfold ydays
  by_cases hl : leapB y = true
  · rw [if_pos hl]; rw [leapB_iff (by omega)] at hl; omega
  · rw [if_neg hl]; rw [leapB_iff (by omega)] at hl; omega
theorem yearsDays_f {y : Int} (h0 : 1 ≤ y) (h1 : y ≤ 10001) : val_yearsDays.f y = some (ydays y) := by
  unfold val_yearsDays.f ydays
  have e : wrap64 (y - 1) = y - 1 := w64 (by omega) (by omega)
  rw [e, Int.tdiv_eq_ediv_of_nonneg (by omega), Int.tdiv_eq_ediv_of_nonneg (by omega), Int.tdiv_eq_ediv_of_nonneg (by omega)]
  rw [w64 (x := 365 * (y - 1)) (by omega) (by omega), w64 (x := (y - 1) / 4) (by omega) (by omega), w64 (x := (y - 1) / 100) (by omega) (by omega), w64 (x := (y - 1) / 400) (by omega) (by omega)]
  rw [w64 (x := 365 * (y - 1) + (y - 1) / 4) (by omega) (by omega), w64 (x := 365 * (y - 1) + (y - 1) / 4 - (y - 1) / 100) (by omega) (by omega), w64 (by omega) (by omega)]
theorem ydays_bd {y : Int} (h0 : 1 ≤ y) (h1 : y ≤ 10001) : 0 ≤ ydays y ∧ ydays y ≤ 3652425 := by unfold ydays; omega
theorem ydays_mono {a b : Int} (h0 : 1 ≤ a) (h : a ≤ b) : ydays a ≤ ydays b := by unfold ydays; omega
def cum (y : Int) : Nat → Int
  | 0 => 0
  | m + 1 => cum y m + mdays y ((m : Int) + 1)
theorem mdays_bd (y m : Int) : 28 ≤ mdays y m ∧ mdays y m ≤ 31 := by
  unfold mdays
  split
  · split <;> omega
  · split <;> omega
theorem cum_bd (y : Int) (m : Nat) : 28 * (m : Int) ≤ cum y m ∧ cum y m ≤ 31 * (m : Int) := by
  induction m with
  | zero => simp [cum]
  | succ m ih =>
    have := mdays_bd y ((m : Int) + 1)
    simp only [cum]
    omega
theorem cum_mono (y : Int) (a b : Nat) (h : a ≤ b) : cum y a ≤ cum y b := by
  induction b with
  | zero => obtain rfl : a = 0 := by omega
            exact Int.le_refl _
  | succ b ih =>
    by_cases e : a = b + 1
    · subst e; exact Int.le_refl _
    · have := ih (by omega)
      have := mdays_bd y ((b : Int) + 1)
      simp only [cum]
      omega
theorem cum12 {y : Int} : cum y 12 = if leapB y = true then 366 else 365 := by
  simp only [cum, mdays]
  by_cases hl : leapB y = true
  · simp [hl]
  · simp [hl]
def IsDate (n y m d : Int) : Prop := 1 ≤ y ∧ y ≤ 9999 ∧ 1 ≤ m ∧ m ≤ 12 ∧ 1 ≤ d ∧ d ≤ mdays y m ∧ n = ydays y + cum y (m - 1).toNat + d
theorem cum_succ' {y m : Int} (h : 1 ≤ m) : cum y m.toNat = cum y (m - 1).toNat + mdays y m := by
  obtain ⟨k, rfl⟩ : ∃ k : Nat, m = k + 1 := ⟨(m - 1).toNat, by omega⟩
  rw [show ((k : Int) + 1).toNat = k + 1 by omega, show ((k : Int) + 1 - 1).toNat = k by omega]
  rfl
theorem isDate_year {n y m d : Int} (h : IsDate n y m d) : ydays y < n ∧ n ≤ ydays (y + 1) := by
  obtain ⟨h1, h2, h3, h4, h5, h6, rfl⟩ := h
  have := cum_bd y (m - 1).toNat
  have c := cum_succ' (y := y) h3
  have c2 := cum_mono y m.toNat 12 (by omega)
  rw [cum12] at c2
  rw [ydays_succ h1]
  constructor
  · omega
  · omega
theorem isDate_one {n y m d y' m' d' : Int} (h : IsDate n y m d) (h' : IsDate n y' m' d') : y = y' ∧ m = m' ∧ d = d' := by
  have a := isDate_year h
  have b := isDate_year h'
  obtain ⟨h1, h2, h3, h4, h5, h6, e⟩ := h
  obtain ⟨g1, g2, g3, g4, g5, g6, e'⟩ := h'
  have hy : y = y' := by
    by_cases l : y < y'
    · have := ydays_mono (a := y + 1) (b := y') (by omega) (by omega); omega
    · by_cases l2 : y' < y
      · have := ydays_mono (a := y' + 1) (b := y) (by omega) (by omega); omega
      · omega
  subst hy
  have c := cum_succ' (y := y) h3
  have c' := cum_succ' (y := y) g3
  have hm : m = m' := by
    by_cases l : m < m'
    · have := cum_mono y m.toNat (m' - 1).toNat (by omega); omega
    · by_cases l2 : m' < m
      · have := cum_mono y m'.toNat (m - 1).toNat (by omega); omega
      · omega
  subst hm
  exact ⟨rfl, rfl, by omega⟩
theorem isDate_bd {n y m d : Int} (h : IsDate n y m d) : 1 ≤ n ∧ n ≤ 3652059 := by
  have a := isDate_year h
  have b := ydays_bd h.1 (by have := h.2.1; omega)
  have c := ydays_mono (a := y + 1) (b := 10000) (by have := h.1; omega) (by have := h.2.1; omega)
  have e : ydays 10000 = 3652059 := by decide
  omega
def validD (y m d : Int) : Prop := 1 ≤ y ∧ y ≤ 9999 ∧ 1 ≤ m ∧ m ≤ 12 ∧ 1 ≤ d ∧ d ≤ mdays y m
instance (y m d : Int) : Decidable (validD y m d) := by unfold validD; infer_instance
def daysV (y m d : Int) : Int × Int := if validD y m d then (ydays y + cum y (m - 1).toNat + d, 0) else (0, 1)
theorem monthDays_f {y m : Int} (h : 1 ≤ m) (h2 : m ≤ 12) : val_monthDays.f y m = some (mdays y m) := by
  unfold val_monthDays.f
  rw [if_pos ⟨h, h2⟩]
theorem refLeap_f {y : Int} (h : 0 ≤ y) : cabinetryref01_leap.f y = some (leapB y) := by
  unfold cabinetryref01_leap.f
  have e := leapB_iff h
  rw [Int.tmod_eq_emod_of_nonneg h, Int.tmod_eq_emod_of_nonneg h, Int.tmod_eq_emod_of_nonneg h]
  by_cases h4 : y % 4 = 0
  · rw [if_pos h4]
    by_cases h1 : y % 100 = 0
    · rw [if_pos h1]
      by_cases h4' : y % 400 = 0
      · rw [e.mpr ⟨h4, Or.inr h4'⟩]; simp [h4']
      · have : leapB y = false := by
          cases hb : leapB y
          · rfl
          · have := e.mp hb; omega
        rw [this]; simp [h4']
    · rw [if_neg h1, e.mpr ⟨h4, Or.inl h1⟩]
  · rw [if_neg h4]
    have : leapB y = false := by
      cases hb : leapB y
      · rfl
      · have := e.mp hb; omega
    have h5 : ¬ y % 400 = 0 := by omega
    rw [this]; simp [h5]
theorem refLength_f {y : Int} (h : 0 ≤ y) (m : Int) : cabinetryref01_length.f y m = some (mdays y m) := by
  unfold cabinetryref01_length.f mdays
  rw [refLeap_f h]
  simp only [Option.bind_some]
  by_cases h2 : m = 2
  · rw [if_pos h2, if_pos h2]; split <;> rfl
  · rw [if_neg h2, if_neg h2]
    by_cases h4 : m = 4
    · rw [if_pos h4, if_pos (Or.inl h4)]
    · rw [if_neg h4]
      by_cases h6 : m = 6
      · rw [if_pos h6, if_pos (by omega)]
      · rw [if_neg h6]
        by_cases h9 : m = 9
        · rw [if_pos h9, if_pos (by omega)]
        · rw [if_neg h9]
          by_cases h11 : m = 11
          · rw [if_pos h11, if_pos (by omega)]
          · rw [if_neg h11, if_neg (by omega)]
theorem refDays_l {y : Int} (hy : 1 ≤ y) (hy2 : y ≤ 9999) (M : Nat) (hM : M ≤ 11) (d : Nat) : ∀ (i : Nat) (x : Int) (k : Nat), d + i = M → d < k → 0 ≤ x → x + 31 * (d : Int) ≤ 10000 →
    cabinetryref01_Days.l0 k y ((M : Int) + 1) x ((i : Int) + 1) = some (x + cum y M - cum y i + ydays y, 0) := by
  induction d with
  | zero =>
    intro i x k hi hk h0 h1
    obtain rfl : i = M := by omega
    obtain ⟨k, rfl⟩ : ∃ m, k = m + 1 := ⟨k - 1, by omega⟩
    have e : wrap64 (y - 1) = y - 1 := w64 (by omega) (by omega)
    simp only [cabinetryref01_Days.l0]
    rw [if_neg (by omega), e, Int.tdiv_eq_ediv_of_nonneg (by omega), Int.tdiv_eq_ediv_of_nonneg (by omega), Int.tdiv_eq_ediv_of_nonneg (by omega)]
    rw [w64 (x := 365 * (y - 1)) (by omega) (by omega), w64 (x := (y - 1) / 4) (by omega) (by omega), w64 (x := (y - 1) / 100) (by omega) (by omega), w64 (x := (y - 1) / 400) (by omega) (by omega)]
    rw [w64 (x := x + 365 * (y - 1)) (by omega) (by omega), w64 (x := x + 365 * (y - 1) + (y - 1) / 4) (by omega) (by omega), w64 (x := x + 365 * (y - 1) + (y - 1) / 4 - (y - 1) / 100) (by omega) (by omega), w64 (by omega) (by omega)]
    unfold ydays
    congr 2
    omega
  | succ d ih =>
    intro i x k hi hk h0 h1
    obtain ⟨k, rfl⟩ : ∃ m, k = m + 1 := ⟨k - 1, by omega⟩
    have e : wrap64 ((i : Int) + 1 + 1) = ((i + 1 : Nat) : Int) + 1 := by rw [w64 (by omega) (by omega)]; omega
    have mb := mdays_bd y ((i : Int) + 1)
    have c : cum y (i + 1) = cum y i + mdays y ((i : Int) + 1) := rfl
    simp only [cabinetryref01_Days.l0]
    rw [if_pos (by omega), e, refLength_f (by omega)]
    simp only [Option.bind_some]
    rw [w64 (by omega) (by omega)]
    have := ih (i + 1) (x + mdays y ((i : Int) + 1)) k (by omega) (by omega) (by omega) (by omega)
    rw [this, c]
    congr 2
    omega
theorem refDays_f (y m d : Int) (k : Nat) (hk : 20 ≤ k) : cabinetryref01_Days.f k y m d = some (daysV y m d) := by
  obtain ⟨k, rfl⟩ : ∃ m, k = m + 1 := ⟨k - 1, by omega⟩
  have no : ¬ validD y m d → daysV y m d = (0, 1) := fun h => by unfold daysV; rw [if_neg h]
  have j1 : cabinetryref01_Days.j0 (k + 1) y m d true = some (0, 1) := by simp [cabinetryref01_Days.j0]
  unfold cabinetryref01_Days.f
  by_cases a : y < 1
  · rw [if_pos a, j1, no (by unfold validD; omega)]
  rw [if_neg a]
  by_cases b : y > 9999
  · rw [if_pos b, j1, no (by unfold validD; omega)]
  rw [if_neg b]
  by_cases c : m < 1
  · rw [if_pos c, j1, no (by unfold validD; omega)]
  rw [if_neg c]
  by_cases e : m > 12
  · rw [if_pos e, j1, no (by unfold validD; omega)]
  rw [if_neg e]
  by_cases f : d < 1
  · rw [if_pos f, j1, no (by unfold validD; omega)]
  rw [if_neg f, refLength_f (by omega)]
  simp only [Option.bind_some]
  by_cases g : d > mdays y m
  · rw [decide_eq_true g, j1, no (by unfold validD; omega)]
  · have hv : validD y m d := by unfold validD; omega
    have mb := mdays_bd y m
    obtain ⟨M, rfl⟩ : ∃ M : Nat, m = (M : Int) + 1 := ⟨(m - 1).toNat, by omega⟩
    rw [decide_eq_false g]
    simp only [cabinetryref01_Days.j0]
    rw [if_neg (by decide)]
    have := refDays_l (y := y) (by omega) (by omega) M (by omega) M 0 d k (by omega) (by omega) (by omega) (by omega)
    rw [show ((0 : Nat) : Int) + 1 = 1 from rfl] at this
    rw [this]
    unfold daysV
    rw [if_pos hv, show ((M : Int) + 1 - 1).toNat = M by omega]
    simp only [cum]
    congr 2
    omega
theorem split_m {n y : Int} (hy : 1 ≤ y) (hy2 : y ≤ 9999) (h1 : ydays y < n) (h2 : n ≤ ydays (y + 1)) (e : Nat) : ∀ (M : Nat) (k : Nat), e + M = 11 → e < k → cum y M < n - ydays y →
    ∃ m d, IsDate n y m d ∧ ∀ k, e < k → val_Split.l1 k y (n - ydays y - cum y M) ((M : Int) + 1) = some (y, m, d, 0) := by
  have yb := ydays_bd hy (by omega)
  have s := ydays_succ hy
  have lt : n - ydays y ≤ 366 := by split at s <;> omega
  have c12 := cum12 (y := y)
  induction e with
  | zero =>
    intro M k hM _ hc
    obtain rfl : M = 11 := by omega
    have c : cum y 12 = cum y 11 + mdays y 12 := rfl
    have cb := cum_bd y 11
    have le : n - ydays y - cum y 11 ≤ mdays y 12 := by
      rw [← c12] at s
      omega
    refine ⟨12, n - ydays y - cum y 11, ⟨hy, hy2, by decide, by decide, by omega, le, ?_⟩, fun k hk => ?_⟩
    · show n = ydays y + cum y 11 + (n - ydays y - cum y 11)
      omega
    · obtain ⟨k, rfl⟩ : ∃ m, k = m + 1 := ⟨k - 1, by omega⟩
      simp only [val_Split.l1]
      rw [show ((11 : Nat) : Int) + 1 = 12 from rfl, monthDays_f (by decide) (by decide)]
      simp only [Option.bind_some]
      rw [if_neg (by omega)]
  | succ e ih =>
    intro M k hM hk hc
    have cb := cum_bd y M
    have c : cum y (M + 1) = cum y M + mdays y ((M : Int) + 1) := rfl
    by_cases hd : n - ydays y - cum y M > mdays y ((M : Int) + 1)
    · obtain ⟨m, d, hD, hk2⟩ := ih (M + 1) (e + 1) (by omega) (by omega) (by omega)
      refine ⟨m, d, hD, fun k hk => ?_⟩
      obtain ⟨k, rfl⟩ : ∃ m, k = m + 1 := ⟨k - 1, by omega⟩
      have mb := mdays_bd y ((M : Int) + 1)
      simp only [val_Split.l1]
      rw [monthDays_f (by omega) (by omega)]
      simp only [Option.bind_some]
      rw [if_pos hd, w64 (by omega) (by omega), w64 (by omega) (by omega)]
      have := hk2 k (by omega)
      rw [c] at this
      rw [show n - ydays y - cum y M - mdays y ((M : Int) + 1) = n - ydays y - (cum y M + mdays y ((M : Int) + 1)) by omega, show (M : Int) + 1 + 1 = ((M + 1 : Nat) : Int) + 1 by omega]
      exact this
    · refine ⟨(M : Int) + 1, n - ydays y - cum y M, ⟨hy, hy2, by omega, by omega, by omega, by omega, ?_⟩, fun k hk => ?_⟩
      · rw [show ((M : Int) + 1 - 1).toNat = M by omega]; omega
      · obtain ⟨k, rfl⟩ : ∃ m, k = m + 1 := ⟨k - 1, by omega⟩
        simp only [val_Split.l1]
        rw [monthDays_f (by omega) (by omega)]
        simp only [Option.bind_some]
        rw [if_neg hd]
theorem split_y {n : Int} (hn : n ≤ 3652059) (e : Nat) : ∀ (y : Int), 1 ≤ y → y + e = 9999 → ydays y < n → ∃ y' m d, IsDate n y' m d ∧ ∀ k, e + 14 ≤ k → val_Split.l0 k n y = some (y', m, d, 0) := by
  induction e with
  | zero =>
    intro y h0 h1 h2
    obtain rfl : y = 9999 := by omega
    have e1 : ydays (9999 + 1) = 3652059 := by decide
    obtain ⟨m, d, hD, hk⟩ := split_m (n := n) (y := 9999) (by decide) (by decide) h2 (by omega) 11 0 12 rfl (by decide) (by simp only [cum]; omega)
    refine ⟨9999, m, d, hD, fun k hk2 => ?_⟩
    obtain ⟨k, rfl⟩ : ∃ m, k = m + 1 := ⟨k - 1, by omega⟩
    simp only [val_Split.l0]
    rw [show wrap64 (9999 + 1) = 9999 + 1 from w64 (by decide) (by decide), yearsDays_f (by decide) (by decide)]
    simp only [Option.bind_some]
    rw [if_neg (by omega), yearsDays_f (by decide) (by decide)]
    simp only [Option.bind_some]
    have yb := ydays_bd (y := 9999) (by decide) (by decide)
    rw [w64 (by omega) (by omega)]
    have := hk k (by omega)
    simp only [cum] at this
    rw [show n - ydays 9999 - 0 = n - ydays 9999 by omega] at this
    exact this
  | succ e ih =>
    intro y h0 h1 h2
    have yb := ydays_bd (y := y) (by omega) (by omega)
    by_cases hlt : ydays (y + 1) < n
    · obtain ⟨y', m, d, hD, hk⟩ := ih (y + 1) (by omega) (by omega) hlt
      refine ⟨y', m, d, hD, fun k hk2 => ?_⟩
      obtain ⟨k, rfl⟩ : ∃ m, k = m + 1 := ⟨k - 1, by omega⟩
      simp only [val_Split.l0]
      rw [w64 (by omega) (by omega), yearsDays_f (by omega) (by omega)]
      simp only [Option.bind_some]
      rw [if_pos hlt]
      exact hk k (by omega)
    · obtain ⟨m, d, hD, hk⟩ := split_m (n := n) (y := y) (by omega) (by omega) h2 (by omega) 11 0 12 rfl (by decide) (by simp only [cum]; omega)
      refine ⟨y, m, d, hD, fun k hk2 => ?_⟩
      obtain ⟨k, rfl⟩ : ∃ m, k = m + 1 := ⟨k - 1, by omega⟩
      simp only [val_Split.l0]
      rw [w64 (by omega) (by omega), yearsDays_f (by omega) (by omega)]
      simp only [Option.bind_some]
      rw [if_neg hlt, yearsDays_f (by omega) (by omega)]
      simp only [Option.bind_some]
      rw [w64 (by omega) (by omega)]
      have := hk k (by omega)
      simp only [cum] at this
      rw [show n - ydays y - 0 = n - ydays y by omega] at this
      exact this
theorem split_some {n : Int} (h0 : 1 ≤ n) (h1 : n ≤ 3652059) : ∃ y m d, IsDate n y m d ∧ ∀ k, 11000 ≤ k → val_Split.f k n = some (y, m, d, 0) := by
  have q0 : 0 ≤ n / 366 := by omega
  have q1 : n / 366 ≤ 9978 := by omega
  have hy : ydays (n / 366 + 1) < n := by
    unfold ydays
    omega
  obtain ⟨y, m, d, hD, hk⟩ := split_y h1 (9998 - (n / 366).toNat) (n / 366 + 1) (by omega) (by omega) hy
  refine ⟨y, m, d, hD, fun k hk2 => ?_⟩
  unfold val_Split.f
  rw [isDay_f]
  simp only [Option.bind_some]
  rw [if_pos (by simp; omega), if_neg (by omega), Int.tdiv_eq_ediv_of_nonneg (by omega), w64 (x := n / 366) (by omega) (by omega), w64 (by omega) (by omega)]
  exact hk k (by omega)
theorem split_zero (k : Nat) : val_Split.f k 0 = some (0, 0, 0, 0) := by
  unfold val_Split.f
  rw [isDay_f]
  simp
theorem split_is {n y m d : Int} (h : IsDate n y m d) (k : Nat) (hk : 11000 ≤ k) : val_Split.f k n = some (y, m, d, 0) := by
  have b := isDate_bd h
  obtain ⟨y', m', d', h', e⟩ := split_some b.1 b.2
  obtain ⟨rfl, rfl, rfl⟩ := isDate_one h h'
  exact e k hk
end Go.Proofs.YtplbjaandkdhjaaDoor.L1
namespace Go.Proofs.YtplbjaandkdhjaaDoor.PA
open Go.RowKit Go.Proofs.YtplbjaandkdhjaaDoorW.PrintWords Go.Proofs.YtplbjaandkdhjaaDoorW.PrintLast Go.Proofs.YtplbjaandkdhjaaDoorW.PrintMore
attribute [local go_sem] max2_int min2_int max_two min_two max_three min_three max_four min_four   -- for this text's walks alone
set_option linter.unusedVariables false
set_option linter.unusedSimpArgs false
def val_decimal.f : Nat → Int → Option (ByteArray)
 | 0, _ => none
 | k + 1, a0 => if a0 < 0 then ((val_decimal.f k (wrap64 (-a0))).bind fun t418 => (if 1 + t418.size ≤ 9223372036854775807 then (some ((⟨#[45]⟩ : ByteArray) ++ t418)) else (none))) else (if a0 < 10 then (if 0 ≤ a0 then (if a0 ≤ (wrap64 (a0 + 1)) then (if (wrap64 (a0 + 1)) ≤ 10 then (some ((⟨#[48, 49, 50, 51, 52, 53, 54, 55, 56, 57]⟩ : ByteArray).extract (a0 : Int).toNat ((wrap64 (a0 + 1)) : Int).toNat)) else (none)) else (none)) else (none)) else ((val_decimal.f k (wrap64 (Int.tdiv a0 10))).bind fun t419 => (if 0 ≤ (Int.tmod a0 10) then (if (Int.tmod a0 10) ≤ (wrap64 ((Int.tmod a0 10) + 1)) then (if (wrap64 ((Int.tmod a0 10) + 1)) ≤ 10 then (if t419.size + ((⟨#[48, 49, 50, 51, 52, 53, 54, 55, 56, 57]⟩ : ByteArray).extract ((Int.tmod a0 10) : Int).toNat ((wrap64 ((Int.tmod a0 10) + 1)) : Int).toNat).size ≤ 9223372036854775807 then (some (t419 ++ ((⟨#[48, 49, 50, 51, 52, 53, 54, 55, 56, 57]⟩ : ByteArray).extract ((Int.tmod a0 10) : Int).toNat ((wrap64 ((Int.tmod a0 10) + 1)) : Int).toNat))) else (none)) else (none)) else (none)) else (none))))
theorem val_decimal.mono_l : ∀ k, (∀ y0, LeO (val_decimal.f k y0) (val_decimal.f (k + 1) y0))
 | 0 => fun _ r h => by simp [val_decimal.f] at h
 | k + 1 => by
  have ih0 := val_decimal.mono_l k
  ·intro y0
   unfold val_decimal.f
   repeat' first
   | (with_reducible exact ih0 _)
   | (with_reducible exact LeO.refl _)
   | (with_reducible exact LeO.none _)
   | (with_reducible refine LeO.ite ?_ ?_)
   | (with_reducible refine LeO.bind ?_ (fun _ => ?_))
   | exact ih0 _
   | exact LeO.none _
   | refine LeO.ite ?_ ?_
   | refine LeO.bind ?_ (fun _ => ?_)
theorem val_decimal.mono : ∀ a0 k, LeO (val_decimal.f k a0) (val_decimal.f (k + 1) a0) := by
 intro a0 k
 have ih0 := val_decimal.mono_l k
 exact ih0 a0
def val_decimal.T6 : Bool × List (List Nat × List Nat) := (true, [([], []), ([0], [0]), ([1], [1]), ([], []), ([], []), ([4], [4]), ([], []), ([6], [6]), ([7], [7]), ([3, 5, 8], [3, 5, 8]), ([2, 9], [2, 9]), ([10, 2, 0, 1, 2, 3, 4, 5, 6, 7, 8, 9, 10], [10])])
def val_decimal.B6 : List Nat := [0, 1, 3, 0, 0, 16, 0, 64, 192, 504, 1023, 2047]
theorem val_decimal.tab6 : rtab .any (opsOf Tryd.f90 6) = val_decimal.T6 := by kernel_rfl
theorem val_decimal.bits6 : waitsOk val_decimal.T6.2 val_decimal.B6 = true := by kernel_rfl
set_option maxHeartbeats 8000000 in
set_option maxRecDepth 100000 in
theorem val_decimal.calls (k : Nat) : ∀ (a0 : Int) (r : ByteArray) (w : World) (h : val_decimal.f k a0 = some r),
  Calls Tryd.prog 90 #[.int .i64 a0] w fun e w' => e = .returned (.string r) ∧ Below w.heap.size w w' := by
 induction k using Nat.strongRecOn with
 | _ k ih =>
 intro a0 r w h
 cases k with
 | zero => exact absurd h (by simp [val_decimal.f])
 | succ k =>
 simp only [val_decimal.f] at h
 have HB := Aside0.mk (Below.refl w.heap.size w)
 have H : (if a0 < 0 then ((val_decimal.f k (wrap64 (-a0))).bind fun t418 => (if 1 + t418.size ≤ 9223372036854775807 then (some ((⟨#[45]⟩ : ByteArray) ++ t418)) else (none))) else (if a0 < 10 then (if 0 ≤ a0 then (if a0 ≤ (wrap64 (a0 + 1)) then (if (wrap64 (a0 + 1)) ≤ 10 then (some ((⟨#[48, 49, 50, 51, 52, 53, 54, 55, 56, 57]⟩ : ByteArray).extract (a0 : Int).toNat ((wrap64 (a0 + 1)) : Int).toNat)) else (none)) else (none)) else (none)) else ((val_decimal.f k (wrap64 (Int.tdiv a0 10))).bind fun t419 => (if 0 ≤ (Int.tmod a0 10) then (if (Int.tmod a0 10) ≤ (wrap64 ((Int.tmod a0 10) + 1)) then (if (wrap64 ((Int.tmod a0 10) + 1)) ≤ 10 then (if t419.size + ((⟨#[48, 49, 50, 51, 52, 53, 54, 55, 56, 57]⟩ : ByteArray).extract ((Int.tmod a0 10) : Int).toNat ((wrap64 ((Int.tmod a0 10) + 1)) : Int).toNat).size ≤ 9223372036854775807 then (some (t419 ++ ((⟨#[48, 49, 50, 51, 52, 53, 54, 55, 56, 57]⟩ : ByteArray).extract ((Int.tmod a0 10) : Int).toNat ((wrap64 ((Int.tmod a0 10) + 1)) : Int).toNat))) else (none)) else (none)) else (none)) else (none))))) = some r := h
 clear h
 by_cases c2 : a0 < 0
 ·rw [if_pos c2] at H
  have c2b0 : decide (a0 < 0) = true := decide_eq_true c2
  clear c2
  replace H := Option.bind_eq_some_iff.mp H
  obtain ⟨t418, A30, H⟩ := H
  replace H : (if 1 + t418.size ≤ 9223372036854775807 then (some ((⟨#[45]⟩ : ByteArray) ++ t418)) else (none)) = some r := H
  have A3 := Aside0.mk A30
  clear A30
  by_cases c4 : 1 + t418.size ≤ 9223372036854775807
  ·rw [if_pos c4] at H
   have c4b0 := eq_true c4
   have c4b1 : decide (1 + t418.size ≤ 9223372036854775807) = true := decide_eq_true c4
   try have c4b2 : (9223372036854775807 < 1 + t418.size) = False := eq_false (Nat.not_lt.2 c4)
   obtain rfl := Option.some.inj H
   simp only [Option.some.injEq, Prod.mk.injEq] at H
   obtain ⟨rfl⟩ := H
   go_enter Tryd.func90, Tryd.ntmps90
   go_wp2_with (first | ((with_reducible refine gate_callee (f := 90) rfl ?_); refine goesL_ (some 8) rfl rfl Tryd.func90 (by kernel_rfl) rfl #[.int .i64 (wrap64 (-a0))] rfl (by (try simp only [List.map_toArray, List.map_cons, List.map_nil]); first | done | rfl | (simp only [List.length_drop, List.length_take]; rfl)) ?_; (with_reducible refine (ih k (by omega) (wrap64 (-a0)) t418 _ A3.out).mono ?_); rintro e w5 ⟨rfl, hb⟩; refine ⟨_, rfl, ?_⟩; have n0_ := Aside0.mk (below_step (by repeat (first | (with_reducible first | exact HB.out | apply below_alloc | apply pw_below_drewN | apply below_drew1) | exact HB.out)) hb); clear HB; have HB := n0_; clear n0_; (try clear hb); (try clear hb2); (try clear hk); (try clear hi)))
   go_ret
   exact ⟨by first | rfl | (simp [errW_none, errW_some] <;> rfl) | (simp [*, errW_none, errW_some] <;> rfl), by repeat (first | (with_reducible first | exact HB.out | apply below_alloc | apply pw_below_drewN | apply below_drew1) | exact HB.out)⟩
  ·rw [if_neg c4] at H
   exact absurd H (by simp)
 ·rw [if_neg c2] at H
  have c2b0 : decide (a0 < 0) = false := decide_eq_false c2
  clear c2
  by_cases c6 : a0 < 10
  ·rw [if_pos c6] at H
   have c6b0 : decide (a0 < 10) = true := decide_eq_true c6
   clear c6
   by_cases c7 : 0 ≤ a0
   ·rw [if_pos c7] at H
    have c7b0 := eq_true c7
    have c7b1 : decide (0 ≤ a0) = true := decide_eq_true c7
    clear c7
    by_cases c8 : a0 ≤ (wrap64 (a0 + 1))
    ·rw [if_pos c8] at H
     have c8b0 := eq_true c8
     have c8b1 : decide (a0 ≤ (wrap64 (a0 + 1))) = true := decide_eq_true c8
     by_cases c9 : (wrap64 (a0 + 1)) ≤ 10
     ·rw [if_pos c9] at H
      have c9b0 := eq_true c9
      have c9b1 : decide ((wrap64 (a0 + 1)) ≤ 10) = true := decide_eq_true c9
      obtain rfl := Option.some.inj H
      simp only [Option.some.injEq, Prod.mk.injEq] at H
      obtain ⟨rfl⟩ := H
      go_enter Tryd.func90, Tryd.ntmps90
      go_wp2
      go_ret
      exact ⟨by first | rfl | (simp [errW_none, errW_some] <;> rfl) | (simp [*, errW_none, errW_some] <;> rfl), by repeat (first | (with_reducible first | exact HB.out | apply below_alloc | apply pw_below_drewN | apply below_drew1) | exact HB.out)⟩
     ·rw [if_neg c9] at H
      exact absurd H (by simp)
    ·rw [if_neg c8] at H
     exact absurd H (by simp)
   ·rw [if_neg c7] at H
    exact absurd H (by simp)
  ·rw [if_neg c6] at H
   have c6b0 : decide (a0 < 10) = false := decide_eq_false c6
   clear c6
   replace H := Option.bind_eq_some_iff.mp H
   obtain ⟨t419, A100, H⟩ := H
   replace H : (if 0 ≤ (Int.tmod a0 10) then (if (Int.tmod a0 10) ≤ (wrap64 ((Int.tmod a0 10) + 1)) then (if (wrap64 ((Int.tmod a0 10) + 1)) ≤ 10 then (if t419.size + ((⟨#[48, 49, 50, 51, 52, 53, 54, 55, 56, 57]⟩ : ByteArray).extract ((Int.tmod a0 10) : Int).toNat ((wrap64 ((Int.tmod a0 10) + 1)) : Int).toNat).size ≤ 9223372036854775807 then (some (t419 ++ ((⟨#[48, 49, 50, 51, 52, 53, 54, 55, 56, 57]⟩ : ByteArray).extract ((Int.tmod a0 10) : Int).toNat ((wrap64 ((Int.tmod a0 10) + 1)) : Int).toNat))) else (none)) else (none)) else (none)) else (none)) = some r := H
   have A10 := Aside0.mk A100
   clear A100
   obtain ⟨ji11, hji11⟩ : ∃ j_ : Int, (Int.tmod a0 10) = j_ := ⟨_, rfl⟩
   replace H : (if 0 ≤ (ji11) then (if (ji11) ≤ (wrap64 ((ji11) + 1)) then (if (wrap64 ((ji11) + 1)) ≤ 10 then (if t419.size + ((⟨#[48, 49, 50, 51, 52, 53, 54, 55, 56, 57]⟩ : ByteArray).extract ((ji11) : Int).toNat ((wrap64 ((ji11) + 1)) : Int).toNat).size ≤ 9223372036854775807 then (some (t419 ++ ((⟨#[48, 49, 50, 51, 52, 53, 54, 55, 56, 57]⟩ : ByteArray).extract ((ji11) : Int).toNat ((wrap64 ((ji11) + 1)) : Int).toNat))) else (none)) else (none)) else (none)) else (none)) = some r := by first | (rw [hji11] at H; exact H) | (simp only [hji11] at H ⊢; exact H)
   (try rw [hji11] at A10)
   by_cases c12 : 0 ≤ (ji11)
   ·rw [if_pos c12] at H
    have c12b0 := eq_true c12
    have c12b1 : decide (0 ≤ (ji11)) = true := decide_eq_true c12
    clear c12
    by_cases c13 : (ji11) ≤ (wrap64 ((ji11) + 1))
    ·rw [if_pos c13] at H
     have c13b0 := eq_true c13
     have c13b1 : decide ((ji11) ≤ (wrap64 ((ji11) + 1))) = true := decide_eq_true c13
     by_cases c14 : (wrap64 ((ji11) + 1)) ≤ 10
     ·rw [if_pos c14] at H
      have c14b0 := eq_true c14
      have c14b1 : decide ((wrap64 ((ji11) + 1)) ≤ 10) = true := decide_eq_true c14
      by_cases c15 : t419.size + ((⟨#[48, 49, 50, 51, 52, 53, 54, 55, 56, 57]⟩ : ByteArray).extract ((ji11) : Int).toNat ((wrap64 ((ji11) + 1)) : Int).toNat).size ≤ 9223372036854775807
      ·rw [if_pos c15] at H
       have c15b0 := eq_true c15
       have c15b1 : decide (t419.size + ((⟨#[48, 49, 50, 51, 52, 53, 54, 55, 56, 57]⟩ : ByteArray).extract ((ji11) : Int).toNat ((wrap64 ((ji11) + 1)) : Int).toNat).size ≤ 9223372036854775807) = true := decide_eq_true c15
       try have c15b2 : (9223372036854775807 < t419.size + ((⟨#[48, 49, 50, 51, 52, 53, 54, 55, 56, 57]⟩ : ByteArray).extract ((ji11) : Int).toNat ((wrap64 ((ji11) + 1)) : Int).toNat).size) = False := eq_false (Nat.not_lt.2 c15)
       try have c15b3 : (9223372036854775807 < t419.size + ((wrap64 ((ji11) + 1)).toNat - ji11.toNat)) = False := eq_false (by have z := c15; simp only [eq_iff_iff, iff_true, iff_false, Nat.not_lt] at *; simp only [ByteArray.size_append, ByteArray.size_extract] at z; have zl0 : (⟨#[48, 49, 50, 51, 52, 53, 54, 55, 56, 57]⟩ : ByteArray).size = 10 := rfl; rw [zl0] at z; omega)
       obtain rfl := Option.some.inj H
       simp only [Option.some.injEq, Prod.mk.injEq] at H
       obtain ⟨rfl⟩ := H
       go_enter Tryd.func90, Tryd.ntmps90
       try go_wp2
       have n0_ := Aside0.mk (below_drew1 HB.out)
       clear HB
       have HB := n0_
       clear n0_
       refine start_ (n := 12) (S := fun w' => True) (ds := []) #[false, false, false, false, false, false, false, false, false, false, false, false] (by kernel_rfl) rfl rfl trivial (fun hHeld => ?_); refine with_tabW val_decimal.tab6 val_decimal.bits6 (fun HT_ HW_ => ?_)
       generalize w.drew = w16 at HB hHeld ⊢
       refine pure_ (i := 0) (N := some 17) (v := ?_) (a' := ?_) #[true, false, false, false, false, false, false, false, false, false, false, false] rfl rfl (any_of HT_.out (by kernel_rfl)) (fun _ _ _ h => h) (Or.inl ⟨by rfl, ?_⟩) ?_ ?_
       rotate_left
       ·intro w'
        go_simp
        with_reducible rfl
       rotate_left
       ·simp only [Act.put, List.setIfInBounds_toArray, List.set_cons_zero, List.set_cons_succ, i64_w, i32_w]
        rfl
       refine pure_ (i := 1) (N := some 18) (v := ?_) (a' := ?_) #[true, true, false, false, false, false, false, false, false, false, false, false] rfl rfl (any_of HT_.out (by kernel_rfl)) (fun _ _ _ h => h) (Or.inl ⟨by rfl, ?_⟩) ?_ ?_
       rotate_left
       ·intro w'
        go_simp
        with_reducible rfl
       rotate_left
       ·simp only [Act.put, List.setIfInBounds_toArray, List.set_cons_zero, List.set_cons_succ, i64_w, i32_w]
        rfl
       refine pure_ (i := 3) (N := some 20) (v := ?_) (a' := ?_) #[true, true, false, true, false, false, false, false, false, false, false, false] rfl rfl (any_of HT_.out (by kernel_rfl)) (fun _ _ _ h => h) (Or.inl ⟨by rfl, ?_⟩) ?_ ?_
       rotate_left
       ·intro w'
        go_simp
        with_reducible rfl
       rotate_left
       ·simp only [Act.put, List.setIfInBounds_toArray, List.set_cons_zero, List.set_cons_succ, i64_w, i32_w]
        rfl
       refine pure_ (i := 4) (N := some 21) (v := ?_) (a' := ?_) #[true, true, false, true, true, false, false, false, false, false, false, false] rfl rfl (any_of HT_.out (by kernel_rfl)) (fun _ _ _ h => h) (Or.inl ⟨by rfl, ?_⟩) ?_ ?_
       rotate_left
       ·intro w'
        go_simp
        with_reducible rfl
       rotate_left
       ·simp only [Act.put, List.setIfInBounds_toArray, List.set_cons_zero, List.set_cons_succ, i64_w, i32_w]
        rfl
       refine pure_ (i := 5) (N := some 22) (v := ?_) (a' := ?_) #[true, true, false, true, true, true, false, false, false, false, false, false] rfl rfl (any_of HT_.out (by kernel_rfl)) (fun _ _ _ h => h) (Or.inl ⟨by rfl, ?_⟩) ?_ ?_
       rotate_left
       ·intro w'
        go_simp
        with_reducible rfl
       rotate_left
       ·simp only [Act.put, List.setIfInBounds_toArray, List.set_cons_zero, List.set_cons_succ, i64_w, i32_w]
        rfl
       refine pure_ (i := 6) (N := some 23) (v := ?_) (a' := ?_) #[true, true, false, true, true, true, true, false, false, false, false, false] rfl rfl (any_of HT_.out (by kernel_rfl)) (fun _ _ _ h => h) (Or.inl ⟨by rfl, ?_⟩) ?_ ?_
       rotate_left
       ·intro w'
        go_simp
        with_reducible rfl
       rotate_left
       ·simp only [Act.put, List.setIfInBounds_toArray, List.set_cons_zero, List.set_cons_succ, i64_w, i32_w]
        rfl
       refine pure_ (i := 7) (N := some 24) (v := ?_) (a' := ?_) #[true, true, false, true, true, true, true, true, false, false, false, false] rfl rfl (any_of HT_.out (by kernel_rfl)) (fun _ _ _ h => h) (Or.inl ⟨by rfl, ?_⟩) ?_ ?_
       rotate_left
       ·intro w'
        go_simp
        with_reducible rfl
       rotate_left
       ·simp only [Act.put, List.setIfInBounds_toArray, List.set_cons_zero, List.set_cons_succ, i64_w, i32_w]
        rfl
       refine pure_ (i := 8) (N := some 25) (v := ?_) (a' := ?_) #[true, true, false, true, true, true, true, true, true, false, false, false] rfl rfl (any_of HT_.out (by kernel_rfl)) (fun _ _ _ h => h) (Or.inl ⟨by rfl, ?_⟩) ?_ ?_
       rotate_left
       ·intro w'
        go_simp
        with_reducible rfl
       rotate_left
       ·simp only [Act.put, List.setIfInBounds_toArray, List.set_cons_zero, List.set_cons_succ, i64_w, i32_w]
        rfl
       refine pure_ (i := 9) (N := some 26) (v := ?_) (a' := ?_) #[true, true, false, true, true, true, true, true, true, true, false, false] rfl rfl (any_of HT_.out (by kernel_rfl)) (fun _ _ _ h => h) (Or.inl ⟨by rfl, ?_⟩) ?_ ?_
       rotate_left
       ·intro w'
        go_simp
        with_reducible rfl
       rotate_left
       ·simp only [Act.put, List.setIfInBounds_toArray, List.set_cons_zero, List.set_cons_succ, i64_w, i32_w]
        rfl
       refine one_ (i := 2) (N := some 19) #[true, true, true, true, true, true, true, true, true, true, false, false] rfl rfl (one_of HT_.out (by kernel_rfl)) (by decide) (fun K hK => ?_)
       refine goes_ Tryd.func90 (by kernel_rfl) rfl #[.int .i64 (wrap64 (Int.tdiv a0 10))] (by rfl) rfl rfl (by (try simp only [List.map_toArray, List.map_cons, List.map_nil]); first | done | rfl | (simp only [List.length_drop, List.length_take]; rfl)) ?_
       with_reducible refine (ih k (by omega) (wrap64 (Int.tdiv a0 10)) t419 _ A10.out).mono ?_
       rintro e w17 ⟨rfl, hb⟩
       refine ⟨_, rfl, ?_⟩
       have n0_ := Aside0.mk (below_step (by repeat (first | (with_reducible first | exact HB.out | apply below_alloc | apply pw_below_drewN | apply below_drew1) | exact HB.out)) hb)
       clear HB
       have HB := n0_
       clear n0_
       (try clear hb)
       (try clear hb2)
       (try clear hk)
       (try clear hi)
       refine hK.out _ _ trivial (fun hHeld => ?_)
       clear hK K
       refine norm_ (a' := ?_) ?_ ?_
       rotate_left
       ·show Act.put _ (some 19) _ = _
        simp only [Act.put, List.setIfInBounds_toArray, List.set_cons_zero, List.set_cons_succ, i64_w, i32_w]
        rfl
       refine pure_ (i := 10) (N := some 27) (v := ?_) (a' := ?_) #[true, true, true, true, true, true, true, true, true, true, true, false] rfl rfl (any_of HT_.out (by kernel_rfl)) (fun _ _ _ h => h) (Or.inl ⟨by rfl, ?_⟩) ?_ ?_
       rotate_left
       ·intro w'
        go_simp
        with_reducible rfl
       rotate_left
       ·simp only [Act.put, List.setIfInBounds_toArray, List.set_cons_zero, List.set_cons_succ, i64_w, i32_w]
        rfl
       refine pure_ (i := 11) (N := some 2) (v := ?_) (a' := ?_) #[true, true, true, true, true, true, true, true, true, true, true, true] rfl rfl (any_of HT_.out (by kernel_rfl)) (fun _ _ _ h => h) (Or.inl ⟨by rfl, ?_⟩) ?_ ?_
       rotate_left
       ·intro w'
        go_simp
        with_reducible rfl
       rotate_left
       ·simp only [Act.put, List.setIfInBounds_toArray, List.set_cons_zero, List.set_cons_succ, i64_w, i32_w]
        rfl
       refine done_ (done_of HT_.out (by kernel_rfl)) ?_
       try go_wp2
       go_ret
       exact ⟨by first | rfl | (simp [errW_none, errW_some] <;> rfl) | (simp only [← hji11]; first | rfl | (simp [errW_none, errW_some] <;> rfl)) | (simp [*, errW_none, errW_some] <;> rfl), by repeat (first | (with_reducible first | exact HB.out | apply below_alloc | apply pw_below_drewN | apply below_drew1) | exact HB.out)⟩
      ·rw [if_neg c15] at H
       exact absurd H (by simp)
     ·rw [if_neg c14] at H
      exact absurd H (by simp)
    ·rw [if_neg c13] at H
     exact absurd H (by simp)
   ·rw [if_neg c12] at H
    exact absurd H (by simp)
end Go.Proofs.YtplbjaandkdhjaaDoor.PA
