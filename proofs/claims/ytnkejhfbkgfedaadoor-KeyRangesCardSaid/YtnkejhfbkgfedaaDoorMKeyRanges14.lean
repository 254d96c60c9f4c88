-- Written by a program of this session (wip/merge.py): the texts of this claim, joined.
import Derived.Test.YtnkejhfbkgfedaaDoorMKeyRanges1
import Derived.Test.YtnkejhfbkgfedaaDoorMKeyRanges2
import Derived.Test.YtnkejhfbkgfedaaDoorMKeyRanges3
import Derived.Test.YtnkejhfbkgfedaaDoorMKeyRanges4
import Derived.Test.YtnkejhfbkgfedaaDoorMKeyRanges13
namespace Go.Proofs.YtnkejhfbkgfedaaDoor.PA
end Go.Proofs.YtnkejhfbkgfedaaDoor.PA
namespace Go.Proofs.YtnkejhfbkgfedaaDoor.PB
end Go.Proofs.YtnkejhfbkgfedaaDoor.PB
namespace Go.Proofs.YtnkejhfbkgfedaaDoor.PC
end Go.Proofs.YtnkejhfbkgfedaaDoor.PC
namespace Go.Proofs.YtnkejhfbkgfedaaDoor.H1
end Go.Proofs.YtnkejhfbkgfedaaDoor.H1
namespace Go.Proofs.YtnkejhfbkgfedaaDoor.L1
end Go.Proofs.YtnkejhfbkgfedaaDoor.L1
namespace Go.Proofs.YtnkejhfbkgfedaaDoor.PA
open Go.RowKit Go.Proofs.YtnkejhfbkgfedaaDoorW.PrintWords Go.Proofs.YtnkejhfbkgfedaaDoorW.PrintLast Go.Proofs.YtnkejhfbkgfedaaDoorW.PrintMore
attribute [local go_sem] max2_int min2_int max_two min_two max_three min_three max_four min_four   -- for this text's walks alone
set_option linter.unusedVariables false
set_option linter.unusedSimpArgs false
mutual
def cabinetryref02_weight.j0 : Nat → Int → Int → Bool → Option (Int)
 | 0, _, _, _ => none
 | k + 1, x0, x1, x15 => if x15 = true then (some x0) else ((cabinetryref02_upper.f k x0 x1).bind fun t194 => (if x1 = 1 then (if t194 ≥ 192 then (cabinetryref02_weight.j1 k t194 (decide (t194 ≤ 197))) else (cabinetryref02_weight.j1 k t194 false)) else (some t194)))
def cabinetryref02_weight.j1 : Nat → Int → Bool → Option (Int)
 | 0, _, _ => none
 | k + 1, x7, x23 => if x23 = true then (some 65) else (if x7 = 199 then (some 67) else (if x7 ≥ 200 then (cabinetryref02_weight.j2 k x7 (decide (x7 ≤ 203))) else (cabinetryref02_weight.j2 k x7 false)))
def cabinetryref02_weight.j2 : Nat → Int → Bool → Option (Int)
 | 0, _, _ => none
 | k + 1, x7, x33 => if x33 = true then (some 69) else (if x7 ≥ 204 then (cabinetryref02_weight.j3 k x7 (decide (x7 ≤ 207))) else (cabinetryref02_weight.j3 k x7 false))
def cabinetryref02_weight.j3 : Nat → Int → Bool → Option (Int)
 | 0, _, _ => none
 | k + 1, x7, x40 => if x40 = true then (some 73) else (if x7 = 209 then (some 78) else (if x7 ≥ 210 then (cabinetryref02_weight.j4 k x7 (decide (x7 ≤ 214))) else (cabinetryref02_weight.j4 k x7 false)))
def cabinetryref02_weight.j4 : Nat → Int → Bool → Option (Int)
 | 0, _, _ => none
 | k + 1, x7, x50 => if x50 = true then (some 79) else (if x7 ≥ 217 then (cabinetryref02_weight.j5 k x7 (decide (x7 ≤ 220))) else (cabinetryref02_weight.j5 k x7 false))
def cabinetryref02_weight.j5 : Nat → Int → Bool → Option (Int)
 | 0, _, _ => none
 | k + 1, x7, x57 => if x57 = true then (some 85) else (if x7 = 221 then (some 89) else (some x7))
end
def cabinetryref02_weight.f (k : Nat) (a0 : Int) (a1 : Int) (a2 : Int) : Option (Int) := if a2 = 0 then (cabinetryref02_weight.j0 k a0 a1 true) else ((cabinetryref02_IsLetter.f k a0 a1).bind fun t193 => (cabinetryref02_weight.j0 k a0 a1 (!t193)))
theorem cabinetryref02_weight.mono_l : ∀ k, (∀ y0 y1 y2, LeO (cabinetryref02_weight.j0 k y0 y1 y2) (cabinetryref02_weight.j0 (k + 1) y0 y1 y2)) ∧ (∀ y0 y1, LeO (cabinetryref02_weight.j1 k y0 y1) (cabinetryref02_weight.j1 (k + 1) y0 y1)) ∧ (∀ y0 y1, LeO (cabinetryref02_weight.j2 k y0 y1) (cabinetryref02_weight.j2 (k + 1) y0 y1)) ∧ (∀ y0 y1, LeO (cabinetryref02_weight.j3 k y0 y1) (cabinetryref02_weight.j3 (k + 1) y0 y1)) ∧ (∀ y0 y1, LeO (cabinetryref02_weight.j4 k y0 y1) (cabinetryref02_weight.j4 (k + 1) y0 y1)) ∧ (∀ y0 y1, LeO (cabinetryref02_weight.j5 k y0 y1) (cabinetryref02_weight.j5 (k + 1) y0 y1))
 | 0 => ⟨fun _ _ _ r h => by simp [cabinetryref02_weight.j0] at h, fun _ _ r h => by simp [cabinetryref02_weight.j1] at h, fun _ _ r h => by simp [cabinetryref02_weight.j2] at h, fun _ _ r h => by simp [cabinetryref02_weight.j3] at h, fun _ _ r h => by simp [cabinetryref02_weight.j4] at h, fun _ _ r h => by simp [cabinetryref02_weight.j5] at h⟩
 | k + 1 => by
  obtain ⟨ih0, ih1, ih2, ih3, ih4, ih5⟩ := cabinetryref02_weight.mono_l k
  refine ⟨?_, ?_, ?_, ?_, ?_, ?_⟩
  ·intro y0 y1 y2
   unfold cabinetryref02_weight.j0
   repeat' first
   | (with_reducible exact ih0 _ _ _)
   | (with_reducible exact ih1 _ _)
   | (with_reducible exact ih2 _ _)
   | (with_reducible exact ih3 _ _)
   | (with_reducible exact ih4 _ _)
   | (with_reducible exact ih5 _ _)
   | (with_reducible exact cabinetryref02_IsLetter.mono _ _ _)
   | (with_reducible exact cabinetryref02_upper.mono _ _ _)
   | (with_reducible exact LeO.refl _)
   | (with_reducible exact LeO.none _)
   | (with_reducible refine LeO.ite ?_ ?_)
   | (with_reducible refine LeO.bind ?_ (fun _ => ?_))
   | exact ih0 _ _ _
   | exact ih1 _ _
   | exact ih2 _ _
   | exact ih3 _ _
   | exact ih4 _ _
   | exact ih5 _ _
   | exact cabinetryref02_IsLetter.mono _ _ _
   | exact cabinetryref02_upper.mono _ _ _
   | exact LeO.none _
   | refine LeO.ite ?_ ?_
   | refine LeO.bind ?_ (fun _ => ?_)
  ·intro y0 y1
   unfold cabinetryref02_weight.j1
   repeat' first
   | (with_reducible exact ih0 _ _ _)
   | (with_reducible exact ih1 _ _)
   | (with_reducible exact ih2 _ _)
   | (with_reducible exact ih3 _ _)
   | (with_reducible exact ih4 _ _)
   | (with_reducible exact ih5 _ _)
   | (with_reducible exact cabinetryref02_IsLetter.mono _ _ _)
   | (with_reducible exact cabinetryref02_upper.mono _ _ _)
   | (with_reducible exact LeO.refl _)
   | (with_reducible exact LeO.none _)
   | (with_reducible refine LeO.ite ?_ ?_)
   | (with_reducible refine LeO.bind ?_ (fun _ => ?_))
   | exact ih0 _ _ _
   | exact ih1 _ _
   | exact ih2 _ _
   | exact ih3 _ _
   | exact ih4 _ _
   | exact ih5 _ _
   | exact cabinetryref02_IsLetter.mono _ _ _
   | exact cabinetryref02_upper.mono _ _ _
   | exact LeO.none _
   | refine LeO.ite ?_ ?_
   | refine LeO.bind ?_ (fun _ => ?_)
  ·intro y0 y1
   unfold cabinetryref02_weight.j2
   repeat' first
   | (with_reducible exact ih0 _ _ _)
   | (with_reducible exact ih1 _ _)
   | (with_reducible exact ih2 _ _)
   | (with_reducible exact ih3 _ _)
   | (with_reducible exact ih4 _ _)
   | (with_reducible exact ih5 _ _)
   | (with_reducible exact cabinetryref02_IsLetter.mono _ _ _)
   | (with_reducible exact cabinetryref02_upper.mono _ _ _)
   | (with_reducible exact LeO.refl _)
   | (with_reducible exact LeO.none _)
   | (with_reducible refine LeO.ite ?_ ?_)
   | (with_reducible refine LeO.bind ?_ (fun _ => ?_))
   | exact ih0 _ _ _
   | exact ih1 _ _
   | exact ih2 _ _
   | exact ih3 _ _
   | exact ih4 _ _
   | exact ih5 _ _
   | exact cabinetryref02_IsLetter.mono _ _ _
   | exact cabinetryref02_upper.mono _ _ _
   | exact LeO.none _
   | refine LeO.ite ?_ ?_
   | refine LeO.bind ?_ (fun _ => ?_)
  ·intro y0 y1
   unfold cabinetryref02_weight.j3
   repeat' first
   | (with_reducible exact ih0 _ _ _)
   | (with_reducible exact ih1 _ _)
   | (with_reducible exact ih2 _ _)
   | (with_reducible exact ih3 _ _)
   | (with_reducible exact ih4 _ _)
   | (with_reducible exact ih5 _ _)
   | (with_reducible exact cabinetryref02_IsLetter.mono _ _ _)
   | (with_reducible exact cabinetryref02_upper.mono _ _ _)
   | (with_reducible exact LeO.refl _)
   | (with_reducible exact LeO.none _)
   | (with_reducible refine LeO.ite ?_ ?_)
   | (with_reducible refine LeO.bind ?_ (fun _ => ?_))
   | exact ih0 _ _ _
   | exact ih1 _ _
   | exact ih2 _ _
   | exact ih3 _ _
   | exact ih4 _ _
   | exact ih5 _ _
   | exact cabinetryref02_IsLetter.mono _ _ _
   | exact cabinetryref02_upper.mono _ _ _
   | exact LeO.none _
   | refine LeO.ite ?_ ?_
   | refine LeO.bind ?_ (fun _ => ?_)
  ·intro y0 y1
   unfold cabinetryref02_weight.j4
   repeat' first
   | (with_reducible exact ih0 _ _ _)
   | (with_reducible exact ih1 _ _)
   | (with_reducible exact ih2 _ _)
   | (with_reducible exact ih3 _ _)
   | (with_reducible exact ih4 _ _)
   | (with_reducible exact ih5 _ _)
   | (with_reducible exact cabinetryref02_IsLetter.mono _ _ _)
   | (with_reducible exact cabinetryref02_upper.mono _ _ _)
   | (with_reducible exact LeO.refl _)
   | (with_reducible exact LeO.none _)
   | (with_reducible refine LeO.ite ?_ ?_)
   | (with_reducible refine LeO.bind ?_ (fun _ => ?_))
   | exact ih0 _ _ _
   | exact ih1 _ _
   | exact ih2 _ _
   | exact ih3 _ _
   | exact ih4 _ _
   | exact ih5 _ _
   | exact cabinetryref02_IsLetter.mono _ _ _
   | exact cabinetryref02_upper.mono _ _ _
   | exact LeO.none _
   | refine LeO.ite ?_ ?_
   | refine LeO.bind ?_ (fun _ => ?_)
  ·intro y0 y1
   unfold cabinetryref02_weight.j5
   repeat' first
   | (with_reducible exact ih0 _ _ _)
   | (with_reducible exact ih1 _ _)
   | (with_reducible exact ih2 _ _)
   | (with_reducible exact ih3 _ _)
   | (with_reducible exact ih4 _ _)
   | (with_reducible exact ih5 _ _)
   | (with_reducible exact cabinetryref02_IsLetter.mono _ _ _)
   | (with_reducible exact cabinetryref02_upper.mono _ _ _)
   | (with_reducible exact LeO.refl _)
   | (with_reducible exact LeO.none _)
   | (with_reducible refine LeO.ite ?_ ?_)
   | (with_reducible refine LeO.bind ?_ (fun _ => ?_))
   | exact ih0 _ _ _
   | exact ih1 _ _
   | exact ih2 _ _
   | exact ih3 _ _
   | exact ih4 _ _
   | exact ih5 _ _
   | exact cabinetryref02_IsLetter.mono _ _ _
   | exact cabinetryref02_upper.mono _ _ _
   | exact LeO.none _
   | refine LeO.ite ?_ ?_
   | refine LeO.bind ?_ (fun _ => ?_)
theorem cabinetryref02_weight.mono : ∀ a0 a1 a2 k, LeO (cabinetryref02_weight.f k a0 a1 a2) (cabinetryref02_weight.f (k + 1) a0 a1 a2) := by
 intro a0 a1 a2 k
 obtain ⟨ih0, ih1, ih2, ih3, ih4, ih5⟩ := cabinetryref02_weight.mono_l k
 unfold cabinetryref02_weight.f
 repeat' first
   | (with_reducible exact ih0 _ _ _)
   | (with_reducible exact ih1 _ _)
   | (with_reducible exact ih2 _ _)
   | (with_reducible exact ih3 _ _)
   | (with_reducible exact ih4 _ _)
   | (with_reducible exact ih5 _ _)
   | (with_reducible exact cabinetryref02_IsLetter.mono _ _ _)
   | (with_reducible exact cabinetryref02_upper.mono _ _ _)
   | (with_reducible exact LeO.refl _)
   | (with_reducible exact LeO.none _)
   | (with_reducible refine LeO.ite ?_ ?_)
   | (with_reducible refine LeO.bind ?_ (fun _ => ?_))
   | exact ih0 _ _ _
   | exact ih1 _ _
   | exact ih2 _ _
   | exact ih3 _ _
   | exact ih4 _ _
   | exact ih5 _ _
   | exact cabinetryref02_IsLetter.mono _ _ _
   | exact cabinetryref02_upper.mono _ _ _
   | exact LeO.none _
   | refine LeO.ite ?_ ?_
   | refine LeO.bind ?_ (fun _ => ?_)
set_option maxHeartbeats 8000000 in
set_option maxRecDepth 100000 in
theorem cabinetryref02_weight.calls (k : Nat) (a0 : Int) (a1 : Int) (a2 : Int) (r : Int) (w : World) (h : cabinetryref02_weight.f k a0 a1 a2 = some r) :
  Calls Tryd.prog 57 #[.int .u8 a0, .int .i64 a1, .int .i64 a2] w fun e w' => e = .returned (.int .u8 r) ∧ Drawn0 w w' := by
 have H : (if a2 = 0 then (cabinetryref02_weight.j0 k a0 a1 true) else ((cabinetryref02_IsLetter.f k a0 a1).bind fun t193 => (cabinetryref02_weight.j0 k a0 a1 (!t193)))) = some r := h
 clear h
 have HC4 := Aside0.mk H
 clear H
 go_enter Tryd.func57, Tryd.ntmps57
 go_upto_region 1 with (fail)
 go_cut [15] (fun v15 wc => ∃ (kq : Nat) (x15_3 : Bool), v15 = .bool x15_3 ∧ Aside0 (cabinetryref02_weight.j0 kq a0 a1 x15_3 = some r) ∧ Aside0 (kq ≤ k) ∧ Drawn0 w wc)
 case first =>
  have H := HC4.out
  clear HC4
  by_cases c5 : a2 = 0
  ·rw [if_pos c5] at H
   have c5b0 : (a2 == 0) = true := beq_iff_eq.mpr c5
   have c5b1 : (a2 != 0) = false := bne_eq_false_iff_eq.mpr c5
   clear c5
   (first | rw [c5b0] | (simp only [i64_w, i32_w]; rw [c5b0]) | skip)
   have H' := Aside0.mk H
   clear H
   go_wp2
   go_meet
   case rel => exact ⟨_, (true), (by first | rfl | (simp; done) | (simp [*]; done)), H', ⟨by first | omega | exact Nat.le_refl _⟩, by repeat (first | exact Drawn0.refl _ | apply Drawn0.step)⟩
  ·rw [if_neg c5] at H
   have c5b0 : (a2 == 0) = false := beq_eq_false_iff_ne.mpr c5
   have c5b1 : (a2 != 0) = true := bne_iff_ne.mpr c5
   (first | rw [c5b0] | (simp only [i64_w, i32_w]; rw [c5b0]) | skip)
   replace H := Option.bind_eq_some_iff.mp H
   obtain ⟨t193, A60, H⟩ := H
   replace H : (cabinetryref02_weight.j0 k a0 a1 (!t193)) = some r := H
   have A6 := Aside0.mk A60
   clear A60
   have H' := Aside0.mk H
   clear H
   go_wp2_with (first | (go_at_call 77; (with_reducible refine (cabinetryref02_IsLetter.calls k a0 a1 t193 _ A6.out).mono ?_); rintro e w' ⟨rfl, ⟨nd, rfl⟩⟩))
   go_meet
   case rel => exact ⟨_, (!t193), (by first | rfl | (simp; done) | (simp [*]; done)), H', ⟨by first | omega | exact Nat.le_refl _⟩, by repeat (first | exact Drawn0.refl _ | apply Drawn0.step)⟩
 case rest =>
  clear HC4
  try clear p2; try clear c5; try clear c5b0; try clear c5b1
  obtain ⟨kq, x15_3, rfl, HA, HJ3, ⟨mc3, rfl⟩⟩ := hcut
  cases kq with
  | zero => exact absurd HA.out (by simp [cabinetryref02_weight.j0])
  | succ kj3 =>
   have H := HA.out
   clear HA
   simp only [cabinetryref02_weight.j0] at H
   by_cases c7 : x15_3 = true
   ·subst c7
    have H1 : (some a0) = some r := by rw [if_pos rfl] at H; exact H
    clear H
    have H := H1
    clear H1
    obtain rfl := Option.some.inj H
    simp only [Option.some.injEq, Prod.mk.injEq] at H
    obtain ⟨rfl⟩ := H
    go_wp2
    go_ret
    exact ⟨by first | rfl | (simp; done) | (simp [*]; done), by repeat (first | exact Drawn0.refl _ | apply Drawn0.step)⟩
   ·replace c7 := Bool.eq_false_iff.mpr c7
    subst c7
    have H1 : ((cabinetryref02_upper.f kj3 a0 a1).bind fun t194 => (if a1 = 1 then (if t194 ≥ 192 then (cabinetryref02_weight.j1 kj3 t194 (decide (t194 ≤ 197))) else (cabinetryref02_weight.j1 kj3 t194 false)) else (some t194))) = some r := by rw [if_neg (show ¬ (false = true) by decide)] at H; exact H
    clear H
    have H := H1
    clear H1
    replace H := Option.bind_eq_some_iff.mp H
    obtain ⟨t194, A80, H⟩ := H
    replace H : (if a1 = 1 then (if t194 ≥ 192 then (cabinetryref02_weight.j1 kj3 t194 (decide (t194 ≤ 197))) else (cabinetryref02_weight.j1 kj3 t194 false)) else (some t194)) = some r := H
    have A8 := Aside0.mk A80
    clear A80
    by_cases c9 : a1 = 1
    ·rw [if_pos c9] at H
     have c9b0 : (a1 == 1) = true := beq_iff_eq.mpr c9
     have c9b1 : (a1 != 1) = false := bne_eq_false_iff_eq.mpr c9
     clear c9
     have HC10 := Aside0.mk H
     clear H
     go_upto_region 6 with (first | ((with_reducible refine gate_callee (f := 78) rfl ?_); refine goesL_ (some 19) rfl rfl Tryd.func78 (by kernel_rfl) rfl #[.int .u8 a0, .int .i64 a1] rfl (by (try simp only [List.map_toArray, List.map_cons, List.map_nil]); first | done | rfl | (simp only [List.length_drop, List.length_take]; rfl)) ?_; (with_reducible refine (cabinetryref02_upper.calls kj3 a0 a1 t194 _ A8.out).mono ?_); rintro e w' ⟨rfl, ⟨nd, rfl⟩⟩; refine ⟨_, rfl, ?_⟩))
     (try simp only [Act.put, List.setIfInBounds_toArray, List.set_cons_zero, List.set_cons_succ])
     go_cut [23] (fun v23 wc => ∃ (kq : Nat) (x23_9 : Bool), v23 = .bool x23_9 ∧ Aside0 (cabinetryref02_weight.j1 kq t194 x23_9 = some r) ∧ Aside0 (kq ≤ kj3) ∧ Drawn0 w wc)
     case first =>
      have H := HC10.out
      clear HC10
      by_cases c11 : t194 ≥ 192
      ·rw [if_pos c11] at H
       have c11b0 : decide (192 ≤ t194) = true := decide_eq_true c11
       clear c11
       (first | rw [c11b0] | (simp only [i64_w, i32_w]; rw [c11b0]) | skip)
       have H' := Aside0.mk H
       clear H
       go_wp2
       go_meet
       case rel => exact ⟨_, (decide (t194 ≤ 197)), (by first | rfl | (simp; done) | (simp [*]; done)), H', ⟨by have := HJ3.out; first | omega | exact Nat.le_refl _⟩, by repeat (first | exact Drawn0.refl _ | apply Drawn0.step)⟩
      ·rw [if_neg c11] at H
       have c11b0 : decide (192 ≤ t194) = false := decide_eq_false c11
       clear c11
       (first | rw [c11b0] | (simp only [i64_w, i32_w]; rw [c11b0]) | skip)
       have H' := Aside0.mk H
       clear H
       go_wp2
       go_meet
       case rel => exact ⟨_, (false), (by first | rfl | (simp; done) | (simp [*]; done)), H', ⟨by have := HJ3.out; first | omega | exact Nat.le_refl _⟩, by repeat (first | exact Drawn0.refl _ | apply Drawn0.step)⟩
     case rest =>
      clear HC10
      try clear c1; try clear p2; try clear c3; try clear c5; try clear c5b0; try clear c5b1; try clear c7; try clear c9; try clear c9b0; try clear c9b1; try clear c11; try clear c11b0; try clear p2
      obtain ⟨kq, x23_9, rfl, HA, HJ9, ⟨mc9, rfl⟩⟩ := hcut
      cases kq with
      | zero => exact absurd HA.out (by simp [cabinetryref02_weight.j1])
      | succ kj9 =>
       have H := HA.out
       clear HA
       simp only [cabinetryref02_weight.j1] at H
       by_cases c12 : x23_9 = true
       ·subst c12
        have H1 : (some 65) = some r := by rw [if_pos rfl] at H; exact H
        clear H
        have H := H1
        clear H1
        obtain rfl := Option.some.inj H
        simp only [Option.some.injEq, Prod.mk.injEq] at H
        obtain ⟨rfl⟩ := H
        go_wp2
        go_ret
        exact ⟨by first | rfl | (simp; done) | (simp [*]; done), by repeat (first | exact Drawn0.refl _ | apply Drawn0.step)⟩
       ·replace c12 := Bool.eq_false_iff.mpr c12
        subst c12
        have H1 : (if t194 = 199 then (some 67) else (if t194 ≥ 200 then (cabinetryref02_weight.j2 kj9 t194 (decide (t194 ≤ 203))) else (cabinetryref02_weight.j2 kj9 t194 false))) = some r := by rw [if_neg (show ¬ (false = true) by decide)] at H; exact H
        clear H
        have H := H1
        clear H1
        by_cases c13 : t194 = 199
        ·rw [if_pos c13] at H
         have c13b0 : (t194 == 199) = true := beq_iff_eq.mpr c13
         have c13b1 : (t194 != 199) = false := bne_eq_false_iff_eq.mpr c13
         clear c13
         obtain rfl := Option.some.inj H
         simp only [Option.some.injEq, Prod.mk.injEq] at H
         obtain ⟨rfl⟩ := H
         go_wp2
         go_ret
         exact ⟨by first | rfl | (simp; done) | (simp [*]; done), by repeat (first | exact Drawn0.refl _ | apply Drawn0.step)⟩
        ·rw [if_neg c13] at H
         have c13b0 : (t194 == 199) = false := beq_eq_false_iff_ne.mpr c13
         have c13b1 : (t194 != 199) = true := bne_iff_ne.mpr c13
         have HC14 := Aside0.mk H
         clear H
         go_upto_region 10 with (fail)
         go_cut [33] (fun v33 wc => ∃ (kq : Nat) (x33_13 : Bool), v33 = .bool x33_13 ∧ Aside0 (cabinetryref02_weight.j2 kq t194 x33_13 = some r) ∧ Aside0 (kq ≤ kj9) ∧ Drawn0 w wc)
         case first =>
          have H := HC14.out
          clear HC14
          by_cases c15 : t194 ≥ 200
          ·rw [if_pos c15] at H
           have c15b0 : decide (200 ≤ t194) = true := decide_eq_true c15
           clear c15
           (first | rw [c15b0] | (simp only [i64_w, i32_w]; rw [c15b0]) | skip)
           have H' := Aside0.mk H
           clear H
           go_wp2
           go_meet
           case rel => exact ⟨_, (decide (t194 ≤ 203)), (by first | rfl | (simp; done) | (simp [*]; done)), H', ⟨by have := HJ3.out; have := HJ9.out; first | omega | exact Nat.le_refl _⟩, by repeat (first | exact Drawn0.refl _ | apply Drawn0.step)⟩
          ·rw [if_neg c15] at H
           have c15b0 : decide (200 ≤ t194) = false := decide_eq_false c15
           clear c15
           (first | rw [c15b0] | (simp only [i64_w, i32_w]; rw [c15b0]) | skip)
           have H' := Aside0.mk H
           clear H
           go_wp2
           go_meet
           case rel => exact ⟨_, (false), (by first | rfl | (simp; done) | (simp [*]; done)), H', ⟨by have := HJ3.out; have := HJ9.out; first | omega | exact Nat.le_refl _⟩, by repeat (first | exact Drawn0.refl _ | apply Drawn0.step)⟩
         case rest =>
          clear HC14
          try clear c1; try clear p2; try clear c3; try clear c5; try clear c5b0; try clear c5b1; try clear c7; try clear c9; try clear c9b0; try clear c9b1; try clear c11; try clear c11b0; try clear c12; try clear c13; try clear c13b0; try clear c13b1; try clear c15; try clear c15b0; try clear p2
          obtain ⟨kq, x33_13, rfl, HA, HJ13, ⟨mc13, rfl⟩⟩ := hcut
          cases kq with
          | zero => exact absurd HA.out (by simp [cabinetryref02_weight.j2])
          | succ kj13 =>
           have H := HA.out
           clear HA
           simp only [cabinetryref02_weight.j2] at H
           by_cases c16 : x33_13 = true
           ·subst c16
            have H1 : (some 69) = some r := by rw [if_pos rfl] at H; exact H
            clear H
            have H := H1
            clear H1
            obtain rfl := Option.some.inj H
            simp only [Option.some.injEq, Prod.mk.injEq] at H
            obtain ⟨rfl⟩ := H
            go_wp2
            go_ret
            exact ⟨by first | rfl | (simp; done) | (simp [*]; done), by repeat (first | exact Drawn0.refl _ | apply Drawn0.step)⟩
           ·replace c16 := Bool.eq_false_iff.mpr c16
            subst c16
            have H1 : (if t194 ≥ 204 then (cabinetryref02_weight.j3 kj13 t194 (decide (t194 ≤ 207))) else (cabinetryref02_weight.j3 kj13 t194 false)) = some r := by rw [if_neg (show ¬ (false = true) by decide)] at H; exact H
            clear H
            have H := H1
            clear H1
            have HC17 := Aside0.mk H
            clear H
            go_upto_region 12 with (fail)
            go_cut [40] (fun v40 wc => ∃ (kq : Nat) (x40_16 : Bool), v40 = .bool x40_16 ∧ Aside0 (cabinetryref02_weight.j3 kq t194 x40_16 = some r) ∧ Aside0 (kq ≤ kj13) ∧ Drawn0 w wc)
            case first =>
             have H := HC17.out
             clear HC17
             by_cases c18 : t194 ≥ 204
             ·rw [if_pos c18] at H
              have c18b0 : decide (204 ≤ t194) = true := decide_eq_true c18
              clear c18
              (first | rw [c18b0] | (simp only [i64_w, i32_w]; rw [c18b0]) | skip)
              have H' := Aside0.mk H
              clear H
              go_wp2
              go_meet
              case rel => exact ⟨_, (decide (t194 ≤ 207)), (by first | rfl | (simp; done) | (simp [*]; done)), H', ⟨by have := HJ3.out; have := HJ9.out; have := HJ13.out; first | omega | exact Nat.le_refl _⟩, by repeat (first | exact Drawn0.refl _ | apply Drawn0.step)⟩
             ·rw [if_neg c18] at H
              have c18b0 : decide (204 ≤ t194) = false := decide_eq_false c18
              clear c18
              (first | rw [c18b0] | (simp only [i64_w, i32_w]; rw [c18b0]) | skip)
              have H' := Aside0.mk H
              clear H
              go_wp2
              go_meet
              case rel => exact ⟨_, (false), (by first | rfl | (simp; done) | (simp [*]; done)), H', ⟨by have := HJ3.out; have := HJ9.out; have := HJ13.out; first | omega | exact Nat.le_refl _⟩, by repeat (first | exact Drawn0.refl _ | apply Drawn0.step)⟩
            case rest =>
             clear HC17
             try clear c1; try clear p2; try clear c3; try clear c5; try clear c5b0; try clear c5b1; try clear c7; try clear c9; try clear c9b0; try clear c9b1; try clear c11; try clear c11b0; try clear c12; try clear c13; try clear c13b0; try clear c13b1; try clear c15; try clear c15b0; try clear c16; try clear c18; try clear c18b0; try clear p2
             obtain ⟨kq, x40_16, rfl, HA, HJ16, ⟨mc16, rfl⟩⟩ := hcut
             cases kq with
             | zero => exact absurd HA.out (by simp [cabinetryref02_weight.j3])
             | succ kj16 =>
              have H := HA.out
              clear HA
              simp only [cabinetryref02_weight.j3] at H
              by_cases c19 : x40_16 = true
              ·subst c19
               have H1 : (some 73) = some r := by rw [if_pos rfl] at H; exact H
               clear H
               have H := H1
               clear H1
               obtain rfl := Option.some.inj H
               simp only [Option.some.injEq, Prod.mk.injEq] at H
               obtain ⟨rfl⟩ := H
               go_wp2
               go_ret
               exact ⟨by first | rfl | (simp; done) | (simp [*]; done), by repeat (first | exact Drawn0.refl _ | apply Drawn0.step)⟩
              ·replace c19 := Bool.eq_false_iff.mpr c19
               subst c19
               have H1 : (if t194 = 209 then (some 78) else (if t194 ≥ 210 then (cabinetryref02_weight.j4 kj16 t194 (decide (t194 ≤ 214))) else (cabinetryref02_weight.j4 kj16 t194 false))) = some r := by rw [if_neg (show ¬ (false = true) by decide)] at H; exact H
               clear H
               have H := H1
               clear H1
               by_cases c20 : t194 = 209
               ·rw [if_pos c20] at H
                have c20b0 : (t194 == 209) = true := beq_iff_eq.mpr c20
                have c20b1 : (t194 != 209) = false := bne_eq_false_iff_eq.mpr c20
                clear c20
                obtain rfl := Option.some.inj H
                simp only [Option.some.injEq, Prod.mk.injEq] at H
                obtain ⟨rfl⟩ := H
                go_wp2
                go_ret
                exact ⟨by first | rfl | (simp; done) | (simp [*]; done), by repeat (first | exact Drawn0.refl _ | apply Drawn0.step)⟩
               ·rw [if_neg c20] at H
                have c20b0 : (t194 == 209) = false := beq_eq_false_iff_ne.mpr c20
                have c20b1 : (t194 != 209) = true := bne_iff_ne.mpr c20
                have HC21 := Aside0.mk H
                clear H
                go_upto_region 16 with (fail)
                go_cut [50] (fun v50 wc => ∃ (kq : Nat) (x50_20 : Bool), v50 = .bool x50_20 ∧ Aside0 (cabinetryref02_weight.j4 kq t194 x50_20 = some r) ∧ Aside0 (kq ≤ kj16) ∧ Drawn0 w wc)
                case first =>
                 have H := HC21.out
                 clear HC21
                 by_cases c22 : t194 ≥ 210
                 ·rw [if_pos c22] at H
                  have c22b0 : decide (210 ≤ t194) = true := decide_eq_true c22
                  clear c22
                  (first | rw [c22b0] | (simp only [i64_w, i32_w]; rw [c22b0]) | skip)
                  have H' := Aside0.mk H
                  clear H
                  go_wp2
                  go_meet
                  case rel => exact ⟨_, (decide (t194 ≤ 214)), (by first | rfl | (simp; done) | (simp [*]; done)), H', ⟨by have := HJ3.out; have := HJ9.out; have := HJ13.out; have := HJ16.out; first | omega | exact Nat.le_refl _⟩, by repeat (first | exact Drawn0.refl _ | apply Drawn0.step)⟩
                 ·rw [if_neg c22] at H
                  have c22b0 : decide (210 ≤ t194) = false := decide_eq_false c22
                  clear c22
                  (first | rw [c22b0] | (simp only [i64_w, i32_w]; rw [c22b0]) | skip)
                  have H' := Aside0.mk H
                  clear H
                  go_wp2
                  go_meet
                  case rel => exact ⟨_, (false), (by first | rfl | (simp; done) | (simp [*]; done)), H', ⟨by have := HJ3.out; have := HJ9.out; have := HJ13.out; have := HJ16.out; first | omega | exact Nat.le_refl _⟩, by repeat (first | exact Drawn0.refl _ | apply Drawn0.step)⟩
                case rest =>
                 clear HC21
                 try clear c1; try clear c2; try clear p2; try clear c3; try clear c5; try clear c5b0; try clear c5b1; try clear c7; try clear c9; try clear c9b0; try clear c9b1; try clear c11; try clear c11b0; try clear c12; try clear c13; try clear c13b0; try clear c13b1; try clear c15; try clear c15b0; try clear c16; try clear c18; try clear c18b0; try clear c19; try clear c20; try clear c20b0; try clear c20b1; try clear c22; try clear c22b0; try clear p2
                 obtain ⟨kq, x50_20, rfl, HA, HJ20, ⟨mc20, rfl⟩⟩ := hcut
                 cases kq with
                 | zero => exact absurd HA.out (by simp [cabinetryref02_weight.j4])
                 | succ kj20 =>
                  have H := HA.out
                  clear HA
                  simp only [cabinetryref02_weight.j4] at H
                  by_cases c23 : x50_20 = true
                  ·subst c23
                   have H1 : (some 79) = some r := by rw [if_pos rfl] at H; exact H
                   clear H
                   have H := H1
                   clear H1
                   obtain rfl := Option.some.inj H
                   simp only [Option.some.injEq, Prod.mk.injEq] at H
                   obtain ⟨rfl⟩ := H
                   go_wp2
                   go_ret
                   exact ⟨by first | rfl | (simp; done) | (simp [*]; done), by repeat (first | exact Drawn0.refl _ | apply Drawn0.step)⟩
                  ·replace c23 := Bool.eq_false_iff.mpr c23
                   subst c23
                   have H1 : (if t194 ≥ 217 then (cabinetryref02_weight.j5 kj20 t194 (decide (t194 ≤ 220))) else (cabinetryref02_weight.j5 kj20 t194 false)) = some r := by rw [if_neg (show ¬ (false = true) by decide)] at H; exact H
                   clear H
                   have H := H1
                   clear H1
                   have HC24 := Aside0.mk H
                   clear H
                   go_upto_region 18 with (fail)
                   go_cut [57] (fun v57 wc => ∃ (kq : Nat) (x57_23 : Bool), v57 = .bool x57_23 ∧ Aside0 (cabinetryref02_weight.j5 kq t194 x57_23 = some r) ∧ Aside0 (kq ≤ kj20) ∧ Drawn0 w wc)
                   case first =>
                    have H := HC24.out
                    clear HC24
                    by_cases c25 : t194 ≥ 217
                    ·rw [if_pos c25] at H
                     have c25b0 : decide (217 ≤ t194) = true := decide_eq_true c25
                     clear c25
                     (first | rw [c25b0] | (simp only [i64_w, i32_w]; rw [c25b0]) | skip)
                     have H' := Aside0.mk H
                     clear H
                     go_wp2
                     go_meet
                     case rel => exact ⟨_, (decide (t194 ≤ 220)), (by first | rfl | (simp; done) | (simp [*]; done)), H', ⟨by have := HJ3.out; have := HJ9.out; have := HJ13.out; have := HJ16.out; have := HJ20.out; first | omega | exact Nat.le_refl _⟩, by repeat (first | exact Drawn0.refl _ | apply Drawn0.step)⟩
                    ·rw [if_neg c25] at H
                     have c25b0 : decide (217 ≤ t194) = false := decide_eq_false c25
                     clear c25
                     (first | rw [c25b0] | (simp only [i64_w, i32_w]; rw [c25b0]) | skip)
                     have H' := Aside0.mk H
                     clear H
                     go_wp2
                     go_meet
                     case rel => exact ⟨_, (false), (by first | rfl | (simp; done) | (simp [*]; done)), H', ⟨by have := HJ3.out; have := HJ9.out; have := HJ13.out; have := HJ16.out; have := HJ20.out; first | omega | exact Nat.le_refl _⟩, by repeat (first | exact Drawn0.refl _ | apply Drawn0.step)⟩
                   case rest =>
                    clear HC24
                    try clear c1; try clear c2; try clear p2; try clear c3; try clear c5; try clear c5b0; try clear c5b1; try clear c7; try clear c9; try clear c9b0; try clear c9b1; try clear c11; try clear c11b0; try clear c12; try clear c13; try clear c13b0; try clear c13b1; try clear c15; try clear c15b0; try clear c16; try clear c18; try clear c18b0; try clear c19; try clear c20; try clear c20b0; try clear c20b1; try clear c22; try clear c22b0; try clear c23; try clear c25; try clear c25b0; try clear p2
                    obtain ⟨kq, x57_23, rfl, HA, HJ23, ⟨mc23, rfl⟩⟩ := hcut
                    cases kq with
                    | zero => exact absurd HA.out (by simp [cabinetryref02_weight.j5])
                    | succ kj23 =>
                     have H := HA.out
                     clear HA
                     simp only [cabinetryref02_weight.j5] at H
                     by_cases c26 : x57_23 = true
                     ·subst c26
                      have H1 : (some 85) = some r := by rw [if_pos rfl] at H; exact H
                      clear H
                      have H := H1
                      clear H1
                      obtain rfl := Option.some.inj H
                      simp only [Option.some.injEq, Prod.mk.injEq] at H
                      obtain ⟨rfl⟩ := H
                      go_wp2
                      go_ret
                      exact ⟨by first | rfl | (simp; done) | (simp [*]; done), by repeat (first | exact Drawn0.refl _ | apply Drawn0.step)⟩
                     ·replace c26 := Bool.eq_false_iff.mpr c26
                      subst c26
                      have H1 : (if t194 = 221 then (some 89) else (some t194)) = some r := by rw [if_neg (show ¬ (false = true) by decide)] at H; exact H
                      clear H
                      have H := H1
                      clear H1
                      by_cases c27 : t194 = 221
                      ·rw [if_pos c27] at H
                       have c27b0 : (t194 == 221) = true := beq_iff_eq.mpr c27
                       have c27b1 : (t194 != 221) = false := bne_eq_false_iff_eq.mpr c27
                       clear c27
                       obtain rfl := Option.some.inj H
                       simp only [Option.some.injEq, Prod.mk.injEq] at H
                       obtain ⟨rfl⟩ := H
                       go_wp2
                       go_ret
                       exact ⟨by first | rfl | (simp; done) | (simp [*]; done), by repeat (first | exact Drawn0.refl _ | apply Drawn0.step)⟩
                      ·rw [if_neg c27] at H
                       have c27b0 : (t194 == 221) = false := beq_eq_false_iff_ne.mpr c27
                       have c27b1 : (t194 != 221) = true := bne_iff_ne.mpr c27
                       obtain rfl := Option.some.inj H
                       simp only [Option.some.injEq, Prod.mk.injEq] at H
                       obtain ⟨rfl⟩ := H
                       go_wp2
                       go_ret
                       exact ⟨by first | rfl | (simp; done) | (simp [*]; done), by repeat (first | exact Drawn0.refl _ | apply Drawn0.step)⟩
    ·rw [if_neg c9] at H
     have c9b0 : (a1 == 1) = false := beq_eq_false_iff_ne.mpr c9
     have c9b1 : (a1 != 1) = true := bne_iff_ne.mpr c9
     obtain rfl := Option.some.inj H
     simp only [Option.some.injEq, Prod.mk.injEq] at H
     obtain ⟨rfl⟩ := H
     go_wp2_with (first | ((with_reducible refine gate_callee (f := 78) rfl ?_); refine goesL_ (some 19) rfl rfl Tryd.func78 (by kernel_rfl) rfl #[.int .u8 a0, .int .i64 a1] rfl (by (try simp only [List.map_toArray, List.map_cons, List.map_nil]); first | done | rfl | (simp only [List.length_drop, List.length_take]; rfl)) ?_; (with_reducible refine (cabinetryref02_upper.calls kj3 a0 a1 t194 _ A8.out).mono ?_); rintro e w' ⟨rfl, ⟨nd, rfl⟩⟩; refine ⟨_, rfl, ?_⟩))
     go_ret
     exact ⟨by first | rfl | (simp; done) | (simp [*]; done), by repeat (first | exact Drawn0.refl _ | apply Drawn0.step)⟩
end Go.Proofs.YtnkejhfbkgfedaaDoor.PA
