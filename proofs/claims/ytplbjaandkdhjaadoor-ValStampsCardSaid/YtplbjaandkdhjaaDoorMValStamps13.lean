-- Written by a program of this session (wip/merge.py): the texts of this claim, joined.
import Derived.Test.YtplbjaandkdhjaaDoorMValStamps0
import Derived.Test.YtplbjaandkdhjaaDoorMValStamps1
import Derived.Test.YtplbjaandkdhjaaDoorMValStamps2
import Derived.Test.YtplbjaandkdhjaaDoorMValStamps7
import Derived.Test.YtplbjaandkdhjaaDoorMValStamps10
import Derived.Test.YtplbjaandkdhjaaDoorMValStamps11
import Derived.Test.YtplbjaandkdhjaaDoorMValStamps12
namespace Go.Proofs.YtplbjaandkdhjaaDoor.PA
end Go.Proofs.YtplbjaandkdhjaaDoor.PA
namespace Go.Proofs.YtplbjaandkdhjaaDoor.PB
end Go.Proofs.YtplbjaandkdhjaaDoor.PB
namespace Go.Proofs.YtplbjaandkdhjaaDoor.PC
end Go.Proofs.YtplbjaandkdhjaaDoor.PC
namespace Go.Proofs.YtplbjaandkdhjaaDoor.H1
end Go.Proofs.YtplbjaandkdhjaaDoor.H1
namespace Go.Proofs.YtplbjaandkdhjaaDoor.L1
end Go.Proofs.YtplbjaandkdhjaaDoor.L1
namespace Go.Proofs.YtplbjaandkdhjaaDoor.PA
open Go.RowKit Go.Proofs.YtplbjaandkdhjaaDoorW.PrintWords Go.Proofs.YtplbjaandkdhjaaDoorW.PrintLast Go.Proofs.YtplbjaandkdhjaaDoorW.PrintMore
attribute [local go_sem] max2_int min2_int max_two min_two max_three min_three max_four min_four   -- for this text's walks alone
set_option linter.unusedVariables false
set_option linter.unusedSimpArgs false
def cabinetryref01_Padded.l0 : Nat → Int → ByteArray → Option (ByteArray)
 | 0, _, _ => none
 | k + 1, x1, x5 => if (x5.size : Int) < x1 then (if 1 + x5.size ≤ 9223372036854775807 then (cabinetryref01_Padded.l0 k x1 ((⟨#[48]⟩ : ByteArray) ++ x5)) else (none)) else (some x5)
def cabinetryref01_Padded.f (k : Nat) (a0 : Int) (a1 : Int) : Option (ByteArray) := (cabinetryref01_Written.f k a0).bind fun t425 => (cabinetryref01_Padded.l0 k a1 t425)
end Go.Proofs.YtplbjaandkdhjaaDoor.PA
namespace Go.Proofs.YtplbjaandkdhjaaDoor.PB
open Go.RowKit Go.Proofs.YtplbjaandkdhjaaDoorW.PrintWords Go.Proofs.YtplbjaandkdhjaaDoorW.PrintLast Go.Proofs.YtplbjaandkdhjaaDoorW.PrintMore Go.Proofs.YtplbjaandkdhjaaDoor.PA Go.Proofs.YtplbjaandkdhjaaDoor.H1
attribute [local go_sem] max2_int min2_int max_two min_two max_three min_three max_four min_four   -- for this text's walks alone
set_option linter.unusedVariables false
set_option linter.unusedSimpArgs false
def val_padded.f (k : Nat) (a0 : Int) (a1 : Int) : Option (ByteArray) := (val_decimal.f k a0).bind fun t186 => ((strings_Repeat.f (⟨#[48]⟩ : ByteArray) (wrap64 (a1 - (t186.size : Int)))).bind fun t187 => (if t187.size + t186.size ≤ 9223372036854775807 then (some (t187 ++ t186)) else (none)))
set_option maxHeartbeats 8000000 in
set_option maxRecDepth 100000 in
theorem val_padded.calls (k : Nat) (a0 : Int) (a1 : Int) (r : ByteArray) (w : World) (h : val_padded.f k a0 a1 = some r) :
  Calls Tryd.prog 121 #[.int .i64 a0, .int .i64 a1] w fun e w' => e = .returned (.string r) ∧ Below w.heap.size w w' := by
 have HB := Aside0.mk (Below.refl w.heap.size w)
 have H : ((val_decimal.f k a0).bind fun t186 => ((strings_Repeat.f (⟨#[48]⟩ : ByteArray) (wrap64 (a1 - (t186.size : Int)))).bind fun t187 => (if t187.size + t186.size ≤ 9223372036854775807 then (some (t187 ++ t186)) else (none)))) = some r := h
 clear h
 replace H := Option.bind_eq_some_iff.mp H
 obtain ⟨t186, A30, H⟩ := H
 replace H : ((strings_Repeat.f (⟨#[48]⟩ : ByteArray) (wrap64 (a1 - (t186.size : Int)))).bind fun t187 => (if t187.size + t186.size ≤ 9223372036854775807 then (some (t187 ++ t186)) else (none))) = some r := H
 have A3 := Aside0.mk A30
 clear A30
 replace H := Option.bind_eq_some_iff.mp H
 obtain ⟨t187, A40, H⟩ := H
 replace H : (if t187.size + t186.size ≤ 9223372036854775807 then (some (t187 ++ t186)) else (none)) = some r := H
 have A4 := Aside0.mk A40
 clear A40
 by_cases c5 : t187.size + t186.size ≤ 9223372036854775807
 ·rw [if_pos c5] at H
  have c5b0 := eq_true c5
  have c5b1 : decide (t187.size + t186.size ≤ 9223372036854775807) = true := decide_eq_true c5
  try have c5b2 : (9223372036854775807 < t187.size + t186.size) = False := eq_false (Nat.not_lt.2 c5)
  obtain rfl := Option.some.inj H
  simp only [Option.some.injEq, Prod.mk.injEq] at H
  obtain ⟨rfl⟩ := H
  go_enter Tryd.func121, Tryd.ntmps121
  go_wp2_with (first | ((with_reducible refine gate_callee (f := 90) rfl ?_); refine goesL_ (some 7) rfl rfl Tryd.func90 (by kernel_rfl) rfl #[.int .i64 a0] rfl (by (try simp only [List.map_toArray, List.map_cons, List.map_nil]); first | done | rfl | (simp only [List.length_drop, List.length_take]; rfl)) ?_; (with_reducible refine (val_decimal.calls k a0 t186 _ A3.out).mono ?_); rintro e w6 ⟨rfl, hb⟩; refine ⟨_, rfl, ?_⟩; have n0_ := Aside0.mk (below_step (by repeat (first | (with_reducible first | exact HB.out | apply below_alloc | apply pw_below_drewN | apply below_drew1) | exact HB.out)) hb); clear HB; have HB := n0_; clear n0_; (try clear hb); (try clear hb2); (try clear hk); (try clear hi)) | ((with_reducible refine gate_callee (f := 95) rfl ?_); refine goesL_ (some 12) rfl rfl Tryd.func95 (by kernel_rfl) rfl #[.string (⟨#[48]⟩ : ByteArray), .int .i64 (wrap64 (a1 - (t186.size : Int)))] rfl (by (try simp only [List.map_toArray, List.map_cons, List.map_nil]); first | done | rfl | (simp only [List.length_drop, List.length_take]; rfl)) ?_; (with_reducible refine (strings_Repeat.calls (⟨#[48]⟩ : ByteArray) (wrap64 (a1 - (t186.size : Int))) t187 _ A4.out).mono ?_); rintro e w7 ⟨rfl, hb⟩; refine ⟨_, rfl, ?_⟩; have n0_ := Aside0.mk (below_step (by repeat (first | (with_reducible first | exact HB.out | apply below_alloc | apply pw_below_drewN | apply below_drew1) | exact HB.out)) hb); clear HB; have HB := n0_; clear n0_; (try clear hb); (try clear hb2); (try clear hk); (try clear hi)))
  go_ret
  exact ⟨by first | rfl | (simp [errW_none, errW_some] <;> rfl) | (simp [*, errW_none, errW_some] <;> rfl), by repeat (first | (with_reducible first | exact HB.out | apply below_alloc | apply pw_below_drewN | apply below_drew1) | exact HB.out)⟩
 ·rw [if_neg c5] at H
  exact absurd H (by simp)
def val_stamp.f (k : Nat) (a0 : Int) : Option (ByteArray) := (val_Split.f k a0).bind fun bt188 => ((val_padded.f k bt188.1 4).bind fun t192 => ((val_padded.f k bt188.2.1 2).bind fun t193 => (if t192.size + t193.size ≤ 9223372036854775807 then ((val_padded.f k bt188.2.2.1 2).bind fun t194 => (if (t192 ++ t193).size + t194.size ≤ 9223372036854775807 then (some ((t192 ++ t193) ++ t194)) else (none))) else (none))))
set_option maxHeartbeats 8000000 in
set_option maxRecDepth 100000 in
theorem val_stamp.calls (k : Nat) (a0 : Int) (r : ByteArray) (w : World) (h : val_stamp.f k a0 = some r) :
  Calls Tryd.prog 88 #[.int .i64 a0] w fun e w' => e = .returned (.string r) ∧ Below w.heap.size w w' := by
 have HB := Aside0.mk (Below.refl w.heap.size w)
 have H : ((val_Split.f k a0).bind fun bt188 => ((val_padded.f k bt188.1 4).bind fun t192 => ((val_padded.f k bt188.2.1 2).bind fun t193 => (if t192.size + t193.size ≤ 9223372036854775807 then ((val_padded.f k bt188.2.2.1 2).bind fun t194 => (if (t192 ++ t193).size + t194.size ≤ 9223372036854775807 then (some ((t192 ++ t193) ++ t194)) else (none))) else (none))))) = some r := h
 clear h
 replace H := Option.bind_eq_some_iff.mp H
 obtain ⟨⟨t188, t189, t190, t191⟩, A20, H⟩ := H
 replace H : ((val_padded.f k t188 4).bind fun t192 => ((val_padded.f k t189 2).bind fun t193 => (if t192.size + t193.size ≤ 9223372036854775807 then ((val_padded.f k t190 2).bind fun t194 => (if (t192 ++ t193).size + t194.size ≤ 9223372036854775807 then (some ((t192 ++ t193) ++ t194)) else (none))) else (none)))) = some r := H
 have A2 := Aside0.mk A20
 clear A20
 replace H := Option.bind_eq_some_iff.mp H
 obtain ⟨t192, A30, H⟩ := H
 replace H : ((val_padded.f k t189 2).bind fun t193 => (if t192.size + t193.size ≤ 9223372036854775807 then ((val_padded.f k t190 2).bind fun t194 => (if (t192 ++ t193).size + t194.size ≤ 9223372036854775807 then (some ((t192 ++ t193) ++ t194)) else (none))) else (none))) = some r := H
 have A3 := Aside0.mk A30
 clear A30
 replace H := Option.bind_eq_some_iff.mp H
 obtain ⟨t193, A40, H⟩ := H
 replace H : (if t192.size + t193.size ≤ 9223372036854775807 then ((val_padded.f k t190 2).bind fun t194 => (if (t192 ++ t193).size + t194.size ≤ 9223372036854775807 then (some ((t192 ++ t193) ++ t194)) else (none))) else (none)) = some r := H
 have A4 := Aside0.mk A40
 clear A40
 by_cases c5 : t192.size + t193.size ≤ 9223372036854775807
 ·rw [if_pos c5] at H
  have c5b0 := eq_true c5
  have c5b1 : decide (t192.size + t193.size ≤ 9223372036854775807) = true := decide_eq_true c5
  try have c5b2 : (9223372036854775807 < t192.size + t193.size) = False := eq_false (Nat.not_lt.2 c5)
  replace H := Option.bind_eq_some_iff.mp H
  obtain ⟨t194, A60, H⟩ := H
  replace H : (if (t192 ++ t193).size + t194.size ≤ 9223372036854775807 then (some ((t192 ++ t193) ++ t194)) else (none)) = some r := H
  have A6 := Aside0.mk A60
  clear A60
  by_cases c7 : (t192 ++ t193).size + t194.size ≤ 9223372036854775807
  ·rw [if_pos c7] at H
   have c7b0 := eq_true c7
   have c7b1 : decide ((t192 ++ t193).size + t194.size ≤ 9223372036854775807) = true := decide_eq_true c7
   try have c7b2 : (9223372036854775807 < (t192 ++ t193).size + t194.size) = False := eq_false (Nat.not_lt.2 c7)
   try have c7b3 : (9223372036854775807 < t192.size + t193.size + t194.size) = False := eq_false (by have z := c7; simp only [eq_iff_iff, iff_true, iff_false, Nat.not_lt] at *; simp only [ByteArray.size_append, ByteArray.size_extract] at z; omega)
   obtain rfl := Option.some.inj H
   simp only [Option.some.injEq, Prod.mk.injEq] at H
   obtain ⟨rfl⟩ := H
   go_enter Tryd.func88, Tryd.ntmps88
   go_wp2_with (first | ((with_reducible refine gate_callee (f := 24) rfl ?_); refine goesL_ (some 9) rfl rfl Tryd.func24 (by kernel_rfl) rfl #[.int .i64 a0] rfl (by (try simp only [List.map_toArray, List.map_cons, List.map_nil]); first | done | rfl | (simp only [List.length_drop, List.length_take]; rfl)) ?_; (with_reducible refine (val_Split.calls k a0 t188 t189 t190 t191 _ A2.out).mono ?_); rintro e w8 ⟨rfl, hb⟩; refine ⟨_, rfl, ?_⟩; have n0_ := Aside0.mk (below_step (by repeat (first | (with_reducible first | exact HB.out | apply below_alloc | apply pw_below_drewN | apply below_drew1) | exact HB.out)) hb); clear HB; have HB := n0_; clear n0_; (try clear hb); (try clear hb2); (try clear hk); (try clear hi)) | ((with_reducible refine gate_callee (f := 121) rfl ?_); refine goesL_ (some 15) rfl rfl Tryd.func121 (by kernel_rfl) rfl #[.int .i64 t188, .int .i64 4] rfl (by (try simp only [List.map_toArray, List.map_cons, List.map_nil]); first | done | rfl | (simp only [List.length_drop, List.length_take]; rfl)) ?_; (with_reducible refine (val_padded.calls k t188 4 t192 _ A3.out).mono ?_); rintro e w9 ⟨rfl, hb⟩; refine ⟨_, rfl, ?_⟩; have n0_ := Aside0.mk (below_step (by repeat (first | (with_reducible first | exact HB.out | apply below_alloc | apply pw_below_drewN | apply below_drew1) | exact HB.out)) hb); clear HB; have HB := n0_; clear n0_; (try clear hb); (try clear hb2); (try clear hk); (try clear hi)) | ((with_reducible refine gate_callee (f := 121) rfl ?_); refine goesL_ (some 17) rfl rfl Tryd.func121 (by kernel_rfl) rfl #[.int .i64 t189, .int .i64 2] rfl (by (try simp only [List.map_toArray, List.map_cons, List.map_nil]); first | done | rfl | (simp only [List.length_drop, List.length_take]; rfl)) ?_; (with_reducible refine (val_padded.calls k t189 2 t193 _ A4.out).mono ?_); rintro e w10 ⟨rfl, hb⟩; refine ⟨_, rfl, ?_⟩; have n0_ := Aside0.mk (below_step (by repeat (first | (with_reducible first | exact HB.out | apply below_alloc | apply pw_below_drewN | apply below_drew1) | exact HB.out)) hb); clear HB; have HB := n0_; clear n0_; (try clear hb); (try clear hb2); (try clear hk); (try clear hi)) | ((with_reducible refine gate_callee (f := 121) rfl ?_); refine goesL_ (some 20) rfl rfl Tryd.func121 (by kernel_rfl) rfl #[.int .i64 t190, .int .i64 2] rfl (by (try simp only [List.map_toArray, List.map_cons, List.map_nil]); first | done | rfl | (simp only [List.length_drop, List.length_take]; rfl)) ?_; (with_reducible refine (val_padded.calls k t190 2 t194 _ A6.out).mono ?_); rintro e w11 ⟨rfl, hb⟩; refine ⟨_, rfl, ?_⟩; have n0_ := Aside0.mk (below_step (by repeat (first | (with_reducible first | exact HB.out | apply below_alloc | apply pw_below_drewN | apply below_drew1) | exact HB.out)) hb); clear HB; have HB := n0_; clear n0_; (try clear hb); (try clear hb2); (try clear hk); (try clear hi)))
   go_ret
   exact ⟨by first | rfl | (simp [errW_none, errW_some] <;> rfl) | (simp [*, errW_none, errW_some] <;> rfl), by repeat (first | (with_reducible first | exact HB.out | apply below_alloc | apply pw_below_drewN | apply below_drew1) | exact HB.out)⟩
  ·rw [if_neg c7] at H
   exact absurd H (by simp)
 ·rw [if_neg c5] at H
  exact absurd H (by simp)
def val_Stamp.f (k : Nat) (a0 : Int) : Option (ByteArray × Int) := (val_isDay.f a0).bind fun t195 => (if t195 = true then (if a0 = 0 then (some ((⟨#[32, 32, 32, 32, 32, 32, 32, 32]⟩ : ByteArray), 0)) else ((val_stamp.f k a0).bind fun t196 => (some (t196, 0)))) else (some ((⟨#[]⟩ : ByteArray), 1)))
set_option maxHeartbeats 8000000 in
set_option maxRecDepth 100000 in
theorem val_Stamp.calls (k : Nat) (a0 : Int) (r1 : ByteArray) (r2 : Int) (w : World) (h : val_Stamp.f k a0 = some (r1, r2)) :
  Calls Tryd.prog 38 #[.int .i64 a0] w fun e w' => e = .returned (.tuple #[.string r1, .int .i64 r2]) ∧ Below w.heap.size w w' := by
 have HB := Aside0.mk (Below.refl w.heap.size w)
 have H : ((val_isDay.f a0).bind fun t195 => (if t195 = true then (if a0 = 0 then (some ((⟨#[32, 32, 32, 32, 32, 32, 32, 32]⟩ : ByteArray), 0)) else ((val_stamp.f k a0).bind fun t196 => (some (t196, 0)))) else (some ((⟨#[]⟩ : ByteArray), 1)))) = some (r1, r2) := h
 clear h
 replace H := Option.bind_eq_some_iff.mp H
 obtain ⟨t195, A20, H⟩ := H
 replace H : (if t195 = true then (if a0 = 0 then (some ((⟨#[32, 32, 32, 32, 32, 32, 32, 32]⟩ : ByteArray), 0)) else ((val_stamp.f k a0).bind fun t196 => (some (t196, 0)))) else (some ((⟨#[]⟩ : ByteArray), 1))) = some (r1, r2) := H
 have A2 := Aside0.mk A20
 clear A20
 by_cases c3 : t195 = true
 ·subst c3
  have H1 : (if a0 = 0 then (some ((⟨#[32, 32, 32, 32, 32, 32, 32, 32]⟩ : ByteArray), 0)) else ((val_stamp.f k a0).bind fun t196 => (some (t196, 0)))) = some (r1, r2) := by rw [if_pos rfl] at H; exact H
  clear H
  have H := H1
  clear H1
  by_cases c4 : a0 = 0
  ·rw [if_pos c4] at H
   have c4b0 : (a0 == 0) = true := beq_iff_eq.mpr c4
   have c4b1 : (a0 != 0) = false := bne_eq_false_iff_eq.mpr c4
   clear c4
   simp only [Option.some.injEq, Prod.mk.injEq] at H
   obtain ⟨rfl, rfl⟩ := H
   go_enter Tryd.func38, Tryd.ntmps38
   go_wp2_with (first | ((with_reducible refine gate_callee (f := 72) rfl ?_); refine goesL_ (some 5) rfl rfl Tryd.func72 (by kernel_rfl) rfl #[.int .i64 a0] rfl (by (try simp only [List.map_toArray, List.map_cons, List.map_nil]); first | done | rfl | (simp only [List.length_drop, List.length_take]; rfl)) ?_; (with_reducible refine (val_isDay.calls a0 true _ A2.out).mono ?_); rintro e w' ⟨rfl, ⟨nd, rfl⟩⟩; refine ⟨_, rfl, ?_⟩))
   go_ret2
   exact ⟨by first | rfl | (simp [errW_none, errW_some] <;> rfl) | (simp [*, errW_none, errW_some] <;> rfl), by repeat (first | (with_reducible first | exact HB.out | apply below_alloc | apply pw_below_drewN | apply below_drew1) | exact HB.out)⟩
  ·rw [if_neg c4] at H
   have c4b0 : (a0 == 0) = false := beq_eq_false_iff_ne.mpr c4
   have c4b1 : (a0 != 0) = true := bne_iff_ne.mpr c4
   replace H := Option.bind_eq_some_iff.mp H
   obtain ⟨t196, A50, H⟩ := H
   replace H : (some (t196, 0)) = some (r1, r2) := H
   have A5 := Aside0.mk A50
   clear A50
   simp only [Option.some.injEq, Prod.mk.injEq] at H
   obtain ⟨rfl, rfl⟩ := H
   go_enter Tryd.func38, Tryd.ntmps38
   go_wp2_with (first | ((with_reducible refine gate_callee (f := 72) rfl ?_); refine goesL_ (some 5) rfl rfl Tryd.func72 (by kernel_rfl) rfl #[.int .i64 a0] rfl (by (try simp only [List.map_toArray, List.map_cons, List.map_nil]); first | done | rfl | (simp only [List.length_drop, List.length_take]; rfl)) ?_; (with_reducible refine (val_isDay.calls a0 true _ A2.out).mono ?_); rintro e w' ⟨rfl, ⟨nd, rfl⟩⟩; refine ⟨_, rfl, ?_⟩) | ((with_reducible refine gate_callee (f := 88) rfl ?_); refine goesL_ (some 10) rfl rfl Tryd.func88 (by kernel_rfl) rfl #[.int .i64 a0] rfl (by (try simp only [List.map_toArray, List.map_cons, List.map_nil]); first | done | rfl | (simp only [List.length_drop, List.length_take]; rfl)) ?_; (with_reducible refine (val_stamp.calls k a0 t196 _ A5.out).mono ?_); rintro e w6 ⟨rfl, hb⟩; refine ⟨_, rfl, ?_⟩; have n0_ := Aside0.mk (below_step (by repeat (first | (with_reducible first | exact HB.out | apply below_alloc | apply pw_below_drewN | apply below_drew1) | exact HB.out)) hb); clear HB; have HB := n0_; clear n0_; (try clear hb); (try clear hb2); (try clear hk); (try clear hi)))
   go_ret2
   exact ⟨by first | rfl | (simp [errW_none, errW_some] <;> rfl) | (simp [*, errW_none, errW_some] <;> rfl), by repeat (first | (with_reducible first | exact HB.out | apply below_alloc | apply pw_below_drewN | apply below_drew1) | exact HB.out)⟩
 ·replace c3 := Bool.eq_false_iff.mpr c3
  subst c3
  have H1 : (some ((⟨#[]⟩ : ByteArray), 1)) = some (r1, r2) := by rw [if_neg (show ¬ (false = true) by decide)] at H; exact H
  clear H
  have H := H1
  clear H1
  simp only [Option.some.injEq, Prod.mk.injEq] at H
  obtain ⟨rfl, rfl⟩ := H
  go_enter Tryd.func38, Tryd.ntmps38
  go_wp2_with (first | ((with_reducible refine gate_callee (f := 72) rfl ?_); refine goesL_ (some 5) rfl rfl Tryd.func72 (by kernel_rfl) rfl #[.int .i64 a0] rfl (by (try simp only [List.map_toArray, List.map_cons, List.map_nil]); first | done | rfl | (simp only [List.length_drop, List.length_take]; rfl)) ?_; (with_reducible refine (val_isDay.calls a0 false _ A2.out).mono ?_); rintro e w' ⟨rfl, ⟨nd, rfl⟩⟩; refine ⟨_, rfl, ?_⟩))
  go_ret2
  exact ⟨by first | rfl | (simp [errW_none, errW_some] <;> rfl) | (simp [*, errW_none, errW_some] <;> rfl), by repeat (first | (with_reducible first | exact HB.out | apply below_alloc | apply pw_below_drewN | apply below_drew1) | exact HB.out)⟩
end Go.Proofs.YtplbjaandkdhjaaDoor.PB
namespace Go.Proofs.YtplbjaandkdhjaaDoor.L1
open Go.RowKit Go.Proofs.YtplbjaandkdhjaaDoorW.PrintWords Go.Proofs.YtplbjaandkdhjaaDoor.PA Go.Proofs.YtplbjaandkdhjaaDoor.PB Go.Proofs.YtplbjaandkdhjaaDoor.H1
def digs (n : Nat) : List UInt8 := if h : n < 10 then [UInt8.ofNat (48 + n)] else digs (n / 10) ++ [UInt8.ofNat (48 + n % 10)]
termination_by n
decreasing_by omega
theorem digs_small {n : Nat} (h : n < 10) : digs n = [UInt8.ofNat (48 + n)] := by rw [digs, dif_pos h]
theorem digs_big {n : Nat} (h : ¬ n < 10) : digs n = digs (n / 10) ++ [UInt8.ofNat (48 + n % 10)] := by rw [digs, dif_neg h]
theorem digs_len (k : Nat) : ∀ n, n < 10 ^ k → 1 ≤ k → 1 ≤ (digs n).length ∧ (digs n).length ≤ k := by
  induction k with
  | zero => intro n _ h; omega
  | succ k ih =>
    intro n h _
    by_cases hs : n < 10
    · rw [digs_small hs]; simp
    · rw [digs_big hs, List.length_append, List.length_singleton]
      have hk : 1 ≤ k := by
        rcases Nat.eq_zero_or_pos k with rfl | h'
        · simp at h; omega
        · exact h'
      have := ih (n / 10) (by rw [Nat.pow_succ] at h; omega) hk
      omega
theorem ten_cut (d : Nat) (h : d < 10) : (⟨#[48, 49, 50, 51, 52, 53, 54, 55, 56, 57]⟩ : ByteArray).extract d (d + 1) = ⟨[UInt8.ofNat (48 + d)].toArray⟩ := by
  apply ba_ext
  rw [Lib.extract_data]
  match d, h with
  | 0, _ => rfl
  | 1, _ => rfl
  | 2, _ => rfl
  | 3, _ => rfl
  | 4, _ => rfl
  | 5, _ => rfl
  | 6, _ => rfl
  | 7, _ => rfl
  | 8, _ => rfl
  | 9, _ => rfl
theorem ba_app (a b : List UInt8) : (⟨a.toArray⟩ : ByteArray) ++ ⟨b.toArray⟩ = ⟨(a ++ b).toArray⟩ := ba_ext (by simp)
theorem ten_at (x : Int) (n : Nat) (hx : x = n) (h : n < 10) : (if 0 ≤ x then (if x ≤ wrap64 (x + 1) then (if wrap64 (x + 1) ≤ 10 then some ((⟨#[48, 49, 50, 51, 52, 53, 54, 55, 56, 57]⟩ : ByteArray).extract x.toNat (wrap64 (x + 1)).toNat) else none) else none) else none) = some ⟨[UInt8.ofNat (48 + n)].toArray⟩ := by
  subst hx
  rw [w64 (by omega) (by omega), if_pos (by omega), if_pos (by omega), if_pos (by omega), show ((n : Int)).toNat = n by omega, show ((n : Int) + 1).toNat = n + 1 by omega, ten_cut n h]
theorem ten_app (t : List UInt8) (x : Int) (n : Nat) (hx : x = n) (h : n < 10) (ht : t.length ≤ 100) : (if 0 ≤ x then (if x ≤ wrap64 (x + 1) then (if wrap64 (x + 1) ≤ 10 then (if (⟨t.toArray⟩ : ByteArray).size + ((⟨#[48, 49, 50, 51, 52, 53, 54, 55, 56, 57]⟩ : ByteArray).extract x.toNat (wrap64 (x + 1)).toNat).size ≤ 9223372036854775807 then some ((⟨t.toArray⟩ : ByteArray) ++ (⟨#[48, 49, 50, 51, 52, 53, 54, 55, 56, 57]⟩ : ByteArray).extract x.toNat (wrap64 (x + 1)).toNat) else none) else none) else none) else none) = some ⟨(t ++ [UInt8.ofNat (48 + n)]).toArray⟩ := by
  subst hx
  have e : wrap64 ((n : Int) + 1) = (n : Int) + 1 := w64 (by omega) (by omega)
  have c : (⟨#[48, 49, 50, 51, 52, 53, 54, 55, 56, 57]⟩ : ByteArray).extract ((n : Int)).toNat (wrap64 ((n : Int) + 1)).toNat = ⟨[UInt8.ofNat (48 + n)].toArray⟩ := by
    rw [e, show ((n : Int)).toNat = n by omega, show ((n : Int) + 1).toNat = n + 1 by omega, ten_cut n h]
  rw [c, e, ba_size, ba_size, ba_app, List.length_singleton, if_pos (by omega), if_pos (by omega), if_pos (by omega), if_pos (by omega)]
theorem decimal_nat (k : Nat) : ∀ n : Nat, n < 10 ^ k → 1 ≤ k → k ≤ 18 → val_decimal.f k (n : Int) = some ⟨(digs n).toArray⟩ := by
  induction k with
  | zero => intro n _ h; omega
  | succ k ih =>
    intro n h _ hk
    unfold val_decimal.f
    rw [if_neg (by omega)]
    by_cases hs : n < 10
    · rw [if_pos (by omega), digs_small hs]
      exact ten_at n n rfl hs
    · rw [if_neg (by omega), digs_big hs]
      have hk1 : 1 ≤ k := by
        rcases Nat.eq_zero_or_pos k with rfl | h'
        · simp at h; omega
        · exact h'
      have hb : n < 10 ^ 18 := Nat.lt_of_lt_of_le h (Nat.pow_le_pow_right (by omega) hk)
      rw [show (10 : Nat) ^ 18 = 1000000000000000000 by decide] at hb
      have hb' : (n : Int) < 1000000000000000000 := by omega
      have hq : n / 10 < 10 ^ k := by rw [Nat.pow_succ] at h; omega
      have e1 : Int.tdiv (n : Int) 10 = ((n / 10 : Nat) : Int) := by rw [Int.tdiv_eq_ediv_of_nonneg (by omega)]; omega
      have e2 : Int.tmod (n : Int) 10 = ((n % 10 : Nat) : Int) := by rw [Int.tmod_eq_emod_of_nonneg (by omega)]; omega
      rw [e1, e2, w64 (x := ((n / 10 : Nat) : Int)) (by omega) (by omega), ih (n / 10) hq hk1 (by omega), Option.bind_some]
      have hl := (digs_len k (n / 10) hq hk1).2
      exact ten_app _ _ (n % 10) rfl (Nat.mod_lt _ (by omega)) (by omega)
theorem written_nat (k : Nat) : ∀ n : Nat, n < 10 ^ k → 1 ≤ k → k ≤ 18 → cabinetryref01_Written.f k (n : Int) = some ⟨(digs n).toArray⟩ := by
  induction k with
  | zero => intro n _ h; omega
  | succ k ih =>
    intro n h _ hk
    unfold cabinetryref01_Written.f
    rw [if_neg (by omega)]
    by_cases hs : n < 10
    · rw [if_pos (by omega), digs_small hs]
      exact ten_at n n rfl hs
    · rw [if_neg (by omega), digs_big hs]
      have hk1 : 1 ≤ k := by
        rcases Nat.eq_zero_or_pos k with rfl | h'
        · simp at h; omega
        · exact h'
      have hb : n < 10 ^ 18 := Nat.lt_of_lt_of_le h (Nat.pow_le_pow_right (by omega) hk)
      rw [show (10 : Nat) ^ 18 = 1000000000000000000 by decide] at hb
      have hb' : (n : Int) < 1000000000000000000 := by omega
      have hq : n / 10 < 10 ^ k := by rw [Nat.pow_succ] at h; omega
      have hm : n % 10 < 10 := Nat.mod_lt _ (by omega)
      have hm2 : n % 10 < 10 ^ k := Nat.lt_of_lt_of_le hm (by have := Nat.pow_le_pow_right (n := 10) (by omega) hk1; omega)
      have e1 : Int.tdiv (n : Int) 10 = ((n / 10 : Nat) : Int) := by rw [Int.tdiv_eq_ediv_of_nonneg (by omega)]; omega
      have e2 : Int.tmod (n : Int) 10 = ((n % 10 : Nat) : Int) := by rw [Int.tmod_eq_emod_of_nonneg (by omega)]; omega
      rw [e1, e2, w64 (x := ((n / 10 : Nat) : Int)) (by omega) (by omega), ih (n / 10) hq hk1 (by omega), ih (n % 10) hm2 hk1 (by omega)]
      simp only [Option.bind_some]
      have hl := (digs_len k (n / 10) hq hk1).2
      rw [digs_small hm, if_pos (by rw [ba_size, ba_size, List.length_singleton]; omega), ba_app]
def decS (n : Int) : List UInt8 := if n < 0 then 45 :: digs (-n).toNat else digs n.toNat
theorem decimal_f {n : Int} (h : -1000000000000000 ≤ n ∧ n ≤ 1000000000000000) : val_decimal.f 17 n = some ⟨(decS n).toArray⟩ := by
  unfold decS
  by_cases hn : n < 0
  · rw [if_pos hn]
    unfold val_decimal.f
    rw [if_pos hn, w64 (by omega) (by omega)]
    have e : -n = (((-n).toNat : Nat) : Int) := by omega
    have hb : (-n).toNat < 10 ^ 16 := by omega
    have d := decimal_nat 16 (-n).toNat hb (by omega) (by omega)
    rw [← e] at d
    rw [d]
    simp only [Option.bind_some]
    have hl := (digs_len 16 _ hb (by omega)).2
    rw [if_pos (by rw [ba_size]; omega), show (⟨#[45]⟩ : ByteArray) = ⟨[45].toArray⟩ from rfl, ba_app]
    rfl
  · rw [if_neg hn]
    have e : n = ((n.toNat : Nat) : Int) := by omega
    have d := decimal_nat 17 n.toNat (by omega) (by omega) (by omega)
    rw [← e] at d
    exact d
theorem written_f {n : Int} (h : -1000000000000000 ≤ n ∧ n ≤ 1000000000000000) : cabinetryref01_Written.f 17 n = some ⟨(decS n).toArray⟩ := by
  unfold decS
  by_cases hn : n < 0
  · rw [if_pos hn]
    unfold cabinetryref01_Written.f
    rw [if_pos hn, if_neg (by omega), w64 (by omega) (by omega)]
    have e : -n = (((-n).toNat : Nat) : Int) := by omega
    have hb : (-n).toNat < 10 ^ 16 := by omega
    have d := written_nat 16 (-n).toNat hb (by omega) (by omega)
    rw [← e] at d
    rw [d]
    simp only [Option.bind_some]
    have hl := (digs_len 16 _ hb (by omega)).2
    rw [if_pos (by rw [ba_size]; omega), show (⟨#[45]⟩ : ByteArray) = ⟨[45].toArray⟩ from rfl, ba_app]
    rfl
  · rw [if_neg hn]
    have e : n = ((n.toNat : Nat) : Int) := by omega
    have d := written_nat 17 n.toNat (by omega) (by omega) (by omega)
    rw [← e] at d
    exact d
theorem decimal_ge {n : Int} (h : -1000000000000000 ≤ n ∧ n ≤ 1000000000000000) {k : Nat} (hk : 17 ≤ k) : val_decimal.f k n = some ⟨(decS n).toArray⟩ :=
  at_rounds (g := fun k => val_decimal.f k n) (fun k => val_decimal.mono n k) hk (decimal_f h)
theorem written_ge {n : Int} (h : -1000000000000000 ≤ n ∧ n ≤ 1000000000000000) {k : Nat} (hk : 17 ≤ k) : cabinetryref01_Written.f k n = some ⟨(decS n).toArray⟩ :=
  at_rounds (g := fun k => cabinetryref01_Written.f k n) (fun k => cabinetryref01_Written.mono n k) hk (written_f h)
theorem repeat_one (c : UInt8) (n : Nat) : Lib.repeatL [c] n = List.replicate n c := by
  induction n with
  | zero => rfl
  | succ n ih => rw [Lib.repeatL, ih, List.replicate_succ]; rfl
theorem repeat_f (c : UInt8) (n : Int) (h0 : 0 ≤ n) (h1 : n ≤ 100000) : strings_Repeat.f (⟨#[c]⟩ : ByteArray) n = some ⟨(List.replicate n.toNat c).toArray⟩ := by
  unfold strings_Repeat.f
  have e : (⟨#[c]⟩ : ByteArray).size = 1 := rfl
  rw [if_pos ⟨h0, by omega, by rw [e]; omega⟩, show (⟨#[c]⟩ : ByteArray).data.toList = [c] from rfl, repeat_one]
def padS (n w : Nat) : List UInt8 := List.replicate (w - (digs n).length) 48 ++ digs n
theorem padded_f {n w : Nat} (hn : n < 10 ^ w) (hw : 1 ≤ w) (hw2 : w ≤ 10) {k : Nat} (hk : 17 ≤ k) : val_padded.f k (n : Int) (w : Int) = some ⟨(padS n w).toArray⟩ := by
  have hl := (digs_len w n hn hw).2
  have hb : n < 10 ^ 10 := Nat.lt_of_lt_of_le hn (Nat.pow_le_pow_right (by omega) hw2)
  rw [show (10 : Nat) ^ 10 = 10000000000 by decide] at hb
  have hb' : (n : Int) < 10000000000 := by omega
  unfold val_padded.f padS
  rw [decimal_ge (by omega) hk]
  unfold decS
  rw [if_neg (by omega), show ((n : Int)).toNat = n by omega]
  simp only [Option.bind_some]
  rw [ba_size, w64 (by omega) (by omega), repeat_f 48 _ (by omega) (by omega)]
  simp only [Option.bind_some]
  rw [if_pos (by rw [ba_size, List.length_replicate]; omega), ba_app, show ((w : Int) - ((digs n).length : Int)).toNat = w - (digs n).length by omega]
theorem refPadded_l (w : Nat) (hw : w ≤ 10) (d : Nat) : ∀ (l : List UInt8) (k : Nat), l.length + d = w → d < k → cabinetryref01_Padded.l0 k (w : Int) ⟨l.toArray⟩ = some ⟨(List.replicate d 48 ++ l).toArray⟩ := by
  induction d with
  | zero =>
    intro l k hl hk
    obtain ⟨k, rfl⟩ : ∃ m, k = m + 1 := ⟨k - 1, by omega⟩
    simp only [cabinetryref01_Padded.l0]
    rw [if_neg (by rw [ba_size]; omega)]
    rfl
  | succ d ih =>
    intro l k hl hk
    obtain ⟨k, rfl⟩ : ∃ m, k = m + 1 := ⟨k - 1, by omega⟩
    simp only [cabinetryref01_Padded.l0]
    rw [if_pos (by rw [ba_size]; omega), if_pos (by rw [ba_size]; omega), show (⟨#[48]⟩ : ByteArray) = ⟨[48].toArray⟩ from rfl, ba_app, ih ([48] ++ l) k (by rw [List.length_append, List.length_singleton]; omega) (by omega)]
    rw [← List.append_assoc, List.replicate_succ']
theorem refPadded_f {n w : Nat} (hn : n < 10 ^ w) (hw : 1 ≤ w) (hw2 : w ≤ 10) {k : Nat} (hk : 17 ≤ k) : cabinetryref01_Padded.f k (n : Int) (w : Int) = some ⟨(padS n w).toArray⟩ := by
  have hl := (digs_len w n hn hw).2
  have hb : n < 10 ^ 10 := Nat.lt_of_lt_of_le hn (Nat.pow_le_pow_right (by omega) hw2)
  rw [show (10 : Nat) ^ 10 = 10000000000 by decide] at hb
  have hb' : (n : Int) < 10000000000 := by omega
  unfold cabinetryref01_Padded.f padS
  rw [written_ge (by omega) hk]
  unfold decS
  rw [if_neg (by omega), show ((n : Int)).toNat = n by omega]
  simp only [Option.bind_some]
  exact refPadded_l w hw2 (w - (digs n).length) (digs n) k (by omega) (by omega)
end Go.Proofs.YtplbjaandkdhjaaDoor.L1
namespace Go.Proofs.YtplbjaandkdhjaaDoor.L1
open Go.RowKit Go.Proofs.YtplbjaandkdhjaaDoorW.PrintWords Go.Proofs.YtplbjaandkdhjaaDoor.PA Go.Proofs.YtplbjaandkdhjaaDoor.PB Go.Proofs.YtplbjaandkdhjaaDoor.H1
theorem daysV_ok {y m d : Int} (h : validD y m d) : daysV y m d = (ydays y + cum y (m - 1).toNat + d, 0) := by unfold daysV; rw [if_pos h]
theorem day_ways (n : Int) : (¬ (0 ≤ n ∧ n ≤ 3652059)) ∨ n = 0 ∨ ∃ y m d, IsDate n y m d := by
  by_cases h : 0 ≤ n ∧ n ≤ 3652059
  · by_cases h0 : n = 0
    · exact .inr (.inl h0)
    · obtain ⟨y, m, d, hd, _⟩ := split_some (n := n) (by omega) (by omega)
      exact .inr (.inr ⟨y, m, d, hd⟩)
  · exact .inl h
def stampL (y m d : Int) : List UInt8 := padS y.toNat 4 ++ padS m.toNat 2 ++ padS d.toNat 2
theorem padS_len {n w : Nat} (hn : n < 10 ^ w) (hw : 1 ≤ w) : (padS n w).length = w := by
  have hl := (digs_len w n hn hw).2
  unfold padS
  rw [List.length_append, List.length_replicate]
  omega
theorem date_pads {n y m d : Int} (h : IsDate n y m d) {k : Nat} (hk : 17 ≤ k) :
    (val_padded.f k y 4 = some ⟨(padS y.toNat 4).toArray⟩ ∧ val_padded.f k m 2 = some ⟨(padS m.toNat 2).toArray⟩ ∧ val_padded.f k d 2 = some ⟨(padS d.toNat 2).toArray⟩) ∧
    (cabinetryref01_Padded.f k y 4 = some ⟨(padS y.toNat 4).toArray⟩ ∧ cabinetryref01_Padded.f k m 2 = some ⟨(padS m.toNat 2).toArray⟩ ∧ cabinetryref01_Padded.f k d 2 = some ⟨(padS d.toNat 2).toArray⟩) ∧
    (padS y.toNat 4).length = 4 ∧ (padS m.toNat 2).length = 2 ∧ (padS d.toNat 2).length = 2 := by
  obtain ⟨h1, h2, h3, h4, h5, h6, _⟩ := h
  have mb := mdays_bd y m
  have ey : y = ((y.toNat : Nat) : Int) := by omega
  have em : m = ((m.toNat : Nat) : Int) := by omega
  have ed : d = ((d.toNat : Nat) : Int) := by omega
  have by' : y.toNat < 10 ^ 4 := by omega
  have bm : m.toNat < 10 ^ 2 := by omega
  have bd : d.toNat < 10 ^ 2 := by omega
  have p1 := padded_f by' (by omega) (by omega) hk
  have p2 := padded_f bm (by omega) (by omega) hk
  have p3 := padded_f bd (by omega) (by omega) hk
  have q1 := refPadded_f by' (by omega) (by omega) hk
  have q2 := refPadded_f bm (by omega) (by omega) hk
  have q3 := refPadded_f bd (by omega) (by omega) hk
  rw [← ey] at p1 q1
  rw [← em] at p2 q2
  rw [← ed] at p3 q3
  exact ⟨⟨p1, p2, p3⟩, ⟨q1, q2, q3⟩, padS_len by' (by omega), padS_len bm (by omega), padS_len bd (by omega)⟩
theorem stamp_is {n y m d : Int} (h : IsDate n y m d) (k : Nat) (hk : 11000 ≤ k) : val_Stamp.f k n = some (⟨(stampL y m d).toArray⟩, 0) := by
  have b := isDate_bd h
  obtain ⟨⟨p1, p2, p3⟩, _, l1, l2, l3⟩ := date_pads h (k := k) (by omega)
  unfold val_Stamp.f val_stamp.f stampL
  rw [isDay_f, Option.bind_some, decide_eq_true (by omega), if_pos rfl, if_neg (by omega), split_is h k hk, Option.bind_some, p1, Option.bind_some, p2, Option.bind_some, if_pos (by rw [ba_size, ba_size]; omega), p3, Option.bind_some, ba_app, if_pos (by rw [ba_size, ba_size, List.length_append]; omega), ba_app, Option.bind_some]
theorem stamp_zero (k : Nat) : val_Stamp.f k 0 = some (⟨#[32, 32, 32, 32, 32, 32, 32, 32]⟩, 0) := by
  unfold val_Stamp.f
  rw [isDay_f, Option.bind_some]
  rfl
theorem stamp_no {n : Int} (h : ¬ (0 ≤ n ∧ n ≤ 3652059)) (k : Nat) : val_Stamp.f k n = some (⟨#[]⟩, 1) := by
  unfold val_Stamp.f
  rw [isDay_f, Option.bind_some, decide_eq_false h, if_neg (by decide)]
end Go.Proofs.YtplbjaandkdhjaaDoor.L1
namespace Go.Proofs.YtplbjaandkdhjaaDoor.PA
open Go.RowKit Go.Proofs.YtplbjaandkdhjaaDoorW.PrintWords Go.Proofs.YtplbjaandkdhjaaDoorW.PrintLast Go.Proofs.YtplbjaandkdhjaaDoorW.PrintMore
attribute [local go_sem] max2_int min2_int max_two min_two max_three min_three max_four min_four   -- for this text's walks alone
set_option linter.unusedVariables false
set_option linter.unusedSimpArgs false
def cabinetryref01_IsDigit.f (a0 : Int) : Option (Bool) := if a0 ≥ 48 then (some (decide (a0 ≤ 57))) else (some false)
set_option maxHeartbeats 8000000 in
set_option maxRecDepth 100000 in
theorem cabinetryref01_IsDigit.calls (a0 : Int) (r : Bool) (w : World) (h : cabinetryref01_IsDigit.f a0 = some r) :
  Calls Tryd.prog 99 #[.int .u8 a0] w fun e w' => e = .returned (.bool r) ∧ Drawn0 w w' := by
 have H : (if a0 ≥ 48 then (some (decide (a0 ≤ 57))) else (some false)) = some r := h
 clear h
 by_cases c2 : a0 ≥ 48
 ·rw [if_pos c2] at H
  have c2b0 : decide (48 ≤ a0) = true := decide_eq_true c2
  clear c2
  obtain rfl := Option.some.inj H
  simp only [Option.some.injEq, Prod.mk.injEq] at H
  obtain ⟨rfl⟩ := H
  go_enter Tryd.func99, Tryd.ntmps99
  go_wp2
  go_ret
  exact ⟨by first | rfl | (simp; done) | (simp [*]; done), by repeat (first | exact Drawn0.refl _ | apply Drawn0.step)⟩
 ·rw [if_neg c2] at H
  have c2b0 : decide (48 ≤ a0) = false := decide_eq_false c2
  clear c2
  obtain rfl := Option.some.inj H
  simp only [Option.some.injEq, Prod.mk.injEq] at H
  obtain ⟨rfl⟩ := H
  go_enter Tryd.func99, Tryd.ntmps99
  go_wp2
  go_ret
  exact ⟨by first | rfl | (simp; done) | (simp [*]; done), by repeat (first | exact Drawn0.refl _ | apply Drawn0.step)⟩
end Go.Proofs.YtplbjaandkdhjaaDoor.PA
