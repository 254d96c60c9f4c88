-- Written by a program of this session (wip/merge.py): the texts of this claim, joined.
import Derived.Test.YtnkejhfbkgfedaaDoorMKeyPacks0
import Derived.Test.YtnkejhfbkgfedaaDoorMKeyPacks1
import Derived.Test.YtnkejhfbkgfedaaDoorMKeyPacks2
import Derived.Test.YtnkejhfbkgfedaaDoorMKeyPacks3
import Derived.Test.YtnkejhfbkgfedaaDoorMKeyPacks5
namespace Go.Proofs.YtnkejhfbkgfedaaDoor.PA
end Go.Proofs.YtnkejhfbkgfedaaDoor.PA
namespace Go.Proofs.YtnkejhfbkgfedaaDoor.PB
end Go.Proofs.YtnkejhfbkgfedaaDoor.PB
namespace Go.Proofs.YtnkejhfbkgfedaaDoor.PC
end Go.Proofs.YtnkejhfbkgfedaaDoor.PC
namespace Go.Proofs.YtnkejhfbkgfedaaDoor.H1
end Go.Proofs.YtnkejhfbkgfedaaDoor.H1
namespace Go.Proofs.YtnkejhfbkgfedaaDoor.L1
end Go.Proofs.YtnkejhfbkgfedaaDoor.L1
namespace Go.Proofs.YtnkejhfbkgfedaaDoor.PA
open Go.RowKit Go.Proofs.YtnkejhfbkgfedaaDoorW.PrintWords Go.Proofs.YtnkejhfbkgfedaaDoorW.PrintLast Go.Proofs.YtnkejhfbkgfedaaDoorW.PrintMore
attribute [local go_sem] max2_int min2_int max_two min_two max_three min_three max_four min_four   -- for this text's walks alone
set_option linter.unusedVariables false
set_option linter.unusedSimpArgs false
def page_isCapital.f (a0 : Int) (a1 : Int) : Option (Bool) := (page_within.f a0 65 90).bind fun t118 => (if t118 = true then (some true) else (if a1 = 1 then ((page_within.f a0 192 222).bind fun t119 => (if t119 = true then (if a0 = 215 then (if a1 = 2 then ((page_within.f a0 128 159).bind fun t120 => (some t120)) else (some false)) else (some true)) else (if a1 = 2 then ((page_within.f a0 128 159).bind fun t121 => (some t121)) else (some false)))) else (if a1 = 2 then ((page_within.f a0 128 159).bind fun t122 => (some t122)) else (some false))))
set_option maxHeartbeats 8000000 in
set_option maxRecDepth 100000 in
theorem page_isCapital.calls (a0 : Int) (a1 : Int) (r : Bool) (w : World) (h : page_isCapital.f a0 a1 = some r) :
  Calls Tryd.prog 129 #[.int .u8 a0, .int .i64 a1] w fun e w' => e = .returned (.bool r) ∧ Drawn0 w w' := by
 have H : ((page_within.f a0 65 90).bind fun t118 => (if t118 = true then (some true) else (if a1 = 1 then ((page_within.f a0 192 222).bind fun t119 => (if t119 = true then (if a0 = 215 then (if a1 = 2 then ((page_within.f a0 128 159).bind fun t120 => (some t120)) else (some false)) else (some true)) else (if a1 = 2 then ((page_within.f a0 128 159).bind fun t121 => (some t121)) else (some false)))) else (if a1 = 2 then ((page_within.f a0 128 159).bind fun t122 => (some t122)) else (some false))))) = some r := h
 clear h
 replace H := Option.bind_eq_some_iff.mp H
 obtain ⟨t118, A30, H⟩ := H
 replace H : (if t118 = true then (some true) else (if a1 = 1 then ((page_within.f a0 192 222).bind fun t119 => (if t119 = true then (if a0 = 215 then (if a1 = 2 then ((page_within.f a0 128 159).bind fun t120 => (some t120)) else (some false)) else (some true)) else (if a1 = 2 then ((page_within.f a0 128 159).bind fun t121 => (some t121)) else (some false)))) else (if a1 = 2 then ((page_within.f a0 128 159).bind fun t122 => (some t122)) else (some false)))) = some r := H
 have A3 := Aside0.mk A30
 clear A30
 by_cases c4 : t118 = true
 ·subst c4
  have H1 : (some true) = some r := by rw [if_pos rfl] at H; exact H
  clear H
  have H := H1
  clear H1
  obtain rfl := Option.some.inj H
  simp only [Option.some.injEq, Prod.mk.injEq] at H
  obtain ⟨rfl⟩ := H
  go_enter Tryd.func129, Tryd.ntmps129
  go_wp2_with (first | ((with_reducible refine gate_callee (f := 130) rfl ?_); refine goesL_ (some 6) rfl rfl Tryd.func130 (by kernel_rfl) rfl #[.int .u8 a0, .int .u8 65, .int .u8 90] rfl (by (try simp only [List.map_toArray, List.map_cons, List.map_nil]); first | done | rfl | (simp only [List.length_drop, List.length_take]; rfl)) ?_; (with_reducible refine (page_within.calls a0 65 90 true _ A3.out).mono ?_); rintro e w' ⟨rfl, ⟨nd, rfl⟩⟩; refine ⟨_, rfl, ?_⟩))
  go_ret
  exact ⟨by first | rfl | (simp; done) | (simp [*]; done), by repeat (first | exact Drawn0.refl _ | apply Drawn0.step)⟩
 ·replace c4 := Bool.eq_false_iff.mpr c4
  subst c4
  have H1 : (if a1 = 1 then ((page_within.f a0 192 222).bind fun t119 => (if t119 = true then (if a0 = 215 then (if a1 = 2 then ((page_within.f a0 128 159).bind fun t120 => (some t120)) else (some false)) else (some true)) else (if a1 = 2 then ((page_within.f a0 128 159).bind fun t121 => (some t121)) else (some false)))) else (if a1 = 2 then ((page_within.f a0 128 159).bind fun t122 => (some t122)) else (some false))) = some r := by rw [if_neg (show ¬ (false = true) by decide)] at H; exact H
  clear H
  have H := H1
  clear H1
  by_cases c5 : a1 = 1
  ·rw [if_pos c5] at H
   have c5b0 : (a1 == 1) = true := beq_iff_eq.mpr c5
   have c5b1 : (a1 != 1) = false := bne_eq_false_iff_eq.mpr c5
   clear c5
   replace H := Option.bind_eq_some_iff.mp H
   obtain ⟨t119, A60, H⟩ := H
   replace H : (if t119 = true then (if a0 = 215 then (if a1 = 2 then ((page_within.f a0 128 159).bind fun t120 => (some t120)) else (some false)) else (some true)) else (if a1 = 2 then ((page_within.f a0 128 159).bind fun t121 => (some t121)) else (some false))) = some r := H
   have A6 := Aside0.mk A60
   clear A60
   by_cases c7 : t119 = true
   ·subst c7
    have H1 : (if a0 = 215 then (if a1 = 2 then ((page_within.f a0 128 159).bind fun t120 => (some t120)) else (some false)) else (some true)) = some r := by rw [if_pos rfl] at H; exact H
    clear H
    have H := H1
    clear H1
    by_cases c8 : a0 = 215
    ·rw [if_pos c8] at H
     have c8b0 : (a0 == 215) = true := beq_iff_eq.mpr c8
     have c8b1 : (a0 != 215) = false := bne_eq_false_iff_eq.mpr c8
     clear c8
     by_cases c9 : a1 = 2
     ·rw [if_pos c9] at H
      have c9b0 : (a1 == 2) = true := beq_iff_eq.mpr c9
      have c9b1 : (a1 != 2) = false := bne_eq_false_iff_eq.mpr c9
      clear c9
      replace H := Option.bind_eq_some_iff.mp H
      obtain ⟨t120, A100, H⟩ := H
      replace H : (some t120) = some r := H
      have A10 := Aside0.mk A100
      clear A100
      obtain rfl := Option.some.inj H
      simp only [Option.some.injEq, Prod.mk.injEq] at H
      obtain ⟨rfl⟩ := H
      go_enter Tryd.func129, Tryd.ntmps129
      go_wp2_with (first | ((with_reducible refine gate_callee (f := 130) rfl ?_); refine goesL_ (some 6) rfl rfl Tryd.func130 (by kernel_rfl) rfl #[.int .u8 a0, .int .u8 65, .int .u8 90] rfl (by (try simp only [List.map_toArray, List.map_cons, List.map_nil]); first | done | rfl | (simp only [List.length_drop, List.length_take]; rfl)) ?_; (with_reducible refine (page_within.calls a0 65 90 false _ A3.out).mono ?_); rintro e w' ⟨rfl, ⟨nd, rfl⟩⟩; refine ⟨_, rfl, ?_⟩) | (go_at_call 130; (with_reducible refine (page_within.calls a0 192 222 true _ A6.out).mono ?_); rintro e w' ⟨rfl, ⟨nd, rfl⟩⟩) | (go_at_call 130; (with_reducible refine (page_within.calls a0 128 159 t120 _ A10.out).mono ?_); rintro e w' ⟨rfl, ⟨nd, rfl⟩⟩))
      go_ret
      exact ⟨by first | rfl | (simp; done) | (simp [*]; done), by repeat (first | exact Drawn0.refl _ | apply Drawn0.step)⟩
     ·rw [if_neg c9] at H
      have c9b0 : (a1 == 2) = false := beq_eq_false_iff_ne.mpr c9
      have c9b1 : (a1 != 2) = true := bne_iff_ne.mpr c9
      obtain rfl := Option.some.inj H
      simp only [Option.some.injEq, Prod.mk.injEq] at H
      obtain ⟨rfl⟩ := H
      go_enter Tryd.func129, Tryd.ntmps129
      go_wp2_with (first | ((with_reducible refine gate_callee (f := 130) rfl ?_); refine goesL_ (some 6) rfl rfl Tryd.func130 (by kernel_rfl) rfl #[.int .u8 a0, .int .u8 65, .int .u8 90] rfl (by (try simp only [List.map_toArray, List.map_cons, List.map_nil]); first | done | rfl | (simp only [List.length_drop, List.length_take]; rfl)) ?_; (with_reducible refine (page_within.calls a0 65 90 false _ A3.out).mono ?_); rintro e w' ⟨rfl, ⟨nd, rfl⟩⟩; refine ⟨_, rfl, ?_⟩) | (go_at_call 130; (with_reducible refine (page_within.calls a0 192 222 true _ A6.out).mono ?_); rintro e w' ⟨rfl, ⟨nd, rfl⟩⟩))
      go_ret
      exact ⟨by first | rfl | (simp; done) | (simp [*]; done), by repeat (first | exact Drawn0.refl _ | apply Drawn0.step)⟩
    ·rw [if_neg c8] at H
     have c8b0 : (a0 == 215) = false := beq_eq_false_iff_ne.mpr c8
     have c8b1 : (a0 != 215) = true := bne_iff_ne.mpr c8
     obtain rfl := Option.some.inj H
     simp only [Option.some.injEq, Prod.mk.injEq] at H
     obtain ⟨rfl⟩ := H
     go_enter Tryd.func129, Tryd.ntmps129
     go_wp2_with (first | ((with_reducible refine gate_callee (f := 130) rfl ?_); refine goesL_ (some 6) rfl rfl Tryd.func130 (by kernel_rfl) rfl #[.int .u8 a0, .int .u8 65, .int .u8 90] rfl (by (try simp only [List.map_toArray, List.map_cons, List.map_nil]); first | done | rfl | (simp only [List.length_drop, List.length_take]; rfl)) ?_; (with_reducible refine (page_within.calls a0 65 90 false _ A3.out).mono ?_); rintro e w' ⟨rfl, ⟨nd, rfl⟩⟩; refine ⟨_, rfl, ?_⟩) | (go_at_call 130; (with_reducible refine (page_within.calls a0 192 222 true _ A6.out).mono ?_); rintro e w' ⟨rfl, ⟨nd, rfl⟩⟩))
     go_ret
     exact ⟨by first | rfl | (simp; done) | (simp [*]; done), by repeat (first | exact Drawn0.refl _ | apply Drawn0.step)⟩
   ·replace c7 := Bool.eq_false_iff.mpr c7
    subst c7
    have H1 : (if a1 = 2 then ((page_within.f a0 128 159).bind fun t121 => (some t121)) else (some false)) = some r := by rw [if_neg (show ¬ (false = true) by decide)] at H; exact H
    clear H
    have H := H1
    clear H1
    by_cases c11 : a1 = 2
    ·rw [if_pos c11] at H
     have c11b0 : (a1 == 2) = true := beq_iff_eq.mpr c11
     have c11b1 : (a1 != 2) = false := bne_eq_false_iff_eq.mpr c11
     clear c11
     replace H := Option.bind_eq_some_iff.mp H
     obtain ⟨t121, A120, H⟩ := H
     replace H : (some t121) = some r := H
     have A12 := Aside0.mk A120
     clear A120
     obtain rfl := Option.some.inj H
     simp only [Option.some.injEq, Prod.mk.injEq] at H
     obtain ⟨rfl⟩ := H
     go_enter Tryd.func129, Tryd.ntmps129
     go_wp2_with (first | ((with_reducible refine gate_callee (f := 130) rfl ?_); refine goesL_ (some 6) rfl rfl Tryd.func130 (by kernel_rfl) rfl #[.int .u8 a0, .int .u8 65, .int .u8 90] rfl (by (try simp only [List.map_toArray, List.map_cons, List.map_nil]); first | done | rfl | (simp only [List.length_drop, List.length_take]; rfl)) ?_; (with_reducible refine (page_within.calls a0 65 90 false _ A3.out).mono ?_); rintro e w' ⟨rfl, ⟨nd, rfl⟩⟩; refine ⟨_, rfl, ?_⟩) | (go_at_call 130; (with_reducible refine (page_within.calls a0 192 222 false _ A6.out).mono ?_); rintro e w' ⟨rfl, ⟨nd, rfl⟩⟩) | (go_at_call 130; (with_reducible refine (page_within.calls a0 128 159 t121 _ A12.out).mono ?_); rintro e w' ⟨rfl, ⟨nd, rfl⟩⟩))
     go_ret
     exact ⟨by first | rfl | (simp; done) | (simp [*]; done), by repeat (first | exact Drawn0.refl _ | apply Drawn0.step)⟩
    ·rw [if_neg c11] at H
     have c11b0 : (a1 == 2) = false := beq_eq_false_iff_ne.mpr c11
     have c11b1 : (a1 != 2) = true := bne_iff_ne.mpr c11
     obtain rfl := Option.some.inj H
     simp only [Option.some.injEq, Prod.mk.injEq] at H
     obtain ⟨rfl⟩ := H
     go_enter Tryd.func129, Tryd.ntmps129
     go_wp2_with (first | ((with_reducible refine gate_callee (f := 130) rfl ?_); refine goesL_ (some 6) rfl rfl Tryd.func130 (by kernel_rfl) rfl #[.int .u8 a0, .int .u8 65, .int .u8 90] rfl (by (try simp only [List.map_toArray, List.map_cons, List.map_nil]); first | done | rfl | (simp only [List.length_drop, List.length_take]; rfl)) ?_; (with_reducible refine (page_within.calls a0 65 90 false _ A3.out).mono ?_); rintro e w' ⟨rfl, ⟨nd, rfl⟩⟩; refine ⟨_, rfl, ?_⟩) | (go_at_call 130; (with_reducible refine (page_within.calls a0 192 222 false _ A6.out).mono ?_); rintro e w' ⟨rfl, ⟨nd, rfl⟩⟩))
     go_ret
     exact ⟨by first | rfl | (simp; done) | (simp [*]; done), by repeat (first | exact Drawn0.refl _ | apply Drawn0.step)⟩
  ·rw [if_neg c5] at H
   have c5b0 : (a1 == 1) = false := beq_eq_false_iff_ne.mpr c5
   have c5b1 : (a1 != 1) = true := bne_iff_ne.mpr c5
   by_cases c13 : a1 = 2
   ·rw [if_pos c13] at H
    have c13b0 : (a1 == 2) = true := beq_iff_eq.mpr c13
    have c13b1 : (a1 != 2) = false := bne_eq_false_iff_eq.mpr c13
    clear c13
    replace H := Option.bind_eq_some_iff.mp H
    obtain ⟨t122, A140, H⟩ := H
    replace H : (some t122) = some r := H
    have A14 := Aside0.mk A140
    clear A140
    obtain rfl := Option.some.inj H
    simp only [Option.some.injEq, Prod.mk.injEq] at H
    obtain ⟨rfl⟩ := H
    go_enter Tryd.func129, Tryd.ntmps129
    go_wp2_with (first | ((with_reducible refine gate_callee (f := 130) rfl ?_); refine goesL_ (some 6) rfl rfl Tryd.func130 (by kernel_rfl) rfl #[.int .u8 a0, .int .u8 65, .int .u8 90] rfl (by (try simp only [List.map_toArray, List.map_cons, List.map_nil]); first | done | rfl | (simp only [List.length_drop, List.length_take]; rfl)) ?_; (with_reducible refine (page_within.calls a0 65 90 false _ A3.out).mono ?_); rintro e w' ⟨rfl, ⟨nd, rfl⟩⟩; refine ⟨_, rfl, ?_⟩) | (go_at_call 130; (with_reducible refine (page_within.calls a0 128 159 t122 _ A14.out).mono ?_); rintro e w' ⟨rfl, ⟨nd, rfl⟩⟩))
    go_ret
    exact ⟨by first | rfl | (simp; done) | (simp [*]; done), by repeat (first | exact Drawn0.refl _ | apply Drawn0.step)⟩
   ·rw [if_neg c13] at H
    have c13b0 : (a1 == 2) = false := beq_eq_false_iff_ne.mpr c13
    have c13b1 : (a1 != 2) = true := bne_iff_ne.mpr c13
    obtain rfl := Option.some.inj H
    simp only [Option.some.injEq, Prod.mk.injEq] at H
    obtain ⟨rfl⟩ := H
    go_enter Tryd.func129, Tryd.ntmps129
    go_wp2_with (first | ((with_reducible refine gate_callee (f := 130) rfl ?_); refine goesL_ (some 6) rfl rfl Tryd.func130 (by kernel_rfl) rfl #[.int .u8 a0, .int .u8 65, .int .u8 90] rfl (by (try simp only [List.map_toArray, List.map_cons, List.map_nil]); first | done | rfl | (simp only [List.length_drop, List.length_take]; rfl)) ?_; (with_reducible refine (page_within.calls a0 65 90 false _ A3.out).mono ?_); rintro e w' ⟨rfl, ⟨nd, rfl⟩⟩; refine ⟨_, rfl, ?_⟩))
    go_ret
    exact ⟨by first | rfl | (simp; done) | (simp [*]; done), by repeat (first | exact Drawn0.refl _ | apply Drawn0.step)⟩
end Go.Proofs.YtnkejhfbkgfedaaDoor.PA
namespace Go.Proofs.YtnkejhfbkgfedaaDoor.PA
open Go.RowKit Go.Proofs.YtnkejhfbkgfedaaDoorW.PrintWords Go.Proofs.YtnkejhfbkgfedaaDoorW.PrintLast Go.Proofs.YtnkejhfbkgfedaaDoorW.PrintMore
attribute [local go_sem] max2_int min2_int max_two min_two max_three min_three max_four min_four   -- for this text's walks alone
set_option linter.unusedVariables false
set_option linter.unusedSimpArgs false
def page_isLetter.f (k : Nat) (a0 : Int) (a1 : Int) : Option (Bool) := (page_capital.f k a0 a1).bind fun bt123 => (if bt123.2 = true then (some true) else ((page_isCapital.f a0 a1).bind fun t125 => (some t125)))
theorem page_isLetter.mono : ∀ a0 a1 k, LeO (page_isLetter.f k a0 a1) (page_isLetter.f (k + 1) a0 a1) := by
 intro a0 a1 k
 unfold page_isLetter.f
 repeat' first
   | (with_reducible exact page_capital.mono _ _ _)
   | (with_reducible exact LeO.refl _)
   | (with_reducible exact LeO.none _)
   | (with_reducible refine LeO.ite ?_ ?_)
   | (with_reducible refine LeO.bind ?_ (fun _ => ?_))
   | exact page_capital.mono _ _ _
   | exact LeO.none _
   | refine LeO.ite ?_ ?_
   | refine LeO.bind ?_ (fun _ => ?_)
set_option maxHeartbeats 8000000 in
set_option maxRecDepth 100000 in
theorem page_isLetter.calls (k : Nat) (a0 : Int) (a1 : Int) (r : Bool) (w : World) (h : page_isLetter.f k a0 a1 = some r) :
  Calls Tryd.prog 118 #[.int .u8 a0, .int .i64 a1] w fun e w' => e = .returned (.bool r) ∧ Drawn0 w w' := by
 have H : ((page_capital.f k a0 a1).bind fun bt123 => (if bt123.2 = true then (some true) else ((page_isCapital.f a0 a1).bind fun t125 => (some t125)))) = some r := h
 clear h
 replace H := Option.bind_eq_some_iff.mp H
 obtain ⟨⟨t123, t124⟩, A30, H⟩ := H
 replace H : (if t124 = true then (some true) else ((page_isCapital.f a0 a1).bind fun t125 => (some t125))) = some r := H
 have A3 := Aside0.mk A30
 clear A30
 by_cases c4 : t124 = true
 ·subst c4
  have H1 : (some true) = some r := by rw [if_pos rfl] at H; exact H
  clear H
  have H := H1
  clear H1
  obtain rfl := Option.some.inj H
  simp only [Option.some.injEq, Prod.mk.injEq] at H
  obtain ⟨rfl⟩ := H
  go_enter Tryd.func118, Tryd.ntmps118
  go_wp2_with (first | ((with_reducible refine gate_callee (f := 128) rfl ?_); refine goesL_ (some 10) rfl rfl Tryd.func128 (by kernel_rfl) rfl #[.int .u8 a0, .int .i64 a1] rfl (by (try simp only [List.map_toArray, List.map_cons, List.map_nil]); first | done | rfl | (simp only [List.length_drop, List.length_take]; rfl)) ?_; (with_reducible refine (page_capital.calls k a0 a1 t123 true _ A3.out).mono ?_); rintro e w' ⟨rfl, ⟨nd, rfl⟩⟩; refine ⟨_, rfl, ?_⟩))
  go_ret
  exact ⟨by first | rfl | (simp; done) | (simp [*]; done), by repeat (first | exact Drawn0.refl _ | apply Drawn0.step)⟩
 ·replace c4 := Bool.eq_false_iff.mpr c4
  subst c4
  have H1 : ((page_isCapital.f a0 a1).bind fun t125 => (some t125)) = some r := by rw [if_neg (show ¬ (false = true) by decide)] at H; exact H
  clear H
  have H := H1
  clear H1
  replace H := Option.bind_eq_some_iff.mp H
  obtain ⟨t125, A50, H⟩ := H
  replace H : (some t125) = some r := H
  have A5 := Aside0.mk A50
  clear A50
  obtain rfl := Option.some.inj H
  simp only [Option.some.injEq, Prod.mk.injEq] at H
  obtain ⟨rfl⟩ := H
  go_enter Tryd.func118, Tryd.ntmps118
  go_wp2_with (first | ((with_reducible refine gate_callee (f := 128) rfl ?_); refine goesL_ (some 10) rfl rfl Tryd.func128 (by kernel_rfl) rfl #[.int .u8 a0, .int .i64 a1] rfl (by (try simp only [List.map_toArray, List.map_cons, List.map_nil]); first | done | rfl | (simp only [List.length_drop, List.length_take]; rfl)) ?_; (with_reducible refine (page_capital.calls k a0 a1 t123 false _ A3.out).mono ?_); rintro e w' ⟨rfl, ⟨nd, rfl⟩⟩; refine ⟨_, rfl, ?_⟩) | (go_at_call 129; (with_reducible refine (page_isCapital.calls a0 a1 t125 _ A5.out).mono ?_); rintro e w' ⟨rfl, ⟨nd, rfl⟩⟩))
  go_ret
  exact ⟨by first | rfl | (simp; done) | (simp [*]; done), by repeat (first | exact Drawn0.refl _ | apply Drawn0.step)⟩
def page_upper.f (k : Nat) (a0 : Int) (a1 : Int) : Option (Int) := (page_capital.f k a0 a1).bind fun bt126 => (some bt126.1)
theorem page_upper.mono : ∀ a0 a1 k, LeO (page_upper.f k a0 a1) (page_upper.f (k + 1) a0 a1) := by
 intro a0 a1 k
 unfold page_upper.f
 repeat' first
   | (with_reducible exact page_capital.mono _ _ _)
   | (with_reducible exact LeO.refl _)
   | (with_reducible exact LeO.none _)
   | (with_reducible refine LeO.ite ?_ ?_)
   | (with_reducible refine LeO.bind ?_ (fun _ => ?_))
   | exact page_capital.mono _ _ _
   | exact LeO.none _
   | refine LeO.ite ?_ ?_
   | refine LeO.bind ?_ (fun _ => ?_)
set_option maxHeartbeats 8000000 in
set_option maxRecDepth 100000 in
theorem page_upper.calls (k : Nat) (a0 : Int) (a1 : Int) (r : Int) (w : World) (h : page_upper.f k a0 a1 = some r) :
  Calls Tryd.prog 119 #[.int .u8 a0, .int .i64 a1] w fun e w' => e = .returned (.int .u8 r) ∧ Drawn0 w w' := by
 have H : ((page_capital.f k a0 a1).bind fun bt126 => (some bt126.1)) = some r := h
 clear h
 replace H := Option.bind_eq_some_iff.mp H
 obtain ⟨⟨t126, t127⟩, A30, H⟩ := H
 replace H : (some t126) = some r := H
 have A3 := Aside0.mk A30
 clear A30
 obtain rfl := Option.some.inj H
 simp only [Option.some.injEq, Prod.mk.injEq] at H
 obtain ⟨rfl⟩ := H
 go_enter Tryd.func119, Tryd.ntmps119
 go_wp2_with (first | ((with_reducible refine gate_callee (f := 128) rfl ?_); refine goesL_ (some 10) rfl rfl Tryd.func128 (by kernel_rfl) rfl #[.int .u8 a0, .int .i64 a1] rfl (by (try simp only [List.map_toArray, List.map_cons, List.map_nil]); first | done | rfl | (simp only [List.length_drop, List.length_take]; rfl)) ?_; (with_reducible refine (page_capital.calls k a0 a1 t126 t127 _ A3.out).mono ?_); rintro e w' ⟨rfl, ⟨nd, rfl⟩⟩; refine ⟨_, rfl, ?_⟩))
 go_ret
 exact ⟨by first | rfl | (simp; done) | (simp [*]; done), by repeat (first | exact Drawn0.refl _ | apply Drawn0.step)⟩
end Go.Proofs.YtnkejhfbkgfedaaDoor.PA
namespace Go.Proofs.YtnkejhfbkgfedaaDoor.PA
open Go.RowKit Go.Proofs.YtnkejhfbkgfedaaDoorW.PrintWords Go.Proofs.YtnkejhfbkgfedaaDoorW.PrintLast Go.Proofs.YtnkejhfbkgfedaaDoorW.PrintMore
attribute [local go_sem] max2_int min2_int max_two min_two max_three min_three max_four min_four   -- for this text's walks alone
set_option linter.unusedVariables false
set_option linter.unusedSimpArgs false
def page_plain.f (a0 : Int) : Option (Int) := (page_within.f a0 192 197).bind fun t128 => (if t128 = true then (some 65) else (if a0 = 199 then (some 67) else ((page_within.f a0 200 203).bind fun t129 => (if t129 = true then (some 69) else ((page_within.f a0 204 207).bind fun t130 => (if t130 = true then (some 73) else (if a0 = 209 then (some 78) else ((page_within.f a0 210 214).bind fun t131 => (if t131 = true then (some 79) else ((page_within.f a0 217 220).bind fun t132 => (if t132 = true then (some 85) else (if a0 = 221 then (some 89) else (some a0)))))))))))))
set_option maxHeartbeats 8000000 in
set_option maxRecDepth 100000 in
theorem page_plain.calls (a0 : Int) (r : Int) (w : World) (h : page_plain.f a0 = some r) :
  Calls Tryd.prog 120 #[.int .u8 a0] w fun e w' => e = .returned (.int .u8 r) ∧ Drawn0 w w' := by
 have H : ((page_within.f a0 192 197).bind fun t128 => (if t128 = true then (some 65) else (if a0 = 199 then (some 67) else ((page_within.f a0 200 203).bind fun t129 => (if t129 = true then (some 69) else ((page_within.f a0 204 207).bind fun t130 => (if t130 = true then (some 73) else (if a0 = 209 then (some 78) else ((page_within.f a0 210 214).bind fun t131 => (if t131 = true then (some 79) else ((page_within.f a0 217 220).bind fun t132 => (if t132 = true then (some 85) else (if a0 = 221 then (some 89) else (some a0)))))))))))))) = some r := h
 clear h
 replace H := Option.bind_eq_some_iff.mp H
 obtain ⟨t128, A20, H⟩ := H
 replace H : (if t128 = true then (some 65) else (if a0 = 199 then (some 67) else ((page_within.f a0 200 203).bind fun t129 => (if t129 = true then (some 69) else ((page_within.f a0 204 207).bind fun t130 => (if t130 = true then (some 73) else (if a0 = 209 then (some 78) else ((page_within.f a0 210 214).bind fun t131 => (if t131 = true then (some 79) else ((page_within.f a0 217 220).bind fun t132 => (if t132 = true then (some 85) else (if a0 = 221 then (some 89) else (some a0))))))))))))) = some r := H
 have A2 := Aside0.mk A20
 clear A20
 by_cases c3 : t128 = true
 ·subst c3
  have H1 : (some 65) = some r := by rw [if_pos rfl] at H; exact H
  clear H
  have H := H1
  clear H1
  obtain rfl := Option.some.inj H
  simp only [Option.some.injEq, Prod.mk.injEq] at H
  obtain ⟨rfl⟩ := H
  go_enter Tryd.func120, Tryd.ntmps120
  go_wp2_with (first | ((with_reducible refine gate_callee (f := 130) rfl ?_); refine goesL_ (some 5) rfl rfl Tryd.func130 (by kernel_rfl) rfl #[.int .u8 a0, .int .u8 192, .int .u8 197] rfl (by (try simp only [List.map_toArray, List.map_cons, List.map_nil]); first | done | rfl | (simp only [List.length_drop, List.length_take]; rfl)) ?_; (with_reducible refine (page_within.calls a0 192 197 true _ A2.out).mono ?_); rintro e w' ⟨rfl, ⟨nd, rfl⟩⟩; refine ⟨_, rfl, ?_⟩))
  go_ret
  exact ⟨by first | rfl | (simp; done) | (simp [*]; done), by repeat (first | exact Drawn0.refl _ | apply Drawn0.step)⟩
 ·replace c3 := Bool.eq_false_iff.mpr c3
  subst c3
  have H1 : (if a0 = 199 then (some 67) else ((page_within.f a0 200 203).bind fun t129 => (if t129 = true then (some 69) else ((page_within.f a0 204 207).bind fun t130 => (if t130 = true then (some 73) else (if a0 = 209 then (some 78) else ((page_within.f a0 210 214).bind fun t131 => (if t131 = true then (some 79) else ((page_within.f a0 217 220).bind fun t132 => (if t132 = true then (some 85) else (if a0 = 221 then (some 89) else (some a0)))))))))))) = some r := by rw [if_neg (show ¬ (false = true) by decide)] at H; exact H
  clear H
  have H := H1
  clear H1
  by_cases c4 : a0 = 199
  ·rw [if_pos c4] at H
   have c4b0 : (a0 == 199) = true := beq_iff_eq.mpr c4
   have c4b1 : (a0 != 199) = false := bne_eq_false_iff_eq.mpr c4
   clear c4
   obtain rfl := Option.some.inj H
   simp only [Option.some.injEq, Prod.mk.injEq] at H
   obtain ⟨rfl⟩ := H
   go_enter Tryd.func120, Tryd.ntmps120
   go_wp2_with (first | ((with_reducible refine gate_callee (f := 130) rfl ?_); refine goesL_ (some 5) rfl rfl Tryd.func130 (by kernel_rfl) rfl #[.int .u8 a0, .int .u8 192, .int .u8 197] rfl (by (try simp only [List.map_toArray, List.map_cons, List.map_nil]); first | done | rfl | (simp only [List.length_drop, List.length_take]; rfl)) ?_; (with_reducible refine (page_within.calls a0 192 197 false _ A2.out).mono ?_); rintro e w' ⟨rfl, ⟨nd, rfl⟩⟩; refine ⟨_, rfl, ?_⟩))
   go_ret
   exact ⟨by first | rfl | (simp; done) | (simp [*]; done), by repeat (first | exact Drawn0.refl _ | apply Drawn0.step)⟩
  ·rw [if_neg c4] at H
   have c4b0 : (a0 == 199) = false := beq_eq_false_iff_ne.mpr c4
   have c4b1 : (a0 != 199) = true := bne_iff_ne.mpr c4
   replace H := Option.bind_eq_some_iff.mp H
   obtain ⟨t129, A50, H⟩ := H
   replace H : (if t129 = true then (some 69) else ((page_within.f a0 204 207).bind fun t130 => (if t130 = true then (some 73) else (if a0 = 209 then (some 78) else ((page_within.f a0 210 214).bind fun t131 => (if t131 = true then (some 79) else ((page_within.f a0 217 220).bind fun t132 => (if t132 = true then (some 85) else (if a0 = 221 then (some 89) else (some a0)))))))))) = some r := H
   have A5 := Aside0.mk A50
   clear A50
   by_cases c6 : t129 = true
   ·subst c6
    have H1 : (some 69) = some r := by rw [if_pos rfl] at H; exact H
    clear H
    have H := H1
    clear H1
    obtain rfl := Option.some.inj H
    simp only [Option.some.injEq, Prod.mk.injEq] at H
    obtain ⟨rfl⟩ := H
    go_enter Tryd.func120, Tryd.ntmps120
    go_wp2_with (first | ((with_reducible refine gate_callee (f := 130) rfl ?_); refine goesL_ (some 5) rfl rfl Tryd.func130 (by kernel_rfl) rfl #[.int .u8 a0, .int .u8 192, .int .u8 197] rfl (by (try simp only [List.map_toArray, List.map_cons, List.map_nil]); first | done | rfl | (simp only [List.length_drop, List.length_take]; rfl)) ?_; (with_reducible refine (page_within.calls a0 192 197 false _ A2.out).mono ?_); rintro e w' ⟨rfl, ⟨nd, rfl⟩⟩; refine ⟨_, rfl, ?_⟩) | ((with_reducible refine gate_callee (f := 130) rfl ?_); refine goesL_ (some 11) rfl rfl Tryd.func130 (by kernel_rfl) rfl #[.int .u8 a0, .int .u8 200, .int .u8 203] rfl (by (try simp only [List.map_toArray, List.map_cons, List.map_nil]); first | done | rfl | (simp only [List.length_drop, List.length_take]; rfl)) ?_; (with_reducible refine (page_within.calls a0 200 203 true _ A5.out).mono ?_); rintro e w' ⟨rfl, ⟨nd, rfl⟩⟩; refine ⟨_, rfl, ?_⟩))
    go_ret
    exact ⟨by first | rfl | (simp; done) | (simp [*]; done), by repeat (first | exact Drawn0.refl _ | apply Drawn0.step)⟩
   ·replace c6 := Bool.eq_false_iff.mpr c6
    subst c6
    have H1 : ((page_within.f a0 204 207).bind fun t130 => (if t130 = true then (some 73) else (if a0 = 209 then (some 78) else ((page_within.f a0 210 214).bind fun t131 => (if t131 = true then (some 79) else ((page_within.f a0 217 220).bind fun t132 => (if t132 = true then (some 85) else (if a0 = 221 then (some 89) else (some a0))))))))) = some r := by rw [if_neg (show ¬ (false = true) by decide)] at H; exact H
    clear H
    have H := H1
    clear H1
    replace H := Option.bind_eq_some_iff.mp H
    obtain ⟨t130, A70, H⟩ := H
    replace H : (if t130 = true then (some 73) else (if a0 = 209 then (some 78) else ((page_within.f a0 210 214).bind fun t131 => (if t131 = true then (some 79) else ((page_within.f a0 217 220).bind fun t132 => (if t132 = true then (some 85) else (if a0 = 221 then (some 89) else (some a0)))))))) = some r := H
    have A7 := Aside0.mk A70
    clear A70
    by_cases c8 : t130 = true
    ·subst c8
     have H1 : (some 73) = some r := by rw [if_pos rfl] at H; exact H
     clear H
     have H := H1
     clear H1
     obtain rfl := Option.some.inj H
     simp only [Option.some.injEq, Prod.mk.injEq] at H
     obtain ⟨rfl⟩ := H
     go_enter Tryd.func120, Tryd.ntmps120
     go_wp2_with (first | ((with_reducible refine gate_callee (f := 130) rfl ?_); refine goesL_ (some 5) rfl rfl Tryd.func130 (by kernel_rfl) rfl #[.int .u8 a0, .int .u8 192, .int .u8 197] rfl (by (try simp only [List.map_toArray, List.map_cons, List.map_nil]); first | done | rfl | (simp only [List.length_drop, List.length_take]; rfl)) ?_; (with_reducible refine (page_within.calls a0 192 197 false _ A2.out).mono ?_); rintro e w' ⟨rfl, ⟨nd, rfl⟩⟩; refine ⟨_, rfl, ?_⟩) | ((with_reducible refine gate_callee (f := 130) rfl ?_); refine goesL_ (some 11) rfl rfl Tryd.func130 (by kernel_rfl) rfl #[.int .u8 a0, .int .u8 200, .int .u8 203] rfl (by (try simp only [List.map_toArray, List.map_cons, List.map_nil]); first | done | rfl | (simp only [List.length_drop, List.length_take]; rfl)) ?_; (with_reducible refine (page_within.calls a0 200 203 false _ A5.out).mono ?_); rintro e w' ⟨rfl, ⟨nd, rfl⟩⟩; refine ⟨_, rfl, ?_⟩) | ((with_reducible refine gate_callee (f := 130) rfl ?_); refine goesL_ (some 14) rfl rfl Tryd.func130 (by kernel_rfl) rfl #[.int .u8 a0, .int .u8 204, .int .u8 207] rfl (by (try simp only [List.map_toArray, List.map_cons, List.map_nil]); first | done | rfl | (simp only [List.length_drop, List.length_take]; rfl)) ?_; (with_reducible refine (page_within.calls a0 204 207 true _ A7.out).mono ?_); rintro e w' ⟨rfl, ⟨nd, rfl⟩⟩; refine ⟨_, rfl, ?_⟩))
     go_ret
     exact ⟨by first | rfl | (simp; done) | (simp [*]; done), by repeat (first | exact Drawn0.refl _ | apply Drawn0.step)⟩
    ·replace c8 := Bool.eq_false_iff.mpr c8
     subst c8
     have H1 : (if a0 = 209 then (some 78) else ((page_within.f a0 210 214).bind fun t131 => (if t131 = true then (some 79) else ((page_within.f a0 217 220).bind fun t132 => (if t132 = true then (some 85) else (if a0 = 221 then (some 89) else (some a0))))))) = some r := by rw [if_neg (show ¬ (false = true) by decide)] at H; exact H
     clear H
     have H := H1
     clear H1
     by_cases c9 : a0 = 209
     ·rw [if_pos c9] at H
      have c9b0 : (a0 == 209) = true := beq_iff_eq.mpr c9
      have c9b1 : (a0 != 209) = false := bne_eq_false_iff_eq.mpr c9
      clear c9
      obtain rfl := Option.some.inj H
      simp only [Option.some.injEq, Prod.mk.injEq] at H
      obtain ⟨rfl⟩ := H
      go_enter Tryd.func120, Tryd.ntmps120
      go_wp2_with (first | ((with_reducible refine gate_callee (f := 130) rfl ?_); refine goesL_ (some 5) rfl rfl Tryd.func130 (by kernel_rfl) rfl #[.int .u8 a0, .int .u8 192, .int .u8 197] rfl (by (try simp only [List.map_toArray, List.map_cons, List.map_nil]); first | done | rfl | (simp only [List.length_drop, List.length_take]; rfl)) ?_; (with_reducible refine (page_within.calls a0 192 197 false _ A2.out).mono ?_); rintro e w' ⟨rfl, ⟨nd, rfl⟩⟩; refine ⟨_, rfl, ?_⟩) | ((with_reducible refine gate_callee (f := 130) rfl ?_); refine goesL_ (some 11) rfl rfl Tryd.func130 (by kernel_rfl) rfl #[.int .u8 a0, .int .u8 200, .int .u8 203] rfl (by (try simp only [List.map_toArray, List.map_cons, List.map_nil]); first | done | rfl | (simp only [List.length_drop, List.length_take]; rfl)) ?_; (with_reducible refine (page_within.calls a0 200 203 false _ A5.out).mono ?_); rintro e w' ⟨rfl, ⟨nd, rfl⟩⟩; refine ⟨_, rfl, ?_⟩) | ((with_reducible refine gate_callee (f := 130) rfl ?_); refine goesL_ (some 14) rfl rfl Tryd.func130 (by kernel_rfl) rfl #[.int .u8 a0, .int .u8 204, .int .u8 207] rfl (by (try simp only [List.map_toArray, List.map_cons, List.map_nil]); first | done | rfl | (simp only [List.length_drop, List.length_take]; rfl)) ?_; (with_reducible refine (page_within.calls a0 204 207 false _ A7.out).mono ?_); rintro e w' ⟨rfl, ⟨nd, rfl⟩⟩; refine ⟨_, rfl, ?_⟩))
      go_ret
      exact ⟨by first | rfl | (simp; done) | (simp [*]; done), by repeat (first | exact Drawn0.refl _ | apply Drawn0.step)⟩
     ·rw [if_neg c9] at H
      have c9b0 : (a0 == 209) = false := beq_eq_false_iff_ne.mpr c9
      have c9b1 : (a0 != 209) = true := bne_iff_ne.mpr c9
      replace H := Option.bind_eq_some_iff.mp H
      obtain ⟨t131, A100, H⟩ := H
      replace H : (if t131 = true then (some 79) else ((page_within.f a0 217 220).bind fun t132 => (if t132 = true then (some 85) else (if a0 = 221 then (some 89) else (some a0))))) = some r := H
      have A10 := Aside0.mk A100
      clear A100
      by_cases c11 : t131 = true
      ·subst c11
       have H1 : (some 79) = some r := by rw [if_pos rfl] at H; exact H
       clear H
       have H := H1
       clear H1
       obtain rfl := Option.some.inj H
       simp only [Option.some.injEq, Prod.mk.injEq] at H
       obtain ⟨rfl⟩ := H
       go_enter Tryd.func120, Tryd.ntmps120
       go_wp2_with (first | ((with_reducible refine gate_callee (f := 130) rfl ?_); refine goesL_ (some 5) rfl rfl Tryd.func130 (by kernel_rfl) rfl #[.int .u8 a0, .int .u8 192, .int .u8 197] rfl (by (try simp only [List.map_toArray, List.map_cons, List.map_nil]); first | done | rfl | (simp only [List.length_drop, List.length_take]; rfl)) ?_; (with_reducible refine (page_within.calls a0 192 197 false _ A2.out).mono ?_); rintro e w' ⟨rfl, ⟨nd, rfl⟩⟩; refine ⟨_, rfl, ?_⟩) | ((with_reducible refine gate_callee (f := 130) rfl ?_); refine goesL_ (some 11) rfl rfl Tryd.func130 (by kernel_rfl) rfl #[.int .u8 a0, .int .u8 200, .int .u8 203] rfl (by (try simp only [List.map_toArray, List.map_cons, List.map_nil]); first | done | rfl | (simp only [List.length_drop, List.length_take]; rfl)) ?_; (with_reducible refine (page_within.calls a0 200 203 false _ A5.out).mono ?_); rintro e w' ⟨rfl, ⟨nd, rfl⟩⟩; refine ⟨_, rfl, ?_⟩) | ((with_reducible refine gate_callee (f := 130) rfl ?_); refine goesL_ (some 14) rfl rfl Tryd.func130 (by kernel_rfl) rfl #[.int .u8 a0, .int .u8 204, .int .u8 207] rfl (by (try simp only [List.map_toArray, List.map_cons, List.map_nil]); first | done | rfl | (simp only [List.length_drop, List.length_take]; rfl)) ?_; (with_reducible refine (page_within.calls a0 204 207 false _ A7.out).mono ?_); rintro e w' ⟨rfl, ⟨nd, rfl⟩⟩; refine ⟨_, rfl, ?_⟩) | ((with_reducible refine gate_callee (f := 130) rfl ?_); refine goesL_ (some 20) rfl rfl Tryd.func130 (by kernel_rfl) rfl #[.int .u8 a0, .int .u8 210, .int .u8 214] rfl (by (try simp only [List.map_toArray, List.map_cons, List.map_nil]); first | done | rfl | (simp only [List.length_drop, List.length_take]; rfl)) ?_; (with_reducible refine (page_within.calls a0 210 214 true _ A10.out).mono ?_); rintro e w' ⟨rfl, ⟨nd, rfl⟩⟩; refine ⟨_, rfl, ?_⟩))
       go_ret
       exact ⟨by first | rfl | (simp; done) | (simp [*]; done), by repeat (first | exact Drawn0.refl _ | apply Drawn0.step)⟩
      ·replace c11 := Bool.eq_false_iff.mpr c11
       subst c11
       have H1 : ((page_within.f a0 217 220).bind fun t132 => (if t132 = true then (some 85) else (if a0 = 221 then (some 89) else (some a0)))) = some r := by rw [if_neg (show ¬ (false = true) by decide)] at H; exact H
       clear H
       have H := H1
       clear H1
       replace H := Option.bind_eq_some_iff.mp H
       obtain ⟨t132, A120, H⟩ := H
       replace H : (if t132 = true then (some 85) else (if a0 = 221 then (some 89) else (some a0))) = some r := H
       have A12 := Aside0.mk A120
       clear A120
       by_cases c13 : t132 = true
       ·subst c13
        have H1 : (some 85) = some r := by rw [if_pos rfl] at H; exact H
        clear H
        have H := H1
        clear H1
        obtain rfl := Option.some.inj H
        simp only [Option.some.injEq, Prod.mk.injEq] at H
        obtain ⟨rfl⟩ := H
        go_enter Tryd.func120, Tryd.ntmps120
        go_wp2_with (first | ((with_reducible refine gate_callee (f := 130) rfl ?_); refine goesL_ (some 5) rfl rfl Tryd.func130 (by kernel_rfl) rfl #[.int .u8 a0, .int .u8 192, .int .u8 197] rfl (by (try simp only [List.map_toArray, List.map_cons, List.map_nil]); first | done | rfl | (simp only [List.length_drop, List.length_take]; rfl)) ?_; (with_reducible refine (page_within.calls a0 192 197 false _ A2.out).mono ?_); rintro e w' ⟨rfl, ⟨nd, rfl⟩⟩; refine ⟨_, rfl, ?_⟩) | ((with_reducible refine gate_callee (f := 130) rfl ?_); refine goesL_ (some 11) rfl rfl Tryd.func130 (by kernel_rfl) rfl #[.int .u8 a0, .int .u8 200, .int .u8 203] rfl (by (try simp only [List.map_toArray, List.map_cons, List.map_nil]); first | done | rfl | (simp only [List.length_drop, List.length_take]; rfl)) ?_; (with_reducible refine (page_within.calls a0 200 203 false _ A5.out).mono ?_); rintro e w' ⟨rfl, ⟨nd, rfl⟩⟩; refine ⟨_, rfl, ?_⟩) | ((with_reducible refine gate_callee (f := 130) rfl ?_); refine goesL_ (some 14) rfl rfl Tryd.func130 (by kernel_rfl) rfl #[.int .u8 a0, .int .u8 204, .int .u8 207] rfl (by (try simp only [List.map_toArray, List.map_cons, List.map_nil]); first | done | rfl | (simp only [List.length_drop, List.length_take]; rfl)) ?_; (with_reducible refine (page_within.calls a0 204 207 false _ A7.out).mono ?_); rintro e w' ⟨rfl, ⟨nd, rfl⟩⟩; refine ⟨_, rfl, ?_⟩) | ((with_reducible refine gate_callee (f := 130) rfl ?_); refine goesL_ (some 20) rfl rfl Tryd.func130 (by kernel_rfl) rfl #[.int .u8 a0, .int .u8 210, .int .u8 214] rfl (by (try simp only [List.map_toArray, List.map_cons, List.map_nil]); first | done | rfl | (simp only [List.length_drop, List.length_take]; rfl)) ?_; (with_reducible refine (page_within.calls a0 210 214 false _ A10.out).mono ?_); rintro e w' ⟨rfl, ⟨nd, rfl⟩⟩; refine ⟨_, rfl, ?_⟩) | ((with_reducible refine gate_callee (f := 130) rfl ?_); refine goesL_ (some 23) rfl rfl Tryd.func130 (by kernel_rfl) rfl #[.int .u8 a0, .int .u8 217, .int .u8 220] rfl (by (try simp only [List.map_toArray, List.map_cons, List.map_nil]); first | done | rfl | (simp only [List.length_drop, List.length_take]; rfl)) ?_; (with_reducible refine (page_within.calls a0 217 220 true _ A12.out).mono ?_); rintro e w' ⟨rfl, ⟨nd, rfl⟩⟩; refine ⟨_, rfl, ?_⟩))
        go_ret
        exact ⟨by first | rfl | (simp; done) | (simp [*]; done), by repeat (first | exact Drawn0.refl _ | apply Drawn0.step)⟩
       ·replace c13 := Bool.eq_false_iff.mpr c13
        subst c13
        have H1 : (if a0 = 221 then (some 89) else (some a0)) = some r := by rw [if_neg (show ¬ (false = true) by decide)] at H; exact H
        clear H
        have H := H1
        clear H1
        by_cases c14 : a0 = 221
        ·rw [if_pos c14] at H
         have c14b0 : (a0 == 221) = true := beq_iff_eq.mpr c14
         have c14b1 : (a0 != 221) = false := bne_eq_false_iff_eq.mpr c14
         clear c14
         obtain rfl := Option.some.inj H
         simp only [Option.some.injEq, Prod.mk.injEq] at H
         obtain ⟨rfl⟩ := H
         go_enter Tryd.func120, Tryd.ntmps120
         go_wp2_with (first | ((with_reducible refine gate_callee (f := 130) rfl ?_); refine goesL_ (some 5) rfl rfl Tryd.func130 (by kernel_rfl) rfl #[.int .u8 a0, .int .u8 192, .int .u8 197] rfl (by (try simp only [List.map_toArray, List.map_cons, List.map_nil]); first | done | rfl | (simp only [List.length_drop, List.length_take]; rfl)) ?_; (with_reducible refine (page_within.calls a0 192 197 false _ A2.out).mono ?_); rintro e w' ⟨rfl, ⟨nd, rfl⟩⟩; refine ⟨_, rfl, ?_⟩) | ((with_reducible refine gate_callee (f := 130) rfl ?_); refine goesL_ (some 11) rfl rfl Tryd.func130 (by kernel_rfl) rfl #[.int .u8 a0, .int .u8 200, .int .u8 203] rfl (by (try simp only [List.map_toArray, List.map_cons, List.map_nil]); first | done | rfl | (simp only [List.length_drop, List.length_take]; rfl)) ?_; (with_reducible refine (page_within.calls a0 200 203 false _ A5.out).mono ?_); rintro e w' ⟨rfl, ⟨nd, rfl⟩⟩; refine ⟨_, rfl, ?_⟩) | ((with_reducible refine gate_callee (f := 130) rfl ?_); refine goesL_ (some 14) rfl rfl Tryd.func130 (by kernel_rfl) rfl #[.int .u8 a0, .int .u8 204, .int .u8 207] rfl (by (try simp only [List.map_toArray, List.map_cons, List.map_nil]); first | done | rfl | (simp only [List.length_drop, List.length_take]; rfl)) ?_; (with_reducible refine (page_within.calls a0 204 207 false _ A7.out).mono ?_); rintro e w' ⟨rfl, ⟨nd, rfl⟩⟩; refine ⟨_, rfl, ?_⟩) | ((with_reducible refine gate_callee (f := 130) rfl ?_); refine goesL_ (some 20) rfl rfl Tryd.func130 (by kernel_rfl) rfl #[.int .u8 a0, .int .u8 210, .int .u8 214] rfl (by (try simp only [List.map_toArray, List.map_cons, List.map_nil]); first | done | rfl | (simp only [List.length_drop, List.length_take]; rfl)) ?_; (with_reducible refine (page_within.calls a0 210 214 false _ A10.out).mono ?_); rintro e w' ⟨rfl, ⟨nd, rfl⟩⟩; refine ⟨_, rfl, ?_⟩) | ((with_reducible refine gate_callee (f := 130) rfl ?_); refine goesL_ (some 23) rfl rfl Tryd.func130 (by kernel_rfl) rfl #[.int .u8 a0, .int .u8 217, .int .u8 220] rfl (by (try simp only [List.map_toArray, List.map_cons, List.map_nil]); first | done | rfl | (simp only [List.length_drop, List.length_take]; rfl)) ?_; (with_reducible refine (page_within.calls a0 217 220 false _ A12.out).mono ?_); rintro e w' ⟨rfl, ⟨nd, rfl⟩⟩; refine ⟨_, rfl, ?_⟩))
         go_ret
         exact ⟨by first | rfl | (simp; done) | (simp [*]; done), by repeat (first | exact Drawn0.refl _ | apply Drawn0.step)⟩
        ·rw [if_neg c14] at H
         have c14b0 : (a0 == 221) = false := beq_eq_false_iff_ne.mpr c14
         have c14b1 : (a0 != 221) = true := bne_iff_ne.mpr c14
         obtain rfl := Option.some.inj H
         simp only [Option.some.injEq, Prod.mk.injEq] at H
         obtain ⟨rfl⟩ := H
         go_enter Tryd.func120, Tryd.ntmps120
         go_wp2_with (first | ((with_reducible refine gate_callee (f := 130) rfl ?_); refine goesL_ (some 5) rfl rfl Tryd.func130 (by kernel_rfl) rfl #[.int .u8 a0, .int .u8 192, .int .u8 197] rfl (by (try simp only [List.map_toArray, List.map_cons, List.map_nil]); first | done | rfl | (simp only [List.length_drop, List.length_take]; rfl)) ?_; (with_reducible refine (page_within.calls a0 192 197 false _ A2.out).mono ?_); rintro e w' ⟨rfl, ⟨nd, rfl⟩⟩; refine ⟨_, rfl, ?_⟩) | ((with_reducible refine gate_callee (f := 130) rfl ?_); refine goesL_ (some 11) rfl rfl Tryd.func130 (by kernel_rfl) rfl #[.int .u8 a0, .int .u8 200, .int .u8 203] rfl (by (try simp only [List.map_toArray, List.map_cons, List.map_nil]); first | done | rfl | (simp only [List.length_drop, List.length_take]; rfl)) ?_; (with_reducible refine (page_within.calls a0 200 203 false _ A5.out).mono ?_); rintro e w' ⟨rfl, ⟨nd, rfl⟩⟩; refine ⟨_, rfl, ?_⟩) | ((with_reducible refine gate_callee (f := 130) rfl ?_); refine goesL_ (some 14) rfl rfl Tryd.func130 (by kernel_rfl) rfl #[.int .u8 a0, .int .u8 204, .int .u8 207] rfl (by (try simp only [List.map_toArray, List.map_cons, List.map_nil]); first | done | rfl | (simp only [List.length_drop, List.length_take]; rfl)) ?_; (with_reducible refine (page_within.calls a0 204 207 false _ A7.out).mono ?_); rintro e w' ⟨rfl, ⟨nd, rfl⟩⟩; refine ⟨_, rfl, ?_⟩) | ((with_reducible refine gate_callee (f := 130) rfl ?_); refine goesL_ (some 20) rfl rfl Tryd.func130 (by kernel_rfl) rfl #[.int .u8 a0, .int .u8 210, .int .u8 214] rfl (by (try simp only [List.map_toArray, List.map_cons, List.map_nil]); first | done | rfl | (simp only [List.length_drop, List.length_take]; rfl)) ?_; (with_reducible refine (page_within.calls a0 210 214 false _ A10.out).mono ?_); rintro e w' ⟨rfl, ⟨nd, rfl⟩⟩; refine ⟨_, rfl, ?_⟩) | ((with_reducible refine gate_callee (f := 130) rfl ?_); refine goesL_ (some 23) rfl rfl Tryd.func130 (by kernel_rfl) rfl #[.int .u8 a0, .int .u8 217, .int .u8 220] rfl (by (try simp only [List.map_toArray, List.map_cons, List.map_nil]); first | done | rfl | (simp only [List.length_drop, List.length_take]; rfl)) ?_; (with_reducible refine (page_within.calls a0 217 220 false _ A12.out).mono ?_); rintro e w' ⟨rfl, ⟨nd, rfl⟩⟩; refine ⟨_, rfl, ?_⟩))
         go_ret
         exact ⟨by first | rfl | (simp; done) | (simp [*]; done), by repeat (first | exact Drawn0.refl _ | apply Drawn0.step)⟩
end Go.Proofs.YtnkejhfbkgfedaaDoor.PA
