/-
  KeyBegins of package cabinetry/cabinetrylaw09: for every input the call returns true, and each argument reads afterwards as it read before. Conditions: the package-level variables that the row lists (of unicode/utf8) hold what the program's text lays, which the card ties; nothing else.
-/
-- Written by a program of this session (wip/merge.py): the texts of this claim, joined.
import Derived.Test.YtnkejhfbkgfedaaDoorRows
import Derived.Test.YtnkejhfbkgfedaaDoorCards
import Derived.Test.YtnkejhfbkgfedaaDoorTie
import Derived.WalkKit
import Derived.ProofKit
import Derived.OpenShut
import Derived.ShutString
import Derived.ChangeOld
import Derived.Below
import Derived.SizedLaws
import Derived.LaidMore
import Derived.Lay
import Derived.SevenTiedAt
import Derived.Stop.Joined
import Derived.Test.YtnkejhfbkgfedaaDoorMKeyBegins0
import Derived.Test.YtnkejhfbkgfedaaDoorMKeyBegins1
import Derived.Test.YtnkejhfbkgfedaaDoorMKeyBegins2
import Derived.Test.YtnkejhfbkgfedaaDoorMKeyBegins3
import Derived.Test.YtnkejhfbkgfedaaDoorMKeyBegins4
import Derived.Test.YtnkejhfbkgfedaaDoorMKeyBegins5
import Derived.Test.YtnkejhfbkgfedaaDoorMKeyBegins6
import Derived.Test.YtnkejhfbkgfedaaDoorMKeyBegins7
import Derived.Test.YtnkejhfbkgfedaaDoorMKeyBegins8
import Derived.Test.YtnkejhfbkgfedaaDoorMKeyBegins9
import Derived.Test.YtnkejhfbkgfedaaDoorMKeyBegins10
import Derived.Test.YtnkejhfbkgfedaaDoorMKeyBegins11
import Derived.Test.YtnkejhfbkgfedaaDoorMKeyBegins12
import Derived.Test.YtnkejhfbkgfedaaDoorMKeyBegins13
import Derived.Test.YtnkejhfbkgfedaaDoorMKeyBegins14
namespace Go.Proofs.YtnkejhfbkgfedaaDoor.PA
end Go.Proofs.YtnkejhfbkgfedaaDoor.PA
namespace Go.Proofs.YtnkejhfbkgfedaaDoor.PB
end Go.Proofs.YtnkejhfbkgfedaaDoor.PB
namespace Go.Proofs.YtnkejhfbkgfedaaDoor.PC
end Go.Proofs.YtnkejhfbkgfedaaDoor.PC
namespace Go.Proofs.YtnkejhfbkgfedaaDoor.H1
end Go.Proofs.YtnkejhfbkgfedaaDoor.H1
namespace Go.Proofs.YtnkejhfbkgfedaaDoor.L1
end Go.Proofs.YtnkejhfbkgfedaaDoor.L1
namespace Go.Proofs.YtnkejhfbkgfedaaDoor.PB
open Go.RowKit Go.Proofs.YtnkejhfbkgfedaaDoorW.PrintWords Go.Proofs.YtnkejhfbkgfedaaDoorW.PrintLast Go.Proofs.YtnkejhfbkgfedaaDoorW.PrintMore Go.Proofs.YtnkejhfbkgfedaaDoor.PA Go.Proofs.YtnkejhfbkgfedaaDoor.H1
attribute [local go_sem] max2_int min2_int max_two min_two max_three min_three max_four min_four   -- for this text's walks alone
set_option linter.unusedVariables false
set_option linter.unusedSimpArgs false
mutual
def cabinetrylaw09_KeyBegins.j0 : Nat → ByteArray → ByteArray → Int → Bool → Option (Bool)
 | 0, _, _, _, _ => none
 | k + 1, x0, x1, x2, x20 => if x20 = true then ((cabinetrylaw09_known.f k).bind fun t257 => (some t257)) else ((cabinetrylaw09_page.f x2).bind fun bt258 => ((key_Prefix.f k x0 bt258.1 0 false).bind fun bt260 => ((cabinetryref01_Text.f x1).bind fun bt262 => ((key_Encode.f k bt262.1 bt262.2.1 bt262.2.2 bt258.1 0 false).bind fun bt265 => (if bt260.2 = 0 then (cabinetrylaw09_KeyBegins.j1 k x0 x1 bt260.1 bt265.1 (bt265.2 != 0)) else (cabinetrylaw09_KeyBegins.j1 k x0 x1 bt260.1 bt265.1 true))))))
def cabinetrylaw09_KeyBegins.j1 : Nat → ByteArray → ByteArray → ByteArray → ByteArray → Bool → Option (Bool)
 | 0, _, _, _, _, _ => none
 | k + 1, x0, x1, x9, x11, x45 => if x45 = true then (some false) else ((cabinetryref01_Begins.f x11 x9).bind fun t267 => ((cabinetryref01_Begins.f x1 x0).bind fun t268 => (if (t267 == t268) = true then ((cabinetrylaw09_known.f k).bind fun t269 => (some t269)) else (some false))))
end
def cabinetrylaw09_KeyBegins.f (k : Nat) (a0 : ByteArray) (a1 : ByteArray) (a2 : Int) : Option (Bool) := if (a0.size : Int) > 48 then (cabinetrylaw09_KeyBegins.j0 k a0 a1 a2 true) else (cabinetrylaw09_KeyBegins.j0 k a0 a1 a2 (decide ((a1.size : Int) > 48)))
set_option maxHeartbeats 8000000 in
set_option maxRecDepth 100000 in
theorem cabinetrylaw09_KeyBegins.calls (k : Nat) (a0 : ByteArray) (a1 : ByteArray) (a2 : Int) (r : Bool) (w : World) (h : cabinetrylaw09_KeyBegins.f k a0 a1 a2 = some r) (hr_ : Aside0 (r = true)) (hm_ : Aside0 (Hm.HM w)) :
  Calls Tryd.prog 9 #[.string a0, .string a1, .int .i64 a2] w fun e w' => e = .returned (.bool r) ∧ Below w.heap.size w w' := by
 have HB := Aside0.mk (Below.refl w.heap.size w)
 have H : (if (a0.size : Int) > 48 then (cabinetrylaw09_KeyBegins.j0 k a0 a1 a2 true) else (cabinetrylaw09_KeyBegins.j0 k a0 a1 a2 (decide ((a1.size : Int) > 48)))) = some r := h
 clear h
 have HC4 := Aside0.mk H
 clear H
 go_enter Tryd.func9, Tryd.ntmps9
 go_upto_region 1 with (fail)
 go_cut [20] (fun v20 wc => ∃ (kq : Nat) (x20_3 : Bool), v20 = .bool x20_3 ∧ Aside0 (cabinetrylaw09_KeyBegins.j0 kq a0 a1 a2 x20_3 = some r) ∧ Aside0 (kq ≤ k) ∧ Aside0 (Below w.heap.size w wc))
 case first =>
  have H := HC4.out
  clear HC4
  by_cases c5 : (a0.size : Int) > 48
  ·rw [if_pos c5] at H
   have c5b0 : decide (48 < (a0.size : Int)) = true := decide_eq_true c5
   have c5b1 : decide (48 < a0.size) = true := decide_eq_true (by omega)
   clear c5
   (first | rw [c5b0] | (simp only [i64_w, i32_w]; rw [c5b0]) | skip)
   have H' := Aside0.mk H
   clear H
   go_wp2
   go_meet
   case rel => exact ⟨_, (true), (by first | rfl | (simp; done) | (simp [*]; done)), H', ⟨by first | omega | exact Nat.le_refl _⟩, ⟨by repeat (first | (with_reducible first | exact HB.out | apply below_alloc | apply pw_below_drewN | apply below_drew1) | exact HB.out)⟩⟩
  ·rw [if_neg c5] at H
   have c5b0 : decide (48 < (a0.size : Int)) = false := decide_eq_false c5
   have c5b1 : decide (48 < a0.size) = false := decide_eq_false (by omega)
   clear c5
   (first | rw [c5b0] | (simp only [i64_w, i32_w]; rw [c5b0]) | skip)
   have H' := Aside0.mk H
   clear H
   go_wp2
   go_meet
   case rel => exact ⟨_, (decide ((a1.size : Int) > 48)), (by first | rfl | (simp; done) | (simp [*]; done)), H', ⟨by first | omega | exact Nat.le_refl _⟩, ⟨by repeat (first | (with_reducible first | exact HB.out | apply below_alloc | apply pw_below_drewN | apply below_drew1) | exact HB.out)⟩⟩
 case rest =>
  clear HC4
  try clear p2; try clear c5; try clear c5b0; try clear c5b1
  obtain ⟨kq, x20_3, rfl, HA, HJ3, HB⟩ := hcut
  cases kq with
  | zero => exact absurd HA.out (by simp [cabinetrylaw09_KeyBegins.j0])
  | succ kj3 =>
   have H := HA.out
   clear HA
   simp only [cabinetrylaw09_KeyBegins.j0] at H
   by_cases c6 : x20_3 = true
   ·subst c6
    have H1 : ((cabinetrylaw09_known.f kj3).bind fun t257 => (some t257)) = some r := by rw [if_pos rfl] at H; exact H
    clear H
    have H := H1
    clear H1
    replace H := Option.bind_eq_some_iff.mp H
    obtain ⟨t257, A70, H⟩ := H
    replace H : (some t257) = some r := H
    have A7 := Aside0.mk A70
    clear A70
    obtain rfl := Option.some.inj H
    simp only [Option.some.injEq, Prod.mk.injEq] at H
    obtain ⟨rfl⟩ := H
    go_wp2_with (first | ((with_reducible refine gate_callee (f := 15) rfl ?_); refine goesL_ (some 21) rfl rfl Tryd.func15 (by kernel_rfl) rfl #[] rfl (by (try simp only [List.map_toArray, List.map_cons, List.map_nil]); first | done | rfl | (simp only [List.length_drop, List.length_take]; rfl)) ?_; (with_reducible refine (cabinetrylaw09_known.calls kj3  t257 _ A7.out hr_ (Hm.keep hm_ (by repeat (first | (with_reducible first | exact HB.out | apply below_alloc | apply pw_below_drewN | apply below_drew1) | exact HB.out)))).mono ?_); rintro e w8 ⟨rfl, hb⟩; refine ⟨_, rfl, ?_⟩; have n0_ := Aside0.mk (below_step (by repeat (first | (with_reducible first | exact HB.out | apply below_alloc | apply pw_below_drewN | apply below_drew1) | exact HB.out)) hb); clear HB; have HB := n0_; clear n0_; (try clear hb); (try clear hb2); (try clear hk); (try clear hi)))
    go_ret
    exact ⟨by first | rfl | (simp [errW_none, errW_some] <;> rfl) | (simp [*, errW_none, errW_some] <;> rfl), by repeat (first | (with_reducible first | exact HB.out | apply below_alloc | apply pw_below_drewN | apply below_drew1) | exact HB.out)⟩
   ·replace c6 := Bool.eq_false_iff.mpr c6
    subst c6
    have H1 : ((cabinetrylaw09_page.f a2).bind fun bt258 => ((key_Prefix.f kj3 a0 bt258.1 0 false).bind fun bt260 => ((cabinetryref01_Text.f a1).bind fun bt262 => ((key_Encode.f kj3 bt262.1 bt262.2.1 bt262.2.2 bt258.1 0 false).bind fun bt265 => (if bt260.2 = 0 then (cabinetrylaw09_KeyBegins.j1 kj3 a0 a1 bt260.1 bt265.1 (bt265.2 != 0)) else (cabinetrylaw09_KeyBegins.j1 kj3 a0 a1 bt260.1 bt265.1 true)))))) = some r := by rw [if_neg (show ¬ (false = true) by decide)] at H; exact H
    clear H
    have H := H1
    clear H1
    replace H := Option.bind_eq_some_iff.mp H
    obtain ⟨⟨t258, t259⟩, A90, H⟩ := H
    replace H : ((key_Prefix.f kj3 a0 t258 0 false).bind fun bt260 => ((cabinetryref01_Text.f a1).bind fun bt262 => ((key_Encode.f kj3 bt262.1 bt262.2.1 bt262.2.2 t258 0 false).bind fun bt265 => (if bt260.2 = 0 then (cabinetrylaw09_KeyBegins.j1 kj3 a0 a1 bt260.1 bt265.1 (bt265.2 != 0)) else (cabinetrylaw09_KeyBegins.j1 kj3 a0 a1 bt260.1 bt265.1 true))))) = some r := H
    have A9 := Aside0.mk A90
    clear A90
    replace H := Option.bind_eq_some_iff.mp H
    obtain ⟨⟨t260, t261⟩, A100, H⟩ := H
    replace H : ((cabinetryref01_Text.f a1).bind fun bt262 => ((key_Encode.f kj3 bt262.1 bt262.2.1 bt262.2.2 t258 0 false).bind fun bt265 => (if t261 = 0 then (cabinetrylaw09_KeyBegins.j1 kj3 a0 a1 t260 bt265.1 (bt265.2 != 0)) else (cabinetrylaw09_KeyBegins.j1 kj3 a0 a1 t260 bt265.1 true)))) = some r := H
    have A10 := Aside0.mk A100
    clear A100
    replace H := Option.bind_eq_some_iff.mp H
    obtain ⟨⟨t262, t263, t264⟩, A110, H⟩ := H
    replace H : ((key_Encode.f kj3 t262 t263 t264 t258 0 false).bind fun bt265 => (if t261 = 0 then (cabinetrylaw09_KeyBegins.j1 kj3 a0 a1 t260 bt265.1 (bt265.2 != 0)) else (cabinetrylaw09_KeyBegins.j1 kj3 a0 a1 t260 bt265.1 true))) = some r := H
    have A11 := Aside0.mk A110
    clear A110
    replace H := Option.bind_eq_some_iff.mp H
    obtain ⟨⟨t265, t266⟩, A120, H⟩ := H
    replace H : (if t261 = 0 then (cabinetrylaw09_KeyBegins.j1 kj3 a0 a1 t260 t265 (t266 != 0)) else (cabinetrylaw09_KeyBegins.j1 kj3 a0 a1 t260 t265 true)) = some r := H
    have A12 := Aside0.mk A120
    clear A120
    have HC13 := Aside0.mk H
    clear H
    go_upto_region 6 with (first | ((with_reducible refine gate_callee (f := 18) rfl ?_); refine goesL_ (some 24) rfl rfl Tryd.func18 (by kernel_rfl) rfl #[.int .i64 a2] rfl (by (try simp only [List.map_toArray, List.map_cons, List.map_nil]); first | done | rfl | (simp only [List.length_drop, List.length_take]; rfl)) ?_; (with_reducible refine (cabinetrylaw09_page.calls a2 t258 t259 _ A9.out).mono ?_); rintro e w' ⟨rfl, ⟨nd, rfl⟩⟩; refine ⟨_, rfl, ?_⟩) | ((with_reducible refine gate_callee (f := 32) rfl ?_); refine goesL_ (some 30) rfl rfl Tryd.func32 (by kernel_rfl) rfl #[.string a0, .int .i64 t258, .int .i64 0, .bool false] rfl (by (try simp only [List.map_toArray, List.map_cons, List.map_nil]); first | done | rfl | (simp only [List.length_drop, List.length_take]; rfl)) ?_; (with_reducible refine (key_Prefix.calls kj3 a0 t258 0 false t260 t261 _ A10.out (Hm.keep hm_ (by repeat (first | (with_reducible first | exact HB.out | apply below_alloc | apply pw_below_drewN | apply below_drew1) | exact HB.out)))).mono ?_); rintro e w14 ⟨rfl, hb⟩; refine ⟨_, rfl, ?_⟩; have n0_ := Aside0.mk (below_step (by repeat (first | (with_reducible first | exact HB.out | apply below_alloc | apply pw_below_drewN | apply below_drew1) | exact HB.out)) hb); clear HB; have HB := n0_; clear n0_; (try clear hb); (try clear hb2); (try clear hk); (try clear hi)) | ((with_reducible refine gate_callee (f := 38) rfl ?_); refine goesL_ (some 35) rfl rfl Tryd.func38 (by kernel_rfl) rfl #[.string a1] rfl (by (try simp only [List.map_toArray, List.map_cons, List.map_nil]); first | done | rfl | (simp only [List.length_drop, List.length_take]; rfl)) ?_; (with_reducible refine (cabinetryref01_Text.calls a1 t262 t263 t264 _ A11.out).mono ?_); rintro e w15 ⟨rfl, hb⟩; refine ⟨_, rfl, ?_⟩; have n0_ := Aside0.mk (below_step (by repeat (first | (with_reducible first | exact HB.out | apply below_alloc | apply pw_below_drewN | apply below_drew1) | exact HB.out)) hb); clear HB; have HB := n0_; clear n0_; (try clear hb); (try clear hb2); (try clear hk); (try clear hi)) | ((with_reducible refine gate_callee (f := 16) rfl ?_); refine goesL_ (some 37) rfl rfl Tryd.func16 (by kernel_rfl) rfl #[.agg #[.int .i64 t262, .int .i64 t263, .string t264], .int .i64 t258, .int .i64 0, .bool false] rfl (by (try simp only [List.map_toArray, List.map_cons, List.map_nil]); first | done | rfl | (simp only [List.length_drop, List.length_take]; rfl)) ?_; (with_reducible refine (key_Encode.calls kj3 t262 t263 t264 t258 0 false t265 t266 _ A12.out (Hm.keep hm_ (by repeat (first | (with_reducible first | exact HB.out | apply below_alloc | apply pw_below_drewN | apply below_drew1) | exact HB.out)))).mono ?_); rintro e w16 ⟨rfl, hb⟩; refine ⟨_, rfl, ?_⟩; have n0_ := Aside0.mk (below_step (by repeat (first | (with_reducible first | exact HB.out | apply below_alloc | apply pw_below_drewN | apply below_drew1) | exact HB.out)) hb); clear HB; have HB := n0_; clear n0_; (try clear hb); (try clear hb2); (try clear hk); (try clear hi)))
    (try simp only [Act.put, List.setIfInBounds_toArray, List.set_cons_zero, List.set_cons_succ])
    go_cut [45] (fun v45 wc => ∃ (kq : Nat) (x45_12 : Bool), v45 = .bool x45_12 ∧ Aside0 (cabinetrylaw09_KeyBegins.j1 kq a0 a1 t260 t265 x45_12 = some r) ∧ Aside0 (kq ≤ kj3) ∧ Aside0 (Below w.heap.size w wc))
    case first =>
     have H := HC13.out
     clear HC13
     by_cases c17 : t261 = 0
     ·rw [if_pos c17] at H
      have c17b0 : (t261 == 0) = true := beq_iff_eq.mpr c17
      have c17b1 : (t261 != 0) = false := bne_eq_false_iff_eq.mpr c17
      clear c17
      (first | rw [c17b0] | (simp only [i64_w, i32_w]; rw [c17b0]) | skip)
      have H' := Aside0.mk H
      clear H
      go_wp2
      go_meet
      case rel => exact ⟨_, ((t266 != 0)), (by first | rfl | (simp; done) | (simp [*]; done)), H', ⟨by have := HJ3.out; first | omega | exact Nat.le_refl _⟩, ⟨by repeat (first | (with_reducible first | exact HB.out | apply below_alloc | apply pw_below_drewN | apply below_drew1) | exact HB.out)⟩⟩
     ·rw [if_neg c17] at H
      have c17b0 : (t261 == 0) = false := beq_eq_false_iff_ne.mpr c17
      have c17b1 : (t261 != 0) = true := bne_iff_ne.mpr c17
      (first | rw [c17b0] | (simp only [i64_w, i32_w]; rw [c17b0]) | skip)
      have H' := Aside0.mk H
      clear H
      go_wp2
      go_meet
      case rel => exact ⟨_, (true), (by first | rfl | (simp; done) | (simp [*]; done)), H', ⟨by have := HJ3.out; first | omega | exact Nat.le_refl _⟩, ⟨by repeat (first | (with_reducible first | exact HB.out | apply below_alloc | apply pw_below_drewN | apply below_drew1) | exact HB.out)⟩⟩
    case rest =>
     clear HC13
     try clear c1; try clear p2; try clear c3; try clear c5; try clear c5b0; try clear c5b1; try clear c6; try clear c9; try clear c15; try clear c16; try clear c17; try clear c17b0; try clear c17b1; try clear p2
     obtain ⟨kq, x45_12, rfl, HA, HJ12, HB⟩ := hcut
     cases kq with
     | zero => exact absurd HA.out (by simp [cabinetrylaw09_KeyBegins.j1])
     | succ kj12 =>
      have H := HA.out
      clear HA
      simp only [cabinetrylaw09_KeyBegins.j1] at H
      by_cases c18 : x45_12 = true
      ·subst c18
       have H1 : (some false) = some r := by rw [if_pos rfl] at H; exact H
       clear H
       have H := H1
       clear H1
       obtain rfl := Option.some.inj H
       exact absurd hr_.out (by decide)
      ·replace c18 := Bool.eq_false_iff.mpr c18
       subst c18
       have H1 : ((cabinetryref01_Begins.f t265 t260).bind fun t267 => ((cabinetryref01_Begins.f a1 a0).bind fun t268 => (if (t267 == t268) = true then ((cabinetrylaw09_known.f kj12).bind fun t269 => (some t269)) else (some false)))) = some r := by rw [if_neg (show ¬ (false = true) by decide)] at H; exact H
       clear H
       have H := H1
       clear H1
       replace H := Option.bind_eq_some_iff.mp H
       obtain ⟨t267, A190, H⟩ := H
       replace H : ((cabinetryref01_Begins.f a1 a0).bind fun t268 => (if (t267 == t268) = true then ((cabinetrylaw09_known.f kj12).bind fun t269 => (some t269)) else (some false))) = some r := H
       have A19 := Aside0.mk A190
       clear A190
       replace H := Option.bind_eq_some_iff.mp H
       obtain ⟨t268, A200, H⟩ := H
       replace H : (if (t267 == t268) = true then ((cabinetrylaw09_known.f kj12).bind fun t269 => (some t269)) else (some false)) = some r := H
       have A20 := Aside0.mk A200
       clear A200
       by_cases c21 : (t267 == t268) = true
       ·rw [if_pos c21] at H
        have c21b0 : (t267 == t268) = true := c21
        (try (have c21b1 : decide (t267 = t268) = true := by simpa using c21))
        (try (have c21b2 : (t267 == t268) = true := by simpa using c21))
        clear c21
        replace H := Option.bind_eq_some_iff.mp H
        obtain ⟨t269, A220, H⟩ := H
        replace H : (some t269) = some r := H
        have A22 := Aside0.mk A220
        clear A220
        obtain rfl := Option.some.inj H
        simp only [Option.some.injEq, Prod.mk.injEq] at H
        obtain ⟨rfl⟩ := H
        go_wp2_with (first | ((with_reducible refine gate_callee (f := 39) rfl ?_); refine goesL_ (some 48) rfl rfl Tryd.func39 (by kernel_rfl) rfl #[.string t265, .string t260] rfl (by (try simp only [List.map_toArray, List.map_cons, List.map_nil]); first | done | rfl | (simp only [List.length_drop, List.length_take]; rfl)) ?_; (with_reducible refine (cabinetryref01_Begins.calls t265 t260 t267 _ A19.out).mono ?_); rintro e w' ⟨rfl, ⟨nd, rfl⟩⟩; refine ⟨_, rfl, ?_⟩) | ((with_reducible refine gate_callee (f := 39) rfl ?_); refine goesL_ (some 51) rfl rfl Tryd.func39 (by kernel_rfl) rfl #[.string a1, .string a0] rfl (by (try simp only [List.map_toArray, List.map_cons, List.map_nil]); first | done | rfl | (simp only [List.length_drop, List.length_take]; rfl)) ?_; (with_reducible refine (cabinetryref01_Begins.calls a1 a0 t268 _ A20.out).mono ?_); rintro e w' ⟨rfl, ⟨nd, rfl⟩⟩; refine ⟨_, rfl, ?_⟩) | (go_at_call 15; (with_reducible refine (cabinetrylaw09_known.calls kj12  t269 _ A22.out hr_ (Hm.keep hm_ (by repeat (first | (with_reducible first | exact HB.out | apply below_alloc | apply pw_below_drewN | apply below_drew1) | exact HB.out)))).mono ?_); rintro e w23 ⟨rfl, hb⟩; have n0_ := Aside0.mk (below_step (by repeat (first | (with_reducible first | exact HB.out | apply below_alloc | apply pw_below_drewN | apply below_drew1) | exact HB.out)) hb); clear HB; have HB := n0_; clear n0_; (try clear hb); (try clear hb2); (try clear hk); (try clear hi)))
        go_ret
        exact ⟨by first | rfl | (simp [errW_none, errW_some] <;> rfl) | (simp [*, errW_none, errW_some] <;> rfl), by repeat (first | (with_reducible first | exact HB.out | apply below_alloc | apply pw_below_drewN | apply below_drew1) | exact HB.out)⟩
       ·rw [if_neg c21] at H
        have c21b0 : (t267 == t268) = false := by simpa using c21
        (try (have c21b1 : decide (t267 = t268) = false := by simpa using c21))
        (try (have c21b2 : (t267 == t268) = false := by simpa using c21))
        (try (have c21b3 : ¬ (t267 = t268) := by simpa using c21))
        clear c21
        obtain rfl := Option.some.inj H
        exact absurd hr_.out (by decide)
end Go.Proofs.YtnkejhfbkgfedaaDoor.PB
namespace Go.Proofs.YtnkejhfbkgfedaaDoor.LKeyBegins
open Go.RowKit Go.Proofs.YtnkejhfbkgfedaaDoorW.PrintWords Go.Proofs.YtnkejhfbkgfedaaDoor.PA Go.Proofs.YtnkejhfbkgfedaaDoor.H1 Go.Proofs.YtnkejhfbkgfedaaDoor.PB Go.Proofs.YtnkejhfbkgfedaaDoor.L1
set_option linter.unusedVariables false
theorem law (s t : ByteArray) (n : Int) (_ : s.size ≤ 140737488351232) (_ : t.size ≤ 140737488351232) (hn : -9223372036854775808 ≤ n ∧ n ≤ 9223372036854775807) :
    ∃ k, cabinetrylaw09_KeyBegins.f k s t n = some true := by
  refine ⟨1002, ?_⟩
  unfold cabinetrylaw09_KeyBegins.f
  by_cases hs : (s.size : Int) > 48
  · rw [if_pos hs]
    simp only [cabinetrylaw09_KeyBegins.j0]
    rw [if_pos trivial, known_ev 1001 (by decide)]
    rfl
  · rw [if_neg hs]
    simp only [cabinetrylaw09_KeyBegins.j0]
    by_cases ht : (t.size : Int) > 48
    · rw [if_pos (decide_eq_true ht), known_ev 1001 (by decide)]
      rfl
    · rw [if_neg (by rw [decide_eq_false ht]; decide)]
      obtain ⟨p, c, hp, hok⟩ := page_f n hn
      rw [hp]
      simp only [Option.bind_some]
      have hok0 : pageOk p 0 := ⟨hok.1, Or.inl rfl⟩
      have ha : askedV p 0 = 0 := (askedV_ok p 0).2 hok0
      rw [key_Prefix_f 1001 (by decide)]
      simp only [Option.bind_some]
      have hT : cabinetryref01_Text.f t = some (4, 0, t) := rfl
      rw [hT]
      simp only [Option.bind_some]
      rw [key_Encode_f 1001 (by decide)]
      simp only [Option.bind_some]
      have e1 : prefV s p 0 false = (⟨(4 :: escL s.data.toList).toArray⟩, 0) := by
        unfold prefV keyW
        rw [if_neg (by omega), if_pos ha, if_neg (by omega), wt0, List.take_of_length_le (by rw [ba_len]; omega)]
        rfl
      have e2 : encV 4 0 t p 0 false = (⟨(4 :: (escL t.data.toList ++ [0, 0])).toArray⟩, 0) := by
        have hv : validV 4 0 t = 0 := by rw [validText, if_neg (by omega)]
        unfold encV
        rw [if_pos hv, if_pos ha]
        unfold keyB keyW
        rw [if_neg (by decide), if_neg (by decide), if_neg (by decide), if_pos rfl, wt0, List.take_of_length_le (by rw [ba_len]; omega)]
        rfl
      rw [e1, e2]
      simp only [cabinetrylaw09_KeyBegins.j1]
      rw [if_pos trivial, if_neg (by decide), begins_f, begins_f]
      simp only [Option.bind_some]
      rw [ba_mk, ba_mk]
      have e3 : (4 :: escL s.data.toList).isPrefixOf (4 :: (escL t.data.toList ++ [0, 0])) = s.data.toList.isPrefixOf t.data.toList := by
        rw [← esc_prefix s.data.toList t.data.toList]
        simp
      rw [e3, known_ev 1000 (by decide)]
      simp
end Go.Proofs.YtnkejhfbkgfedaaDoor.LKeyBegins
namespace Go.Proofs.YtnkejhfbkgfedaaDoor.keyBegins
open Go.ChangeShapes Go.WideShapes Go.ChangeAt Go.RowKit
open Go.ChangeMaps (open_string shut_string)
set_option linter.unusedVariables false
theorem own : ownKnob Tryd.prog.godebug = none := by kernel_rfl
set_option maxRecDepth 100000 in
theorem lifted (os : Os) (started : os.Started) (H : Type) (enc : TypeId × Value → H) :
    ReturnsInHanded {} Tryd.checked os 9 .any (fun w args => (Rows.keyBeginsSpec.pre enc Tryd.prog Tryd.f9 Rows.keyBeginsRow.domain false w args ∧ laidMetH Tryd.prog Rows.keyBeginsRow.laid w) ∧ sizedMet enc Tryd.prog Tryd.f9 (OpenSpec.ofChange Rows.keyBeginsSpec) false w args)
      (Rows.keyBeginsSpec.post enc Tryd.prog Tryd.f9 false true false false) := by
  refine L0.handed_and_shaped (C := Tryd.checked) (X := fun w _ => laidMetH Tryd.prog Rows.keyBeginsRow.laid w) (fun _ _ _ hh h => h.of_heap hh) own started (by kernel_rfl) Tryd.func9
    (ChangeSpec.witness_shaped (enc := enc) (C := Tryd.checked) (os := os) (X := fun w _ => laidMetH Tryd.prog Rows.keyBeginsRow.laid w) false (World.laidAll Tryd.prog os Rows.keyBeginsRow.laid) #[.string ByteArray.empty, .string ByteArray.empty, .int .i64 0] 8 (World.laidAll_os _ _ _)
      (World.shaped_of_ZipB (by kernel_rfl) (by kernel_rfl)) (by kernel_rfl) (by kernel_rfl) (by kernel_rfl)
      (by rw [MakeChecks.laidMetH_plain _ _ _ (by kernel_rfl)]; exact laidMet_laidAll _ (by kernel_rfl) (by kernel_rfl))) ?_
  intro W base args ds gs before hval0 hW hcnd hsz0 hL hsh _
  have hsz : (DataW.weightsEach Tryd.prog (Tryd.f9.params.toList ++ Rows.keyBeginsSpec.plain.varTypes Tryd.prog) (ds ++ gs)).all (· ≤ reachBytes) = true := hsz0
  have hval : ∀ (j : Nat) t v, Tryd.f9.params[j]? = some t → args[j]? = some v → Value.okWide Tryd.prog W .any base t v := hval0
  have hW' := hW
  obtain ⟨p, q, hA0, hV, rfl, hfz, hnd⟩ := hW
  have hA : DataW.TrodAll enc Tryd.prog W 0 (fun _ => true) true Tryd.f9.params.toList args.toList ds p := hA0
  rw [Tryd.params9] at hA hval hsz
  obtain ⟨v0, vs0, d0, ds0, p0, q0, hargs, rfl, rfl, h0, r0⟩ := trodAll_cons hA
  obtain ⟨v1, vs1, d1, ds1, p1, q1, rfl, rfl, rfl, h1, r1⟩ := trodAll_cons r0
  obtain ⟨v2, vs2, d2, ds2, p2, q2, rfl, rfl, rfl, h2, r2⟩ := trodAll_cons r1
  obtain ⟨rfl, rfl, rfl⟩ := trodAll_nil r2
  obtain rfl : args = #[v0, v1, v2] := by cases args; simp_all
  obtain ⟨rfl, rfl⟩ := trodVars_none hV
  obtain ⟨a0, rfl, rfl, rfl, y0⟩ := open_string Tryd.underlying9 (hval 0 9 v0 rfl rfl) h0
  have w0 : a0.size ≤ 140737488351232 := by
    have z := sized_string hsz (j := 0) (t := 9) rfl rfl
    rw [Array.length_toList] at z
    exact z
  obtain ⟨a1, rfl, rfl, rfl, y1⟩ := open_string Tryd.underlying9 (hval 1 9 v1 rfl rfl) h1
  have w1 : a1.size ≤ 140737488351232 := by
    have z := sized_string hsz (j := 1) (t := 9) rfl rfl
    rw [Array.length_toList] at z
    exact z
  obtain ⟨a2, rfl, rfl, rfl, w2⟩ := open_int Tryd.underlying3 (hval 2 3 v2 rfl rfl) h2
  clear hA0 hval0 hsz0 hsz
  obtain ⟨k, h⟩ := LKeyBegins.law a0 a1 a2 w0 w1 (bounds_i64 w2)
  refine (PB.cabinetrylaw09_KeyBegins.calls k a0 a1 a2 true W h ⟨rfl⟩ ⟨Tryd.laysM143.s1_3 W hsh⟩).mono fun e W' ⟨he, bel⟩ => ?_
  subst he
  exact ⟨_, rfl, _, _, _, [], _, [], hW', trodAll_mk1 (shut_bool Tryd.underlying4 _), (trodAll_cons_mk (shut_string Tryd.underlying9 y0) (trodAll_cons_mk (shut_string Tryd.underlying9 y1) (trodAll_cons_mk (shut_int Tryd.underlying3 w2) trodAll_mk0))), rfl, bel.frame _, fun h => by cases h⟩
theorem keyBegins_holds : Rows.KeyBeginsSaid :=
  OpenClaim.holds_of_wide 9 Tryd.f9 rfl rfl rfl rfl rfl rfl rfl ⟨rfl, rfl, rfl, rfl, rfl⟩ rfl rfl rfl rfl rfl (by kernel_rfl) Tryd.func9 (by kernel_rfl)
    (of_decide_eq_true (by kernel_rfl)) (by unfold Func.isWrapper; first | (rw [if_pos (by decide +kernel)]; kernel_rfl) | (rw [if_neg (by decide +kernel)]; exact ⟨rfl, rfl⟩))
    (fun os started H enc _ => lifted os started H enc)
end Go.Proofs.YtnkejhfbkgfedaaDoor.keyBegins
namespace Go.Proofs.YtnkejhfbkgfedaaDoor
theorem keyBegins_card : Rows.KeyBeginsCardSaid :=
  Claim7.holds_tied_plain_at .later [] [.data, .pinned] true (true, "3ca090072f74d9576caed6164917b7ff82063396b7cf458c4b58db08244bc750") false
    keyBegins.keyBegins_holds (fun _ h => by cases h) (by kernel_rfl) (fun _ h => by cases h) keyBegins_row_tie rfl ⟨rfl, rfl⟩ (by kernel_rfl) rfl
    (fun f fn hf hfn => by
      obtain rfl : f = 9 := Option.some.inj ((show Tryd.prog.funcNamed "cabinetry/cabinetrylaw09.KeyBegins" = some 9 by kernel_rfl).symm.trans hf) |>.symm
      obtain rfl : fn = Tryd.f9 := (Option.some.inj (Tryd.func9.symm.trans hfn)).symm
      exact ⟨by kernel_rfl, fun j t ht => by
        rw [Tryd.params9] at ht
        have hm : t ∈ [9, 9, 3] := by simpa using Array.mem_of_getElem? ht
        have hall : ([9, 9, 3].all fun u => !Tryd.prog.wantsStandIn u) = true := by kernel_rfl
        exact (show Tryd.prog.wantsStandIn t = false by simpa using List.all_eq_true.1 hall t hm)⟩)
    (by kernel_rfl)
#print axioms keyBegins_card
end Go.Proofs.YtnkejhfbkgfedaaDoor
