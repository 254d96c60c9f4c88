/-
  ValNumbers of package cabinetry/cabinetrylaw01: for every input the call returns true, and each argument reads afterwards as it read before. Conditions: the package-level variables that the row lists (of unicode/utf8) hold what the program's text lays, which the card ties; nothing else.
-/
-- Written by a program of this session (wip/merge.py): the texts of this claim, joined.
import Derived.Test.YtplbjaandkdhjaaDoorRows
import Derived.Test.YtplbjaandkdhjaaDoorCards
import Derived.Test.YtplbjaandkdhjaaDoorTie
import Derived.WalkKit
import Derived.ProofKit
import Derived.OpenShut
import Derived.ShutString
import Derived.ChangeOld
import Derived.Below
import Derived.SizedLaws
import Derived.LaidMore
import Derived.Lay
import Derived.SevenTiedAt
import Derived.Stop.Joined
import Derived.Test.YtplbjaandkdhjaaDoorMValNumbers0
import Derived.Test.YtplbjaandkdhjaaDoorMValNumbers1
import Derived.Test.YtplbjaandkdhjaaDoorMValNumbers2
import Derived.Test.YtplbjaandkdhjaaDoorMValNumbers3
import Derived.Test.YtplbjaandkdhjaaDoorMValNumbers4
import Derived.Test.YtplbjaandkdhjaaDoorMValNumbers5
import Derived.Test.YtplbjaandkdhjaaDoorMValNumbers6
import Derived.Test.YtplbjaandkdhjaaDoorMValNumbers7
import Derived.Test.YtplbjaandkdhjaaDoorMValNumbers8
import Derived.Test.YtplbjaandkdhjaaDoorMValNumbers9
import Derived.Test.YtplbjaandkdhjaaDoorMValNumbers10
import Derived.Test.YtplbjaandkdhjaaDoorMValNumbers11
import Derived.Test.YtplbjaandkdhjaaDoorMValNumbers12
import Derived.Test.YtplbjaandkdhjaaDoorMValNumbers13
import Derived.Test.YtplbjaandkdhjaaDoorMValNumbers14
namespace Go.Proofs.YtplbjaandkdhjaaDoor.PC
open Go.RowKit Go.Proofs.YtplbjaandkdhjaaDoorW.PrintWords Go.Proofs.YtplbjaandkdhjaaDoorW.PrintLast Go.Proofs.YtplbjaandkdhjaaDoorW.PrintMore Go.Proofs.YtplbjaandkdhjaaDoor.PA Go.Proofs.YtplbjaandkdhjaaDoor.H1 Go.Proofs.YtplbjaandkdhjaaDoor.PB
attribute [local go_sem] max2_int min2_int max_two min_two max_three min_three max_four min_four   -- for this text's walks alone
set_option linter.unusedVariables false
set_option linter.unusedSimpArgs false
def cabinetrylaw01_ValNumbers.j0 : Nat → Int → ByteArray → Int → Bool → Option (Bool)
 | 0, _, _, _, _ => none
 | k + 1, x0, x7, x8, x41 => if x41 = true then (some false) else (if x8 = 0 then (if x7.toList = ([] : List UInt8) then ((cabinetrylaw01_known.f k).bind fun t254 => (some t254)) else (if 0 < (x7.size : Int) then (if (bt x7 0) = 42 then ((cabinetrylaw01_known.f k).bind fun t255 => (some t255)) else ((val_Val.f k x7).bind fun t256 => (if t256 = x0 then ((cabinetrylaw01_known.f k).bind fun t257 => (some t257)) else (some false)))) else (none))) else ((cabinetrylaw01_known.f k).bind fun t258 => (some t258)))
def cabinetrylaw01_ValNumbers.f (k : Nat) (a0 : Int) (a1 : Int) (a2 : ByteArray) : Option (Bool) := if (a2.size : Int) > 20000 then ((cabinetrylaw01_known.f k).bind fun t247 => (some t247)) else ((val_Str.f k a0 a1).bind fun bt248 => ((cabinetryref01_Str.f k a0 a1).bind fun bt250 => (if bt248.1.toList = bt250.1.toList then (if bt248.2 = bt250.2 then ((val_Val.f k a2).bind fun t252 => ((cabinetryref01_Val.f k a2).bind fun t253 => (cabinetrylaw01_ValNumbers.j0 k a0 bt248.1 bt248.2 (t252 != t253)))) else (cabinetrylaw01_ValNumbers.j0 k a0 bt248.1 bt248.2 true)) else (cabinetrylaw01_ValNumbers.j0 k a0 bt248.1 bt248.2 true))))
set_option maxHeartbeats 8000000 in
set_option maxRecDepth 100000 in
theorem cabinetrylaw01_ValNumbers.calls (k : Nat) (a0 : Int) (a1 : Int) (a2 : ByteArray) (r : Bool) (w : World) (h : cabinetrylaw01_ValNumbers.f k a0 a1 a2 = some r) (hr_ : Aside0 (r = true)) :
  Calls Tryd.prog 13 #[.int .i64 a0, .int .i64 a1, .string a2] w fun e w' => e = .returned (.bool r) ∧ Below w.heap.size w w' := by
 have HB := Aside0.mk (Below.refl w.heap.size w)
 have H : (if (a2.size : Int) > 20000 then ((cabinetrylaw01_known.f k).bind fun t247 => (some t247)) else ((val_Str.f k a0 a1).bind fun bt248 => ((cabinetryref01_Str.f k a0 a1).bind fun bt250 => (if bt248.1.toList = bt250.1.toList then (if bt248.2 = bt250.2 then ((val_Val.f k a2).bind fun t252 => ((cabinetryref01_Val.f k a2).bind fun t253 => (cabinetrylaw01_ValNumbers.j0 k a0 bt248.1 bt248.2 (t252 != t253)))) else (cabinetrylaw01_ValNumbers.j0 k a0 bt248.1 bt248.2 true)) else (cabinetrylaw01_ValNumbers.j0 k a0 bt248.1 bt248.2 true))))) = some r := h
 clear h
 by_cases c4 : (a2.size : Int) > 20000
 ·rw [if_pos c4] at H
  have c4b0 : decide (20000 < (a2.size : Int)) = true := decide_eq_true c4
  have c4b1 : decide (20000 < a2.size) = true := decide_eq_true (by omega)
  clear c4
  replace H := Option.bind_eq_some_iff.mp H
  obtain ⟨t247, A50, H⟩ := H
  replace H : (some t247) = some r := H
  have A5 := Aside0.mk A50
  clear A50
  obtain rfl := Option.some.inj H
  simp only [Option.some.injEq, Prod.mk.injEq] at H
  obtain ⟨rfl⟩ := H
  go_enter Tryd.func13, Tryd.ntmps13
  go_wp2_with (first | ((with_reducible refine gate_callee (f := 16) rfl ?_); refine goesL_ (some 14) rfl rfl Tryd.func16 (by kernel_rfl) rfl #[] rfl (by (try simp only [List.map_toArray, List.map_cons, List.map_nil]); first | done | rfl | (simp only [List.length_drop, List.length_take]; rfl)) ?_; (with_reducible refine (cabinetrylaw01_known.calls k  t247 _ A5.out hr_).mono ?_); rintro e w6 ⟨rfl, hb⟩; refine ⟨_, rfl, ?_⟩; have n0_ := Aside0.mk (below_step (by repeat (first | (with_reducible first | exact HB.out | apply below_alloc | apply pw_below_drewN | apply below_drew1) | exact HB.out)) hb); clear HB; have HB := n0_; clear n0_; (try clear hb); (try clear hb2); (try clear hk); (try clear hi)))
  go_ret
  exact ⟨by first | rfl | (simp [errW_none, errW_some] <;> rfl) | (simp [*, errW_none, errW_some] <;> rfl), by repeat (first | (with_reducible first | exact HB.out | apply below_alloc | apply pw_below_drewN | apply below_drew1) | exact HB.out)⟩
 ·rw [if_neg c4] at H
  have c4b0 : decide (20000 < (a2.size : Int)) = false := decide_eq_false c4
  have c4b1 : decide (20000 < a2.size) = false := decide_eq_false (by omega)
  clear c4
  replace H := Option.bind_eq_some_iff.mp H
  obtain ⟨⟨t248, t249⟩, A70, H⟩ := H
  replace H : ((cabinetryref01_Str.f k a0 a1).bind fun bt250 => (if t248.toList = bt250.1.toList then (if t249 = bt250.2 then ((val_Val.f k a2).bind fun t252 => ((cabinetryref01_Val.f k a2).bind fun t253 => (cabinetrylaw01_ValNumbers.j0 k a0 t248 t249 (t252 != t253)))) else (cabinetrylaw01_ValNumbers.j0 k a0 t248 t249 true)) else (cabinetrylaw01_ValNumbers.j0 k a0 t248 t249 true))) = some r := H
  have A7 := Aside0.mk A70
  clear A70
  replace H := Option.bind_eq_some_iff.mp H
  obtain ⟨⟨t250, t251⟩, A80, H⟩ := H
  replace H : (if t248.toList = t250.toList then (if t249 = t251 then ((val_Val.f k a2).bind fun t252 => ((cabinetryref01_Val.f k a2).bind fun t253 => (cabinetrylaw01_ValNumbers.j0 k a0 t248 t249 (t252 != t253)))) else (cabinetrylaw01_ValNumbers.j0 k a0 t248 t249 true)) else (cabinetrylaw01_ValNumbers.j0 k a0 t248 t249 true)) = some r := H
  have A8 := Aside0.mk A80
  clear A80
  have HC9 := Aside0.mk H
  clear H
  go_enter Tryd.func13, Tryd.ntmps13
  go_upto_region 5 with (first | ((with_reducible refine gate_callee (f := 48) rfl ?_); refine goesL_ (some 18) rfl rfl Tryd.func48 (by kernel_rfl) rfl #[.int .i64 a0, .int .i64 a1] rfl (by (try simp only [List.map_toArray, List.map_cons, List.map_nil]); first | done | rfl | (simp only [List.length_drop, List.length_take]; rfl)) ?_; (with_reducible refine (val_Str.calls k a0 a1 t248 t249 _ A7.out).mono ?_); rintro e w10 ⟨rfl, hb⟩; refine ⟨_, rfl, ?_⟩; have n0_ := Aside0.mk (below_step (by repeat (first | (with_reducible first | exact HB.out | apply below_alloc | apply pw_below_drewN | apply below_drew1) | exact HB.out)) hb); clear HB; have HB := n0_; clear n0_; (try clear hb); (try clear hb2); (try clear hk); (try clear hi)) | ((with_reducible refine gate_callee (f := 49) rfl ?_); refine goesL_ (some 24) rfl rfl Tryd.func49 (by kernel_rfl) rfl #[.int .i64 a0, .int .i64 a1] rfl (by (try simp only [List.map_toArray, List.map_cons, List.map_nil]); first | done | rfl | (simp only [List.length_drop, List.length_take]; rfl)) ?_; (with_reducible refine (cabinetryref01_Str.calls k a0 a1 t250 t251 _ A8.out).mono ?_); rintro e w' ⟨rfl, ⟨nd, rfl⟩⟩; refine ⟨_, rfl, ?_⟩))
  (try simp only [Act.put, List.setIfInBounds_toArray, List.set_cons_zero, List.set_cons_succ])
  go_cut [41] (fun v41 wc => ∃ (kq : Nat) (x41_8 : Bool), v41 = .bool x41_8 ∧ Aside0 (cabinetrylaw01_ValNumbers.j0 kq a0 t248 t249 x41_8 = some r) ∧ Aside0 (kq ≤ k) ∧ Aside0 (Below w.heap.size w wc))
  case first =>
   have H := HC9.out
   clear HC9
   by_cases c11 : t248.toList = t250.toList
   ·rw [if_pos c11] at H
    have c11b0 : (t248.toList == t250.toList) = true := beq_iff_eq.mpr c11
    have c11b1 : (t248.toList != t250.toList) = false := bne_eq_false_iff_eq.mpr c11
    clear c11
    (first | rw [c11b0] | (simp only [i64_w, i32_w]; rw [c11b0]) | skip)
    by_cases c12 : t249 = t251
    ·rw [if_pos c12] at H
     have c12b0 : (t249 == t251) = true := beq_iff_eq.mpr c12
     have c12b1 : (t249 != t251) = false := bne_eq_false_iff_eq.mpr c12
     clear c12
     replace H := Option.bind_eq_some_iff.mp H
     obtain ⟨t252, A130, H⟩ := H
     replace H : ((cabinetryref01_Val.f k a2).bind fun t253 => (cabinetrylaw01_ValNumbers.j0 k a0 t248 t249 (t252 != t253))) = some r := H
     have A13 := Aside0.mk A130
     clear A130
     replace H := Option.bind_eq_some_iff.mp H
     obtain ⟨t253, A140, H⟩ := H
     replace H : (cabinetrylaw01_ValNumbers.j0 k a0 t248 t249 (t252 != t253)) = some r := H
     have A14 := Aside0.mk A140
     clear A140
     have H' := Aside0.mk H
     clear H
     go_wp2_with (first | (go_at_call 50; (with_reducible refine (val_Val.calls k a2 t252 _ A13.out).mono ?_); rintro e w15 ⟨rfl, hb⟩; have n0_ := Aside0.mk (below_step (by repeat (first | (with_reducible first | exact HB.out | apply below_alloc | apply pw_below_drewN | apply below_drew1) | exact HB.out)) hb); clear HB; have HB := n0_; clear n0_; (try clear hb); (try clear hb2); (try clear hk); (try clear hi)) | (go_at_call 51; (with_reducible refine (cabinetryref01_Val.calls k a2 t253 _ A14.out).mono ?_); rintro e w16 ⟨rfl, hb⟩; have n0_ := Aside0.mk (below_step (by repeat (first | (with_reducible first | exact HB.out | apply below_alloc | apply pw_below_drewN | apply below_drew1) | exact HB.out)) hb); clear HB; have HB := n0_; clear n0_; (try clear hb); (try clear hb2); (try clear hk); (try clear hi)))
     go_meet
     case rel => exact ⟨_, ((t252 != t253)), (by first | rfl | (simp; done) | (simp [*]; done)), H', ⟨by first | omega | exact Nat.le_refl _⟩, ⟨by repeat (first | (with_reducible first | exact HB.out | apply below_alloc | apply pw_below_drewN | apply below_drew1) | exact HB.out)⟩⟩
    ·rw [if_neg c12] at H
     have c12b0 : (t249 == t251) = false := beq_eq_false_iff_ne.mpr c12
     have c12b1 : (t249 != t251) = true := bne_iff_ne.mpr c12
     have H' := Aside0.mk H
     clear H
     go_wp2
     go_meet
     case rel => exact ⟨_, (true), (by first | rfl | (simp; done) | (simp [*]; done)), H', ⟨by first | omega | exact Nat.le_refl _⟩, ⟨by repeat (first | (with_reducible first | exact HB.out | apply below_alloc | apply pw_below_drewN | apply below_drew1) | exact HB.out)⟩⟩
   ·rw [if_neg c11] at H
    have c11b0 : (t248.toList == t250.toList) = false := beq_eq_false_iff_ne.mpr c11
    have c11b1 : (t248.toList != t250.toList) = true := bne_iff_ne.mpr c11
    (first | rw [c11b0] | (simp only [i64_w, i32_w]; rw [c11b0]) | skip)
    have H' := Aside0.mk H
    clear H
    go_wp2
    go_meet
    case rel => exact ⟨_, (true), (by first | rfl | (simp; done) | (simp [*]; done)), H', ⟨by first | omega | exact Nat.le_refl _⟩, ⟨by repeat (first | (with_reducible first | exact HB.out | apply below_alloc | apply pw_below_drewN | apply below_drew1) | exact HB.out)⟩⟩
  case rest =>
   clear HC9
   try clear c1; try clear p2; try clear c4; try clear c4b0; try clear c4b1; try clear c11; try clear c11b0; try clear c11b1; try clear c12; try clear c12b0; try clear c12b1; try clear c13; try clear c16
   obtain ⟨kq, x41_8, rfl, HA, HJ8, HB⟩ := hcut
   cases kq with
   | zero => exact absurd HA.out (by simp [cabinetrylaw01_ValNumbers.j0])
   | succ kj8 =>
    have H := HA.out
    clear HA
    simp only [cabinetrylaw01_ValNumbers.j0] at H
    by_cases c17 : x41_8 = true
    ·subst c17
     have H1 : (some false) = some r := by rw [if_pos rfl] at H; exact H
     clear H
     have H := H1
     clear H1
     obtain rfl := Option.some.inj H
     exact absurd hr_.out (by decide)
    ·replace c17 := Bool.eq_false_iff.mpr c17
     subst c17
     have H1 : (if t249 = 0 then (if t248.toList = ([] : List UInt8) then ((cabinetrylaw01_known.f kj8).bind fun t254 => (some t254)) else (if 0 < (t248.size : Int) then (if (bt t248 0) = 42 then ((cabinetrylaw01_known.f kj8).bind fun t255 => (some t255)) else ((val_Val.f kj8 t248).bind fun t256 => (if t256 = a0 then ((cabinetrylaw01_known.f kj8).bind fun t257 => (some t257)) else (some false)))) else (none))) else ((cabinetrylaw01_known.f kj8).bind fun t258 => (some t258))) = some r := by rw [if_neg (show ¬ (false = true) by decide)] at H; exact H
     clear H
     have H := H1
     clear H1
     by_cases c18 : t249 = 0
     ·rw [if_pos c18] at H
      have c18b0 : (t249 == 0) = true := beq_iff_eq.mpr c18
      have c18b1 : (t249 != 0) = false := bne_eq_false_iff_eq.mpr c18
      clear c18
      by_cases c19 : t248.toList = ([] : List UInt8)
      ·rw [if_pos c19] at H
       have c19b0 : (t248.toList == ([] : List UInt8)) = true := beq_iff_eq.mpr c19
       have c19b1 : (t248.toList != ([] : List UInt8)) = false := bne_eq_false_iff_eq.mpr c19
       clear c19
       replace H := Option.bind_eq_some_iff.mp H
       obtain ⟨t254, A200, H⟩ := H
       replace H : (some t254) = some r := H
       have A20 := Aside0.mk A200
       clear A200
       obtain rfl := Option.some.inj H
       simp only [Option.some.injEq, Prod.mk.injEq] at H
       obtain ⟨rfl⟩ := H
       go_wp2_with (first | ((with_reducible refine gate_callee (f := 16) rfl ?_); refine goesL_ (some 59) rfl rfl Tryd.func16 (by kernel_rfl) rfl #[] rfl (by (try simp only [List.map_toArray, List.map_cons, List.map_nil]); first | done | rfl | (simp only [List.length_drop, List.length_take]; rfl)) ?_; (with_reducible refine (cabinetrylaw01_known.calls kj8  t254 _ A20.out hr_).mono ?_); rintro e w21 ⟨rfl, hb⟩; refine ⟨_, rfl, ?_⟩; have n0_ := Aside0.mk (below_step (by repeat (first | (with_reducible first | exact HB.out | apply below_alloc | apply pw_below_drewN | apply below_drew1) | exact HB.out)) hb); clear HB; have HB := n0_; clear n0_; (try clear hb); (try clear hb2); (try clear hk); (try clear hi)))
       go_ret
       exact ⟨by first | rfl | (simp [errW_none, errW_some] <;> rfl) | (simp [*, errW_none, errW_some] <;> rfl), by repeat (first | (with_reducible first | exact HB.out | apply below_alloc | apply pw_below_drewN | apply below_drew1) | exact HB.out)⟩
      ·rw [if_neg c19] at H
       have c19b0 : (t248.toList == ([] : List UInt8)) = false := beq_eq_false_iff_ne.mpr c19
       have c19b1 : (t248.toList != ([] : List UInt8)) = true := bne_iff_ne.mpr c19
       by_cases c22 : 0 < (t248.size : Int)
       ·rw [if_pos c22] at H
        have c22b0 : decide (0 < (t248.size : Int)) = true := decide_eq_true c22
        have c22b1 : decide (0 < t248.size) = true := decide_eq_true (by omega)
        clear c22
        by_cases c24 : (bt t248 0) = 42
        ·rw [if_pos c24] at H
         have c24b0 : ((bt t248 0) == 42) = true := beq_iff_eq.mpr c24
         have c24b1 : ((bt t248 0) != 42) = false := bne_eq_false_iff_eq.mpr c24
         clear c24
         replace H := Option.bind_eq_some_iff.mp H
         obtain ⟨t255, A250, H⟩ := H
         replace H : (some t255) = some r := H
         have A25 := Aside0.mk A250
         clear A250
         obtain rfl := Option.some.inj H
         simp only [Option.some.injEq, Prod.mk.injEq] at H
         obtain ⟨rfl⟩ := H
         have p23 : 0 ≤ (0 : Int) := (by omega)
         have q23 : 0 < t248.size := (by have : (0 : Int) < (t248.size : Int) := of_decide_eq_true (by first | (with_reducible assumption) | assumption); omega)
         have hx23 : ∀ h : 0 < t248.size, ((t248[0]'h).toNat : Int) = bt t248 0 := bt_at t248 0
         clear p23
         have qi23 : (0 < (t248.size : Int)) = True := eq_true (of_decide_eq_true (by first | (with_reducible assumption) | assumption))
         replace q23 := eq_true q23
         go_wp2_with (first | ((with_reducible refine gate_callee (f := 16) rfl ?_); refine goesL_ (some 59) rfl rfl Tryd.func16 (by kernel_rfl) rfl #[] rfl (by (try simp only [List.map_toArray, List.map_cons, List.map_nil]); first | done | rfl | (simp only [List.length_drop, List.length_take]; rfl)) ?_; (with_reducible refine (cabinetrylaw01_known.calls kj8  t255 _ A25.out hr_).mono ?_); rintro e w26 ⟨rfl, hb⟩; refine ⟨_, rfl, ?_⟩; have n0_ := Aside0.mk (below_step (by repeat (first | (with_reducible first | exact HB.out | apply below_alloc | apply pw_below_drewN | apply below_drew1) | exact HB.out)) hb); clear HB; have HB := n0_; clear n0_; (try clear hb); (try clear hb2); (try clear hk); (try clear hi)))
         go_ret
         exact ⟨by first | rfl | (simp [errW_none, errW_some] <;> rfl) | (simp [*, errW_none, errW_some] <;> rfl), by repeat (first | (with_reducible first | exact HB.out | apply below_alloc | apply pw_below_drewN | apply below_drew1) | exact HB.out)⟩
        ·rw [if_neg c24] at H
         have c24b0 : ((bt t248 0) == 42) = false := beq_eq_false_iff_ne.mpr c24
         have c24b1 : ((bt t248 0) != 42) = true := bne_iff_ne.mpr c24
         replace H := Option.bind_eq_some_iff.mp H
         obtain ⟨t256, A270, H⟩ := H
         replace H : (if t256 = a0 then ((cabinetrylaw01_known.f kj8).bind fun t257 => (some t257)) else (some false)) = some r := H
         have A27 := Aside0.mk A270
         clear A270
         by_cases c28 : t256 = a0
         ·rw [if_pos c28] at H
          have c28b0 : (t256 == a0) = true := beq_iff_eq.mpr c28
          have c28b1 : (t256 != a0) = false := bne_eq_false_iff_eq.mpr c28
          clear c28
          replace H := Option.bind_eq_some_iff.mp H
          obtain ⟨t257, A290, H⟩ := H
          replace H : (some t257) = some r := H
          have A29 := Aside0.mk A290
          clear A290
          obtain rfl := Option.some.inj H
          simp only [Option.some.injEq, Prod.mk.injEq] at H
          obtain ⟨rfl⟩ := H
          have p23 : 0 ≤ (0 : Int) := (by omega)
          have q23 : 0 < t248.size := (by have : (0 : Int) < (t248.size : Int) := of_decide_eq_true (by first | (with_reducible assumption) | assumption); omega)
          have hx23 : ∀ h : 0 < t248.size, ((t248[0]'h).toNat : Int) = bt t248 0 := bt_at t248 0
          clear p23
          have qi23 : (0 < (t248.size : Int)) = True := eq_true (of_decide_eq_true (by first | (with_reducible assumption) | assumption))
          replace q23 := eq_true q23
          go_wp2_with (first | (go_at_call 50; (with_reducible refine (val_Val.calls kj8 t248 t256 _ A27.out).mono ?_); rintro e w30 ⟨rfl, hb⟩; have n0_ := Aside0.mk (below_step (by repeat (first | (with_reducible first | exact HB.out | apply below_alloc | apply pw_below_drewN | apply below_drew1) | exact HB.out)) hb); clear HB; have HB := n0_; clear n0_; (try clear hb); (try clear hb2); (try clear hk); (try clear hi)) | ((with_reducible refine gate_callee (f := 16) rfl ?_); refine goesL_ (some 59) rfl rfl Tryd.func16 (by kernel_rfl) rfl #[] rfl (by (try simp only [List.map_toArray, List.map_cons, List.map_nil]); first | done | rfl | (simp only [List.length_drop, List.length_take]; rfl)) ?_; (with_reducible refine (cabinetrylaw01_known.calls kj8  t257 _ A29.out hr_).mono ?_); rintro e w31 ⟨rfl, hb⟩; refine ⟨_, rfl, ?_⟩; have n0_ := Aside0.mk (below_step (by repeat (first | (with_reducible first | exact HB.out | apply below_alloc | apply pw_below_drewN | apply below_drew1) | exact HB.out)) hb); clear HB; have HB := n0_; clear n0_; (try clear hb); (try clear hb2); (try clear hk); (try clear hi)))
          go_ret
          exact ⟨by first | rfl | (simp [errW_none, errW_some] <;> rfl) | (simp [*, errW_none, errW_some] <;> rfl), by repeat (first | (with_reducible first | exact HB.out | apply below_alloc | apply pw_below_drewN | apply below_drew1) | exact HB.out)⟩
         ·rw [if_neg c28] at H
          have c28b0 : (t256 == a0) = false := beq_eq_false_iff_ne.mpr c28
          have c28b1 : (t256 != a0) = true := bne_iff_ne.mpr c28
          obtain rfl := Option.some.inj H
          exact absurd hr_.out (by decide)
       ·rw [if_neg c22] at H
        exact absurd H (by simp)
     ·rw [if_neg c18] at H
      have c18b0 : (t249 == 0) = false := beq_eq_false_iff_ne.mpr c18
      have c18b1 : (t249 != 0) = true := bne_iff_ne.mpr c18
      replace H := Option.bind_eq_some_iff.mp H
      obtain ⟨t258, A320, H⟩ := H
      replace H : (some t258) = some r := H
      have A32 := Aside0.mk A320
      clear A320
      obtain rfl := Option.some.inj H
      simp only [Option.some.injEq, Prod.mk.injEq] at H
      obtain ⟨rfl⟩ := H
      go_wp2_with (first | ((with_reducible refine gate_callee (f := 16) rfl ?_); refine goesL_ (some 59) rfl rfl Tryd.func16 (by kernel_rfl) rfl #[] rfl (by (try simp only [List.map_toArray, List.map_cons, List.map_nil]); first | done | rfl | (simp only [List.length_drop, List.length_take]; rfl)) ?_; (with_reducible refine (cabinetrylaw01_known.calls kj8  t258 _ A32.out hr_).mono ?_); rintro e w33 ⟨rfl, hb⟩; refine ⟨_, rfl, ?_⟩; have n0_ := Aside0.mk (below_step (by repeat (first | (with_reducible first | exact HB.out | apply below_alloc | apply pw_below_drewN | apply below_drew1) | exact HB.out)) hb); clear HB; have HB := n0_; clear n0_; (try clear hb); (try clear hb2); (try clear hk); (try clear hi)))
      go_ret
      exact ⟨by first | rfl | (simp [errW_none, errW_some] <;> rfl) | (simp [*, errW_none, errW_some] <;> rfl), by repeat (first | (with_reducible first | exact HB.out | apply below_alloc | apply pw_below_drewN | apply below_drew1) | exact HB.out)⟩
end Go.Proofs.YtplbjaandkdhjaaDoor.PC
namespace Go.Proofs.YtplbjaandkdhjaaDoor.LValNumbers
open Go.RowKit Go.Proofs.YtplbjaandkdhjaaDoorW.PrintWords Go.Proofs.YtplbjaandkdhjaaDoor.PA Go.Proofs.YtplbjaandkdhjaaDoor.PB Go.Proofs.YtplbjaandkdhjaaDoor.PC Go.Proofs.YtplbjaandkdhjaaDoor.H1 Go.Proofs.YtplbjaandkdhjaaDoor.L1
set_option linter.unusedVariables false
theorem law (a0 a1 : Int) (a2 : ByteArray) (h0 : -9223372036854775808 ≤ a0 ∧ a0 ≤ 9223372036854775807) (h1 : -9223372036854775808 ≤ a1 ∧ a1 ≤ 9223372036854775807) (h2 : a2.size ≤ 140737488351232) :
    ∃ k, cabinetrylaw01_ValNumbers.f k a0 a1 a2 = some true := by
  refine ⟨60001, ?_⟩
  unfold cabinetrylaw01_ValNumbers.f
  by_cases hs : (a2.size : Int) > 20000
  · rw [if_pos hs, known_ev 60001 (by decide)]
    rfl
  · rw [if_neg hs, str_f a0 a1 (by decide), Option.bind_some, refStr_f a0 a1 (by decide), Option.bind_some]
    simp only [if_true]
    rw [val_f a2 (by omega) (by decide), Option.bind_some, refVal_f a2 (by omega) (by decide), Option.bind_some, bne_self_eq_false]
    rw [show (60001 : Nat) = 60000 + 1 from rfl]
    simp only [cabinetrylaw01_ValNumbers.j0]
    rw [if_neg (by decide), known_ev 60000 (by decide)]
    by_cases he : (strV a0 a1).2 = 0
    · rw [if_pos he]
      by_cases hn : (⟨(strV a0 a1).1.toArray⟩ : ByteArray).toList = []
      · rw [if_pos hn]
        rfl
      · rw [if_neg hn]
        have hl : (strV a0 a1).1 ≠ [] := fun e => hn (by rw [e]; simp [ByteArray.toList_eq])
        have hsz : 0 < (⟨(strV a0 a1).1.toArray⟩ : ByteArray).size := by rw [ba_size]; exact List.length_pos_iff.2 hl
        rw [if_pos (by omega)]
        by_cases h42 : bt (⟨(strV a0 a1).1.toArray⟩ : ByteArray) 0 = 42
        · rw [if_pos h42]
          rfl
        · rw [if_neg h42]
          have hb : bt (⟨(strV a0 a1).1.toArray⟩ : ByteArray) 0 = (((strV a0 a1).1[0]'(List.length_pos_iff.2 hl)).toNat : Int) := by
            have := bt_get (⟨(strV a0 a1).1.toArray⟩ : ByteArray) 0 hsz
            simpa using this
          have key : valL (strV a0 a1).1 = a0 ∧ (strV a0 a1).1.length ≤ 300 := by
            unfold strV at he hl hb h42 ⊢
            by_cases hc : (-1000000000000000 ≤ a0 ∧ a0 ≤ 1000000000000000) ∧ 1 ≤ a1 ∧ a1 ≤ 254
            · simp only [if_pos hc] at hb h42 hl ⊢
              have hd := decS_len hc.1
              by_cases h3 : ((decS a0).length : Int) > a1
              · simp only [if_pos h3] at hb h42
                exact absurd (hb.trans (by simp)) h42
              · simp only [if_neg h3]
                refine ⟨valL_dec hc.1 _, ?_⟩
                rw [List.length_append, List.length_replicate]
                omega
            · rw [if_neg hc] at he
              exact absurd he (by decide)
          rw [val_f _ (by rw [ba_size]; omega) (by decide), Option.bind_some, ba_mk, key.1, if_pos rfl]
          rfl
    · rw [if_neg he]
      rfl
end Go.Proofs.YtplbjaandkdhjaaDoor.LValNumbers
namespace Go.Proofs.YtplbjaandkdhjaaDoor.valNumbers
open Go.ChangeShapes Go.WideShapes Go.ChangeAt Go.RowKit
open Go.ChangeMaps (open_string shut_string)
set_option linter.unusedVariables false
theorem own : ownKnob Tryd.prog.godebug = none := by kernel_rfl
set_option maxRecDepth 100000 in
theorem lifted (os : Os) (started : os.Started) (H : Type) (enc : TypeId × Value → H) :
    ReturnsInHanded {} Tryd.checked os 13 .any (fun w args => (Rows.valNumbersSpec.pre enc Tryd.prog Tryd.f13 Rows.valNumbersRow.domain false w args ∧ laidMetH Tryd.prog Rows.valNumbersRow.laid w) ∧ sizedMet enc Tryd.prog Tryd.f13 (OpenSpec.ofChange Rows.valNumbersSpec) false w args)
      (Rows.valNumbersSpec.post enc Tryd.prog Tryd.f13 false true false false) := by
  refine returnsInHanded_of_change_and (C := Tryd.checked) (X := fun w _ => laidMetH Tryd.prog Rows.valNumbersRow.laid w) (fun _ _ _ hh h => h.of_heap hh) own started (by kernel_rfl) Tryd.func13
    (ChangeSpec.witness_shaped (enc := enc) (C := Tryd.checked) (os := os) (X := fun w _ => laidMetH Tryd.prog Rows.valNumbersRow.laid w) false (World.laidAll Tryd.prog os Rows.valNumbersRow.laid) #[.int .i64 0, .int .i64 0, .string ByteArray.empty] 8 (World.laidAll_os _ _ _)
      (World.shaped_of_ZipB (by kernel_rfl) (by kernel_rfl)) (by kernel_rfl) (by kernel_rfl) (by kernel_rfl)
      (by rw [MakeChecks.laidMetH_plain _ _ _ (by kernel_rfl)]; exact laidMet_laidAll _ (by kernel_rfl) (by kernel_rfl))) ?_
  intro W base args ds gs before hval0 hW hcnd hsz0 hL _
  have hsz : (DataW.weightsEach Tryd.prog (Tryd.f13.params.toList ++ Rows.valNumbersSpec.plain.varTypes Tryd.prog) (ds ++ gs)).all (· ≤ reachBytes) = true := hsz0
  have hval : ∀ (j : Nat) t v, Tryd.f13.params[j]? = some t → args[j]? = some v → Value.okWide Tryd.prog W .any base t v := hval0
  have hW' := hW
  obtain ⟨p, q, hA0, hV, rfl, hfz, hnd⟩ := hW
  have hA : DataW.TrodAll enc Tryd.prog W 0 (fun _ => true) true Tryd.f13.params.toList args.toList ds p := hA0
  rw [Tryd.params13] at hA hval hsz
  obtain ⟨v0, vs0, d0, ds0, p0, q0, hargs, rfl, rfl, h0, r0⟩ := trodAll_cons hA
  obtain ⟨v1, vs1, d1, ds1, p1, q1, rfl, rfl, rfl, h1, r1⟩ := trodAll_cons r0
  obtain ⟨v2, vs2, d2, ds2, p2, q2, rfl, rfl, rfl, h2, r2⟩ := trodAll_cons r1
  obtain ⟨rfl, rfl, rfl⟩ := trodAll_nil r2
  obtain rfl : args = #[v0, v1, v2] := by cases args; simp_all
  obtain ⟨rfl, rfl⟩ := trodVars_none hV
  obtain ⟨a0, rfl, rfl, rfl, w0⟩ := open_int Tryd.underlying3 (hval 0 3 v0 rfl rfl) h0
  obtain ⟨a1, rfl, rfl, rfl, w1⟩ := open_int Tryd.underlying3 (hval 1 3 v1 rfl rfl) h1
  obtain ⟨a2, rfl, rfl, rfl, y2⟩ := open_string Tryd.underlying9 (hval 2 9 v2 rfl rfl) h2
  have w2 : a2.size ≤ 140737488351232 := by
    have z := sized_string hsz (j := 2) (t := 9) rfl rfl
    rw [Array.length_toList] at z
    exact z
  clear hA0 hval0 hsz0 hsz
  obtain ⟨k, h⟩ := LValNumbers.law a0 a1 a2 (bounds_i64 w0) (bounds_i64 w1) w2
  refine (PC.cabinetrylaw01_ValNumbers.calls k a0 a1 a2 true W h ⟨rfl⟩).mono fun e W' ⟨he, bel⟩ => ?_
  subst he
  exact ⟨_, rfl, _, _, _, [], _, [], hW', trodAll_mk1 (shut_bool Tryd.underlying4 _), (trodAll_cons_mk (shut_int Tryd.underlying3 w0) (trodAll_cons_mk (shut_int Tryd.underlying3 w1) (trodAll_cons_mk (shut_string Tryd.underlying9 y2) trodAll_mk0))), rfl, bel.frame _, fun h => by cases h⟩
theorem valNumbers_holds : Rows.ValNumbersSaid :=
  OpenClaim.holds_of_wide 13 Tryd.f13 rfl rfl rfl rfl rfl rfl rfl ⟨rfl, rfl, rfl, rfl, rfl⟩ rfl rfl rfl rfl rfl (by kernel_rfl) Tryd.func13 (by kernel_rfl)
    (of_decide_eq_true (by kernel_rfl)) (by unfold Func.isWrapper; first | (rw [if_pos (by decide +kernel)]; kernel_rfl) | (rw [if_neg (by decide +kernel)]; exact ⟨rfl, rfl⟩))
    (fun os started H enc _ => lifted os started H enc)
end Go.Proofs.YtplbjaandkdhjaaDoor.valNumbers
namespace Go.Proofs.YtplbjaandkdhjaaDoor
theorem valNumbers_card : Rows.ValNumbersCardSaid :=
  Claim7.holds_tied_plain_at .later [] [.data, .pinned] true (true, "b0e2575192d11b15c47babb91c45279908020743339f46d5cad88154cf757604") false
    valNumbers.valNumbers_holds (fun _ h => by cases h) (by kernel_rfl) (fun _ h => by cases h) valNumbers_row_tie rfl ⟨rfl, rfl⟩ (by kernel_rfl) rfl
    (fun f fn hf hfn => by
      obtain rfl : f = 13 := Option.some.inj ((show Tryd.prog.funcNamed "cabinetry/cabinetrylaw01.ValNumbers" = some 13 by kernel_rfl).symm.trans hf) |>.symm
      obtain rfl : fn = Tryd.f13 := (Option.some.inj (Tryd.func13.symm.trans hfn)).symm
      exact ⟨by kernel_rfl, fun j t ht => by
        rw [Tryd.params13] at ht
        have hm : t ∈ [3, 3, 9] := by simpa using Array.mem_of_getElem? ht
        have hall : ([3, 3, 9].all fun u => !Tryd.prog.wantsStandIn u) = true := by kernel_rfl
        exact (show Tryd.prog.wantsStandIn t = false by simpa using List.all_eq_true.1 hall t hm)⟩)
    (by kernel_rfl)
#print axioms valNumbers_card
end Go.Proofs.YtplbjaandkdhjaaDoor
