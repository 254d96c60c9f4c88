-- Written by a program of this session (wip/merge.py): the texts of this claim, joined.
import Derived.Test.YtplbjaandkdhjaaDoorMValNumbers0
import Derived.Test.YtplbjaandkdhjaaDoorMValNumbers1
import Derived.Test.YtplbjaandkdhjaaDoorMValNumbers2
import Derived.Test.YtplbjaandkdhjaaDoorMValNumbers7
import Derived.Test.YtplbjaandkdhjaaDoorMValNumbers10
import Derived.Test.YtplbjaandkdhjaaDoorMValNumbers12
import Derived.Test.YtplbjaandkdhjaaDoorMValNumbers13
namespace Go.Proofs.YtplbjaandkdhjaaDoor.PA
end Go.Proofs.YtplbjaandkdhjaaDoor.PA
namespace Go.Proofs.YtplbjaandkdhjaaDoor.PB
end Go.Proofs.YtplbjaandkdhjaaDoor.PB
namespace Go.Proofs.YtplbjaandkdhjaaDoor.PC
end Go.Proofs.YtplbjaandkdhjaaDoor.PC
namespace Go.Proofs.YtplbjaandkdhjaaDoor.H1
end Go.Proofs.YtplbjaandkdhjaaDoor.H1
namespace Go.Proofs.YtplbjaandkdhjaaDoor.L1
end Go.Proofs.YtplbjaandkdhjaaDoor.L1
namespace Go.Proofs.YtplbjaandkdhjaaDoor.PB
open Go.RowKit Go.Proofs.YtplbjaandkdhjaaDoorW.PrintWords Go.Proofs.YtplbjaandkdhjaaDoorW.PrintLast Go.Proofs.YtplbjaandkdhjaaDoorW.PrintMore Go.Proofs.YtplbjaandkdhjaaDoor.PA Go.Proofs.YtplbjaandkdhjaaDoor.H1
attribute [local go_sem] max2_int min2_int max_two min_two max_three min_three max_four min_four   -- for this text's walks alone
set_option linter.unusedVariables false
set_option linter.unusedSimpArgs false
mutual
def val_Val.j0 : Nat → ByteArray → Int → Bool → Option (Int)
 | 0, _, _, _ => none
 | k + 1, x0, x3, x19 => if x19 = true then (if 0 < (x0.size : Int) then (if (bt x0 0) = 45 then (if 1 ≤ (x0.size : Int) then (val_Val.j1 k (x0.extract 1 x0.size) (-1)) else (none)) else (if 1 ≤ (x0.size : Int) then (val_Val.j1 k (x0.extract 1 x0.size) x3) else (none))) else (none)) else (val_Val.j1 k x0 x3)
def val_Val.j1 : Nat → ByteArray → Int → Option (Int)
 | 0, _, _ => none
 | k + 1, x0, x3 => val_Val.l0 k x0 x3 0 (x0.size : Int) 0
def val_Val.l0 : Nat → ByteArray → Int → Int → Int → Int → Option (Int)
 | 0, _, _, _, _, _ => none
 | k + 1, x0, x3, x4, x26, x27 => if x27 < x26 then (if 0 ≤ x27 then (if x27 < (x0.size : Int) then (if (bt x0 x27) < 48 then (some (wrap64 (x3 * x4))) else (if (bt x0 x27) > 57 then (some (wrap64 (x3 * x4))) else (val_Val.l0 k x0 x3 (mn (wrap64 ((wrap64 (x4 * 10)) + (((bt x0 x27) - 48) % 256))) 1000000000000000) x26 (wrap64 (x27 + 1))))) else (none)) else (none)) else (some (wrap64 (x3 * x4)))
end
def val_Val.f (k : Nat) (a0 : ByteArray) : Option (Int) := (strings_TrimLeft.f a0 (⟨#[32]⟩ : ByteArray)).bind fun t228 => (if t228.toList = ([] : List UInt8) then (val_Val.j0 k t228 1 false) else (if 0 < (t228.size : Int) then (if (bt t228 0) = 45 then (val_Val.j0 k t228 1 true) else (val_Val.j0 k t228 1 ((bt t228 0) == 43))) else (none)))
set_option maxHeartbeats 8000000 in
set_option maxRecDepth 100000 in
theorem val_Val.calls (k : Nat) (a0 : ByteArray) (r : Int) (w : World) (h : val_Val.f k a0 = some r) :
  Calls Tryd.prog 50 #[.string a0] w fun e w' => e = .returned (.int .i64 r) ∧ Below w.heap.size w w' := by
 have HB := Aside0.mk (Below.refl w.heap.size w)
 have H : ((strings_TrimLeft.f a0 (⟨#[32]⟩ : ByteArray)).bind fun t228 => (if t228.toList = ([] : List UInt8) then (val_Val.j0 k t228 1 false) else (if 0 < (t228.size : Int) then (if (bt t228 0) = 45 then (val_Val.j0 k t228 1 true) else (val_Val.j0 k t228 1 ((bt t228 0) == 43))) else (none)))) = some r := h
 clear h
 replace H := Option.bind_eq_some_iff.mp H
 obtain ⟨t228, A20, H⟩ := H
 replace H : (if t228.toList = ([] : List UInt8) then (val_Val.j0 k t228 1 false) else (if 0 < (t228.size : Int) then (if (bt t228 0) = 45 then (val_Val.j0 k t228 1 true) else (val_Val.j0 k t228 1 ((bt t228 0) == 43))) else (none))) = some r := H
 have A2 := Aside0.mk A20
 clear A20
 have HC3 := Aside0.mk H
 clear H
 go_enter Tryd.func50, Tryd.ntmps50
 go_upto_region 3 with (first | ((with_reducible refine gate_callee (f := 98) rfl ?_); refine goesL_ (some 7) rfl rfl Tryd.func98 (by kernel_rfl) rfl #[.string a0, .string (⟨#[32]⟩ : ByteArray)] rfl (by (try simp only [List.map_toArray, List.map_cons, List.map_nil]); first | done | rfl | (simp only [List.length_drop, List.length_take]; rfl)) ?_; (with_reducible refine (strings_TrimLeft.calls a0 (⟨#[32]⟩ : ByteArray) t228 _ A2.out).mono ?_); rintro e w4 ⟨rfl, hb⟩; refine ⟨_, rfl, ?_⟩; have n0_ := Aside0.mk (below_step (by repeat (first | (with_reducible first | exact HB.out | apply below_alloc | apply pw_below_drewN | apply below_drew1) | exact HB.out)) hb); clear HB; have HB := n0_; clear n0_; (try clear hb); (try clear hb2); (try clear hk); (try clear hi)))
 (try simp only [Act.put, List.setIfInBounds_toArray, List.set_cons_zero, List.set_cons_succ])
 go_cut [19] (fun v19 wc => ∃ (kq : Nat) (x19_2 : Bool), v19 = .bool x19_2 ∧ Aside0 (val_Val.j0 kq t228 1 x19_2 = some r) ∧ Aside0 (kq ≤ k) ∧ Aside0 (Below w.heap.size w wc))
 case first =>
  have H := HC3.out
  clear HC3
  by_cases c5 : t228.toList = ([] : List UInt8)
  ·rw [if_pos c5] at H
   have c5b0 : (t228.toList == ([] : List UInt8)) = true := beq_iff_eq.mpr c5
   have c5b1 : (t228.toList != ([] : List UInt8)) = false := bne_eq_false_iff_eq.mpr c5
   clear c5
   (first | rw [c5b0] | (simp only [i64_w, i32_w]; rw [c5b0]) | skip)
   have H' := Aside0.mk H
   clear H
   go_wp2
   go_meet
   case rel => exact ⟨_, (false), (by first | rfl | (simp; done) | (simp [*]; done)), H', ⟨by first | omega | exact Nat.le_refl _⟩, ⟨by repeat (first | (with_reducible first | exact HB.out | apply below_alloc | apply pw_below_drewN | apply below_drew1) | exact HB.out)⟩⟩
  ·rw [if_neg c5] at H
   have c5b0 : (t228.toList == ([] : List UInt8)) = false := beq_eq_false_iff_ne.mpr c5
   have c5b1 : (t228.toList != ([] : List UInt8)) = true := bne_iff_ne.mpr c5
   (first | rw [c5b0] | (simp only [i64_w, i32_w]; rw [c5b0]) | skip)
   by_cases c6 : 0 < (t228.size : Int)
   ·rw [if_pos c6] at H
    have c6b0 : decide (0 < (t228.size : Int)) = true := decide_eq_true c6
    have c6b1 : decide (0 < t228.size) = true := decide_eq_true (by omega)
    clear c6
    by_cases c8 : (bt t228 0) = 45
    ·rw [if_pos c8] at H
     have c8b0 : ((bt t228 0) == 45) = true := beq_iff_eq.mpr c8
     have c8b1 : ((bt t228 0) != 45) = false := bne_eq_false_iff_eq.mpr c8
     clear c8
     have H' := Aside0.mk H
     clear H
     have p7 : 0 ≤ (0 : Int) := (by omega)
     have q7 : 0 < t228.size := (by have : (0 : Int) < (t228.size : Int) := of_decide_eq_true (by first | (with_reducible assumption) | assumption); omega)
     have hx7 : ∀ h : 0 < t228.size, ((t228[0]'h).toNat : Int) = bt t228 0 := bt_at t228 0
     clear p7
     have qi7 : (0 < (t228.size : Int)) = True := eq_true (of_decide_eq_true (by first | (with_reducible assumption) | assumption))
     replace q7 := eq_true q7
     go_wp2
     go_meet
     case rel => exact ⟨_, (true), (by first | rfl | (simp; done) | (simp [*]; done)), H', ⟨by first | omega | exact Nat.le_refl _⟩, ⟨by repeat (first | (with_reducible first | exact HB.out | apply below_alloc | apply pw_below_drewN | apply below_drew1) | exact HB.out)⟩⟩
    ·rw [if_neg c8] at H
     have c8b0 : ((bt t228 0) == 45) = false := beq_eq_false_iff_ne.mpr c8
     have c8b1 : ((bt t228 0) != 45) = true := bne_iff_ne.mpr c8
     have H' := Aside0.mk H
     clear H
     have p7 : 0 ≤ (0 : Int) := (by omega)
     have q7 : 0 < t228.size := (by have : (0 : Int) < (t228.size : Int) := of_decide_eq_true (by first | (with_reducible assumption) | assumption); omega)
     have hx7 : ∀ h : 0 < t228.size, ((t228[0]'h).toNat : Int) = bt t228 0 := bt_at t228 0
     clear p7
     have qi7 : (0 < (t228.size : Int)) = True := eq_true (of_decide_eq_true (by first | (with_reducible assumption) | assumption))
     replace q7 := eq_true q7
     have p9 : 0 ≤ (0 : Int) := (by omega)
     have q9 : 0 < t228.size := (by have : (0 : Int) < (t228.size : Int) := of_decide_eq_true (by first | (with_reducible assumption) | assumption); omega)
     have hx9 : ∀ h : 0 < t228.size, ((t228[0]'h).toNat : Int) = bt t228 0 := bt_at t228 0
     clear p9
     have qi9 : (0 < (t228.size : Int)) = True := eq_true (of_decide_eq_true (by first | (with_reducible assumption) | assumption))
     replace q9 := eq_true q9
     go_wp2
     go_meet
     case rel => exact ⟨_, (((bt t228 0) == 43)), (by first | rfl | (simp; done) | (simp [*]; done)), H', ⟨by first | omega | exact Nat.le_refl _⟩, ⟨by repeat (first | (with_reducible first | exact HB.out | apply below_alloc | apply pw_below_drewN | apply below_drew1) | exact HB.out)⟩⟩
   ·rw [if_neg c6] at H
    exact absurd H (by simp)
 case rest =>
  clear HC3
  try clear p2; try clear c5; try clear c5b0; try clear c5b1; try clear c6; try clear c6b0; try clear c6b1; try clear p7; try clear q7; try clear hx7; try clear qi7; try clear c8; try clear c8b0; try clear c8b1; try clear c9; try clear p9; try clear q9; try clear hx9; try clear qi9; try clear p7; try clear p9; try clear q7; try clear q9
  obtain ⟨kq, x19_2, rfl, HA, HJ2, HB⟩ := hcut
  cases kq with
  | zero => exact absurd HA.out (by simp [val_Val.j0])
  | succ kj2 =>
   have H := HA.out
   clear HA
   simp only [val_Val.j0] at H
   have HC10 := Aside0.mk H
   clear H
   go_upto_if 19 with (fail)
   go_cut [0, 3] (fun v0 v3 wc => ∃ (kq : Nat) (x0_9 : ByteArray) (x3_9 : Int), v0 = .string x0_9 ∧ v3 = .int .i64 x3_9 ∧ Aside0 (val_Val.j1 kq x0_9 x3_9 = some r) ∧ Aside0 (kq ≤ kj2) ∧ Aside0 (Below w.heap.size w wc))
   case first =>
    have H := HC10.out
    clear HC10
    by_cases c11 : x19_2 = true
    ·subst c11
     have H1 : (if 0 < (t228.size : Int) then (if (bt t228 0) = 45 then (if 1 ≤ (t228.size : Int) then (val_Val.j1 kj2 (t228.extract 1 t228.size) (-1)) else (none)) else (if 1 ≤ (t228.size : Int) then (val_Val.j1 kj2 (t228.extract 1 t228.size) 1) else (none))) else (none)) = some r := by rw [if_pos rfl] at H; exact H
     clear H
     have H := H1
     clear H1
     by_cases c12 : 0 < (t228.size : Int)
     ·rw [if_pos c12] at H
      have c12b0 : decide (0 < (t228.size : Int)) = true := decide_eq_true c12
      have c12b1 : decide (0 < t228.size) = true := decide_eq_true (by omega)
      clear c12
      (first | rw [c12b0] | (simp only [i64_w, i32_w]; rw [c12b0]) | skip)
      by_cases c14 : (bt t228 0) = 45
      ·rw [if_pos c14] at H
       have c14b0 : ((bt t228 0) == 45) = true := beq_iff_eq.mpr c14
       have c14b1 : ((bt t228 0) != 45) = false := bne_eq_false_iff_eq.mpr c14
       clear c14
       by_cases c15 : 1 ≤ (t228.size : Int)
       ·rw [if_pos c15] at H
        have c15b0 := eq_true c15
        have c15b1 : decide (1 ≤ (t228.size : Int)) = true := decide_eq_true c15
        clear c15
        have H' := Aside0.mk H
        clear H
        have p13 : 0 ≤ (0 : Int) := (by omega)
        have q13 : 0 < t228.size := (by have : (0 : Int) < (t228.size : Int) := of_decide_eq_true (by first | (with_reducible assumption) | assumption); omega)
        have hx13 : ∀ h : 0 < t228.size, ((t228[0]'h).toNat : Int) = bt t228 0 := bt_at t228 0
        clear p13
        have qi13 : (0 < (t228.size : Int)) = True := eq_true (of_decide_eq_true (by first | (with_reducible assumption) | assumption))
        replace q13 := eq_true q13
        go_wp2
        go_meet
        case rel => exact ⟨_, (t228.extract 1 t228.size), ((-1)), (by first | rfl | (simp; done) | (simp [*]; done)), (by first | rfl | (simp; done) | (simp [*]; done)), H', ⟨by have := HJ2.out; first | omega | exact Nat.le_refl _⟩, ⟨by repeat (first | (with_reducible first | exact HB.out | apply below_alloc | apply pw_below_drewN | apply below_drew1) | exact HB.out)⟩⟩
       ·rw [if_neg c15] at H
        exact absurd H (by simp)
      ·rw [if_neg c14] at H
       have c14b0 : ((bt t228 0) == 45) = false := beq_eq_false_iff_ne.mpr c14
       have c14b1 : ((bt t228 0) != 45) = true := bne_iff_ne.mpr c14
       by_cases c16 : 1 ≤ (t228.size : Int)
       ·rw [if_pos c16] at H
        have c16b0 := eq_true c16
        have c16b1 : decide (1 ≤ (t228.size : Int)) = true := decide_eq_true c16
        clear c16
        have H' := Aside0.mk H
        clear H
        have p13 : 0 ≤ (0 : Int) := (by omega)
        have q13 : 0 < t228.size := (by have : (0 : Int) < (t228.size : Int) := of_decide_eq_true (by first | (with_reducible assumption) | assumption); omega)
        have hx13 : ∀ h : 0 < t228.size, ((t228[0]'h).toNat : Int) = bt t228 0 := bt_at t228 0
        clear p13
        have qi13 : (0 < (t228.size : Int)) = True := eq_true (of_decide_eq_true (by first | (with_reducible assumption) | assumption))
        replace q13 := eq_true q13
        go_wp2
        go_meet
        case rel => exact ⟨_, (t228.extract 1 t228.size), (1), (by first | rfl | (simp; done) | (simp [*]; done)), (by first | rfl | (simp; done) | (simp [*]; done)), H', ⟨by have := HJ2.out; first | omega | exact Nat.le_refl _⟩, ⟨by repeat (first | (with_reducible first | exact HB.out | apply below_alloc | apply pw_below_drewN | apply below_drew1) | exact HB.out)⟩⟩
       ·rw [if_neg c16] at H
        exact absurd H (by simp)
     ·rw [if_neg c12] at H
      exact absurd H (by simp)
    ·replace c11 := Bool.eq_false_iff.mpr c11
     subst c11
     have H1 : (val_Val.j1 kj2 t228 1) = some r := by rw [if_neg (show ¬ (false = true) by decide)] at H; exact H
     clear H
     have H := H1
     clear H1
     have H' := Aside0.mk H
     clear H
     go_wp2
     go_meet
     case rel => exact ⟨_, (t228), (1), (by first | rfl | (simp; done) | (simp [*]; done)), (by first | rfl | (simp; done) | (simp [*]; done)), H', ⟨by have := HJ2.out; first | omega | exact Nat.le_refl _⟩, ⟨by repeat (first | (with_reducible first | exact HB.out | apply below_alloc | apply pw_below_drewN | apply below_drew1) | exact HB.out)⟩⟩
   case rest =>
    clear HC10
    try clear c1; try clear p1; try clear q1; try clear hx1; try clear qi1; try clear p2; try clear c5; try clear c5b0; try clear c5b1; try clear c6; try clear c6b0; try clear c6b1; try clear p7; try clear q7; try clear hx7; try clear qi7; try clear c8; try clear c8b0; try clear c8b1; try clear c9; try clear p9; try clear q9; try clear hx9; try clear qi9; try clear c11; try clear c12; try clear c12b0; try clear c12b1; try clear p13; try clear q13; try clear hx13; try clear qi13; try clear c14; try clear c14b0; try clear c14b1; try clear c15; try clear c15b0; try clear c15b1; try clear c16; try clear c16b0; try clear c16b1; try clear p13; try clear p2; try clear p7; try clear p9; try clear q13; try clear q7; try clear q9
    obtain ⟨kq, x0_9, x3_9, rfl, rfl, HA, HJ9, HB⟩ := hcut
    cases kq with
    | zero => exact absurd HA.out (by simp [val_Val.j1])
    | succ kj9 =>
     have H := HA.out
     clear HA
     simp only [val_Val.j1] at H
     have H' := Aside0.mk H
     clear H
     go_wp2
     go_loopg [4, 27] kj9 (fun kq v4 v27 w' => ∃ (x4_3 : Int) (x27_3 : Int), v4 = .int .i64 x4_3 ∧ v27 = .int .i64 x27_3 ∧ Aside0 (val_Val.l0 kq x0_9 x3_9 x4_3 (x0_9.size : Int) x27_3 = some r) ∧ Aside0 (kq ≤ kj9) ∧ Aside0 (Below w.heap.size w w'))
     case atStart => exact ⟨(0), (0), (by first | rfl | (simp; done) | (simp [*]; done)), (by first | rfl | (simp; done) | (simp [*]; done)), H', ⟨Nat.le_refl _⟩, ⟨by repeat (first | (with_reducible first | exact HB.out | apply below_alloc | apply pw_below_drewN | apply below_drew1) | exact HB.out)⟩⟩
     case round =>
      clear H'
      try clear c1; try clear p1; try clear q1; try clear hx1; try clear qi1; try clear p2; try clear c5; try clear c5b0; try clear c5b1; try clear c6; try clear c6b0; try clear c6b1; try clear p7; try clear q7; try clear hx7; try clear qi7; try clear c8; try clear c8b0; try clear c8b1; try clear c9; try clear p9; try clear q9; try clear hx9; try clear qi9; try clear c11; try clear c12; try clear c12b0; try clear c12b1; try clear p13; try clear q13; try clear hx13; try clear qi13; try clear c14; try clear c14b0; try clear c14b1; try clear c15; try clear c15b0; try clear c15b1; try clear c16; try clear c16b0; try clear c16b1; try clear p1; try clear p13; try clear p2; try clear p7; try clear p9; try clear q1; try clear q13; try clear q7; try clear q9
      obtain ⟨x4_3, x27_3, rfl, rfl, HA, HK3, HB⟩ := hrel
      cases gk with
      | zero => exact absurd HA.out (by simp [val_Val.l0])
      | succ k3 =>
       have H := HA.out
       clear HA
       simp only [val_Val.l0] at H
       by_cases c17 : x27_3 < (x0_9.size : Int)
       ·rw [if_pos c17] at H
        have c17b0 : decide (x27_3 < (x0_9.size : Int)) = true := decide_eq_true c17
        clear c17
        by_cases c18 : 0 ≤ x27_3
        ·rw [if_pos c18] at H
         have c18b0 : decide (0 ≤ x27_3) = true := decide_eq_true c18
         clear c18
         by_cases c19 : x27_3 < (x0_9.size : Int)
         ·rw [if_pos c19] at H
          have c19b0 : decide (x27_3 < (x0_9.size : Int)) = true := decide_eq_true c19
          clear c19
          by_cases c21 : (bt x0_9 x27_3) < 48
          ·rw [if_pos c21] at H
           have c21b0 : decide ((bt x0_9 x27_3) < 48) = true := decide_eq_true c21
           clear c21
           obtain rfl := Option.some.inj H
           simp only [Option.some.injEq, Prod.mk.injEq] at H
           obtain ⟨rfl⟩ := H
           have p20 : 0 ≤ (x27_3 : Int) := of_decide_eq_true (by first | (with_reducible assumption) | assumption)
           have q20 : x27_3 < (x0_9.size : Int) := of_decide_eq_true (by first | (with_reducible assumption) | assumption)
           have hx20 := bt_at x0_9 x27_3
           replace p20 := eq_true p20
           replace q20 := eq_true q20
           go_wp2
           go_ret
           exact ⟨by first | rfl | (simp [errW_none, errW_some] <;> rfl) | (simp [*, errW_none, errW_some] <;> rfl), by repeat (first | (with_reducible first | exact HB.out | apply below_alloc | apply pw_below_drewN | apply below_drew1) | exact HB.out)⟩
          ·rw [if_neg c21] at H
           have c21b0 : decide ((bt x0_9 x27_3) < 48) = false := decide_eq_false c21
           clear c21
           by_cases c23 : (bt x0_9 x27_3) > 57
           ·rw [if_pos c23] at H
            have c23b0 : decide (57 < (bt x0_9 x27_3)) = true := decide_eq_true c23
            clear c23
            obtain rfl := Option.some.inj H
            simp only [Option.some.injEq, Prod.mk.injEq] at H
            obtain ⟨rfl⟩ := H
            have p20 : 0 ≤ (x27_3 : Int) := of_decide_eq_true (by first | (with_reducible assumption) | assumption)
            have q20 : x27_3 < (x0_9.size : Int) := of_decide_eq_true (by first | (with_reducible assumption) | assumption)
            have hx20 := bt_at x0_9 x27_3
            replace p20 := eq_true p20
            replace q20 := eq_true q20
            have p22 : 0 ≤ (x27_3 : Int) := of_decide_eq_true (by first | (with_reducible assumption) | assumption)
            have q22 : x27_3 < (x0_9.size : Int) := of_decide_eq_true (by first | (with_reducible assumption) | assumption)
            have hx22 := bt_at x0_9 x27_3
            replace p22 := eq_true p22
            replace q22 := eq_true q22
            go_wp2
            go_ret
            exact ⟨by first | rfl | (simp [errW_none, errW_some] <;> rfl) | (simp [*, errW_none, errW_some] <;> rfl), by repeat (first | (with_reducible first | exact HB.out | apply below_alloc | apply pw_below_drewN | apply below_drew1) | exact HB.out)⟩
           ·rw [if_neg c23] at H
            have c23b0 : decide (57 < (bt x0_9 x27_3)) = false := decide_eq_false c23
            clear c23
            obtain ⟨ji25, hji25⟩ : ∃ j_ : Int, (mn (wrap64 ((wrap64 (x4_3 * 10)) + (((bt x0_9 x27_3) - 48) % 256))) 1000000000000000) = j_ := ⟨_, rfl⟩
            replace H : (val_Val.l0 k3 x0_9 x3_9 ji25 (x0_9.size : Int) (wrap64 (x27_3 + 1))) = some r := by first | (rw [hji25] at H; exact H) | (simp only [hji25] at H ⊢; exact H)
            have hji25_ : (if 1000000000000000 < (wrap64 ((wrap64 (x4_3 * 10)) + (((bt x0_9 x27_3) - 48) % 256))) then 1000000000000000 else (wrap64 ((wrap64 (x4_3 * 10)) + (((bt x0_9 x27_3) - 48) % 256)))) = ji25 := hji25
            have H' := Aside0.mk H
            clear H
            have p20 : 0 ≤ (x27_3 : Int) := of_decide_eq_true (by first | (with_reducible assumption) | assumption)
            have q20 : x27_3 < (x0_9.size : Int) := of_decide_eq_true (by first | (with_reducible assumption) | assumption)
            have hx20 := bt_at x0_9 x27_3
            replace p20 := eq_true p20
            replace q20 := eq_true q20
            have p22 : 0 ≤ (x27_3 : Int) := of_decide_eq_true (by first | (with_reducible assumption) | assumption)
            have q22 : x27_3 < (x0_9.size : Int) := of_decide_eq_true (by first | (with_reducible assumption) | assumption)
            have hx22 := bt_at x0_9 x27_3
            replace p22 := eq_true p22
            replace q22 := eq_true q22
            have p24 : 0 ≤ (x27_3 : Int) := of_decide_eq_true (by first | (with_reducible assumption) | assumption)
            have q24 : x27_3 < (x0_9.size : Int) := of_decide_eq_true (by first | (with_reducible assumption) | assumption)
            have hx24 := bt_at x0_9 x27_3
            replace p24 := eq_true p24
            replace q24 := eq_true q24
            go_wp2
            go_roundg k3
            case measure => have := HJ2.out; have := HJ9.out; have := HK3.out; omega
            case rel => exact ⟨(ji25), (wrap64 (x27_3 + 1)), (by first | rfl | (simp; done) | (simp only [← hji25] <;> (first | rfl | simp)) | (simp [*]; done)), (by first | rfl | (simp; done) | (simp [*]; done)), H', ⟨by have := HJ2.out; have := HJ9.out; have := HK3.out; omega⟩, ⟨by repeat (first | (with_reducible first | exact HB.out | apply below_alloc | apply pw_below_drewN | apply below_drew1) | exact HB.out)⟩⟩
         ·rw [if_neg c19] at H
          exact absurd H (by simp)
        ·rw [if_neg c18] at H
         exact absurd H (by simp)
       ·rw [if_neg c17] at H
        have c17b0 : decide (x27_3 < (x0_9.size : Int)) = false := decide_eq_false c17
        clear c17
        obtain rfl := Option.some.inj H
        simp only [Option.some.injEq, Prod.mk.injEq] at H
        obtain ⟨rfl⟩ := H
        go_wp2
        go_ret
        exact ⟨by first | rfl | (simp [errW_none, errW_some] <;> rfl) | (simp [*, errW_none, errW_some] <;> rfl), by repeat (first | (with_reducible first | exact HB.out | apply below_alloc | apply pw_below_drewN | apply below_drew1) | exact HB.out)⟩
end Go.Proofs.YtplbjaandkdhjaaDoor.PB
namespace Go.Proofs.YtplbjaandkdhjaaDoor.L1
open Go.RowKit Go.Proofs.YtplbjaandkdhjaaDoorW.PrintWords Go.Proofs.YtplbjaandkdhjaaDoor.PA Go.Proofs.YtplbjaandkdhjaaDoor.PB Go.Proofs.YtplbjaandkdhjaaDoor.H1
theorem times_l (c : UInt8) (n : Nat) (hn : n ≤ 100000) (d : Nat) : ∀ (i k : Nat), i + d = n → d < k → cabinetryref01_Times.l0 k (⟨#[c]⟩ : ByteArray) (n : Int) ⟨(List.replicate i c).toArray⟩ (i : Int) = some ⟨(List.replicate n c).toArray⟩ := by
  induction d with
  | zero =>
    intro i k hi hk
    obtain ⟨k, rfl⟩ : ∃ q, k = q + 1 := ⟨k - 1, by omega⟩
    obtain rfl : i = n := by omega
    simp only [cabinetryref01_Times.l0]
    rw [if_neg (by omega)]
  | succ d ih =>
    intro i k hi hk
    obtain ⟨k, rfl⟩ : ∃ q, k = q + 1 := ⟨k - 1, by omega⟩
    simp only [cabinetryref01_Times.l0]
    have e : (⟨#[c]⟩ : ByteArray).size = 1 := rfl
    rw [if_pos (by omega), if_pos (by rw [ba_size, List.length_replicate, e]; omega), w64 (by omega) (by omega), show (⟨#[c]⟩ : ByteArray) = ⟨[c].toArray⟩ from rfl, ba_app, ← List.replicate_succ']
    exact ih (i + 1) k (by omega) (by omega)
theorem times_f (c : UInt8) (n : Int) (h0 : 0 ≤ n) (h1 : n ≤ 1000) {k : Nat} (hk : 2000 ≤ k) : cabinetryref01_Times.f k (⟨#[c]⟩ : ByteArray) n = some ⟨(List.replicate n.toNat c).toArray⟩ := by
  have := times_l c n.toNat (by omega) n.toNat 0 k (by omega) (by omega)
  rw [show ((n.toNat : Nat) : Int) = n by omega] at this
  exact this
def strV (n w : Int) : List UInt8 × Int :=
  if (-1000000000000000 ≤ n ∧ n ≤ 1000000000000000) ∧ 1 ≤ w ∧ w ≤ 254 then
    (if ((decS n).length : Int) > w then List.replicate w.toNat 42 else List.replicate (w - ((decS n).length : Int)).toNat 32 ++ decS n, 0)
  else ([], 1)
theorem str_f (n w : Int) {k : Nat} (hk : 3000 ≤ k) : val_Str.f k n w = some (⟨(strV n w).1.toArray⟩, (strV n w).2) := by
  obtain ⟨k, rfl⟩ : ∃ q, k = q + 1 := ⟨k - 1, by omega⟩
  have j1 : val_Str.j0 (k + 1) n w true = some ((⟨#[]⟩ : ByteArray), 1) := by simp [val_Str.j0]
  unfold val_Str.f strV
  rw [isNum_f, Option.bind_some]
  by_cases hn : -1000000000000000 ≤ n ∧ n ≤ 1000000000000000
  · rw [decide_eq_true hn, if_pos rfl]
    by_cases h1 : w < 1
    · rw [if_pos h1, j1, if_neg (by omega)]
    rw [if_neg h1]
    by_cases h2 : w > 254
    · rw [decide_eq_true h2, j1, if_neg (by omega)]
    rw [decide_eq_false h2, if_pos ⟨hn, by omega, by omega⟩]
    simp only [val_Str.j0]
    have hl := decS_len hn
    rw [if_neg (by decide), decimal_ge hn (by omega), Option.bind_some, ba_size]
    by_cases h3 : ((decS n).length : Int) > w
    · rw [if_pos h3, if_pos h3, repeat_f 42 w (by omega) (by omega), Option.bind_some]
    · rw [if_neg h3, if_neg h3, w64 (by omega) (by omega), repeat_f 32 _ (by omega) (by omega), Option.bind_some, if_pos (by rw [ba_size, List.length_replicate]; omega), ba_app]
  · rw [decide_eq_false hn, if_neg (by decide), j1, if_neg (fun h => hn h.1)]
theorem refStr_f (n w : Int) {k : Nat} (hk : 3000 ≤ k) : cabinetryref01_Str.f k n w = some (⟨(strV n w).1.toArray⟩, (strV n w).2) := by
  obtain ⟨k, rfl⟩ : ∃ q, k = q + 1 := ⟨k - 1, by omega⟩
  have j1 : cabinetryref01_Str.j0 (k + 1) n w true = some ((⟨#[]⟩ : ByteArray), 1) := by simp [cabinetryref01_Str.j0]
  unfold cabinetryref01_Str.f strV
  rw [inNum_f, Option.bind_some]
  by_cases hn : -1000000000000000 ≤ n ∧ n ≤ 1000000000000000
  · rw [decide_eq_true hn, if_pos rfl]
    by_cases h1 : w < 1
    · rw [if_pos h1, j1, if_neg (by omega)]
    rw [if_neg h1]
    by_cases h2 : w > 254
    · rw [decide_eq_true h2, j1, if_neg (by omega)]
    rw [decide_eq_false h2, if_pos ⟨hn, by omega, by omega⟩]
    simp only [cabinetryref01_Str.j0]
    have hl := decS_len hn
    rw [if_neg (by decide), written_ge hn (by omega), Option.bind_some, ba_size]
    by_cases h3 : ((decS n).length : Int) > w
    · rw [if_pos h3, if_pos h3, times_f 42 w (by omega) (by omega) (by omega), Option.bind_some]
    · rw [if_neg h3, if_neg h3, w64 (by omega) (by omega), times_f 32 _ (by omega) (by omega) (by omega), Option.bind_some, if_pos (by rw [ba_size, List.length_replicate]; omega), ba_app]
  · rw [decide_eq_false hn, if_neg (by decide), j1, if_neg (fun h => hn h.1)]
def numL (a : Int) : List UInt8 → Int
  | [] => a
  | c :: l => if 48 ≤ c.toNat ∧ c.toNat ≤ 57 then numL (mn (10 * a + ((c.toNat : Int) - 48)) 1000000000000000) l else a
def signL : List UInt8 → Int
  | [] => 0
  | c :: l => if c = 45 then -numL 0 l else if c = 43 then numL 0 l else numL 0 (c :: l)
def valL (s : List UInt8) : Int := signL (Lib.trimLeftS s [32])
theorem mn_bd {a : Int} (h0 : 0 ≤ a) : 0 ≤ mn a 1000000000000000 ∧ mn a 1000000000000000 ≤ 1000000000000000 := by
  unfold mn; split <;> omega
theorem val_l (x0 : ByteArray) (x3 : Int) (hx3 : x3 = 1 ∨ x3 = -1) (hs : x0.size ≤ 140737488351232) (d : Nat) : ∀ (i k : Nat) (a : Int), i + d = x0.size → d < k → 0 ≤ a → a ≤ 1000000000000000 →
    val_Val.l0 k x0 x3 a (x0.size : Int) (i : Int) = some (x3 * numL a (x0.data.toList.drop i)) := by
  have fin : ∀ a : Int, 0 ≤ a → a ≤ 1000000000000000 → wrap64 (x3 * a) = x3 * a := fun a h0 h1 => by
    rcases hx3 with rfl | rfl
    · rw [w64 (by omega) (by omega)]
    · rw [w64 (by omega) (by omega)]
  induction d with
  | zero =>
    intro i k a hi hk h0 h1
    obtain ⟨k, rfl⟩ : ∃ q, k = q + 1 := ⟨k - 1, by omega⟩
    simp only [val_Val.l0]
    rw [if_neg (by omega), List.drop_eq_nil_of_le (by rw [ba_len]; omega), fin a h0 h1]
    rfl
  | succ d ih =>
    intro i k a hi hk h0 h1
    obtain ⟨k, rfl⟩ : ∃ q, k = q + 1 := ⟨k - 1, by omega⟩
    have hl : i < x0.data.toList.length := by rw [ba_len]; omega
    simp only [val_Val.l0]
    rw [if_pos (by omega), if_pos (by omega), if_pos (by omega), bt_get x0 i (by omega), List.drop_eq_getElem_cons hl]
    have b := (x0.data.toList[i]).toNat_lt
    unfold numL
    by_cases c1 : ((x0.data.toList[i]).toNat : Int) < 48
    · rw [if_pos c1, if_neg (by omega), fin a h0 h1]
    rw [if_neg c1]
    by_cases c2 : ((x0.data.toList[i]).toNat : Int) > 57
    · rw [if_pos c2, if_neg (by omega), fin a h0 h1]
    rw [if_neg c2, if_pos (by omega), w64 (x := a * 10) (by omega) (by omega), show (((x0.data.toList[i]).toNat : Int) - 48) % 256 = ((x0.data.toList[i]).toNat : Int) - 48 by omega, w64 (by omega) (by omega), w64 (by omega) (by omega), Int.mul_comm a 10]
    have := mn_bd (a := 10 * a + (((x0.data.toList[i]).toNat : Int) - 48)) (by omega)
    exact ih (i + 1) k _ (by omega) (by omega) this.1 this.2
theorem trimL_f (s : ByteArray) : strings_TrimLeft.f s (⟨#[32]⟩ : ByteArray) = some ⟨(Lib.trimLeftS s.data.toList [32]).toArray⟩ := by
  unfold strings_TrimLeft.f
  rw [if_pos ⟨by decide, by decide⟩]
theorem trimLeft_len (l : List UInt8) : (Lib.trimLeftS l [32]).length ≤ l.length := by
  unfold Lib.trimLeftS
  exact (List.dropWhile_sublist _).length_le
theorem val_f (s : ByteArray) (hs : s.size ≤ 20000) {k : Nat} (hk : 30000 ≤ k) : val_Val.f k s = some (valL s.data.toList) := by
  obtain ⟨k, rfl⟩ : ∃ q, k = q + 1 + 1 := ⟨k - 2, by omega⟩
  unfold val_Val.f valL
  rw [trimL_f, Option.bind_some]
  have hl := trimLeft_len s.data.toList
  rw [ba_len] at hl
  generalize Lib.trimLeftS s.data.toList [32] = t at *
  have run : ∀ (l : List UInt8) (x3 : Int), (x3 = 1 ∨ x3 = -1) → l.length ≤ 20000 → val_Val.j1 (k + 1) ⟨l.toArray⟩ x3 = some (x3 * numL 0 l) := fun l x3 hx hb => by
    simp only [val_Val.j1]
    have := val_l ⟨l.toArray⟩ x3 hx (by rw [ba_size]; omega) l.length 0 k 0 (by rw [ba_size]; omega) (by omega) (by omega) (by omega)
    simpa using this
  cases t with
  | nil =>
    show _ = some (0 : Int)
    rw [if_pos (by simp [ByteArray.toList_eq])]
    simp only [val_Val.j0]
    rw [if_neg (by decide), run [] 1 (.inl rfl) (by simp)]
    simp [numL]
  | cons c l =>
    show _ = some (if c = 45 then -numL 0 l else if c = 43 then numL 0 l else numL 0 (c :: l))
    have hne : ¬ ((⟨(c :: l).toArray⟩ : ByteArray).toList = ([] : List UInt8)) := by simp [ByteArray.toList_eq]
    have hb0 : bt (⟨(c :: l).toArray⟩ : ByteArray) 0 = (c.toNat : Int) := by
      have := bt_get (⟨(c :: l).toArray⟩ : ByteArray) 0 (by rw [ba_size]; simp)
      simpa using this
    have hsz : (⟨(c :: l).toArray⟩ : ByteArray).size = l.length + 1 := by rw [ba_size]; rfl
    have hd : (⟨(c :: l).toArray⟩ : ByteArray).extract 1 (⟨(c :: l).toArray⟩ : ByteArray).size = ⟨l.toArray⟩ := by rw [ba_drop]; simp
    rw [List.length_cons] at hl
    rw [if_neg hne, if_pos (by rw [hsz]; omega), hb0]
    have u45 : (c.toNat : Int) = 45 ↔ c = 45 := ⟨fun h => by apply UInt8.toNat_inj.1; simpa using (by omega : c.toNat = 45), fun h => by subst h; rfl⟩
    have u43 : (c.toNat : Int) = 43 ↔ c = 43 := ⟨fun h => by apply UInt8.toNat_inj.1; simpa using (by omega : c.toNat = 43), fun h => by subst h; rfl⟩
    by_cases h45 : c = 45
    · rw [if_pos (u45.2 h45)]
      simp only [val_Val.j0, if_true]
      rw [if_pos (by rw [hsz]; omega), hb0, if_pos (u45.2 h45), if_pos (by rw [hsz]; omega), hd, run l (-1) (.inr rfl) (by omega)]
      simp only [h45, if_true]
      rw [Int.neg_mul, Int.one_mul]
    · rw [if_neg (fun h => h45 (u45.1 h))]
      by_cases h43 : c = 43
      · rw [beq_iff_eq.mpr (u43.2 h43)]
        simp only [val_Val.j0, if_true]
        rw [if_pos (by rw [hsz]; omega), hb0, if_neg (fun h => h45 (u45.1 h)), if_pos (by rw [hsz]; omega), hd, run l 1 (.inl rfl) (by omega), if_neg h45, if_pos h43, Int.one_mul]
      · rw [beq_eq_false_iff_ne.mpr (fun h => h43 (u43.1 h))]
        simp only [val_Val.j0]
        rw [if_neg (by decide), run (c :: l) 1 (.inl rfl) (by simp; omega), if_neg h45, if_neg h43, Int.one_mul]
end Go.Proofs.YtplbjaandkdhjaaDoor.L1
namespace Go.Proofs.YtplbjaandkdhjaaDoor.L1
open Go.RowKit Go.Proofs.YtplbjaandkdhjaaDoorW.PrintWords Go.Proofs.YtplbjaandkdhjaaDoor.PA Go.Proofs.YtplbjaandkdhjaaDoor.PB Go.Proofs.YtplbjaandkdhjaaDoor.H1
theorem isDigit_f (a : Int) : cabinetryref01_IsDigit.f a = some (decide (48 ≤ a ∧ a ≤ 57)) := by
  unfold cabinetryref01_IsDigit.f
  by_cases h : a ≥ 48
  · rw [if_pos h]
    have h' : 48 ≤ a := h
    simp [h']
  · rw [if_neg h]
    have h' : ¬ 48 ≤ a := h
    simp [h']
theorem refVal_l (x0 : ByteArray) (x4 : Bool) (hs : x0.size ≤ 140737488351232) (d : Nat) : ∀ (i k : Nat) (a : Int), i + d = x0.size → d < k → 0 ≤ a → a ≤ 1000000000000000 →
    cabinetryref01_Val.l1 k x0 (i : Int) x4 a = some (if x4 = true then -numL a (x0.data.toList.drop i) else numL a (x0.data.toList.drop i)) := by
  have fin : ∀ a : Int, 0 ≤ a → a ≤ 1000000000000000 → (if x4 = true then some (wrap64 (-a)) else some a) = some (if x4 = true then -a else a) := fun a h0 h1 => by
    rw [w64 (by omega) (by omega)]
    split <;> rfl
  induction d with
  | zero =>
    intro i k a hi hk h0 h1
    obtain ⟨k, rfl⟩ : ∃ q, k = q + 1 := ⟨k - 1, by omega⟩
    simp only [cabinetryref01_Val.l1]
    rw [if_neg (by omega), List.drop_eq_nil_of_le (by rw [ba_len]; omega), fin a h0 h1]
    rfl
  | succ d ih =>
    intro i k a hi hk h0 h1
    obtain ⟨k, rfl⟩ : ∃ q, k = q + 1 := ⟨k - 1, by omega⟩
    have hl : i < x0.data.toList.length := by rw [ba_len]; omega
    simp only [cabinetryref01_Val.l1]
    rw [if_pos (by omega), if_pos (by omega), bt_get x0 i (by omega), isDigit_f, Option.bind_some, List.drop_eq_getElem_cons hl]
    have b := (x0.data.toList[i]).toNat_lt
    by_cases c : 48 ≤ ((x0.data.toList[i]).toNat : Int) ∧ ((x0.data.toList[i]).toNat : Int) ≤ 57
    · have e : numL a (x0.data.toList[i] :: x0.data.toList.drop (i + 1)) = numL (mn (10 * a + (((x0.data.toList[i]).toNat : Int) - 48)) 1000000000000000) (x0.data.toList.drop (i + 1)) := by
        rw [numL, if_pos (by omega)]
      rw [decide_eq_true c, if_pos rfl, e, w64 (x := 10 * a) (by omega) (by omega), show (((x0.data.toList[i]).toNat : Int) - 48) % 256 = ((x0.data.toList[i]).toNat : Int) - 48 by omega, w64 (x := (i : Int) + 1) (by omega) (by omega), w64 (by omega) (by omega)]
      have := mn_bd (a := 10 * a + (((x0.data.toList[i]).toNat : Int) - 48)) (by omega)
      exact ih (i + 1) k _ (by omega) (by omega) this.1 this.2
    · have e : numL a (x0.data.toList[i] :: x0.data.toList.drop (i + 1)) = a := by
        rw [numL, if_neg (by omega)]
      rw [decide_eq_false c, if_neg (by decide), e, fin a h0 h1]
theorem refVal_at (x0 : ByteArray) (hs : x0.size ≤ 20000) (i k : Nat) (hi : i ≤ x0.size) (hk : 25000 ≤ k) (t : List UInt8) (ht : x0.data.toList.drop i = t) :
    cabinetryref01_Val.j1 k x0 (i : Int) = some (signL t) := by
  obtain ⟨k, rfl⟩ : ∃ q, k = q + 1 + 1 + 1 := ⟨k - 3, by omega⟩
  have run : ∀ (j : Nat) (b : Bool), j ≤ x0.size → cabinetryref01_Val.j3 (k + 1) x0 (j : Int) b = some (if b = true then -numL 0 (x0.data.toList.drop j) else numL 0 (x0.data.toList.drop j)) := fun j b hj => by
    simp only [cabinetryref01_Val.j3]
    exact refVal_l x0 b (by omega) (x0.size - j) j k 0 (by omega) (by omega) (by omega) (by omega)
  cases t with
  | nil =>
    have hl : x0.data.toList.length ≤ i := List.drop_eq_nil_iff.1 ht
    rw [ba_len] at hl
    simp only [cabinetryref01_Val.j1]
    rw [if_neg (by omega)]
    simp only [cabinetryref01_Val.j2]
    rw [if_neg (by decide), run i false hi, ht]
    rfl
  | cons c l =>
    show _ = some (if c = 45 then -numL 0 l else if c = 43 then numL 0 l else numL 0 (c :: l))
    have hl : i < x0.size := by
      rcases Nat.lt_or_ge i x0.size with h | h
      · exact h
      · rw [List.drop_eq_nil_of_le (by rw [ba_len]; exact h)] at ht; cases ht
    have hg : i < x0.data.toList.length := by rw [ba_len]; exact hl
    have hcons := ht
    rw [List.drop_eq_getElem_cons hg] at hcons
    injection hcons with hc hr
    have hb : bt x0 (i : Int) = (c.toNat : Int) := by rw [bt_get x0 i hl, hc]
    have u45 : (c.toNat : Int) = 45 ↔ c = 45 := ⟨fun h => by apply UInt8.toNat_inj.1; simpa using (by omega : c.toNat = 45), fun h => by subst h; rfl⟩
    have u43 : (c.toNat : Int) = 43 ↔ c = 43 := ⟨fun h => by apply UInt8.toNat_inj.1; simpa using (by omega : c.toNat = 43), fun h => by subst h; rfl⟩
    have e1 : wrap64 ((i : Int) + 1) = ((i + 1 : Nat) : Int) := by rw [w64 (by omega) (by omega)]; omega
    simp only [cabinetryref01_Val.j1]
    rw [if_pos (by omega), if_pos (by omega), hb]
    by_cases h45 : c = 45
    · rw [if_pos (u45.2 h45)]
      simp only [cabinetryref01_Val.j2, if_true]
      rw [if_pos (by omega), if_pos (by omega), hb, e1, beq_iff_eq.mpr (u45.2 h45), run (i + 1) true (by omega), hr]
      simp only [h45, if_true]
    · rw [if_neg (fun h => h45 (u45.1 h))]
      by_cases h43 : c = 43
      · rw [beq_iff_eq.mpr (u43.2 h43)]
        simp only [cabinetryref01_Val.j2, if_true]
        rw [if_pos (by omega), if_pos (by omega), hb, e1, beq_eq_false_iff_ne.mpr (fun h => h45 (u45.1 h)), run (i + 1) false (by omega), hr]
        simp only [if_neg h45, if_pos h43]
        rfl
      · rw [beq_eq_false_iff_ne.mpr (fun h => h43 (u43.1 h))]
        simp only [cabinetryref01_Val.j2]
        rw [if_neg (by decide), run i false hi, ht]
        simp only [if_neg h45, if_neg h43]
        rfl
theorem trim_cons (c : UInt8) (l : List UInt8) : Lib.trimLeftS (c :: l) [32] = if c = 32 then Lib.trimLeftS l [32] else c :: l := by
  unfold Lib.trimLeftS
  by_cases h : c = 32
  · simp [h]
  · simp [h]
theorem refVal_sp (x0 : ByteArray) (hs : x0.size ≤ 20000) (d : Nat) : ∀ (i k : Nat), i + d = x0.size → d + 25001 ≤ k → cabinetryref01_Val.l0 k x0 (i : Int) = some (valL (x0.data.toList.drop i)) := by
  induction d with
  | zero =>
    intro i k hi hk
    obtain ⟨k, rfl⟩ : ∃ q, k = q + 1 := ⟨k - 1, by omega⟩
    have e : x0.data.toList.drop i = [] := List.drop_eq_nil_of_le (by rw [ba_len]; omega)
    simp only [cabinetryref01_Val.l0]
    rw [if_neg (by omega), refVal_at x0 hs i k (by omega) (by omega) [] e, e]
    rfl
  | succ d ih =>
    intro i k hi hk
    obtain ⟨k, rfl⟩ : ∃ q, k = q + 1 := ⟨k - 1, by omega⟩
    have hg : i < x0.data.toList.length := by rw [ba_len]; omega
    have hb := bt_get x0 i (by omega)
    have u32 := u8_32 (x0.data.toList[i])
    have hcons := List.drop_eq_getElem_cons hg
    simp only [cabinetryref01_Val.l0]
    rw [if_pos (by omega), if_pos (by omega), hb]
    by_cases h : x0.data.toList[i] = 32
    · rw [if_pos (u32.2 h), w64 (by omega) (by omega)]
      have := ih (i + 1) k (by omega) (by omega)
      rw [show (i : Int) + 1 = ((i + 1 : Nat) : Int) by omega, this, hcons]
      unfold valL
      rw [trim_cons, if_pos h]
    · rw [if_neg (fun g => h (u32.1 g)), refVal_at x0 hs i k (by omega) (by omega) _ hcons, hcons]
      unfold valL
      rw [trim_cons, if_neg h]
theorem refVal_f (s : ByteArray) (hs : s.size ≤ 20000) {k : Nat} (hk : 50000 ≤ k) : cabinetryref01_Val.f k s = some (valL s.data.toList) := by
  unfold cabinetryref01_Val.f
  have := refVal_sp s hs s.size 0 k (by omega) (by omega)
  simpa using this
def isDig (c : UInt8) : Prop := 48 ≤ c.toNat ∧ c.toNat ≤ 57
theorem numL_snoc (l : List UInt8) (c : UInt8) (hc : isDig c) : ∀ a, (∀ x ∈ l, isDig x) → numL a (l ++ [c]) = mn (10 * numL a l + ((c.toNat : Int) - 48)) 1000000000000000 := by
  induction l with
  | nil => intro a _; simp only [List.nil_append, numL]; rw [if_pos (show 48 ≤ c.toNat ∧ c.toNat ≤ 57 from hc)]
  | cons x l ih =>
    intro a h
    have hx := h x (by simp)
    have hx' : 48 ≤ x.toNat ∧ x.toNat ≤ 57 := hx
    rw [List.cons_append, numL, if_pos hx', ih _ (fun y hy => h y (by simp [hy])), numL, if_pos hx']
theorem dig_nat {n : Nat} (h : n < 10) : (UInt8.ofNat (48 + n)).toNat = 48 + n := by
  rw [UInt8.toNat_ofNat']
  omega
theorem digs_dig (n : Nat) : ∀ x ∈ digs n, isDig x := by
  induction n using Nat.strongRecOn with
  | ind n ih =>
    intro x hx
    by_cases h : n < 10
    · rw [digs_small h] at hx
      simp only [List.mem_singleton] at hx
      subst hx
      unfold isDig; rw [dig_nat h]; omega
    · rw [digs_big h] at hx
      rcases List.mem_append.1 hx with hx | hx
      · exact ih (n / 10) (by omega) x hx
      · simp only [List.mem_singleton] at hx
        subst hx
        unfold isDig; rw [dig_nat (by omega)]; omega
theorem digs_num (n : Nat) (hn : n ≤ 1000000000000000) : numL 0 (digs n) = n := by
  induction n using Nat.strongRecOn with
  | ind n ih =>
    by_cases h : n < 10
    · rw [digs_small h]
      simp only [numL]
      rw [dig_nat h, if_pos (by omega)]
      unfold mn
      split <;> omega
    · rw [digs_big h, numL_snoc _ _ (by unfold isDig; rw [dig_nat (by omega)]; omega) 0 (digs_dig _), ih (n / 10) (by omega) (by omega), dig_nat (by omega)]
      unfold mn
      split <;> omega
theorem trim_spaces (m : Nat) (l : List UInt8) : Lib.trimLeftS (List.replicate m 32 ++ l) [32] = Lib.trimLeftS l [32] := by
  induction m with
  | zero => rfl
  | succ m ih => rw [List.replicate_succ, List.cons_append, trim_cons, if_pos rfl, ih]
theorem valL_dec {n : Int} (h : -1000000000000000 ≤ n ∧ n ≤ 1000000000000000) (m : Nat) : valL (List.replicate m 32 ++ decS n) = n := by
  unfold valL
  rw [trim_spaces]
  unfold decS
  by_cases hn : n < 0
  · rw [if_pos hn, trim_cons, if_neg (by decide)]
    simp only [signL, if_true]
    rw [digs_num _ (by omega)]
    omega
  · rw [if_neg hn]
    have hl := digs_len 17 n.toNat (by omega) (by omega)
    have hd := digs_dig n.toNat
    have hv := digs_num n.toNat (by omega)
    cases e : digs n.toNat with
    | nil => rw [e] at hl; simp at hl
    | cons c l =>
      rw [e] at hd hv
      have hc := hd c (by simp)
      have h32 : c ≠ 32 := fun g => by subst g; exact absurd hc.1 (by decide)
      have h45 : c ≠ 45 := fun g => by subst g; exact absurd hc.1 (by decide)
      have h43 : c ≠ 43 := fun g => by subst g; exact absurd hc.1 (by decide)
      rw [trim_cons, if_neg h32]
      simp only [signL, if_neg h45, if_neg h43]
      rw [hv]
      omega
end Go.Proofs.YtplbjaandkdhjaaDoor.L1
