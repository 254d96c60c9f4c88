-- Written by a program of this session (wip/merge.py): the texts of this claim, joined.
import Derived.Test.YtplbjaandkdhjaaDoorMValStamps0
import Derived.Test.YtplbjaandkdhjaaDoorMValStamps1
import Derived.Test.YtplbjaandkdhjaaDoorMValStamps2
import Derived.Test.YtplbjaandkdhjaaDoorMValStamps3
import Derived.Test.YtplbjaandkdhjaaDoorMValStamps4
import Derived.Test.YtplbjaandkdhjaaDoorMValStamps5
import Derived.Test.YtplbjaandkdhjaaDoorMValStamps6
import Derived.Test.YtplbjaandkdhjaaDoorMValStamps7
import Derived.Test.YtplbjaandkdhjaaDoorMValStamps8
import Derived.Test.YtplbjaandkdhjaaDoorMValStamps9
import Derived.Test.YtplbjaandkdhjaaDoorMValStamps10
import Derived.Test.YtplbjaandkdhjaaDoorMValStamps11
import Derived.Test.YtplbjaandkdhjaaDoorMValStamps12
import Derived.Test.YtplbjaandkdhjaaDoorMValStamps13
import Derived.Test.YtplbjaandkdhjaaDoorMValStamps14
import Derived.Test.YtplbjaandkdhjaaDoorMValStamps15
namespace Go.Proofs.YtplbjaandkdhjaaDoor.PA
end Go.Proofs.YtplbjaandkdhjaaDoor.PA
namespace Go.Proofs.YtplbjaandkdhjaaDoor.PB
end Go.Proofs.YtplbjaandkdhjaaDoor.PB
namespace Go.Proofs.YtplbjaandkdhjaaDoor.PC
end Go.Proofs.YtplbjaandkdhjaaDoor.PC
namespace Go.Proofs.YtplbjaandkdhjaaDoor.H1
end Go.Proofs.YtplbjaandkdhjaaDoor.H1
namespace Go.Proofs.YtplbjaandkdhjaaDoor.L1
end Go.Proofs.YtplbjaandkdhjaaDoor.L1
namespace Go.Proofs.YtplbjaandkdhjaaDoor.PB
open Go.RowKit Go.Proofs.YtplbjaandkdhjaaDoorW.PrintWords Go.Proofs.YtplbjaandkdhjaaDoorW.PrintLast Go.Proofs.YtplbjaandkdhjaaDoorW.PrintMore Go.Proofs.YtplbjaandkdhjaaDoor.PA Go.Proofs.YtplbjaandkdhjaaDoor.H1
attribute [local go_sem] max2_int min2_int max_two min_two max_three min_three max_four min_four   -- for this text's walks alone
set_option linter.unusedVariables false
set_option linter.unusedSimpArgs false
def val_Unstamp.j0 : Nat → ByteArray → Bool → Option (Int × Bool)
 | 0, _, _ => none
 | k + 1, x0, x15 => if x15 = true then (some (0, false)) else (if 0 ≤ 4 then (if 4 ≤ (x0.size : Int) then ((val_Val.f k (x0.extract 0 4)).bind fun t241 => (if 4 ≤ 6 then (if 6 ≤ (x0.size : Int) then ((val_Val.f k (x0.extract 4 6)).bind fun t242 => ((val_Val.f k (x0.extract 6 x0.size)).bind fun t243 => ((val_Days.f k t241 t242 t243).bind fun bt244 => (some (bt244.1, (bt244.2 == 0)))))) else (none)) else (none))) else (none)) else (none))
def val_Unstamp.f (k : Nat) (a0 : ByteArray) : Option (Int × Bool) := if a0.toList = ([32, 32, 32, 32, 32, 32, 32, 32] : List UInt8) then (some (0, true)) else (if (a0.size : Int) = 8 then ((strings_Trim.f a0 (⟨#[48, 49, 50, 51, 52, 53, 54, 55, 56, 57]⟩ : ByteArray)).bind fun t240 => (val_Unstamp.j0 k a0 (t240.toList != ([] : List UInt8)))) else (val_Unstamp.j0 k a0 true))
def val_Unstamp.T5 : Bool × List (List Nat × List Nat) := (true, [([], []), ([0], [0]), ([1], [1]), ([], []), ([3], [3]), ([4, 2], [4]), ([], []), ([6], [6]), ([7, 5], [7]), ([2, 5, 8, 8], [2, 5, 8]), ([9], [9]), ([10], [10]), ([10], [10]), ([11, 9, 0, 1, 2, 3, 4, 5, 6, 7, 8, 9, 10, 11], [11]), ([12, 13, 0, 1, 2, 3, 4, 5, 6, 7, 8, 9, 10, 11, 12, 13], [12])])
def val_Unstamp.B5 : List Nat := [0, 1, 3, 0, 8, 31, 0, 64, 255, 511, 1023, 2047, 2047, 4095, 16383]
theorem val_Unstamp.tab5 : rtab .any (opsOf Tryd.f56 5) = val_Unstamp.T5 := by kernel_rfl
theorem val_Unstamp.bits5 : waitsOk val_Unstamp.T5.2 val_Unstamp.B5 = true := by kernel_rfl
set_option maxHeartbeats 8000000 in
set_option maxRecDepth 100000 in
theorem val_Unstamp.calls (k : Nat) (a0 : ByteArray) (r1 : Int) (r2 : Bool) (w : World) (h : val_Unstamp.f k a0 = some (r1, r2)) :
  Calls Tryd.prog 56 #[.string a0] w fun e w' => e = .returned (.tuple #[.int .i64 r1, .bool r2]) ∧ Below w.heap.size w w' := by
 have HB := Aside0.mk (Below.refl w.heap.size w)
 have H : (if a0.toList = ([32, 32, 32, 32, 32, 32, 32, 32] : List UInt8) then (some (0, true)) else (if (a0.size : Int) = 8 then ((strings_Trim.f a0 (⟨#[48, 49, 50, 51, 52, 53, 54, 55, 56, 57]⟩ : ByteArray)).bind fun t240 => (val_Unstamp.j0 k a0 (t240.toList != ([] : List UInt8)))) else (val_Unstamp.j0 k a0 true))) = some (r1, r2) := h
 clear h
 by_cases c2 : a0.toList = ([32, 32, 32, 32, 32, 32, 32, 32] : List UInt8)
 ·rw [if_pos c2] at H
  have c2b0 : (a0.toList == ([32, 32, 32, 32, 32, 32, 32, 32] : List UInt8)) = true := beq_iff_eq.mpr c2
  have c2b1 : (a0.toList != ([32, 32, 32, 32, 32, 32, 32, 32] : List UInt8)) = false := bne_eq_false_iff_eq.mpr c2
  clear c2
  simp only [Option.some.injEq, Prod.mk.injEq] at H
  obtain ⟨rfl, rfl⟩ := H
  go_enter Tryd.func56, Tryd.ntmps56
  go_wp2
  go_ret2
  exact ⟨by first | rfl | (simp [errW_none, errW_some] <;> rfl) | (simp [*, errW_none, errW_some] <;> rfl), by repeat (first | (with_reducible first | exact HB.out | apply below_alloc | apply pw_below_drewN | apply below_drew1) | exact HB.out)⟩
 ·rw [if_neg c2] at H
  have c2b0 : (a0.toList == ([32, 32, 32, 32, 32, 32, 32, 32] : List UInt8)) = false := beq_eq_false_iff_ne.mpr c2
  have c2b1 : (a0.toList != ([32, 32, 32, 32, 32, 32, 32, 32] : List UInt8)) = true := bne_iff_ne.mpr c2
  have HC3 := Aside0.mk H
  clear H
  go_enter Tryd.func56, Tryd.ntmps56
  go_upto_region 3 with (fail)
  go_cut [15] (fun v15 wc => ∃ (kq : Nat) (x15_2 : Bool), v15 = .bool x15_2 ∧ Aside0 (val_Unstamp.j0 kq a0 x15_2 = some (r1, r2)) ∧ Aside0 (kq ≤ k) ∧ Aside0 (Below w.heap.size w wc))
  case first =>
   have H := HC3.out
   clear HC3
   by_cases c4 : (a0.size : Int) = 8
   ·rw [if_pos c4] at H
    have c4b0 : ((a0.size : Int) == 8) = true := beq_iff_eq.mpr c4
    have c4b1 : ((a0.size : Int) != 8) = false := bne_eq_false_iff_eq.mpr c4
    clear c4
    (first | rw [c4b0] | (simp only [i64_w, i32_w]; rw [c4b0]) | skip)
    replace H := Option.bind_eq_some_iff.mp H
    obtain ⟨t240, A50, H⟩ := H
    replace H : (val_Unstamp.j0 k a0 (t240.toList != ([] : List UInt8))) = some (r1, r2) := H
    have A5 := Aside0.mk A50
    clear A50
    have H' := Aside0.mk H
    clear H
    go_wp2_with (first | (go_at_call 100; (with_reducible refine (strings_Trim.calls a0 (⟨#[48, 49, 50, 51, 52, 53, 54, 55, 56, 57]⟩ : ByteArray) t240 _ A5.out).mono ?_); rintro e w6 ⟨rfl, hb⟩; have n0_ := Aside0.mk (below_step (by repeat (first | (with_reducible first | exact HB.out | apply below_alloc | apply pw_below_drewN | apply below_drew1) | exact HB.out)) hb); clear HB; have HB := n0_; clear n0_; (try clear hb); (try clear hb2); (try clear hk); (try clear hi)))
    go_meet
    case rel => exact ⟨_, ((t240.toList != ([] : List UInt8))), (by first | rfl | (generalize t240.toList = l_; cases l_ <;> first | rfl | (simp; done)) | (simp; done) | (simp [*]; done)), H', ⟨by first | omega | exact Nat.le_refl _⟩, ⟨by repeat (first | (with_reducible first | exact HB.out | apply below_alloc | apply pw_below_drewN | apply below_drew1) | exact HB.out)⟩⟩
   ·rw [if_neg c4] at H
    have c4b0 : ((a0.size : Int) == 8) = false := beq_eq_false_iff_ne.mpr c4
    have c4b1 : ((a0.size : Int) != 8) = true := bne_iff_ne.mpr c4
    (first | rw [c4b0] | (simp only [i64_w, i32_w]; rw [c4b0]) | skip)
    have H' := Aside0.mk H
    clear H
    go_wp2
    go_meet
    case rel => exact ⟨_, (true), (by first | rfl | (simp; done) | (simp [*]; done)), H', ⟨by first | omega | exact Nat.le_refl _⟩, ⟨by repeat (first | (with_reducible first | exact HB.out | apply below_alloc | apply pw_below_drewN | apply below_drew1) | exact HB.out)⟩⟩
  case rest =>
   clear HC3
   try clear c2; try clear c2b0; try clear c2b1; try clear p2; try clear c4; try clear c4b0; try clear c4b1; try clear c5
   obtain ⟨kq, x15_2, rfl, HA, HJ2, HB⟩ := hcut
   cases kq with
   | zero => exact absurd HA.out (by simp [val_Unstamp.j0])
   | succ kj2 =>
    have H := HA.out
    clear HA
    simp only [val_Unstamp.j0] at H
    by_cases c7 : x15_2 = true
    ·subst c7
     have H1 : (some (0, false)) = some (r1, r2) := by rw [if_pos rfl] at H; exact H
     clear H
     have H := H1
     clear H1
     simp only [Option.some.injEq, Prod.mk.injEq] at H
     obtain ⟨rfl, rfl⟩ := H
     go_wp2
     go_ret2
     exact ⟨by first | rfl | (simp [errW_none, errW_some] <;> rfl) | (simp [*, errW_none, errW_some] <;> rfl), by repeat (first | (with_reducible first | exact HB.out | apply below_alloc | apply pw_below_drewN | apply below_drew1) | exact HB.out)⟩
    ·replace c7 := Bool.eq_false_iff.mpr c7
     subst c7
     have H1 : (if 0 ≤ 4 then (if 4 ≤ (a0.size : Int) then ((val_Val.f kj2 (a0.extract 0 4)).bind fun t241 => (if 4 ≤ 6 then (if 6 ≤ (a0.size : Int) then ((val_Val.f kj2 (a0.extract 4 6)).bind fun t242 => ((val_Val.f kj2 (a0.extract 6 a0.size)).bind fun t243 => ((val_Days.f kj2 t241 t242 t243).bind fun bt244 => (some (bt244.1, (bt244.2 == 0)))))) else (none)) else (none))) else (none)) else (none)) = some (r1, r2) := by rw [if_neg (show ¬ (false = true) by decide)] at H; exact H
     clear H
     have H := H1
     clear H1
     by_cases c8 : 0 ≤ 4
     ·rw [if_pos c8] at H
      have c8b0 := eq_true c8
      have c8b1 : decide (0 ≤ 4) = true := decide_eq_true c8
      clear c8
      by_cases c9 : 4 ≤ (a0.size : Int)
      ·rw [if_pos c9] at H
       have c9b0 := eq_true c9
       have c9b1 : decide (4 ≤ (a0.size : Int)) = true := decide_eq_true c9
       clear c9
       replace H := Option.bind_eq_some_iff.mp H
       obtain ⟨t241, A100, H⟩ := H
       replace H : (if 4 ≤ 6 then (if 6 ≤ (a0.size : Int) then ((val_Val.f kj2 (a0.extract 4 6)).bind fun t242 => ((val_Val.f kj2 (a0.extract 6 a0.size)).bind fun t243 => ((val_Days.f kj2 t241 t242 t243).bind fun bt244 => (some (bt244.1, (bt244.2 == 0)))))) else (none)) else (none)) = some (r1, r2) := H
       have A10 := Aside0.mk A100
       clear A100
       by_cases c11 : 4 ≤ 6
       ·rw [if_pos c11] at H
        have c11b0 := eq_true c11
        have c11b1 : decide (4 ≤ 6) = true := decide_eq_true c11
        clear c11
        by_cases c12 : 6 ≤ (a0.size : Int)
        ·rw [if_pos c12] at H
         have c12b0 := eq_true c12
         have c12b1 : decide (6 ≤ (a0.size : Int)) = true := decide_eq_true c12
         clear c12
         replace H := Option.bind_eq_some_iff.mp H
         obtain ⟨t242, A130, H⟩ := H
         replace H : ((val_Val.f kj2 (a0.extract 6 a0.size)).bind fun t243 => ((val_Days.f kj2 t241 t242 t243).bind fun bt244 => (some (bt244.1, (bt244.2 == 0))))) = some (r1, r2) := H
         have A13 := Aside0.mk A130
         clear A130
         have c14b0 := eq_true (of_decide_eq_true (by first | (with_reducible assumption) | assumption) : 6 ≤ (a0.size : Int))
         replace H := Option.bind_eq_some_iff.mp H
         obtain ⟨t243, A150, H⟩ := H
         replace H : ((val_Days.f kj2 t241 t242 t243).bind fun bt244 => (some (bt244.1, (bt244.2 == 0)))) = some (r1, r2) := H
         have A15 := Aside0.mk A150
         clear A150
         replace H := Option.bind_eq_some_iff.mp H
         obtain ⟨⟨t244, t245⟩, A160, H⟩ := H
         replace H : (some (t244, (t245 == 0))) = some (r1, r2) := H
         have A16 := Aside0.mk A160
         clear A160
         simp only [Option.some.injEq, Prod.mk.injEq] at H
         obtain ⟨rfl, rfl⟩ := H
         try go_wp2
         have n0_ := Aside0.mk (below_drew1 HB.out)
         clear HB
         have HB := n0_
         clear n0_
         refine start_ (n := 15) (S := fun w' => True) (ds := []) #[false, false, false, false, false, false, false, false, false, false, false, false, false, false, false] (by kernel_rfl) rfl rfl trivial (fun hHeld => ?_); refine with_tabW val_Unstamp.tab5 val_Unstamp.bits5 (fun HT_ HW_ => ?_)
         generalize wc.drew = w17 at HB hHeld ⊢
         refine pure_ (i := 0) (N := some 17) (v := ?_) (a' := ?_) #[true, false, false, false, false, false, false, false, false, false, false, false, false, false, false] rfl rfl (any_of HT_.out (by kernel_rfl)) (fun _ _ _ h => h) (Or.inl ⟨by rfl, ?_⟩) ?_ ?_
         rotate_left
         ·intro w'
          go_simp
          with_reducible rfl
         rotate_left
         ·simp only [Act.put, List.setIfInBounds_toArray, List.set_cons_zero, List.set_cons_succ, i64_w, i32_w]
          rfl
         refine pure_ (i := 1) (N := some 18) (v := ?_) (a' := ?_) #[true, true, false, false, false, false, false, false, false, false, false, false, false, false, false] rfl rfl (any_of HT_.out (by kernel_rfl)) (fun _ _ _ h => h) (Or.inl ⟨by rfl, ?_⟩) ?_ ?_
         rotate_left
         ·intro w'
          go_simp
          with_reducible rfl
         rotate_left
         ·simp only [Act.put, List.setIfInBounds_toArray, List.set_cons_zero, List.set_cons_succ, i64_w, i32_w]
          rfl
         refine pure_ (i := 3) (N := some 20) (v := ?_) (a' := ?_) #[true, true, false, true, false, false, false, false, false, false, false, false, false, false, false] rfl rfl (any_of HT_.out (by kernel_rfl)) (fun _ _ _ h => h) (Or.inl ⟨by rfl, ?_⟩) ?_ ?_
         rotate_left
         ·intro w'
          go_simp
          with_reducible rfl
         rotate_left
         ·simp only [Act.put, List.setIfInBounds_toArray, List.set_cons_zero, List.set_cons_succ, i64_w, i32_w]
          rfl
         refine pure_ (i := 4) (N := some 21) (v := ?_) (a' := ?_) #[true, true, false, true, true, false, false, false, false, false, false, false, false, false, false] rfl rfl (any_of HT_.out (by kernel_rfl)) (fun _ _ _ h => h) (Or.inl ⟨by rfl, ?_⟩) ?_ ?_
         rotate_left
         ·intro w'
          go_simp
          with_reducible rfl
         rotate_left
         ·simp only [Act.put, List.setIfInBounds_toArray, List.set_cons_zero, List.set_cons_succ, i64_w, i32_w]
          rfl
         refine pure_ (i := 6) (N := some 23) (v := ?_) (a' := ?_) #[true, true, false, true, true, false, true, false, false, false, false, false, false, false, false] rfl rfl (any_of HT_.out (by kernel_rfl)) (fun _ _ _ h => h) (Or.inl ⟨by rfl, ?_⟩) ?_ ?_
         rotate_left
         ·intro w'
          go_simp
          with_reducible rfl
         rotate_left
         ·simp only [Act.put, List.setIfInBounds_toArray, List.set_cons_zero, List.set_cons_succ, i64_w, i32_w]
          rfl
         refine pure_ (i := 7) (N := some 24) (v := ?_) (a' := ?_) #[true, true, false, true, true, false, true, true, false, false, false, false, false, false, false] rfl rfl (any_of HT_.out (by kernel_rfl)) (fun _ _ _ h => h) (Or.inl ⟨by rfl, ?_⟩) ?_ ?_
         rotate_left
         ·intro w'
          go_simp
          with_reducible rfl
         rotate_left
         ·simp only [Act.put, List.setIfInBounds_toArray, List.set_cons_zero, List.set_cons_succ, i64_w, i32_w]
          rfl
         refine one_ (i := 2) (N := some 19) #[true, true, true, true, true, false, true, true, false, false, false, false, false, false, false] rfl rfl (one_of HT_.out (by kernel_rfl)) (by decide) (fun K hK => ?_)
         refine goes_ Tryd.func50 (by kernel_rfl) rfl #[.string (a0.extract 0 4)] (by rfl) rfl rfl (by (try simp only [List.map_toArray, List.map_cons, List.map_nil]); first | done | rfl | (simp only [List.length_drop, List.length_take]; rfl)) ?_
         with_reducible refine (val_Val.calls kj2 (a0.extract 0 4) t241 _ A10.out).mono ?_
         rintro e w18 ⟨rfl, hb⟩
         refine ⟨_, rfl, ?_⟩
         have n0_ := Aside0.mk (below_step (by repeat (first | (with_reducible first | exact HB.out | apply below_alloc | apply pw_below_drewN | apply below_drew1) | exact HB.out)) hb)
         clear HB
         have HB := n0_
         clear n0_
         (try clear hb)
         (try clear hb2)
         (try clear hk)
         (try clear hi)
         refine hK.out _ _ trivial (fun hHeld => ?_)
         clear hK K
         refine norm_ (a' := ?_) ?_ ?_
         rotate_left
         ·show Act.put _ (some 19) _ = _
          simp only [Act.put, List.setIfInBounds_toArray, List.set_cons_zero, List.set_cons_succ, i64_w, i32_w]
          rfl
         refine one_ (i := 5) (N := some 22) #[true, true, true, true, true, true, true, true, false, false, false, false, false, false, false] rfl rfl (one_of HT_.out (by kernel_rfl)) (by decide) (fun K hK => ?_)
         refine goes_ Tryd.func50 (by kernel_rfl) rfl #[.string (a0.extract 4 6)] (by rfl) rfl rfl (by (try simp only [List.map_toArray, List.map_cons, List.map_nil]); first | done | rfl | (simp only [List.length_drop, List.length_take]; rfl)) ?_
         with_reducible refine (val_Val.calls kj2 (a0.extract 4 6) t242 _ A13.out).mono ?_
         rintro e w19 ⟨rfl, hb⟩
         refine ⟨_, rfl, ?_⟩
         have n0_ := Aside0.mk (below_step (by repeat (first | (with_reducible first | exact HB.out | apply below_alloc | apply pw_below_drewN | apply below_drew1) | exact HB.out)) hb)
         clear HB
         have HB := n0_
         clear n0_
         (try clear hb)
         (try clear hb2)
         (try clear hk)
         (try clear hi)
         refine hK.out _ _ trivial (fun hHeld => ?_)
         clear hK K
         refine norm_ (a' := ?_) ?_ ?_
         rotate_left
         ·show Act.put _ (some 22) _ = _
          simp only [Act.put, List.setIfInBounds_toArray, List.set_cons_zero, List.set_cons_succ, i64_w, i32_w]
          rfl
         refine one_ (i := 8) (N := some 25) #[true, true, true, true, true, true, true, true, true, false, false, false, false, false, false] rfl rfl (one_of HT_.out (by kernel_rfl)) (by decide) (fun K hK => ?_)
         refine goes_ Tryd.func50 (by kernel_rfl) rfl #[.string (a0.extract 6 a0.size)] (by rfl) rfl rfl (by (try simp only [List.map_toArray, List.map_cons, List.map_nil]); first | done | rfl | (simp only [List.length_drop, List.length_take]; rfl)) ?_
         with_reducible refine (val_Val.calls kj2 (a0.extract 6 a0.size) t243 _ A15.out).mono ?_
         rintro e w20 ⟨rfl, hb⟩
         refine ⟨_, rfl, ?_⟩
         have n0_ := Aside0.mk (below_step (by repeat (first | (with_reducible first | exact HB.out | apply below_alloc | apply pw_below_drewN | apply below_drew1) | exact HB.out)) hb)
         clear HB
         have HB := n0_
         clear n0_
         (try clear hb)
         (try clear hb2)
         (try clear hk)
         (try clear hi)
         refine hK.out _ _ trivial (fun hHeld => ?_)
         clear hK K
         refine norm_ (a' := ?_) ?_ ?_
         rotate_left
         ·show Act.put _ (some 25) _ = _
          simp only [Act.put, List.setIfInBounds_toArray, List.set_cons_zero, List.set_cons_succ, i64_w, i32_w]
          rfl
         refine one_ (i := 9) (N := some 26) #[true, true, true, true, true, true, true, true, true, true, false, false, false, false, false] rfl rfl (one_of HT_.out (by kernel_rfl)) (by decide) (fun K hK => ?_)
         refine goes_ Tryd.func22 (by kernel_rfl) rfl #[.int .i64 t241, .int .i64 t242, .int .i64 t243] (by rfl) rfl rfl (by (try simp only [List.map_toArray, List.map_cons, List.map_nil]); first | done | rfl | (simp only [List.length_drop, List.length_take]; rfl)) ?_
         with_reducible refine (val_Days.calls kj2 t241 t242 t243 t244 t245 _ A16.out).mono ?_
         rintro e w21 ⟨rfl, hb⟩
         refine ⟨_, rfl, ?_⟩
         have n0_ := Aside0.mk (below_step (by repeat (first | (with_reducible first | exact HB.out | apply below_alloc | apply pw_below_drewN | apply below_drew1) | exact HB.out)) hb)
         clear HB
         have HB := n0_
         clear n0_
         (try clear hb)
         (try clear hb2)
         (try clear hk)
         (try clear hi)
         refine hK.out _ _ trivial (fun hHeld => ?_)
         clear hK K
         refine norm_ (a' := ?_) ?_ ?_
         rotate_left
         ·show Act.put _ (some 26) _ = _
          simp only [Act.put, List.setIfInBounds_toArray, List.set_cons_zero, List.set_cons_succ, i64_w, i32_w]
          rfl
         refine pure_ (i := 10) (N := some 16) (v := ?_) (a' := ?_) #[true, true, true, true, true, true, true, true, true, true, true, false, false, false, false] rfl rfl (any_of HT_.out (by kernel_rfl)) (fun _ _ _ h => h) (Or.inl ⟨by rfl, ?_⟩) ?_ ?_
         rotate_left
         ·intro w'
          go_simp
          with_reducible rfl
         rotate_left
         ·simp only [Act.put, List.setIfInBounds_toArray, List.set_cons_zero, List.set_cons_succ, i64_w, i32_w]
          rfl
         refine pure_ (i := 11) (N := some 27) (v := ?_) (a' := ?_) #[true, true, true, true, true, true, true, true, true, true, true, true, false, false, false] rfl rfl (any_of HT_.out (by kernel_rfl)) (fun _ _ _ h => h) (Or.inl ⟨by rfl, ?_⟩) ?_ ?_
         rotate_left
         ·intro w'
          go_simp
          with_reducible rfl
         rotate_left
         ·simp only [Act.put, List.setIfInBounds_toArray, List.set_cons_zero, List.set_cons_succ, i64_w, i32_w]
          rfl
         refine pure_ (i := 12) (N := some 28) (v := ?_) (a' := ?_) #[true, true, true, true, true, true, true, true, true, true, true, true, true, false, false] rfl rfl (any_of HT_.out (by kernel_rfl)) (fun _ _ _ h => h) (Or.inl ⟨by rfl, ?_⟩) ?_ ?_
         rotate_left
         ·intro w'
          go_simp
          with_reducible rfl
         rotate_left
         ·simp only [Act.put, List.setIfInBounds_toArray, List.set_cons_zero, List.set_cons_succ, i64_w, i32_w]
          rfl
         refine pure_ (i := 13) (N := some 4) (v := ?_) (a' := ?_) #[true, true, true, true, true, true, true, true, true, true, true, true, true, true, false] rfl rfl (any_of HT_.out (by kernel_rfl)) (fun _ _ _ h => h) (Or.inl ⟨by rfl, ?_⟩) ?_ ?_
         rotate_left
         ·intro w'
          go_simp
          with_reducible rfl
         rotate_left
         ·simp only [Act.put, List.setIfInBounds_toArray, List.set_cons_zero, List.set_cons_succ, i64_w, i32_w]
          rfl
         refine pure_ (i := 14) (N := some 5) (v := ?_) (a' := ?_) #[true, true, true, true, true, true, true, true, true, true, true, true, true, true, true] rfl rfl (any_of HT_.out (by kernel_rfl)) (fun _ _ _ h => h) (Or.inl ⟨by rfl, ?_⟩) ?_ ?_
         rotate_left
         ·intro w'
          go_simp
          with_reducible rfl
         rotate_left
         ·simp only [Act.put, List.setIfInBounds_toArray, List.set_cons_zero, List.set_cons_succ, i64_w, i32_w]
          rfl
         refine done_ (done_of HT_.out (by kernel_rfl)) ?_
         try go_wp2
         go_ret2
         exact ⟨by first | rfl | (simp [errW_none, errW_some] <;> rfl) | (simp [*, errW_none, errW_some] <;> rfl), by repeat (first | (with_reducible first | exact HB.out | apply below_alloc | apply pw_below_drewN | apply below_drew1) | exact HB.out)⟩
        ·rw [if_neg c12] at H
         exact absurd H (by simp)
       ·rw [if_neg c11] at H
        exact absurd H (by simp)
      ·rw [if_neg c9] at H
       exact absurd H (by simp)
     ·rw [if_neg c8] at H
      exact absurd H (by simp)
end Go.Proofs.YtplbjaandkdhjaaDoor.PB
namespace Go.Proofs.YtplbjaandkdhjaaDoor.L1
open Go.RowKit Go.Proofs.YtplbjaandkdhjaaDoorW.PrintWords Go.Proofs.YtplbjaandkdhjaaDoor.PA Go.Proofs.YtplbjaandkdhjaaDoor.PB Go.Proofs.YtplbjaandkdhjaaDoor.H1
theorem drop_nil (p : UInt8 → Bool) : ∀ l : List UInt8, l.dropWhile p = [] ↔ ∀ x ∈ l, p x = true
  | [] => by simp
  | c :: l => by
    by_cases h : p c = true
    · rw [List.dropWhile_cons_of_pos h, drop_nil p l]
      simp [h]
    · rw [List.dropWhile_cons_of_neg h]
      simp [h]
theorem drop_head (p : UInt8 → Bool) : ∀ (l : List UInt8) (c : UInt8) (r : List UInt8), l.dropWhile p = c :: r → p c = false
  | [], c, r, h => by simp at h
  | x :: l, c, r, h => by
    by_cases g : p x = true
    · rw [List.dropWhile_cons_of_pos g] at h
      exact drop_head p l c r h
    · rw [List.dropWhile_cons_of_neg g] at h
      injection h with h1 h2
      subst h1
      simpa using g
theorem trimS_nil (l cs : List UInt8) : Lib.trimS l cs = [] ↔ ∀ x ∈ l, cs.contains x = true := by
  unfold Lib.trimS Lib.trimLeftS Lib.trimRightS
  rw [drop_nil]
  constructor
  · intro h
    cases e : l.reverse.dropWhile (cs.contains ·) with
    | nil =>
      intro x hx
      exact (drop_nil _ _).1 e x (by simpa using hx)
    | cons c r =>
      have h1 := drop_head _ _ _ _ e
      rw [e] at h
      have := h c (by simp)
      rw [h1] at this
      cases this
  · intro h
    have : l.reverse.dropWhile (cs.contains ·) = [] := (drop_nil _ _).2 fun x hx => h x (by simpa using hx)
    rw [this]
    simp
theorem ten_has (c : UInt8) : ([48, 49, 50, 51, 52, 53, 54, 55, 56, 57] : List UInt8).contains c = true ↔ isDig c := by
  unfold isDig
  constructor
  · intro h
    simp at h
    rcases h with rfl | rfl | rfl | rfl | rfl | rfl | rfl | rfl | rfl | rfl <;> decide
  · intro h
    have hd : c.toNat = 48 ∨ c.toNat = 49 ∨ c.toNat = 50 ∨ c.toNat = 51 ∨ c.toNat = 52 ∨ c.toNat = 53 ∨ c.toNat = 54 ∨ c.toNat = 55 ∨ c.toNat = 56 ∨ c.toNat = 57 := by omega
    have hc : c = 48 ∨ c = 49 ∨ c = 50 ∨ c = 51 ∨ c = 52 ∨ c = 53 ∨ c = 54 ∨ c = 55 ∨ c = 56 ∨ c = 57 := by
      rcases hd with h | h | h | h | h | h | h | h | h | h
      · exact .inl (UInt8.toNat_inj.1 h)
      · exact .inr (.inl (UInt8.toNat_inj.1 h))
      · exact .inr (.inr (.inl (UInt8.toNat_inj.1 h)))
      · exact .inr (.inr (.inr (.inl (UInt8.toNat_inj.1 h))))
      · exact .inr (.inr (.inr (.inr (.inl (UInt8.toNat_inj.1 h)))))
      · exact .inr (.inr (.inr (.inr (.inr (.inl (UInt8.toNat_inj.1 h))))))
      · exact .inr (.inr (.inr (.inr (.inr (.inr (.inl (UInt8.toNat_inj.1 h)))))))
      · exact .inr (.inr (.inr (.inr (.inr (.inr (.inr (.inl (UInt8.toNat_inj.1 h))))))))
      · exact .inr (.inr (.inr (.inr (.inr (.inr (.inr (.inr (.inl (UInt8.toNat_inj.1 h)))))))))
      · exact .inr (.inr (.inr (.inr (.inr (.inr (.inr (.inr (.inr (UInt8.toNat_inj.1 h)))))))))
    rcases hc with rfl | rfl | rfl | rfl | rfl | rfl | rfl | rfl | rfl | rfl <;> decide
instance (c : UInt8) : Decidable (isDig c) := by unfold isDig; infer_instance
def unV (s : ByteArray) : Int × Bool :=
  ((daysV (valL (s.extract 0 4).data.toList) (valL (s.extract 4 6).data.toList) (valL (s.extract 6 s.size).data.toList)).1, (daysV (valL (s.extract 0 4).data.toList) (valL (s.extract 4 6).data.toList) (valL (s.extract 6 s.size).data.toList)).2 == 0)
def unstampV (s : ByteArray) : Int × Bool :=
  if s.toList = [32, 32, 32, 32, 32, 32, 32, 32] then (0, true) else if s.size = 8 ∧ ∀ x ∈ s.data.toList, isDig x then unV s else (0, false)
theorem valL_bd (l : List UInt8) : -1000000000000000 ≤ valL l ∧ valL l ≤ 1000000000000000 := by
  unfold valL
  cases Lib.trimLeftS l [32] with
  | nil => simp [signL]
  | cons c l =>
    have h1 := numL_bd l 0 (by omega) (by omega)
    have h2 := numL_bd (c :: l) 0 (by omega) (by omega)
    simp only [signL]
    split
    · omega
    · split <;> omega
theorem cut_size (s : ByteArray) (a b : Nat) (h : s.size = 8) : (s.extract a b).size ≤ 20000 := by
  have : (s.extract a b).size ≤ s.size := by simp [ByteArray.size_extract]; omega
  omega
theorem unstamp_f (s : ByteArray) (_ : s.size ≤ 20000) {k : Nat} (hk : 50000 ≤ k) : val_Unstamp.f k s = some (unstampV s) := by
  obtain ⟨k, rfl⟩ : ∃ q, k = q + 1 := ⟨k - 1, by omega⟩
  have j1 : val_Unstamp.j0 (k + 1) s true = some (0, false) := by simp [val_Unstamp.j0]
  unfold val_Unstamp.f unstampV
  by_cases h0 : s.toList = [32, 32, 32, 32, 32, 32, 32, 32]
  · rw [if_pos h0, if_pos h0]
  rw [if_neg h0, if_neg h0]
  by_cases h8 : s.size = 8
  · have ht : strings_Trim.f s (⟨#[48, 49, 50, 51, 52, 53, 54, 55, 56, 57]⟩ : ByteArray) = some ⟨(Lib.trimS s.data.toList [48, 49, 50, 51, 52, 53, 54, 55, 56, 57]).toArray⟩ := by
      unfold strings_Trim.f
      rw [if_pos ⟨by decide, by decide, by omega⟩]
    rw [if_pos (by omega), ht, Option.bind_some]
    have hn : (⟨(Lib.trimS s.data.toList [48, 49, 50, 51, 52, 53, 54, 55, 56, 57]).toArray⟩ : ByteArray).toList = Lib.trimS s.data.toList [48, 49, 50, 51, 52, 53, 54, 55, 56, 57] := by rw [ByteArray.toList_eq]
    rw [hn]
    have iff := trimS_nil s.data.toList [48, 49, 50, 51, 52, 53, 54, 55, 56, 57]
    by_cases hd : ∀ x ∈ s.data.toList, isDig x
    · have e : Lib.trimS s.data.toList [48, 49, 50, 51, 52, 53, 54, 55, 56, 57] = [] := iff.2 fun x hx => (ten_has x).2 (hd x hx)
      rw [e, if_pos ⟨h8, hd⟩]
      simp only [val_Unstamp.j0]
      have b3 := valL_bd (s.extract 6 s.size).data.toList
      rw [if_neg (by decide), if_pos (by decide), if_pos (by omega), val_f _ (cut_size s 0 4 h8) (by omega), Option.bind_some, if_pos (by decide), if_pos (by omega), val_f _ (cut_size s 4 6 h8) (by omega), Option.bind_some, val_f _ (cut_size s 6 s.size h8) (by omega), Option.bind_some, days_f _ _ _ k (by omega) (by omega) (by omega), Option.bind_some]
      rfl
    · have e : (Lib.trimS s.data.toList [48, 49, 50, 51, 52, 53, 54, 55, 56, 57] != []) = true := bne_iff_ne.mpr fun e => hd fun x hx => (ten_has x).1 (iff.1 e x hx)
      rw [e, if_neg (fun h => hd h.2), j1]
  · rw [if_neg (by omega), if_neg (fun h => h8 h.1), j1]
theorem refUnstamp_l (s : ByteArray) (h8 : s.size = 8) (d : Nat) : ∀ (i k : Nat), i + d = 8 → d + 50001 ≤ k → cabinetryref01_Unstamp.l0 k s (i : Int) = some (if ∀ x ∈ s.data.toList.drop i, isDig x then unV s else (0, false)) := by
  induction d with
  | zero =>
    intro i k hi hk
    obtain ⟨k, rfl⟩ : ∃ q, k = q + 1 := ⟨k - 1, by omega⟩
    have e : s.data.toList.drop i = [] := List.drop_eq_nil_of_le (by rw [ba_len]; omega)
    have b3 := valL_bd (s.extract 6 s.size).data.toList
    simp only [cabinetryref01_Unstamp.l0]
    rw [if_neg (by omega), if_pos (by decide), if_pos (by omega), refVal_f _ (cut_size s 0 4 h8) (by omega), Option.bind_some, if_pos (by decide), if_pos (by omega), refVal_f _ (cut_size s 4 6 h8) (by omega), Option.bind_some, refVal_f _ (cut_size s 6 s.size h8) (by omega), Option.bind_some, refDays_f _ _ _ k (by omega), Option.bind_some, if_pos (by rw [e]; simp)]
    rfl
  | succ d ih =>
    intro i k hi hk
    obtain ⟨k, rfl⟩ : ∃ q, k = q + 1 := ⟨k - 1, by omega⟩
    have hl : i < s.data.toList.length := by rw [ba_len]; omega
    have hcons := List.drop_eq_getElem_cons hl
    simp only [cabinetryref01_Unstamp.l0]
    rw [if_pos (by omega), if_pos (by omega), if_pos (by omega), bt_get s i (by omega), isDigit_f, Option.bind_some]
    by_cases hd : isDig s.data.toList[i]
    · have hd' : 48 ≤ ((s.data.toList[i]).toNat : Int) ∧ ((s.data.toList[i]).toNat : Int) ≤ 57 := by unfold isDig at hd; omega
      rw [decide_eq_true hd', if_pos rfl, w64 (by omega) (by omega)]
      have := ih (i + 1) k (by omega) (by omega)
      rw [show (i : Int) + 1 = ((i + 1 : Nat) : Int) by omega, this, hcons]
      congr 1
      by_cases hr : ∀ x ∈ s.data.toList.drop (i + 1), isDig x
      · have ha : ∀ x ∈ s.data.toList[i] :: s.data.toList.drop (i + 1), isDig x := fun x hx => by
          rcases List.mem_cons.1 hx with h | h
          · rw [h]; exact hd
          · exact hr x h
        rw [if_pos hr, if_pos ha]
      · rw [if_neg hr, if_neg (fun g => hr fun x hx => g x (List.mem_cons_of_mem _ hx))]
    · have hd' : ¬ (48 ≤ ((s.data.toList[i]).toNat : Int) ∧ ((s.data.toList[i]).toNat : Int) ≤ 57) := by unfold isDig at hd; omega
      rw [decide_eq_false hd', if_neg (by decide), hcons, if_neg (fun g => hd (g _ (by simp)))]
theorem refUnstamp_f (s : ByteArray) (_ : s.size ≤ 20000) {k : Nat} (hk : 60000 ≤ k) : cabinetryref01_Unstamp.f k s = some (unstampV s) := by
  unfold cabinetryref01_Unstamp.f unstampV
  by_cases h0 : s.toList = [32, 32, 32, 32, 32, 32, 32, 32]
  · rw [if_pos h0, if_pos h0]
  rw [if_neg h0, if_neg h0]
  by_cases h8 : s.size = 8
  · have := refUnstamp_l s h8 8 0 k (by omega) (by omega)
    rw [List.drop_zero] at this
    rw [if_pos (by omega)]
    refine (show cabinetryref01_Unstamp.l0 k s 0 = _ from this).trans ?_
    congr 1
    by_cases hd : ∀ x ∈ s.data.toList, isDig x
    · rw [if_pos hd, if_pos ⟨h8, hd⟩]
    · rw [if_neg hd, if_neg (fun h => hd h.2)]
  · rw [if_neg (by omega), if_neg (fun h => h8 h.1)]
theorem numL_zeros (m : Nat) (l : List UInt8) : numL 0 (List.replicate m 48 ++ l) = numL 0 l := by
  induction m with
  | zero => rfl
  | succ m ih =>
    rw [List.replicate_succ, List.cons_append, numL, if_pos (by decide)]
    exact ih
theorem padS_dig (n w : Nat) : ∀ x ∈ padS n w, isDig x := by
  intro x hx
  unfold padS at hx
  rcases List.mem_append.1 hx with hx | hx
  · obtain rfl := List.eq_of_mem_replicate hx
    unfold isDig; decide
  · exact digs_dig n x hx
theorem valL_dig (l : List UInt8) (h : ∀ x ∈ l, isDig x) : valL l = numL 0 l := by
  unfold valL
  cases l with
  | nil => rfl
  | cons c l =>
    have hc := h c (by simp)
    have h32 : c ≠ 32 := fun g => by subst g; exact absurd hc.1 (by decide)
    have h45 : c ≠ 45 := fun g => by subst g; exact absurd hc.1 (by decide)
    have h43 : c ≠ 43 := fun g => by subst g; exact absurd hc.1 (by decide)
    rw [trim_cons, if_neg h32]
    simp only [signL, if_neg h45, if_neg h43]
theorem valL_pad (n w : Nat) (hn : n ≤ 1000000000000000) : valL (padS n w) = n := by
  rw [valL_dig _ (padS_dig n w)]
  unfold padS
  rw [numL_zeros, digs_num n hn]
theorem unstamp_stamp {n y m d : Int} (h : IsDate n y m d) : unstampV ⟨(stampL y m d).toArray⟩ = (n, true) := by
  obtain ⟨_, _, l1, l2, l3⟩ := date_pads h (k := 17) (by omega)
  obtain ⟨h1, h2, h3, h4, h5, h6, e⟩ := h
  have mb := mdays_bd y m
  have hsz : (⟨(stampL y m d).toArray⟩ : ByteArray).size = 8 := by rw [ba_size]; unfold stampL; rw [List.length_append, List.length_append]; omega
  have hdig : ∀ x ∈ stampL y m d, isDig x := fun x hx => by
    unfold stampL at hx
    rcases List.mem_append.1 hx with hx | hx
    · rcases List.mem_append.1 hx with hx | hx
      · exact padS_dig _ _ x hx
      · exact padS_dig _ _ x hx
    · exact padS_dig _ _ x hx
  have hne : ¬ ((⟨(stampL y m d).toArray⟩ : ByteArray).toList = [32, 32, 32, 32, 32, 32, 32, 32]) := fun g => by
    rw [ByteArray.toList_eq] at g
    have g' : stampL y m d = [32, 32, 32, 32, 32, 32, 32, 32] := g
    have := hdig 32 (by rw [g']; simp)
    unfold isDig at this
    exact absurd this (by decide)
  unfold unstampV
  rw [if_neg hne, if_pos ⟨hsz, by rw [ba_mk]; exact hdig⟩]
  have c1 : ((⟨(stampL y m d).toArray⟩ : ByteArray).extract 0 4).data.toList = padS y.toNat 4 := by
    rw [ba_take, ba_mk, ba_mk]
    unfold stampL
    rw [List.append_assoc, List.take_append_of_le_length (by omega), List.take_of_length_le (by omega)]
  have c3 : ((⟨(stampL y m d).toArray⟩ : ByteArray).extract 6 (⟨(stampL y m d).toArray⟩ : ByteArray).size).data.toList = padS d.toNat 2 := by
    rw [ba_drop, ba_mk, ba_mk]
    unfold stampL
    rw [List.drop_append, List.drop_eq_nil_of_le (by rw [List.length_append]; omega), List.length_append, l1, l2]
    rfl
  have c2 : ((⟨(stampL y m d).toArray⟩ : ByteArray).extract 4 6).data.toList = padS m.toNat 2 := by
    rw [Lib.extract_data]
    simp only [stampL]
    rw [List.append_assoc, List.drop_append, List.drop_eq_nil_of_le (by omega), l1]
    simp only [List.nil_append, Nat.sub_self, List.drop_zero]
    rw [List.take_append_of_le_length (by omega), List.take_of_length_le (by omega)]
  unfold unV
  rw [c1, c2, c3, valL_pad _ _ (by omega), valL_pad _ _ (by omega), valL_pad _ _ (by omega)]
  have ey : ((y.toNat : Nat) : Int) = y := by omega
  have em : ((m.toNat : Nat) : Int) = m := by omega
  have ed : ((d.toNat : Nat) : Int) = d := by omega
  rw [ey, em, ed, daysV_ok ⟨h1, h2, h3, h4, h5, h6⟩, ← e]
  rfl
end Go.Proofs.YtplbjaandkdhjaaDoor.L1
namespace Go.Proofs.YtplbjaandkdhjaaDoor.PC
open Go.RowKit Go.Proofs.YtplbjaandkdhjaaDoorW.PrintWords Go.Proofs.YtplbjaandkdhjaaDoorW.PrintLast Go.Proofs.YtplbjaandkdhjaaDoorW.PrintMore Go.Proofs.YtplbjaandkdhjaaDoor.PA Go.Proofs.YtplbjaandkdhjaaDoor.H1 Go.Proofs.YtplbjaandkdhjaaDoor.PB
attribute [local go_sem] max2_int min2_int max_two min_two max_three min_three max_four min_four   -- for this text's walks alone
set_option linter.unusedVariables false
set_option linter.unusedSimpArgs false
def cabinetrylaw01_ValStamps.j0 : Nat → Int → Bool → Option (Bool)
 | 0, _, _ => none
 | k + 1, x1, x34 => if x34 = true then (some false) else ((val_Stamp.f k x1).bind fun bt273 => (if bt273.2 = 0 then ((val_Unstamp.f k bt273.1).bind fun bt275 => (if bt275.2 = true then (if bt275.1 = x1 then ((cabinetrylaw01_known.f k).bind fun t277 => (some t277)) else (some false)) else (some false))) else ((cabinetrylaw01_known.f k).bind fun t278 => (some t278))))
def cabinetrylaw01_ValStamps.f (k : Nat) (a0 : ByteArray) (a1 : Int) : Option (Bool) := if (a0.size : Int) > 20000 then ((cabinetrylaw01_known.f k).bind fun t268 => (some t268)) else ((val_Unstamp.f k a0).bind fun bt269 => ((cabinetryref01_Unstamp.f k a0).bind fun bt271 => (if bt269.1 = bt271.1 then (cabinetrylaw01_ValStamps.j0 k a1 (bt269.2 != bt271.2)) else (cabinetrylaw01_ValStamps.j0 k a1 true))))
set_option maxHeartbeats 8000000 in
set_option maxRecDepth 100000 in
theorem cabinetrylaw01_ValStamps.calls (k : Nat) (a0 : ByteArray) (a1 : Int) (r : Bool) (w : World) (h : cabinetrylaw01_ValStamps.f k a0 a1 = some r) (hr_ : Aside0 (r = true)) :
  Calls Tryd.prog 15 #[.string a0, .int .i64 a1] w fun e w' => e = .returned (.bool r) ∧ Below w.heap.size w w' := by
 have HB := Aside0.mk (Below.refl w.heap.size w)
 have H : (if (a0.size : Int) > 20000 then ((cabinetrylaw01_known.f k).bind fun t268 => (some t268)) else ((val_Unstamp.f k a0).bind fun bt269 => ((cabinetryref01_Unstamp.f k a0).bind fun bt271 => (if bt269.1 = bt271.1 then (cabinetrylaw01_ValStamps.j0 k a1 (bt269.2 != bt271.2)) else (cabinetrylaw01_ValStamps.j0 k a1 true))))) = some r := h
 clear h
 by_cases c3 : (a0.size : Int) > 20000
 ·rw [if_pos c3] at H
  have c3b0 : decide (20000 < (a0.size : Int)) = true := decide_eq_true c3
  have c3b1 : decide (20000 < a0.size) = true := decide_eq_true (by omega)
  clear c3
  replace H := Option.bind_eq_some_iff.mp H
  obtain ⟨t268, A40, H⟩ := H
  replace H : (some t268) = some r := H
  have A4 := Aside0.mk A40
  clear A40
  obtain rfl := Option.some.inj H
  simp only [Option.some.injEq, Prod.mk.injEq] at H
  obtain ⟨rfl⟩ := H
  go_enter Tryd.func15, Tryd.ntmps15
  go_wp2_with (first | ((with_reducible refine gate_callee (f := 16) rfl ?_); refine goesL_ (some 16) rfl rfl Tryd.func16 (by kernel_rfl) rfl #[] rfl (by (try simp only [List.map_toArray, List.map_cons, List.map_nil]); first | done | rfl | (simp only [List.length_drop, List.length_take]; rfl)) ?_; (with_reducible refine (cabinetrylaw01_known.calls k  t268 _ A4.out hr_).mono ?_); rintro e w5 ⟨rfl, hb⟩; refine ⟨_, rfl, ?_⟩; have n0_ := Aside0.mk (below_step (by repeat (first | (with_reducible first | exact HB.out | apply below_alloc | apply pw_below_drewN | apply below_drew1) | exact HB.out)) hb); clear HB; have HB := n0_; clear n0_; (try clear hb); (try clear hb2); (try clear hk); (try clear hi)))
  go_ret
  exact ⟨by first | rfl | (simp [errW_none, errW_some] <;> rfl) | (simp [*, errW_none, errW_some] <;> rfl), by repeat (first | (with_reducible first | exact HB.out | apply below_alloc | apply pw_below_drewN | apply below_drew1) | exact HB.out)⟩
 ·rw [if_neg c3] at H
  have c3b0 : decide (20000 < (a0.size : Int)) = false := decide_eq_false c3
  have c3b1 : decide (20000 < a0.size) = false := decide_eq_false (by omega)
  clear c3
  replace H := Option.bind_eq_some_iff.mp H
  obtain ⟨⟨t269, t270⟩, A60, H⟩ := H
  replace H : ((cabinetryref01_Unstamp.f k a0).bind fun bt271 => (if t269 = bt271.1 then (cabinetrylaw01_ValStamps.j0 k a1 (t270 != bt271.2)) else (cabinetrylaw01_ValStamps.j0 k a1 true))) = some r := H
  have A6 := Aside0.mk A60
  clear A60
  replace H := Option.bind_eq_some_iff.mp H
  obtain ⟨⟨t271, t272⟩, A70, H⟩ := H
  replace H : (if t269 = t271 then (cabinetrylaw01_ValStamps.j0 k a1 (t270 != t272)) else (cabinetrylaw01_ValStamps.j0 k a1 true)) = some r := H
  have A7 := Aside0.mk A70
  clear A70
  have HC8 := Aside0.mk H
  clear H
  go_enter Tryd.func15, Tryd.ntmps15
  go_upto_region 5 with (first | ((with_reducible refine gate_callee (f := 56) rfl ?_); refine goesL_ (some 19) rfl rfl Tryd.func56 (by kernel_rfl) rfl #[.string a0] rfl (by (try simp only [List.map_toArray, List.map_cons, List.map_nil]); first | done | rfl | (simp only [List.length_drop, List.length_take]; rfl)) ?_; (with_reducible refine (val_Unstamp.calls k a0 t269 t270 _ A6.out).mono ?_); rintro e w9 ⟨rfl, hb⟩; refine ⟨_, rfl, ?_⟩; have n0_ := Aside0.mk (below_step (by repeat (first | (with_reducible first | exact HB.out | apply below_alloc | apply pw_below_drewN | apply below_drew1) | exact HB.out)) hb); clear HB; have HB := n0_; clear n0_; (try clear hb); (try clear hb2); (try clear hk); (try clear hi)) | ((with_reducible refine gate_callee (f := 57) rfl ?_); refine goesL_ (some 24) rfl rfl Tryd.func57 (by kernel_rfl) rfl #[.string a0] rfl (by (try simp only [List.map_toArray, List.map_cons, List.map_nil]); first | done | rfl | (simp only [List.length_drop, List.length_take]; rfl)) ?_; (with_reducible refine (cabinetryref01_Unstamp.calls k a0 t271 t272 _ A7.out).mono ?_); rintro e w10 ⟨rfl, hb⟩; refine ⟨_, rfl, ?_⟩; have n0_ := Aside0.mk (below_step (by repeat (first | (with_reducible first | exact HB.out | apply below_alloc | apply pw_below_drewN | apply below_drew1) | exact HB.out)) hb); clear HB; have HB := n0_; clear n0_; (try clear hb); (try clear hb2); (try clear hk); (try clear hi)))
  (try simp only [Act.put, List.setIfInBounds_toArray, List.set_cons_zero, List.set_cons_succ])
  go_cut [34] (fun v34 wc => ∃ (kq : Nat) (x34_7 : Bool), v34 = .bool x34_7 ∧ Aside0 (cabinetrylaw01_ValStamps.j0 kq a1 x34_7 = some r) ∧ Aside0 (kq ≤ k) ∧ Aside0 (Below w.heap.size w wc))
  case first =>
   have H := HC8.out
   clear HC8
   by_cases c11 : t269 = t271
   ·rw [if_pos c11] at H
    have c11b0 : (t269 == t271) = true := beq_iff_eq.mpr c11
    have c11b1 : (t269 != t271) = false := bne_eq_false_iff_eq.mpr c11
    clear c11
    (first | rw [c11b0] | (simp only [i64_w, i32_w]; rw [c11b0]) | skip)
    have H' := Aside0.mk H
    clear H
    go_wp2
    go_meet
    case rel => exact ⟨_, ((t270 != t272)), (by first | rfl | (simp; done) | (simp [*]; done)), H', ⟨by first | omega | exact Nat.le_refl _⟩, ⟨by repeat (first | (with_reducible first | exact HB.out | apply below_alloc | apply pw_below_drewN | apply below_drew1) | exact HB.out)⟩⟩
   ·rw [if_neg c11] at H
    have c11b0 : (t269 == t271) = false := beq_eq_false_iff_ne.mpr c11
    have c11b1 : (t269 != t271) = true := bne_iff_ne.mpr c11
    (first | rw [c11b0] | (simp only [i64_w, i32_w]; rw [c11b0]) | skip)
    have H' := Aside0.mk H
    clear H
    go_wp2
    go_meet
    case rel => exact ⟨_, (true), (by first | rfl | (simp; done) | (simp [*]; done)), H', ⟨by first | omega | exact Nat.le_refl _⟩, ⟨by repeat (first | (with_reducible first | exact HB.out | apply below_alloc | apply pw_below_drewN | apply below_drew1) | exact HB.out)⟩⟩
  case rest =>
   clear HC8
   try clear c1; try clear p2; try clear c3; try clear c3b0; try clear c3b1; try clear c5; try clear c11; try clear c11b0; try clear c11b1
   obtain ⟨kq, x34_7, rfl, HA, HJ7, HB⟩ := hcut
   cases kq with
   | zero => exact absurd HA.out (by simp [cabinetrylaw01_ValStamps.j0])
   | succ kj7 =>
    have H := HA.out
    clear HA
    simp only [cabinetrylaw01_ValStamps.j0] at H
    by_cases c12 : x34_7 = true
    ·subst c12
     have H1 : (some false) = some r := by rw [if_pos rfl] at H; exact H
     clear H
     have H := H1
     clear H1
     obtain rfl := Option.some.inj H
     exact absurd hr_.out (by decide)
    ·replace c12 := Bool.eq_false_iff.mpr c12
     subst c12
     have H1 : ((val_Stamp.f kj7 a1).bind fun bt273 => (if bt273.2 = 0 then ((val_Unstamp.f kj7 bt273.1).bind fun bt275 => (if bt275.2 = true then (if bt275.1 = a1 then ((cabinetrylaw01_known.f kj7).bind fun t277 => (some t277)) else (some false)) else (some false))) else ((cabinetrylaw01_known.f kj7).bind fun t278 => (some t278)))) = some r := by rw [if_neg (show ¬ (false = true) by decide)] at H; exact H
     clear H
     have H := H1
     clear H1
     replace H := Option.bind_eq_some_iff.mp H
     obtain ⟨⟨t273, t274⟩, A130, H⟩ := H
     replace H : (if t274 = 0 then ((val_Unstamp.f kj7 t273).bind fun bt275 => (if bt275.2 = true then (if bt275.1 = a1 then ((cabinetrylaw01_known.f kj7).bind fun t277 => (some t277)) else (some false)) else (some false))) else ((cabinetrylaw01_known.f kj7).bind fun t278 => (some t278))) = some r := H
     have A13 := Aside0.mk A130
     clear A130
     by_cases c14 : t274 = 0
     ·rw [if_pos c14] at H
      have c14b0 : (t274 == 0) = true := beq_iff_eq.mpr c14
      have c14b1 : (t274 != 0) = false := bne_eq_false_iff_eq.mpr c14
      clear c14
      replace H := Option.bind_eq_some_iff.mp H
      obtain ⟨⟨t275, t276⟩, A150, H⟩ := H
      replace H : (if t276 = true then (if t275 = a1 then ((cabinetrylaw01_known.f kj7).bind fun t277 => (some t277)) else (some false)) else (some false)) = some r := H
      have A15 := Aside0.mk A150
      clear A150
      by_cases c16 : t276 = true
      ·subst c16
       have H1 : (if t275 = a1 then ((cabinetrylaw01_known.f kj7).bind fun t277 => (some t277)) else (some false)) = some r := by rw [if_pos rfl] at H; exact H
       clear H
       have H := H1
       clear H1
       by_cases c17 : t275 = a1
       ·rw [if_pos c17] at H
        have c17b0 : (t275 == a1) = true := beq_iff_eq.mpr c17
        have c17b1 : (t275 != a1) = false := bne_eq_false_iff_eq.mpr c17
        clear c17
        replace H := Option.bind_eq_some_iff.mp H
        obtain ⟨t277, A180, H⟩ := H
        replace H : (some t277) = some r := H
        have A18 := Aside0.mk A180
        clear A180
        obtain rfl := Option.some.inj H
        simp only [Option.some.injEq, Prod.mk.injEq] at H
        obtain ⟨rfl⟩ := H
        go_wp2_with (first | ((with_reducible refine gate_callee (f := 38) rfl ?_); refine goesL_ (some 37) rfl rfl Tryd.func38 (by kernel_rfl) rfl #[.int .i64 a1] rfl (by (try simp only [List.map_toArray, List.map_cons, List.map_nil]); first | done | rfl | (simp only [List.length_drop, List.length_take]; rfl)) ?_; (with_reducible refine (val_Stamp.calls kj7 a1 t273 t274 _ A13.out).mono ?_); rintro e w19 ⟨rfl, hb⟩; refine ⟨_, rfl, ?_⟩; have n0_ := Aside0.mk (below_step (by repeat (first | (with_reducible first | exact HB.out | apply below_alloc | apply pw_below_drewN | apply below_drew1) | exact HB.out)) hb); clear HB; have HB := n0_; clear n0_; (try clear hb); (try clear hb2); (try clear hk); (try clear hi)) | ((with_reducible refine gate_callee (f := 56) rfl ?_); refine goesL_ (some 45) rfl rfl Tryd.func56 (by kernel_rfl) rfl #[.string t273] rfl (by (try simp only [List.map_toArray, List.map_cons, List.map_nil]); first | done | rfl | (simp only [List.length_drop, List.length_take]; rfl)) ?_; (with_reducible refine (val_Unstamp.calls kj7 t273 t275 true _ A15.out).mono ?_); rintro e w20 ⟨rfl, hb⟩; refine ⟨_, rfl, ?_⟩; have n0_ := Aside0.mk (below_step (by repeat (first | (with_reducible first | exact HB.out | apply below_alloc | apply pw_below_drewN | apply below_drew1) | exact HB.out)) hb); clear HB; have HB := n0_; clear n0_; (try clear hb); (try clear hb2); (try clear hk); (try clear hi)) | (go_at_call 16; (with_reducible refine (cabinetrylaw01_known.calls kj7  t277 _ A18.out hr_).mono ?_); rintro e w21 ⟨rfl, hb⟩; have n0_ := Aside0.mk (below_step (by repeat (first | (with_reducible first | exact HB.out | apply below_alloc | apply pw_below_drewN | apply below_drew1) | exact HB.out)) hb); clear HB; have HB := n0_; clear n0_; (try clear hb); (try clear hb2); (try clear hk); (try clear hi)))
        go_ret
        exact ⟨by first | rfl | (simp [errW_none, errW_some] <;> rfl) | (simp [*, errW_none, errW_some] <;> rfl), by repeat (first | (with_reducible first | exact HB.out | apply below_alloc | apply pw_below_drewN | apply below_drew1) | exact HB.out)⟩
       ·rw [if_neg c17] at H
        have c17b0 : (t275 == a1) = false := beq_eq_false_iff_ne.mpr c17
        have c17b1 : (t275 != a1) = true := bne_iff_ne.mpr c17
        obtain rfl := Option.some.inj H
        exact absurd hr_.out (by decide)
      ·replace c16 := Bool.eq_false_iff.mpr c16
       subst c16
       have H1 : (some false) = some r := by rw [if_neg (show ¬ (false = true) by decide)] at H; exact H
       clear H
       have H := H1
       clear H1
       obtain rfl := Option.some.inj H
       exact absurd hr_.out (by decide)
     ·rw [if_neg c14] at H
      have c14b0 : (t274 == 0) = false := beq_eq_false_iff_ne.mpr c14
      have c14b1 : (t274 != 0) = true := bne_iff_ne.mpr c14
      replace H := Option.bind_eq_some_iff.mp H
      obtain ⟨t278, A220, H⟩ := H
      replace H : (some t278) = some r := H
      have A22 := Aside0.mk A220
      clear A220
      obtain rfl := Option.some.inj H
      simp only [Option.some.injEq, Prod.mk.injEq] at H
      obtain ⟨rfl⟩ := H
      go_wp2_with (first | ((with_reducible refine gate_callee (f := 38) rfl ?_); refine goesL_ (some 37) rfl rfl Tryd.func38 (by kernel_rfl) rfl #[.int .i64 a1] rfl (by (try simp only [List.map_toArray, List.map_cons, List.map_nil]); first | done | rfl | (simp only [List.length_drop, List.length_take]; rfl)) ?_; (with_reducible refine (val_Stamp.calls kj7 a1 t273 t274 _ A13.out).mono ?_); rintro e w23 ⟨rfl, hb⟩; refine ⟨_, rfl, ?_⟩; have n0_ := Aside0.mk (below_step (by repeat (first | (with_reducible first | exact HB.out | apply below_alloc | apply pw_below_drewN | apply below_drew1) | exact HB.out)) hb); clear HB; have HB := n0_; clear n0_; (try clear hb); (try clear hb2); (try clear hk); (try clear hi)) | ((with_reducible refine gate_callee (f := 16) rfl ?_); refine goesL_ (some 42) rfl rfl Tryd.func16 (by kernel_rfl) rfl #[] rfl (by (try simp only [List.map_toArray, List.map_cons, List.map_nil]); first | done | rfl | (simp only [List.length_drop, List.length_take]; rfl)) ?_; (with_reducible refine (cabinetrylaw01_known.calls kj7  t278 _ A22.out hr_).mono ?_); rintro e w24 ⟨rfl, hb⟩; refine ⟨_, rfl, ?_⟩; have n0_ := Aside0.mk (below_step (by repeat (first | (with_reducible first | exact HB.out | apply below_alloc | apply pw_below_drewN | apply below_drew1) | exact HB.out)) hb); clear HB; have HB := n0_; clear n0_; (try clear hb); (try clear hb2); (try clear hk); (try clear hi)))
      go_ret
      exact ⟨by first | rfl | (simp [errW_none, errW_some] <;> rfl) | (simp [*, errW_none, errW_some] <;> rfl), by repeat (first | (with_reducible first | exact HB.out | apply below_alloc | apply pw_below_drewN | apply below_drew1) | exact HB.out)⟩
end Go.Proofs.YtplbjaandkdhjaaDoor.PC
