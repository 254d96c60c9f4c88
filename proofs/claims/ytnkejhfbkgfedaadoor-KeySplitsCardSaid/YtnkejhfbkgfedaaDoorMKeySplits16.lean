-- Written by a program of this session (wip/merge.py): the texts of this claim, joined.
import Derived.Laws.Entries
import Derived.Test.YtnkejhfbkgfedaaDoorMKeySplits1
import Derived.Test.YtnkejhfbkgfedaaDoorMKeySplits2
import Derived.Test.YtnkejhfbkgfedaaDoorMKeySplits3
import Derived.Test.YtnkejhfbkgfedaaDoorMKeySplits4
import Derived.Test.YtnkejhfbkgfedaaDoorMKeySplits5
import Derived.Test.YtnkejhfbkgfedaaDoorMKeySplits6
import Derived.Test.YtnkejhfbkgfedaaDoorMKeySplits7
import Derived.Test.YtnkejhfbkgfedaaDoorMKeySplits8
import Derived.Test.YtnkejhfbkgfedaaDoorMKeySplits9
import Derived.Test.YtnkejhfbkgfedaaDoorMKeySplits15
namespace Go.Proofs.YtnkejhfbkgfedaaDoor.PA
end Go.Proofs.YtnkejhfbkgfedaaDoor.PA
namespace Go.Proofs.YtnkejhfbkgfedaaDoor.PB
end Go.Proofs.YtnkejhfbkgfedaaDoor.PB
namespace Go.Proofs.YtnkejhfbkgfedaaDoor.PC
end Go.Proofs.YtnkejhfbkgfedaaDoor.PC
namespace Go.Proofs.YtnkejhfbkgfedaaDoor.H1
end Go.Proofs.YtnkejhfbkgfedaaDoor.H1
namespace Go.Proofs.YtnkejhfbkgfedaaDoor.L1
end Go.Proofs.YtnkejhfbkgfedaaDoor.L1
namespace Go.Proofs.YtnkejhfbkgfedaaDoor.PA
open Go.RowKit Go.Proofs.YtnkejhfbkgfedaaDoorW.PrintWords Go.Proofs.YtnkejhfbkgfedaaDoorW.PrintLast Go.Proofs.YtnkejhfbkgfedaaDoorW.PrintMore
attribute [local go_sem] max2_int min2_int max_two min_two max_three min_three max_four min_four   -- for this text's walks alone
set_option linter.unusedVariables false
set_option linter.unusedSimpArgs false
mutual
def cabinetryref09_text.l0 : Nat → ByteArray → List Int → Int → Option (Int × Int × ByteArray × Int)
 | 0, _, _, _ => none
 | k + 1, x0, x4, x5 => if x5 < (x0.size : Int) then (if 0 ≤ x5 then (if (bt x0 x5) = 0 then (if (wrap64 (x5 + 1)) = (x0.size : Int) then (cabinetryref09_text.j1 k x0 x4 (wrap64 (x5 + 1)) true) else (if 0 ≤ (wrap64 (x5 + 1)) then (if (wrap64 (x5 + 1)) < (x0.size : Int) then (if (bt x0 (wrap64 (x5 + 1))) > 1 then (cabinetryref09_text.j1 k x0 x4 (wrap64 (x5 + 1)) true) else (cabinetryref09_text.j1 k x0 x4 (wrap64 (x5 + 1)) (decide ((x4.length : Int) > 48)))) else (none)) else (none))) else (if x4.length < 140737488355328 then (cabinetryref09_text.l0 k x0 (x4 ++ [bt x0 x5]) (wrap64 (x5 + 1))) else (none))) else (none)) else (some (0, 0, (⟨#[]⟩ : ByteArray), 0))
def cabinetryref09_text.j1 : Nat → ByteArray → List Int → Int → Bool → Option (Int × Int × ByteArray × Int)
 | 0, _, _, _, _ => none
 | k + 1, x0, x4, x5, x24 => if x24 = true then (some (0, 0, (⟨#[]⟩ : ByteArray), 0)) else (if 0 ≤ x5 then (if x5 < (x0.size : Int) then (if (bt x0 x5) = 0 then ((cabinetryref01_Text.f (strOfNums x4)).bind fun bt478 => (some (bt478.1, bt478.2.1, bt478.2.2, wrap64 (x5 + 1)))) else (if x4.length < 140737488355328 then (cabinetryref09_text.l0 k x0 (x4 ++ [0]) (wrap64 (x5 + 1))) else (none))) else (none)) else (none))
end
def cabinetryref09_text.f (k : Nat) (a0 : ByteArray) : Option (Int × Int × ByteArray × Int) := cabinetryref09_text.l0 k a0 ([] : List Int) 1
set_option maxHeartbeats 8000000 in
set_option maxRecDepth 100000 in
theorem cabinetryref09_text.calls (k : Nat) (a0 : ByteArray) (r1 : Int) (r2 : Int) (r3 : ByteArray) (r4 : Int) (w : World) (h : cabinetryref09_text.f k a0 = some (r1, r2, r3, r4)) :
  Calls Tryd.prog 87 #[.string a0] w fun e w' => e = .returned (.tuple #[.agg #[.int .i64 r1, .int .i64 r2, .string r3], .int .i64 r4]) ∧ Below w.heap.size w w' := by
 have hu23 := Tryd.underlying23
 have HB := Aside0.mk (Below.refl w.heap.size w)
 have H : (cabinetryref09_text.l0 k a0 ([] : List Int) 1) = some (r1, r2, r3, r4) := h
 clear h
 have H' := Aside0.mk H
 clear H
 go_enter Tryd.func87, Tryd.ntmps87
 go_wp2_with (first | ((with_reducible refine gate_dst (N := 2) rfl ?_); (try (refine gate_guard (by rfl) ?_; dsimp only)); refine box_event ?hg (N := 2) ?hd (cs := #[.int .i64 0, .int .i64 0, .string (⟨#[]⟩ : ByteArray)]) (t := 23) ?hr ?_; (case hd => rfl); (case hg => rfl); (case hr => first | (go_simp; done) | (go_simp; rfl)); intro gb474 hg w2 hbox hb; have n0_ := Aside0.mk (below_step (by repeat (first | (with_reducible first | exact HB.out | apply below_alloc | apply pw_below_drewN | apply below_drew1) | exact HB.out)) hb); have n1_ := Aside0.mk (hbox); have n2_ := Aside0.mk ((by rw [hg]; exact (below_size (by repeat (first | (with_reducible first | exact HB.out | apply below_alloc | apply pw_below_drewN | apply below_drew1) | exact HB.out))) : w.heap.size ≤ gb474)); have n3_ := Aside0.mk ((by rw [hg]; exact (below_size (by repeat (first | (with_reducible first | exact HB.out | apply below_alloc | apply pw_below_drewN | apply below_drew1) | exact HB.out))) : w.heap.size ≤ gb474)); clear HB; have HB := n0_; have BK474 := n1_; have GW474 := n2_; have GE474 := n3_; clear n0_ n1_ n2_ n3_; clear hb hbox hg))
 go_loopg [4, 5] k (fun kq v4 v5 w' => ∃ (x4_1 : List Int) (x5_1 : Int) (x475000_1 : Int) (x475001_1 : Int) (x475002_1 : ByteArray), v5 = .int .i64 x5_1 ∧ Aside0 (cabinetryref09_text.l0 kq a0 x4_1 x5_1 = some (r1, r2, r3, r4)) ∧ Aside0 (kq ≤ k) ∧ Aside0 (Kd.R (Kd.int .u8) 5 w' w.heap.size (fun _ => True) v4 x4_1) ∧ Aside0 (w'.heap[gb474]? = some (.cells #[.int .i64 x475000_1, .int .i64 x475001_1, .string x475002_1] 23 (0, 0))) ∧ Aside0 (Below w.heap.size w w'))
 case atStart => exact ⟨(([] : List Int)), (1), (0), (0), ((⟨#[]⟩ : ByteArray)), (by first | rfl | (simp; done) | (simp [*]; done)), H', ⟨Nat.le_refl _⟩, ⟨by first | exact Kd.R_nil _ _ _ _ _ | exact Kd.N_nil _ _ _ _ _ | exact Kd.V_nil _ _ _ _ _ | exact Kd.Q_nil _ _ _ _ _ | exact Kd.S_nil _ _ _ _ _⟩, ⟨by (with_reducible repeat (first | refine blk_drewN ?_ _ | refine blk_drew ?_ | refine blk_alloc ?_ _)); exact BK474.out⟩, ⟨by repeat (first | (with_reducible first | exact HB.out | apply below_alloc | apply pw_below_drewN | apply below_drew1 | refine below_set ?_ GE474.out) | exact HB.out)⟩⟩
 case round =>
  clear H'
  try clear p2
  obtain ⟨x4_1, x5_1, x475000_1, x475001_1, x475002_1, rfl, HA, HK1, HO_4, BK474, HB⟩ := hrel
  cases gk with
  | zero => exact absurd HA.out (by simp [cabinetryref09_text.l0])
  | succ k1 =>
   have H := HA.out
   clear HA
   simp only [cabinetryref09_text.l0] at H
   by_cases c3 : x5_1 < (a0.size : Int)
   ·rw [if_pos c3] at H
    have c3b0 : decide (x5_1 < (a0.size : Int)) = true := decide_eq_true c3
    clear c3
    by_cases c4 : 0 ≤ x5_1
    ·rw [if_pos c4] at H
     have c4b0 : decide (0 ≤ x5_1) = true := decide_eq_true c4
     clear c4
     by_cases c6 : (bt a0 x5_1) = 0
     ·rw [if_pos c6] at H
      have c6b0 : ((bt a0 x5_1) == 0) = true := beq_iff_eq.mpr c6
      have c6b1 : ((bt a0 x5_1) != 0) = false := bne_eq_false_iff_eq.mpr c6
      clear c6
      have HC7 := Aside0.mk H
      clear H
      have p5 : 0 ≤ (x5_1 : Int) := of_decide_eq_true (by first | (with_reducible assumption) | assumption)
      have q5 : x5_1 < (a0.size : Int) := of_decide_eq_true (by first | (with_reducible assumption) | assumption)
      have hx5 := bt_at a0 x5_1
      replace p5 := eq_true p5
      replace q5 := eq_true q5
      go_upto_region 8 with (fail)
      go_cut [24] (fun v24 wc => ∃ (kq : Nat) (x24_6 : Bool), v24 = .bool x24_6 ∧ Aside0 (cabinetryref09_text.j1 kq a0 x4_1 (wrap64 (x5_1 + 1)) x24_6 = some (r1, r2, r3, r4)) ∧ Aside0 (kq ≤ k1) ∧ Aside0 (Kd.R (Kd.int .u8) 5 wc w.heap.size (fun _ => True) u4 x4_1) ∧ Aside0 (wc.heap[gb474]? = some (.cells #[.int .i64 x475000_1, .int .i64 x475001_1, .string x475002_1] 23 (0, 0))) ∧ Aside0 (Below w.heap.size w wc))
      case first =>
       have H := HC7.out
       clear HC7
       by_cases c8 : (wrap64 (x5_1 + 1)) = (a0.size : Int)
       ·rw [if_pos c8] at H
        have c8b0 : ((wrap64 (x5_1 + 1)) == (a0.size : Int)) = true := beq_iff_eq.mpr c8
        have c8b1 : ((wrap64 (x5_1 + 1)) != (a0.size : Int)) = false := bne_eq_false_iff_eq.mpr c8
        clear c8
        (first | rw [c8b0] | (simp only [i64_w, i32_w]; rw [c8b0]) | skip)
        have H' := Aside0.mk H
        clear H
        go_wp2
        go_meet
        case rel => exact ⟨_, (true), (by first | rfl | (simp; done) | (simp [*]; done)), H', ⟨by have := HK1.out; first | omega | exact Nat.le_refl _⟩, ⟨by (with_reducible repeat (first | apply Kd.R_alloc | apply Kd.R_drewN | apply Kd.R_drew)); exact HO_4.out⟩, ⟨by (with_reducible repeat (first | refine blk_drewN ?_ _ | refine blk_drew ?_ | refine blk_alloc ?_ _)); exact BK474.out⟩, ⟨by repeat (first | (with_reducible first | exact HB.out | apply below_alloc | apply pw_below_drewN | apply below_drew1 | refine below_set ?_ GE474.out) | exact HB.out)⟩⟩
       ·rw [if_neg c8] at H
        have c8b0 : ((wrap64 (x5_1 + 1)) == (a0.size : Int)) = false := beq_eq_false_iff_ne.mpr c8
        have c8b1 : ((wrap64 (x5_1 + 1)) != (a0.size : Int)) = true := bne_iff_ne.mpr c8
        (first | rw [c8b0] | (simp only [i64_w, i32_w]; rw [c8b0]) | skip)
        obtain ⟨ji9, hji9⟩ : ∃ j_ : Int, (wrap64 (x5_1 + 1)) = j_ := ⟨_, rfl⟩
        replace H : (if 0 ≤ (ji9) then (if (ji9) < (a0.size : Int) then (if (bt a0 (ji9)) > 1 then (cabinetryref09_text.j1 k1 a0 x4_1 ji9 true) else (cabinetryref09_text.j1 k1 a0 x4_1 ji9 (decide ((x4_1.length : Int) > 48)))) else (none)) else (none)) = some (r1, r2, r3, r4) := by first | (rw [hji9] at H; exact H) | (simp only [hji9] at H ⊢; exact H)
        (try rw [hji9] at c8b0)
        (try rw [hji9] at c8b1)
        have hji9w : (IntKind.i64.wrap (x5_1 + 1)) = ji9 := (i64_w _).trans hji9
        by_cases c10 : 0 ≤ (ji9)
        ·rw [if_pos c10] at H
         have c10b0 : decide (0 ≤ (ji9)) = true := decide_eq_true c10
         clear c10
         by_cases c11 : (ji9) < (a0.size : Int)
         ·rw [if_pos c11] at H
          have c11b0 : decide ((ji9) < (a0.size : Int)) = true := decide_eq_true c11
          clear c11
          by_cases c13 : (bt a0 (ji9)) > 1
          ·rw [if_pos c13] at H
           have c13b0 : decide (1 < (bt a0 (ji9))) = true := decide_eq_true c13
           clear c13
           have H' := Aside0.mk H
           clear H
           have p12 : 0 ≤ ((ji9) : Int) := of_decide_eq_true (by first | (with_reducible assumption) | assumption)
           have q12 : (ji9) < (a0.size : Int) := of_decide_eq_true (by first | (with_reducible assumption) | assumption)
           have hx12 := bt_at a0 (ji9)
           replace p12 := eq_true p12
           replace q12 := eq_true q12
           go_wp2
           go_meet
           case rel => exact ⟨_, (true), (by first | rfl | (simp; done) | (simp [*]; done)), (by first | exact H' | (rw [hji9]; exact H')), ⟨by have := HK1.out; first | omega | exact Nat.le_refl _⟩, ⟨by (with_reducible repeat (first | apply Kd.R_alloc | apply Kd.R_drewN | apply Kd.R_drew)); exact HO_4.out⟩, ⟨by (with_reducible repeat (first | refine blk_drewN ?_ _ | refine blk_drew ?_ | refine blk_alloc ?_ _)); exact BK474.out⟩, ⟨by repeat (first | (with_reducible first | exact HB.out | apply below_alloc | apply pw_below_drewN | apply below_drew1 | refine below_set ?_ GE474.out) | exact HB.out)⟩⟩
          ·rw [if_neg c13] at H
           have c13b0 : decide (1 < (bt a0 (ji9))) = false := decide_eq_false c13
           clear c13
           have H' := Aside0.mk H
           clear H
           have p12 : 0 ≤ ((ji9) : Int) := of_decide_eq_true (by first | (with_reducible assumption) | assumption)
           have q12 : (ji9) < (a0.size : Int) := of_decide_eq_true (by first | (with_reducible assumption) | assumption)
           have hx12 := bt_at a0 (ji9)
           replace p12 := eq_true p12
           replace q12 := eq_true q12
           obtain ⟨Ao14, co14, eo14⟩ := Kd.R_slice HO_4.out
           subst eo14
           go_wp2
           go_meet
           case rel => exact ⟨_, (decide ((x4_1.length : Int) > 48)), (by first | rfl | (simp; done) | (simp [*]; done)), (by first | exact H' | (rw [hji9]; exact H')), ⟨by have := HK1.out; first | omega | exact Nat.le_refl _⟩, ⟨by (with_reducible repeat (first | apply Kd.R_alloc | apply Kd.R_drewN | apply Kd.R_drew)); exact HO_4.out⟩, ⟨by (with_reducible repeat (first | refine blk_drewN ?_ _ | refine blk_drew ?_ | refine blk_alloc ?_ _)); exact BK474.out⟩, ⟨by repeat (first | (with_reducible first | exact HB.out | apply below_alloc | apply pw_below_drewN | apply below_drew1 | refine below_set ?_ GE474.out) | exact HB.out)⟩⟩
         ·rw [if_neg c11] at H
          exact absurd H (by simp)
        ·rw [if_neg c10] at H
         exact absurd H (by simp)
      case rest =>
       clear HC7
       try clear c1; try clear p1; try clear q1; try clear hx1; try clear p2; try clear c3; try clear c3b0; try clear c4; try clear c4b0; try clear p5; try clear q5; try clear hx5; try clear c6; try clear c6b0; try clear c6b1; try clear p6; try clear c8; try clear c8b0; try clear c8b1; try clear c10; try clear c10b0; try clear c11; try clear c11b0; try clear p12; try clear q12; try clear hx12; try clear c13; try clear c13b0; try clear p12; try clear p2; try clear p5; try clear q12; try clear q5
       obtain ⟨kq, x24_6, rfl, HA, HJ6, HO_4, BK474, HB⟩ := hcut
       cases kq with
       | zero => exact absurd HA.out (by simp [cabinetryref09_text.j1])
       | succ kj6 =>
        have H := HA.out
        clear HA
        simp only [cabinetryref09_text.j1] at H
        by_cases c15 : x24_6 = true
        ·subst c15
         have H1 : (some (0, 0, (⟨#[]⟩ : ByteArray), 0)) = some (r1, r2, r3, r4) := by rw [if_pos rfl] at H; exact H
         clear H
         have H := H1
         clear H1
         simp only [Option.some.injEq, Prod.mk.injEq] at H
         obtain ⟨rfl, rfl, rfl, rfl⟩ := H
         have hcz16_0 : wc.cell? ⟨gb474, 0, none⟩ = some (.int .i64 x475000_1) := (blk_cell BK474.out 0).trans rfl
         have hcz16_1 : wc.cell? ⟨gb474, 1, none⟩ = some (.int .i64 x475001_1) := (blk_cell BK474.out 1).trans rfl
         have hcz16_2 : wc.cell? ⟨gb474, 2, none⟩ = some (.string x475002_1) := (blk_cell BK474.out 2).trans rfl
         have hfz16_0 := blk_frozen BK474.out 0
         have hfz16_1 := blk_frozen BK474.out 1
         have hfz16_2 := blk_frozen BK474.out 2
         go_wp2
         refine bodyPost_ret (results_ct rfl _ _ gb474 23 #[.int .i64 0, .int .i64 0, .string (⟨#[]⟩ : ByteArray)] (0, 0) _ rfl (by (with_reducible repeat (first | refine blk_drewN ?_ _ | refine blk_drew ?_ | refine blk_alloc ?_ _)); refine blk_put (cs := #[.int .i64 0, .int .i64 0, .string x475002_1]) ?_ 2 _ rfl; (with_reducible repeat (first | refine blk_drewN ?_ _ | refine blk_drew ?_ | refine blk_alloc ?_ _)); refine blk_put (cs := #[.int .i64 0, .int .i64 x475001_1, .string x475002_1]) ?_ 1 _ rfl; (with_reducible repeat (first | refine blk_drewN ?_ _ | refine blk_drew ?_ | refine blk_alloc ?_ _)); refine blk_put (cs := #[.int .i64 x475000_1, .int .i64 x475001_1, .string x475002_1]) ?_ 0 _ rfl; (with_reducible repeat (first | refine blk_drewN ?_ _ | refine blk_drew ?_ | refine blk_alloc ?_ _)); exact BK474.out) Tryd.underlying23 rfl (by kernel_rfl)) rfl ?_
         exact ⟨by first | rfl | (simp [errW_none, errW_some] <;> rfl) | (simp [*, errW_none, errW_some] <;> rfl), by repeat (first | (with_reducible first | exact HB.out | apply below_alloc | apply pw_below_drewN | apply below_drew1 | refine below_set ?_ GE474.out) | exact HB.out)⟩
        ·replace c15 := Bool.eq_false_iff.mpr c15
         subst c15
         have H1 : (if 0 ≤ (wrap64 (x5_1 + 1)) then (if (wrap64 (x5_1 + 1)) < (a0.size : Int) then (if (bt a0 (wrap64 (x5_1 + 1))) = 0 then ((cabinetryref01_Text.f (strOfNums x4_1)).bind fun bt478 => (some (bt478.1, bt478.2.1, bt478.2.2, wrap64 ((wrap64 (x5_1 + 1)) + 1)))) else (if x4_1.length < 140737488355328 then (cabinetryref09_text.l0 kj6 a0 (x4_1 ++ [0]) (wrap64 ((wrap64 (x5_1 + 1)) + 1))) else (none))) else (none)) else (none)) = some (r1, r2, r3, r4) := by rw [if_neg (show ¬ (false = true) by decide)] at H; exact H
         clear H
         have H := H1
         clear H1
         obtain ⟨ji17, hji17⟩ : ∃ j_ : Int, (wrap64 (x5_1 + 1)) = j_ := ⟨_, rfl⟩
         replace H : (if 0 ≤ (ji17) then (if (ji17) < (a0.size : Int) then (if (bt a0 (ji17)) = 0 then ((cabinetryref01_Text.f (strOfNums x4_1)).bind fun bt478 => (some (bt478.1, bt478.2.1, bt478.2.2, wrap64 ((ji17) + 1)))) else (if x4_1.length < 140737488355328 then (cabinetryref09_text.l0 kj6 a0 (x4_1 ++ [0]) (wrap64 ((ji17) + 1))) else (none))) else (none)) else (none)) = some (r1, r2, r3, r4) := by first | (rw [hji17] at H; exact H) | (simp only [hji17] at H ⊢; exact H)
         have hji17w : (IntKind.i64.wrap (x5_1 + 1)) = ji17 := (i64_w _).trans hji17
         by_cases c18 : 0 ≤ (ji17)
         ·rw [if_pos c18] at H
          have c18b0 : decide (0 ≤ (ji17)) = true := decide_eq_true c18
          clear c18
          by_cases c19 : (ji17) < (a0.size : Int)
          ·rw [if_pos c19] at H
           have c19b0 : decide ((ji17) < (a0.size : Int)) = true := decide_eq_true c19
           clear c19
           by_cases c21 : (bt a0 (ji17)) = 0
           ·rw [if_pos c21] at H
            have c21b0 : ((bt a0 (ji17)) == 0) = true := beq_iff_eq.mpr c21
            have c21b1 : ((bt a0 (ji17)) != 0) = false := bne_eq_false_iff_eq.mpr c21
            clear c21
            replace H := Option.bind_eq_some_iff.mp H
            obtain ⟨⟨t478, t479, t480⟩, A220, H⟩ := H
            replace H : (some (t478, t479, t480, wrap64 ((ji17) + 1))) = some (r1, r2, r3, r4) := H
            have A22 := Aside0.mk A220
            clear A220
            simp only [Option.some.injEq, Prod.mk.injEq] at H
            obtain ⟨rfl, rfl, rfl, rfl⟩ := H
            have p20 : 0 ≤ ((ji17) : Int) := of_decide_eq_true (by first | (with_reducible assumption) | assumption)
            have q20 : (ji17) < (a0.size : Int) := of_decide_eq_true (by first | (with_reducible assumption) | assumption)
            have hx20 := bt_at a0 (ji17)
            replace p20 := eq_true p20
            replace q20 := eq_true q20
            have hcv23 := own_string (P := Tryd.prog) Tryd.underlying62 Tryd.underlying5 Tryd.underlying9 (Kd.own_of_R HO_4.out)
            go_wp2_with (first | ((with_reducible refine gate_callee (f := 38) rfl ?_); refine goesL_ (some 48) rfl rfl Tryd.func38 (by kernel_rfl) rfl #[.string (strOfNums x4_1)] rfl (by (try simp only [List.map_toArray, List.map_cons, List.map_nil]); first | done | rfl | (simp only [List.length_drop, List.length_take]; rfl)) ?_; (with_reducible refine (cabinetryref01_Text.calls (strOfNums x4_1) t478 t479 t480 _ A22.out).mono ?_); rintro e w24 ⟨rfl, hb⟩; refine ⟨_, rfl, ?_⟩; have n0_ := Aside0.mk (Kd.R_below (by (with_reducible repeat (first | apply Kd.R_alloc | apply Kd.R_drewN | apply Kd.R_drew)); exact HO_4.out) hb); have n1_ := Aside0.mk (blk_below (g := gb474) (o := .cells #[.int .i64 x475000_1, .int .i64 x475001_1, .string x475002_1] 23 (0, 0)) (by (with_reducible repeat (first | refine blk_drewN ?_ _ | refine blk_drew ?_ | refine blk_alloc ?_ _)); exact BK474.out) hb); have n2_ := Aside0.mk (below_step (by repeat (first | (with_reducible first | exact HB.out | apply below_alloc | apply pw_below_drewN | apply below_drew1 | refine below_set ?_ GE474.out) | exact HB.out)) hb); clear HO_4; clear BK474; clear HB; have HO_4 := n0_; have BK474 := n1_; have HB := n2_; clear n0_ n1_ n2_; (try clear hb); (try clear hb2); (try clear hk); (try clear hi); have hcz25_0 : w24.cell? ⟨gb474, 0, none⟩ = some (.int .i64 x475000_1) := (blk_cell BK474.out 0).trans rfl; have hcz25_1 : w24.cell? ⟨gb474, 1, none⟩ = some (.int .i64 x475001_1) := (blk_cell BK474.out 1).trans rfl; have hcz25_2 : w24.cell? ⟨gb474, 2, none⟩ = some (.string x475002_1) := (blk_cell BK474.out 2).trans rfl; have hfz25_0 := blk_frozen BK474.out 0; have hfz25_1 := blk_frozen BK474.out 1; have hfz25_2 := blk_frozen BK474.out 2))
            refine bodyPost_ret (results_ct rfl _ _ gb474 23 #[.int .i64 t478, .int .i64 t479, .string t480] (0, 0) _ rfl (by (with_reducible repeat (first | refine blk_drewN ?_ _ | refine blk_drew ?_ | refine blk_alloc ?_ _)); refine blk_put (cs := #[.int .i64 t478, .int .i64 t479, .string x475002_1]) ?_ 2 _ rfl; (with_reducible repeat (first | refine blk_drewN ?_ _ | refine blk_drew ?_ | refine blk_alloc ?_ _)); refine blk_put (cs := #[.int .i64 t478, .int .i64 x475001_1, .string x475002_1]) ?_ 1 _ rfl; (with_reducible repeat (first | refine blk_drewN ?_ _ | refine blk_drew ?_ | refine blk_alloc ?_ _)); refine blk_put (cs := #[.int .i64 x475000_1, .int .i64 x475001_1, .string x475002_1]) ?_ 0 _ rfl; (with_reducible repeat (first | refine blk_drewN ?_ _ | refine blk_drew ?_ | refine blk_alloc ?_ _)); exact BK474.out) Tryd.underlying23 rfl (by kernel_rfl)) rfl ?_
            exact ⟨by first | rfl | (simp [errW_none, errW_some] <;> rfl) | (simp only [← hji17]; first | rfl | (simp [errW_none, errW_some] <;> rfl)) | (simp [*, errW_none, errW_some] <;> rfl), by repeat (first | (with_reducible first | exact HB.out | apply below_alloc | apply pw_below_drewN | apply below_drew1 | refine below_set ?_ GE474.out) | exact HB.out)⟩
           ·rw [if_neg c21] at H
            have c21b0 : ((bt a0 (ji17)) == 0) = false := beq_eq_false_iff_ne.mpr c21
            have c21b1 : ((bt a0 (ji17)) != 0) = true := bne_iff_ne.mpr c21
            by_cases c26 : x4_1.length < 140737488355328
            ·rw [if_pos c26] at H
             have LMc26 := Aside0.mk c26
             clear c26
             obtain ⟨y481, hy481⟩ : ∃ y_ : List Int, y_ = (x4_1 ++ [0]) := ⟨_, rfl⟩
             replace H : (cabinetryref09_text.l0 kj6 a0 y481 (wrap64 ((ji17) + 1))) = some (r1, r2, r3, r4) := by first | (rw [hy481]; with_reducible exact H) | (have H2_ := (Option.bind_some _ _).symm.trans H; rw [hy481]; with_reducible exact H2_) | (have H2_ := (Option.bind_some _ _).symm.trans H; with_reducible exact H2_) | with_reducible exact H | (rw [hy481]; exact H) | exact H
             have Ny481 := Aside0.mk hy481
             clear hy481
             have H' := Aside0.mk H
             clear H
             have p20 : 0 ≤ ((ji17) : Int) := of_decide_eq_true (by first | (with_reducible assumption) | assumption)
             have q20 : (ji17) < (a0.size : Int) := of_decide_eq_true (by first | (with_reducible assumption) | assumption)
             have hx20 := bt_at a0 (ji17)
             replace p20 := eq_true p20
             replace q20 := eq_true q20
             go_wp2_with (first | ((with_reducible refine gate_builtin (b := .append) (xs := #[.tmp 51, .tmp 52]) rfl ?_); (try (refine gate_guard (by rfl) ?_; dsimp only)); at_builtin; refine Kd.R_append (Kd.int .u8) (w0 := w) w.heap.size rfl (.tmp 51) (.tmp 52) 62 5 (.int .u8 0) 1 rfl Tryd.underlying62 info5 rfl (by decide) (by omega) u4 x4_1 0 [.int .u8 0] (fun _ => True) (fun _ => False) rfl rfl ?aP (fun _ hk => hk.elim) ?aF ?aO ?aB ?aS ?aL ?_; (case aP => exact rfl); (case aB => exact (by repeat (first | (with_reducible first | exact HB.out | apply below_alloc | apply pw_below_drewN | apply below_drew1 | refine below_set ?_ GE474.out) | exact HB.out))); (case aF => exact (fun _ _ => trivial)); (case aO => exact (by (with_reducible repeat (first | apply Kd.R_alloc | apply Kd.R_drewN | apply Kd.R_drew)); exact HO_4.out)); (case aS => exact (below_size (by repeat (first | (with_reducible first | exact HB.out | apply below_alloc | apply pw_below_drewN | apply below_drew1 | refine below_set ?_ GE474.out) | exact HB.out)))); (case aL => have := LMc26.out; omega); intro v482 w27 ho hb hg hat; rw [← Ny481.out] at ho; have n0_ := Aside0.mk (blk_grown (g := gb474) (o := .cells #[.int .i64 x475000_1, .int .i64 x475001_1, .string x475002_1] 23 (0, 0)) (by (with_reducible repeat (first | refine blk_drewN ?_ _ | refine blk_drew ?_ | refine blk_alloc ?_ _)); exact BK474.out) hg (Kd.R_ne HO_4.out BK474.out (by decide))); have n1_ := Aside0.mk (hb); have n2_ := Aside0.mk (ho); clear BK474; clear HB; clear HO_4; have BK474 := n0_; have HB := n1_; have HO483 := n2_; clear n0_ n1_ n2_; clear ho hb hg hat))
             go_roundg kj6
             case measure => have := HK1.out; have := HJ6.out; omega
             case rel => exact ⟨(y481), (wrap64 ((ji17) + 1)), (x475000_1), (x475001_1), (x475002_1), (by first | rfl | (simp; done) | (simp only [← hji17] <;> (first | rfl | simp)) | (simp [*]; done)), H', ⟨by have := HK1.out; have := HJ6.out; omega⟩, ⟨by (with_reducible repeat (first | apply Kd.R_alloc | apply Kd.R_drewN | apply Kd.R_drew)); exact HO483.out⟩, ⟨by (with_reducible repeat (first | refine blk_drewN ?_ _ | refine blk_drew ?_ | refine blk_alloc ?_ _)); exact BK474.out⟩, ⟨by repeat (first | (with_reducible first | exact HB.out | apply below_alloc | apply pw_below_drewN | apply below_drew1 | refine below_set ?_ GE474.out) | exact HB.out)⟩⟩
            ·rw [if_neg c26] at H
             exact absurd H (by simp)
          ·rw [if_neg c19] at H
           exact absurd H (by simp)
         ·rw [if_neg c18] at H
          exact absurd H (by simp)
     ·rw [if_neg c6] at H
      have c6b0 : ((bt a0 x5_1) == 0) = false := beq_eq_false_iff_ne.mpr c6
      have c6b1 : ((bt a0 x5_1) != 0) = true := bne_iff_ne.mpr c6
      by_cases c29 : x4_1.length < 140737488355328
      ·rw [if_pos c29] at H
       have LMc29 := Aside0.mk c29
       clear c29
       obtain ⟨y475, hy475⟩ : ∃ y_ : List Int, y_ = (x4_1 ++ [bt a0 x5_1]) := ⟨_, rfl⟩
       replace H : (cabinetryref09_text.l0 k1 a0 y475 (wrap64 (x5_1 + 1))) = some (r1, r2, r3, r4) := by first | (rw [hy475]; with_reducible exact H) | (have H2_ := (Option.bind_some _ _).symm.trans H; rw [hy475]; with_reducible exact H2_) | (have H2_ := (Option.bind_some _ _).symm.trans H; with_reducible exact H2_) | with_reducible exact H | (rw [hy475]; exact H) | exact H
       have Ny475 := Aside0.mk hy475
       clear hy475
       have H' := Aside0.mk H
       clear H
       have p5 : 0 ≤ (x5_1 : Int) := of_decide_eq_true (by first | (with_reducible assumption) | assumption)
       have q5 : x5_1 < (a0.size : Int) := of_decide_eq_true (by first | (with_reducible assumption) | assumption)
       have hx5 := bt_at a0 x5_1
       replace p5 := eq_true p5
       replace q5 := eq_true q5
       have p28 : 0 ≤ (x5_1 : Int) := of_decide_eq_true (by first | (with_reducible assumption) | assumption)
       have q28 : x5_1 < (a0.size : Int) := of_decide_eq_true (by first | (with_reducible assumption) | assumption)
       have hx28 := bt_at a0 x5_1
       replace p28 := eq_true p28
       replace q28 := eq_true q28
       go_wp2_with (first | ((with_reducible refine gate_builtin (b := .append) (xs := #[.tmp 16, .tmp 20]) rfl ?_); (try (refine gate_guard (by rfl) ?_; dsimp only)); at_builtin; refine Kd.R_append (Kd.int .u8) (w0 := w) w.heap.size rfl (.tmp 16) (.tmp 20) 62 5 (.int .u8 0) 1 rfl Tryd.underlying62 info5 rfl (by decide) (by omega) u4 x4_1 (bt a0 x5_1) [.int .u8 (bt a0 x5_1)] (fun _ => True) (fun _ => False) rfl rfl ?aP (fun _ hk => hk.elim) ?aF ?aO ?aB ?aS ?aL ?_; (case aP => exact rfl); (case aB => exact (by repeat (first | (with_reducible first | exact HB.out | apply below_alloc | apply pw_below_drewN | apply below_drew1 | refine below_set ?_ GE474.out) | exact HB.out))); (case aF => exact (fun _ _ => trivial)); (case aO => exact (by (with_reducible repeat (first | apply Kd.R_alloc | apply Kd.R_drewN | apply Kd.R_drew)); exact HO_4.out)); (case aS => exact (below_size (by repeat (first | (with_reducible first | exact HB.out | apply below_alloc | apply pw_below_drewN | apply below_drew1 | refine below_set ?_ GE474.out) | exact HB.out)))); (case aL => have := LMc29.out; omega); intro v476 w30 ho hb hg hat; rw [← Ny475.out] at ho; have n0_ := Aside0.mk (blk_grown (g := gb474) (o := .cells #[.int .i64 x475000_1, .int .i64 x475001_1, .string x475002_1] 23 (0, 0)) (by (with_reducible repeat (first | refine blk_drewN ?_ _ | refine blk_drew ?_ | refine blk_alloc ?_ _)); exact BK474.out) hg (Kd.R_ne HO_4.out BK474.out (by decide))); have n1_ := Aside0.mk (hb); have n2_ := Aside0.mk (ho); clear BK474; clear HB; clear HO_4; have BK474 := n0_; have HB := n1_; have HO477 := n2_; clear n0_ n1_ n2_; clear ho hb hg hat))
       go_roundg k1
       case measure => have := HK1.out; omega
       case rel => exact ⟨(y475), (wrap64 (x5_1 + 1)), (x475000_1), (x475001_1), (x475002_1), (by first | rfl | (simp; done) | (simp [*]; done)), H', ⟨by have := HK1.out; omega⟩, ⟨by (with_reducible repeat (first | apply Kd.R_alloc | apply Kd.R_drewN | apply Kd.R_drew)); exact HO477.out⟩, ⟨by (with_reducible repeat (first | refine blk_drewN ?_ _ | refine blk_drew ?_ | refine blk_alloc ?_ _)); exact BK474.out⟩, ⟨by repeat (first | (with_reducible first | exact HB.out | apply below_alloc | apply pw_below_drewN | apply below_drew1 | refine below_set ?_ GE474.out) | exact HB.out)⟩⟩
      ·rw [if_neg c29] at H
       exact absurd H (by simp)
    ·rw [if_neg c4] at H
     exact absurd H (by simp)
   ·rw [if_neg c3] at H
    have c3b0 : decide (x5_1 < (a0.size : Int)) = false := decide_eq_false c3
    clear c3
    simp only [Option.some.injEq, Prod.mk.injEq] at H
    obtain ⟨rfl, rfl, rfl, rfl⟩ := H
    have hcz31_0 : wr.cell? ⟨gb474, 0, none⟩ = some (.int .i64 x475000_1) := (blk_cell BK474.out 0).trans rfl
    have hcz31_1 : wr.cell? ⟨gb474, 1, none⟩ = some (.int .i64 x475001_1) := (blk_cell BK474.out 1).trans rfl
    have hcz31_2 : wr.cell? ⟨gb474, 2, none⟩ = some (.string x475002_1) := (blk_cell BK474.out 2).trans rfl
    have hfz31_0 := blk_frozen BK474.out 0
    have hfz31_1 := blk_frozen BK474.out 1
    have hfz31_2 := blk_frozen BK474.out 2
    go_wp2
    refine bodyPost_ret (results_ct rfl _ _ gb474 23 #[.int .i64 0, .int .i64 0, .string (⟨#[]⟩ : ByteArray)] (0, 0) _ rfl (by (with_reducible repeat (first | refine blk_drewN ?_ _ | refine blk_drew ?_ | refine blk_alloc ?_ _)); refine blk_put (cs := #[.int .i64 0, .int .i64 0, .string x475002_1]) ?_ 2 _ rfl; (with_reducible repeat (first | refine blk_drewN ?_ _ | refine blk_drew ?_ | refine blk_alloc ?_ _)); refine blk_put (cs := #[.int .i64 0, .int .i64 x475001_1, .string x475002_1]) ?_ 1 _ rfl; (with_reducible repeat (first | refine blk_drewN ?_ _ | refine blk_drew ?_ | refine blk_alloc ?_ _)); refine blk_put (cs := #[.int .i64 x475000_1, .int .i64 x475001_1, .string x475002_1]) ?_ 0 _ rfl; (with_reducible repeat (first | refine blk_drewN ?_ _ | refine blk_drew ?_ | refine blk_alloc ?_ _)); exact BK474.out) Tryd.underlying23 rfl (by kernel_rfl)) rfl ?_
    exact ⟨by first | rfl | (simp [errW_none, errW_some] <;> rfl) | (simp [*, errW_none, errW_some] <;> rfl), by repeat (first | (with_reducible first | exact HB.out | apply below_alloc | apply pw_below_drewN | apply below_drew1 | refine below_set ?_ GE474.out) | exact HB.out)⟩
end Go.Proofs.YtnkejhfbkgfedaaDoor.PA
namespace Go.Proofs.YtnkejhfbkgfedaaDoor.PA
open Go.RowKit Go.Proofs.YtnkejhfbkgfedaaDoorW.PrintWords Go.Proofs.YtnkejhfbkgfedaaDoorW.PrintLast Go.Proofs.YtnkejhfbkgfedaaDoorW.PrintMore
attribute [local go_sem] max2_int min2_int max_two min_two max_three min_three max_four min_four   -- for this text's walks alone
set_option linter.unusedVariables false
set_option linter.unusedSimpArgs false
def cabinetryref09_read.l0 : Nat → ByteArray → Int → Int → Option (Int)
 | 0, _, _, _ => none
 | k + 1, x0, x3, x4 => if x4 < (x0.size : Int) then (if 0 ≤ x4 then (cabinetryref09_read.l0 k x0 (wrap64 ((wrap64 (256 * x3)) + (wrap64 (bt x0 x4)))) (wrap64 (x4 + 1))) else (none)) else (some x3)
def cabinetryref09_read.f (k : Nat) (a0 : ByteArray) : Option (Int) := cabinetryref09_read.l0 k a0 0 0
set_option maxHeartbeats 8000000 in
set_option maxRecDepth 100000 in
theorem cabinetryref09_read.calls (k : Nat) (a0 : ByteArray) (r : Int) (w : World) (h : cabinetryref09_read.f k a0 = some r) :
  Calls Tryd.prog 88 #[.string a0] w fun e w' => e = .returned (.int .i64 r) ∧ Drawn0 w w' := by
 have H : (cabinetryref09_read.l0 k a0 0 0) = some r := h
 clear h
 have H' := Aside0.mk H
 clear H
 go_enter Tryd.func88, Tryd.ntmps88
 go_wp2
 go_loopg [3, 4] k (fun kq v3 v4 w' => ∃ (x3_1 : Int) (x4_1 : Int), v3 = .int .i64 x3_1 ∧ v4 = .int .i64 x4_1 ∧ Aside0 (cabinetryref09_read.l0 kq a0 x3_1 x4_1 = some r) ∧ Aside0 (kq ≤ k) ∧ Drawn0 w w')
 case atStart => exact ⟨(0), (0), (by first | rfl | (simp; done) | (simp [*]; done)), (by first | rfl | (simp; done) | (simp [*]; done)), H', ⟨Nat.le_refl _⟩, by repeat (first | exact Drawn0.refl _ | apply Drawn0.step)⟩
 case round =>
  clear H'
  obtain ⟨x3_1, x4_1, rfl, rfl, HA, HK1, ⟨m1, rfl⟩⟩ := hrel
  cases gk with
  | zero => exact absurd HA.out (by simp [cabinetryref09_read.l0])
  | succ k1 =>
   have H := HA.out
   clear HA
   simp only [cabinetryref09_read.l0] at H
   by_cases c2 : x4_1 < (a0.size : Int)
   ·rw [if_pos c2] at H
    have c2b0 : decide (x4_1 < (a0.size : Int)) = true := decide_eq_true c2
    clear c2
    by_cases c3 : 0 ≤ x4_1
    ·rw [if_pos c3] at H
     have c3b0 : decide (0 ≤ x4_1) = true := decide_eq_true c3
     clear c3
     have H' := Aside0.mk H
     clear H
     have p4 : 0 ≤ (x4_1 : Int) := of_decide_eq_true (by first | (with_reducible assumption) | assumption)
     have q4 : x4_1 < (a0.size : Int) := of_decide_eq_true (by first | (with_reducible assumption) | assumption)
     have hx4 := bt_at a0 x4_1
     replace p4 := eq_true p4
     replace q4 := eq_true q4
     go_wp2
     go_roundg k1
     case measure => have := HK1.out; omega
     case rel => exact ⟨(wrap64 ((wrap64 (256 * x3_1)) + (wrap64 (bt a0 x4_1)))), (wrap64 (x4_1 + 1)), (by first | rfl | (simp; done) | (simp [*]; done)), (by first | rfl | (simp; done) | (simp [*]; done)), H', ⟨by have := HK1.out; omega⟩, by repeat (first | exact Drawn0.refl _ | apply Drawn0.step)⟩
    ·rw [if_neg c3] at H
     exact absurd H (by simp)
   ·rw [if_neg c2] at H
    have c2b0 : decide (x4_1 < (a0.size : Int)) = false := decide_eq_false c2
    clear c2
    obtain rfl := Option.some.inj H
    simp only [Option.some.injEq, Prod.mk.injEq] at H
    obtain ⟨rfl⟩ := H
    go_wp2
    go_ret
    exact ⟨by first | rfl | (simp; done) | (simp [*]; done), by repeat (first | exact Drawn0.refl _ | apply Drawn0.step)⟩
end Go.Proofs.YtnkejhfbkgfedaaDoor.PA
namespace Go.Proofs.YtnkejhfbkgfedaaDoor.L1
open Go.RowKit Go.Proofs.YtnkejhfbkgfedaaDoorW.PrintWords Go.Proofs.YtnkejhfbkgfedaaDoorW.PrintLast Go.Proofs.YtnkejhfbkgfedaaDoor.PA Go.Proofs.YtnkejhfbkgfedaaDoor.H1 Go.Proofs.YtnkejhfbkgfedaaDoor.PB
set_option linter.unusedVariables false
set_option linter.unusedSimpArgs false
theorem or256 (x y : Int) (hx : x % 256 = 0) (h0 : -9223372036854775808 ≤ x) (h1 : x ≤ 9223372036854775807) (hy0 : 0 ≤ y) (hy1 : y < 256) : Go.bits .or .i64 x y = x + y := by
  unfold Go.bits
  have e1 : (BitVec.ofInt IntKind.i64.bits x).toNat = (x % 18446744073709551616).toNat := BitVec.toNat_ofInt x
  have e2 : (BitVec.ofInt IntKind.i64.bits y).toNat = (y % 18446744073709551616).toNat := BitVec.toNat_ofInt y
  simp only [BitVec.toNat_or, e1, e2]
  obtain ⟨q, hq⟩ : ∃ q : Nat, (x % 18446744073709551616).toNat = q <<< 8 := ⟨(x % 18446744073709551616).toNat / 256, by rw [Nat.shiftLeft_eq]; omega⟩
  have hy : (y % 18446744073709551616).toNat < 2 ^ 8 := by omega
  rw [hq, ← Nat.shiftLeft_add_eq_or_of_lt hy q, ← hq]
  rw [i64_w]
  unfold wrap64
  omega
def numL : Int → List UInt8 → Int
  | x, [] => x
  | x, b :: l => numL (wrap64 (x * 256) + toI b) l
theorem wrap256 (x : Int) : wrap64 (x * 256) % 256 = 0 ∧ -9223372036854775808 ≤ wrap64 (x * 256) ∧ wrap64 (x * 256) ≤ 9223372036854775552 := by unfold wrap64; omega
theorem keyNumber_l (s : ByteArray) (hs : s.size ≤ 140737488351232) : ∀ (n i k : Nat) (x : Int), s.size - i = n → i ≤ s.size → n < k → key_number.l0 k s x (s.size : Int) (i : Int) = some (numL x (s.data.toList.drop i)) := by
  intro n
  have ls := ba_len s
  induction n with
  | zero =>
    intro i k x hn hi hk
    obtain ⟨k, rfl⟩ : ∃ m, k = m + 1 := ⟨k - 1, by omega⟩
    simp only [key_number.l0]
    rw [if_neg (by omega), List.drop_eq_nil_of_le (by omega)]
    rfl
  | succ n ih =>
    intro i k x hn hi hk
    obtain ⟨k, rfl⟩ : ∃ m, k = m + 1 := ⟨k - 1, by omega⟩
    have hlt : i < s.data.toList.length := by omega
    have hr := toI_range s.data.toList[i]
    have hw := wrap256 x
    simp only [key_number.l0]
    rw [if_pos (by omega), if_pos (by omega), if_pos (by omega), bt_toI s i (by omega), w64 (x := toI s.data.toList[i]) (by omega) (by omega), or256 _ _ hw.1 hw.2.1 (by omega) hr.1 hr.2, w64 (x := (i : Int) + 1) (by omega) (by omega)]
    have := ih (i + 1) k (wrap64 (x * 256) + toI s.data.toList[i]) (by omega) (by omega) (by omega)
    rw [show ((i : Int) + 1) = ((i + 1 : Nat) : Int) by omega, this, List.drop_eq_getElem_cons hlt]
    rfl
theorem key_number_f (k : Nat) (s : ByteArray) (hs : s.size ≤ 140737488351232) (hk : s.size < k) : key_number.f k s = some (numL 0 s.data.toList) := by
  have := keyNumber_l s hs s.size 0 k 0 (by omega) (by omega) hk
  simpa [key_number.f] using this
theorem refRead_l (s : ByteArray) (hs : s.size ≤ 140737488351232) : ∀ (n i k : Nat) (x : Int), s.size - i = n → i ≤ s.size → n < k → cabinetryref09_read.l0 k s x (i : Int) = some (numL x (s.data.toList.drop i)) := by
  intro n
  have ls := ba_len s
  induction n with
  | zero =>
    intro i k x hn hi hk
    obtain ⟨k, rfl⟩ : ∃ m, k = m + 1 := ⟨k - 1, by omega⟩
    simp only [cabinetryref09_read.l0]
    rw [if_neg (by omega), List.drop_eq_nil_of_le (by omega)]
    rfl
  | succ n ih =>
    intro i k x hn hi hk
    obtain ⟨k, rfl⟩ : ∃ m, k = m + 1 := ⟨k - 1, by omega⟩
    have hlt : i < s.data.toList.length := by omega
    have hr := toI_range s.data.toList[i]
    have hw := wrap256 x
    simp only [cabinetryref09_read.l0]
    rw [if_pos (by omega), if_pos (by omega), bt_toI s i (by omega), w64 (x := toI s.data.toList[i]) (by omega) (by omega), Int.mul_comm 256 x, w64 (x := wrap64 (x * 256) + toI s.data.toList[i]) (by omega) (by omega), w64 (x := (i : Int) + 1) (by omega) (by omega)]
    have := ih (i + 1) k (wrap64 (x * 256) + toI s.data.toList[i]) (by omega) (by omega) (by omega)
    rw [show ((i : Int) + 1) = ((i + 1 : Nat) : Int) by omega, this, List.drop_eq_getElem_cons hlt]
    rfl
theorem refRead_f (k : Nat) (s : ByteArray) (hs : s.size ≤ 140737488351232) (hk : s.size < k) : cabinetryref09_read.f k s = some (numL 0 s.data.toList) := by
  have := refRead_l s hs s.size 0 k 0 (by omega) (by omega) hk
  simpa [cabinetryref09_read.f] using this
def vN : Int → List UInt8 → Int
  | x, [] => x
  | x, b :: l => vN (x * 256 + toI b) l
theorem numL_vN : ∀ (l : List UInt8) (x y q : Int), x = y + q * 18446744073709551616 → -9223372036854775808 ≤ x → x ≤ 9223372036854775807 → ∃ r, numL x l = vN y l + r * 18446744073709551616 ∧ -9223372036854775808 ≤ numL x l ∧ numL x l ≤ 9223372036854775807
  | [], x, y, q, h, h0, h1 => ⟨q, h, h0, h1⟩
  | b :: l, x, y, q, h, h0, h1 => by
    have hr := toI_range b
    have hw := wrap256 x
    obtain ⟨q2, hq2⟩ : ∃ q2, wrap64 (x * 256) = x * 256 + q2 * 18446744073709551616 := ⟨(wrap64 (x * 256) - x * 256) / 18446744073709551616, by unfold wrap64; omega⟩
    exact numL_vN l (wrap64 (x * 256) + toI b) (y * 256 + toI b) (q * 256 + q2) (by omega) (by omega) (by omega)
theorem numL_neg (l : List UInt8) (h8 : l.length = 8) (h : ∃ x r, l = x :: r ∧ 128 ≤ x.toNat) : numL 0 l < 0 := by
  obtain ⟨x, r, rfl, hx⟩ := h
  obtain ⟨q, h3, h4, h5⟩ := numL_vN (x :: r) 0 0 0 (by omega) (by omega) (by omega)
  match r, h8 with
  | [b1, b2, b3, b4, b5, b6, b7], _ =>
    have r0 := toI_range x
    have r1 := toI_range b1
    have r2 := toI_range b2
    have r3 := toI_range b3
    have r4 := toI_range b4
    have r5 := toI_range b5
    have r6 := toI_range b6
    have r7 := toI_range b7
    have hx' : 128 ≤ toI x := by unfold toI; omega
    simp only [vN] at h3
    omega
def tx : Nat → List UInt8 → List UInt8 → Option (List UInt8 × List UInt8)
  | 0, _, _ => none
  | _ + 1, _, [] => none
  | n + 1, acc, x :: l => if x = 0 then (match l with
      | [] => none
      | y :: m => if y = 0 then (if 48 < acc.length then none else some (acc, m)) else if y = 1 then tx n (acc ++ [0]) m else none)
    else tx n (acc ++ [x]) l
theorem tx_step (n : Nat) (acc : List UInt8) (x : UInt8) (l : List UInt8) : tx (n + 1) acc (x :: l) = if x = 0 then (match l with
      | [] => none
      | y :: m => if y = 0 then (if 48 < acc.length then none else some (acc, m)) else if y = 1 then tx n (acc ++ [0]) m else none)
    else tx n (acc ++ [x]) l := by simp only [tx]
theorem tx_long : ∀ (n : Nat) (acc l : List UInt8), 48 < acc.length → tx n acc l = none
  | 0, _, _, _ => rfl
  | n + 1, acc, [], h => rfl
  | n + 1, acc, x :: l, h => by
    simp only [tx]
    by_cases hx : x = 0
    · rw [if_pos hx]
      cases l with
      | nil => rfl
      | cons y m =>
        simp only []
        by_cases hy : y = 0
        · rw [if_pos hy, if_pos h]
        · rw [if_neg hy]
          by_cases hy1 : y = 1
          · rw [if_pos hy1]; exact tx_long n _ m (by simp; omega)
          · rw [if_neg hy1]
    · rw [if_neg hx]
      exact tx_long n _ l (by simp; omega)
def txV (z : Nat) : Option (List UInt8 × List UInt8) → Int × Int × ByteArray × Int
  | none => (0, 0, (⟨#[]⟩ : ByteArray), 0)
  | some (t, r) => (4, 0, ⟨t.toArray⟩, (z : Int) - r.length)
theorem byte_cases {y : UInt8} : (toI y = 0 ↔ y = 0) ∧ (toI y = 1 ↔ y = 1) := by
  refine ⟨⟨fun h => toI_inj (h.trans rfl), fun h => by rw [h]; rfl⟩, ⟨fun h => toI_inj (h.trans rfl), fun h => by rw [h]; rfl⟩⟩
theorem cutText_l (s : ByteArray) (hs : s.size ≤ 40000) : ∀ (n i k : Nat) (acc : List UInt8), s.size - i ≤ n → i ≤ s.size → 2 * n + 1 ≤ k → acc.length ≤ i →
    key_cutText.l0 k s (acc.map toI) (i : Int) = some (txV s.size (tx (n + 1) acc (s.data.toList.drop i))) := by
  intro n
  have ls := ba_len s
  induction n with
  | zero =>
    intro i k acc hn hi hk ha
    obtain ⟨k, rfl⟩ : ∃ m, k = m + 1 := ⟨k - 1, by omega⟩
    simp only [key_cutText.l0]
    rw [if_neg (by omega), List.drop_eq_nil_of_le (by omega)]
    rfl
  | succ n ih =>
    intro i k acc hn hi hk ha
    obtain ⟨k, rfl⟩ : ∃ m, k = m + 1 := ⟨k - 1, by omega⟩
    by_cases hlt : i < s.data.toList.length
    · simp only [key_cutText.l0]
      obtain ⟨k, rfl⟩ : ∃ m, k = m + 1 := ⟨k - 1, by omega⟩
      rw [if_pos (by omega), if_pos (by omega), bt_toI s i (by omega), List.drop_eq_getElem_cons hlt]
      rw [tx_step]
      by_cases hx : s.data.toList[i] = 0
      · rw [if_pos (byte_cases.1.2 hx), if_pos hx, w64 (x := (i : Int) + 1) (by omega) (by omega)]
        by_cases he : i + 1 = s.size
        · rw [if_pos (by omega), List.drop_eq_nil_of_le (by omega)]
          simp only [key_cutText.j1]
          rfl
        · have hlt2 : i + 1 < s.data.toList.length := by omega
          rw [if_neg (by omega), if_pos (by omega), if_pos (by omega), show ((i : Int) + 1) = ((i + 1 : Nat) : Int) by omega, bt_toI s (i + 1) (by omega), List.drop_eq_getElem_cons hlt2]
          simp only [key_cutText.j1]
          have hr := toI_range s.data.toList[i + 1]
          by_cases h0 : s.data.toList[i + 1] = 0
          · have e0 : toI s.data.toList[i + 1] = 0 := byte_cases.1.2 h0
            rw [if_neg (by rw [decide_eq_false (by omega)]; decide), if_pos (by omega), if_pos (by omega), bt_toI s (i + 1) (by omega), if_neg (by omega), if_pos h0, List.length_map]
            by_cases h48 : 48 < acc.length
            · rw [if_pos (by omega), if_pos h48]
              rfl
            · rw [if_neg (by omega), if_neg h48, strOf_map, w64 (by omega) (by omega)]
              unfold txV
              simp only [List.length_drop]
              congr 4
              omega
          · by_cases h1 : s.data.toList[i + 1] = 1
            · have e1 : toI s.data.toList[i + 1] = 1 := byte_cases.2.2 h1
              rw [if_neg (by rw [decide_eq_false (by omega)]; decide), if_pos (by omega), if_pos (by omega), bt_toI s (i + 1) (by omega), if_pos e1, if_neg h0, if_pos h1, List.length_map, if_pos (by omega), w64 (by omega) (by omega)]
              have ea : List.map toI acc ++ [0] = (acc ++ [0]).map toI := by simp [toI]
              rw [ea]
              have := ih (i + 2) k (acc ++ [0]) (by omega) (by omega) (by omega) (by simp; omega)
              rw [show (((i + 1 : Nat) : Int) + 1) = ((i + 2 : Nat) : Int) by omega, this]
            · have e2 : toI s.data.toList[i + 1] > 1 := by
                have a := mt byte_cases.1.1 h0
                have b := mt byte_cases.2.1 h1
                omega
              rw [if_pos (decide_eq_true e2), if_neg h0, if_neg h1]
              rfl
      · rw [if_neg (mt byte_cases.1.1 hx), if_neg hx, List.length_map, if_pos (by omega), w64 (by omega) (by omega)]
        have ea : List.map toI acc ++ [toI s.data.toList[i]] = (acc ++ [s.data.toList[i]]).map toI := by simp
        rw [ea]
        have := ih (i + 1) (k + 1) (acc ++ [s.data.toList[i]]) (by omega) (by omega) (by omega) (by simp; omega)
        rw [show ((i : Int) + 1) = ((i + 1 : Nat) : Int) by omega, this]
    · simp only [key_cutText.l0]
      rw [if_neg (by omega), List.drop_eq_nil_of_le (by omega)]
      rfl
theorem refText_l (s : ByteArray) (hs : s.size ≤ 40000) : ∀ (n i k : Nat) (acc : List UInt8), s.size - i ≤ n → i ≤ s.size → 2 * n + 1 ≤ k → acc.length ≤ i →
    cabinetryref09_text.l0 k s (acc.map toI) (i : Int) = some (txV s.size (tx (n + 1) acc (s.data.toList.drop i))) := by
  intro n
  have ls := ba_len s
  induction n with
  | zero =>
    intro i k acc hn hi hk ha
    obtain ⟨k, rfl⟩ : ∃ m, k = m + 1 := ⟨k - 1, by omega⟩
    simp only [cabinetryref09_text.l0]
    rw [if_neg (by omega), List.drop_eq_nil_of_le (by omega)]
    rfl
  | succ n ih =>
    intro i k acc hn hi hk ha
    obtain ⟨k, rfl⟩ : ∃ m, k = m + 1 := ⟨k - 1, by omega⟩
    by_cases hlt : i < s.data.toList.length
    · simp only [cabinetryref09_text.l0]
      obtain ⟨k, rfl⟩ : ∃ m, k = m + 1 := ⟨k - 1, by omega⟩
      rw [if_pos (by omega), if_pos (by omega), bt_toI s i (by omega), List.drop_eq_getElem_cons hlt]
      rw [tx_step]
      by_cases hx : s.data.toList[i] = 0
      · rw [if_pos (byte_cases.1.2 hx), if_pos hx, w64 (x := (i : Int) + 1) (by omega) (by omega)]
        by_cases he : i + 1 = s.size
        · rw [if_pos (by omega), List.drop_eq_nil_of_le (by omega)]
          simp only [cabinetryref09_text.j1]
          rfl
        · have hlt2 : i + 1 < s.data.toList.length := by omega
          rw [if_neg (by omega), if_pos (by omega), if_pos (by omega), show ((i : Int) + 1) = ((i + 1 : Nat) : Int) by omega, bt_toI s (i + 1) (by omega), List.drop_eq_getElem_cons hlt2]
          simp only [cabinetryref09_text.j1, List.length_map]
          have hr := toI_range s.data.toList[i + 1]
          by_cases h0 : s.data.toList[i + 1] = 0
          · have e0 : toI s.data.toList[i + 1] = 0 := byte_cases.1.2 h0
            rw [if_neg (by omega), if_pos h0]
            by_cases h48 : 48 < acc.length
            · rw [if_pos (decide_eq_true (by omega)), if_pos h48]
              rfl
            · rw [if_neg (by rw [decide_eq_false (by omega)]; decide), if_neg h48, if_pos (by omega), if_pos (by omega), bt_toI s (i + 1) (by omega), if_pos e0, strOf_map, w64 (by omega) (by omega)]
              have hT : cabinetryref01_Text.f (⟨acc.toArray⟩ : ByteArray) = some (4, 0, ⟨acc.toArray⟩) := rfl
              rw [hT]
              unfold txV
              simp only [Option.bind_some, List.length_drop]
              congr 4
              omega
          · by_cases h1 : s.data.toList[i + 1] = 1
            · have e1 : toI s.data.toList[i + 1] = 1 := byte_cases.2.2 h1
              rw [if_neg (by omega), if_neg h0, if_pos h1]
              by_cases h48 : 48 < acc.length
              · rw [if_pos (decide_eq_true (by omega)), tx_long _ _ _ (by simp; omega)]
                rfl
              · rw [if_neg (by rw [decide_eq_false (by omega)]; decide), if_pos (by omega), if_pos (by omega), bt_toI s (i + 1) (by omega), if_neg (by omega), if_pos (by omega), w64 (by omega) (by omega)]
                have ea : List.map toI acc ++ [0] = (acc ++ [0]).map toI := by simp [toI]
                rw [ea]
                have := ih (i + 2) k (acc ++ [0]) (by omega) (by omega) (by omega) (by simp; omega)
                rw [show (((i + 1 : Nat) : Int) + 1) = ((i + 2 : Nat) : Int) by omega, this]
            · have e2 : toI s.data.toList[i + 1] > 1 := by
                have a := mt byte_cases.1.1 h0
                have b := mt byte_cases.2.1 h1
                omega
              rw [if_pos e2, if_pos trivial, if_neg h0, if_neg h1]
              rfl
      · rw [if_neg (mt byte_cases.1.1 hx), if_neg hx, List.length_map, if_pos (by omega), w64 (by omega) (by omega)]
        have ea : List.map toI acc ++ [toI s.data.toList[i]] = (acc ++ [s.data.toList[i]]).map toI := by simp
        rw [ea]
        have := ih (i + 1) (k + 1) (acc ++ [s.data.toList[i]]) (by omega) (by omega) (by omega) (by simp; omega)
        rw [show ((i : Int) + 1) = ((i + 1 : Nat) : Int) by omega, this]
    · simp only [cabinetryref09_text.l0]
      rw [if_neg (by omega), List.drop_eq_nil_of_le (by omega)]
      rfl
end Go.Proofs.YtnkejhfbkgfedaaDoor.L1
