-- Written by a program of this session (wip/merge.py): the texts of this claim, joined.
import Derived.Laws.Entries
import Derived.Test.YtnkejhfbkgfedaaDoorMKeyBack1
import Derived.Test.YtnkejhfbkgfedaaDoorMKeyBack2
import Derived.Test.YtnkejhfbkgfedaaDoorMKeyBack3
import Derived.Test.YtnkejhfbkgfedaaDoorMKeyBack4
import Derived.Test.YtnkejhfbkgfedaaDoorMKeyBack5
import Derived.Test.YtnkejhfbkgfedaaDoorMKeyBack7
import Derived.Test.YtnkejhfbkgfedaaDoorMKeyBack8
import Derived.Test.YtnkejhfbkgfedaaDoorMKeyBack9
import Derived.Test.YtnkejhfbkgfedaaDoorMKeyBack10
namespace Go.Proofs.YtnkejhfbkgfedaaDoor.PA
end Go.Proofs.YtnkejhfbkgfedaaDoor.PA
namespace Go.Proofs.YtnkejhfbkgfedaaDoor.PB
end Go.Proofs.YtnkejhfbkgfedaaDoor.PB
namespace Go.Proofs.YtnkejhfbkgfedaaDoor.PC
end Go.Proofs.YtnkejhfbkgfedaaDoor.PC
namespace Go.Proofs.YtnkejhfbkgfedaaDoor.H1
end Go.Proofs.YtnkejhfbkgfedaaDoor.H1
namespace Go.Proofs.YtnkejhfbkgfedaaDoor.L1
end Go.Proofs.YtnkejhfbkgfedaaDoor.L1
namespace Go.Proofs.YtnkejhfbkgfedaaDoor.PA
open Go.RowKit Go.Proofs.YtnkejhfbkgfedaaDoorW.PrintWords Go.Proofs.YtnkejhfbkgfedaaDoorW.PrintLast Go.Proofs.YtnkejhfbkgfedaaDoorW.PrintMore
attribute [local go_sem] max2_int min2_int max_two min_two max_three min_three max_four min_four   -- for this text's walks alone
set_option linter.unusedVariables false
set_option linter.unusedSimpArgs false
mutual
def key_cutText.l0 : Nat → ByteArray → List Int → Int → Option (Int × Int × ByteArray × Int)
 | 0, _, _, _ => none
 | k + 1, x0, x4, x5 => if x5 < (x0.size : Int) then (if 0 ≤ x5 then (if (bt x0 x5) = 0 then (if (wrap64 (x5 + 1)) = (x0.size : Int) then (key_cutText.j1 k x0 x4 (wrap64 (x5 + 1)) true) else (if 0 ≤ (wrap64 (x5 + 1)) then (if (wrap64 (x5 + 1)) < (x0.size : Int) then (key_cutText.j1 k x0 x4 (wrap64 (x5 + 1)) (decide ((bt x0 (wrap64 (x5 + 1))) > 1))) else (none)) else (none))) else (if x4.length < 140737488355328 then (key_cutText.l0 k x0 (x4 ++ [bt x0 x5]) (wrap64 (x5 + 1))) else (none))) else (none)) else (some (0, 0, (⟨#[]⟩ : ByteArray), 0))
def key_cutText.j1 : Nat → ByteArray → List Int → Int → Bool → Option (Int × Int × ByteArray × Int)
 | 0, _, _, _, _ => none
 | k + 1, x0, x4, x5, x29 => if x29 = true then (some (0, 0, (⟨#[]⟩ : ByteArray), 0)) else (if 0 ≤ x5 then (if x5 < (x0.size : Int) then (if (bt x0 x5) = 1 then (if x4.length < 140737488355328 then (key_cutText.l0 k x0 (x4 ++ [0]) (wrap64 (x5 + 1))) else (none)) else (if (x4.length : Int) > 48 then (some (0, 0, (⟨#[]⟩ : ByteArray), 0)) else (some (4, 0, strOfNums x4, wrap64 (x5 + 1))))) else (none)) else (none))
end
def key_cutText.f (k : Nat) (a0 : ByteArray) : Option (Int × Int × ByteArray × Int) := key_cutText.l0 k a0 ([] : List Int) 1
set_option maxHeartbeats 8000000 in
set_option maxRecDepth 100000 in
theorem key_cutText.calls (k : Nat) (a0 : ByteArray) (r1 : Int) (r2 : Int) (r3 : ByteArray) (r4 : Int) (w : World) (h : key_cutText.f k a0 = some (r1, r2, r3, r4)) :
  Calls Tryd.prog 85 #[.string a0] w fun e w' => e = .returned (.tuple #[.agg #[.int .i64 r1, .int .i64 r2, .string r3], .int .i64 r4]) ∧ Below w.heap.size w w' := by
 have hu23 := Tryd.underlying23
 have HB := Aside0.mk (Below.refl w.heap.size w)
 have H : (key_cutText.l0 k a0 ([] : List Int) 1) = some (r1, r2, r3, r4) := h
 clear h
 have H' := Aside0.mk H
 clear H
 go_enter Tryd.func85, Tryd.ntmps85
 go_wp2_with (first | ((with_reducible refine gate_dst (N := 2) rfl ?_); refine box_event ?hg (N := 2) ?hd (cs := #[.int .i64 0, .int .i64 0, .string (⟨#[]⟩ : ByteArray)]) (t := 23) ?hr ?_; (case hd => rfl); (case hg => rfl); (case hr => first | (go_simp; done) | (go_simp; rfl)); intro gb457 hg w2 hbox hb; have n0_ := Aside0.mk (below_step (by repeat (first | (with_reducible first | exact HB.out | apply below_alloc | apply pw_below_drewN | apply below_drew1) | exact HB.out)) hb); have n1_ := Aside0.mk (hbox); have n2_ := Aside0.mk ((by rw [hg]; exact (below_size (by repeat (first | (with_reducible first | exact HB.out | apply below_alloc | apply pw_below_drewN | apply below_drew1) | exact HB.out))) : w.heap.size ≤ gb457)); have n3_ := Aside0.mk ((by rw [hg]; exact (below_size (by repeat (first | (with_reducible first | exact HB.out | apply below_alloc | apply pw_below_drewN | apply below_drew1) | exact HB.out))) : w.heap.size ≤ gb457)); clear HB; have HB := n0_; have BK457 := n1_; have GW457 := n2_; have GE457 := n3_; clear n0_ n1_ n2_ n3_; clear hb hbox hg))
 go_loopg [4, 5] k (fun kq v4 v5 w' => ∃ (x4_1 : List Int) (x5_1 : Int) (x458000_1 : Int) (x458001_1 : Int) (x458002_1 : ByteArray), v5 = .int .i64 x5_1 ∧ Aside0 (key_cutText.l0 kq a0 x4_1 x5_1 = some (r1, r2, r3, r4)) ∧ Aside0 (kq ≤ k) ∧ Aside0 (Kd.R (Kd.int .u8) 5 w' w.heap.size (fun _ => True) v4 x4_1) ∧ Aside0 (w'.heap[gb457]? = some (.cells #[.int .i64 x458000_1, .int .i64 x458001_1, .string x458002_1] 23 (0, 0))) ∧ Aside0 (Below w.heap.size w w'))
 case atStart => exact ⟨(([] : List Int)), (1), (0), (0), ((⟨#[]⟩ : ByteArray)), (by first | rfl | (simp; done) | (simp [*]; done)), H', ⟨Nat.le_refl _⟩, ⟨by first | exact Kd.R_nil _ _ _ _ _ | exact Kd.N_nil _ _ _ _ _ | exact Kd.V_nil _ _ _ _ _ | exact Kd.Q_nil _ _ _ _ _ | exact Kd.S_nil _ _ _ _ _⟩, ⟨by (with_reducible repeat (first | refine blk_drewN ?_ _ | refine blk_drew ?_ | refine blk_alloc ?_ _)); exact BK457.out⟩, ⟨by repeat (first | (with_reducible first | exact HB.out | apply below_alloc | apply pw_below_drewN | apply below_drew1 | refine below_set ?_ GE457.out) | exact HB.out)⟩⟩
 case round =>
  clear H'
  try clear p2
  obtain ⟨x4_1, x5_1, x458000_1, x458001_1, x458002_1, rfl, HA, HK1, HO_4, BK457, HB⟩ := hrel
  cases gk with
  | zero => exact absurd HA.out (by simp [key_cutText.l0])
  | succ k1 =>
   have H := HA.out
   clear HA
   simp only [key_cutText.l0] at H
   by_cases c3 : x5_1 < (a0.size : Int)
   ·rw [if_pos c3] at H
    have c3b0 : decide (x5_1 < (a0.size : Int)) = true := decide_eq_true c3
    clear c3
    by_cases c4 : 0 ≤ x5_1
    ·rw [if_pos c4] at H
     have c4b0 : decide (0 ≤ x5_1) = true := decide_eq_true c4
     clear c4
     by_cases c6 : (bt a0 x5_1) = 0
     ·rw [if_pos c6] at H
      have c6b0 : ((bt a0 x5_1) == 0) = true := beq_iff_eq.mpr c6
      have c6b1 : ((bt a0 x5_1) != 0) = false := bne_eq_false_iff_eq.mpr c6
      clear c6
      have HC7 := Aside0.mk H
      clear H
      have p5 : 0 ≤ (x5_1 : Int) := of_decide_eq_true (by first | (with_reducible assumption) | assumption)
      have q5 : x5_1 < (a0.size : Int) := of_decide_eq_true (by first | (with_reducible assumption) | assumption)
      have hx5 := bt_at a0 x5_1
      replace p5 := eq_true p5
      replace q5 := eq_true q5
      go_upto_region 9 with (fail)
      go_cut [29] (fun v29 wc => ∃ (kq : Nat) (x29_6 : Bool), v29 = .bool x29_6 ∧ Aside0 (key_cutText.j1 kq a0 x4_1 (wrap64 (x5_1 + 1)) x29_6 = some (r1, r2, r3, r4)) ∧ Aside0 (kq ≤ k1) ∧ Aside0 (Kd.R (Kd.int .u8) 5 wc w.heap.size (fun _ => True) u4 x4_1) ∧ Aside0 (wc.heap[gb457]? = some (.cells #[.int .i64 x458000_1, .int .i64 x458001_1, .string x458002_1] 23 (0, 0))) ∧ Aside0 (Below w.heap.size w wc))
      case first =>
       have H := HC7.out
       clear HC7
       by_cases c8 : (wrap64 (x5_1 + 1)) = (a0.size : Int)
       ·rw [if_pos c8] at H
        have c8b0 : ((wrap64 (x5_1 + 1)) == (a0.size : Int)) = true := beq_iff_eq.mpr c8
        have c8b1 : ((wrap64 (x5_1 + 1)) != (a0.size : Int)) = false := bne_eq_false_iff_eq.mpr c8
        clear c8
        (first | rw [c8b0] | (simp only [i64_w, i32_w]; rw [c8b0]) | skip)
        have H' := Aside0.mk H
        clear H
        go_wp2
        go_meet
        case rel => exact ⟨_, (true), (by first | rfl | (simp; done) | (simp [*]; done)), H', ⟨by have := HK1.out; first | omega | exact Nat.le_refl _⟩, ⟨by (with_reducible repeat (first | apply Kd.R_alloc | apply Kd.R_drewN | apply Kd.R_drew)); exact HO_4.out⟩, ⟨by (with_reducible repeat (first | refine blk_drewN ?_ _ | refine blk_drew ?_ | refine blk_alloc ?_ _)); exact BK457.out⟩, ⟨by repeat (first | (with_reducible first | exact HB.out | apply below_alloc | apply pw_below_drewN | apply below_drew1 | refine below_set ?_ GE457.out) | exact HB.out)⟩⟩
       ·rw [if_neg c8] at H
        have c8b0 : ((wrap64 (x5_1 + 1)) == (a0.size : Int)) = false := beq_eq_false_iff_ne.mpr c8
        have c8b1 : ((wrap64 (x5_1 + 1)) != (a0.size : Int)) = true := bne_iff_ne.mpr c8
        (first | rw [c8b0] | (simp only [i64_w, i32_w]; rw [c8b0]) | skip)
        obtain ⟨ji9, hji9⟩ : ∃ j_ : Int, (wrap64 (x5_1 + 1)) = j_ := ⟨_, rfl⟩
        replace H : (if 0 ≤ (ji9) then (if (ji9) < (a0.size : Int) then (key_cutText.j1 k1 a0 x4_1 ji9 (decide ((bt a0 (ji9)) > 1))) else (none)) else (none)) = some (r1, r2, r3, r4) := by first | (rw [hji9] at H; exact H) | (simp only [hji9] at H ⊢; exact H)
        (try rw [hji9] at c8b0)
        (try rw [hji9] at c8b1)
        have hji9w : (IntKind.i64.wrap (x5_1 + 1)) = ji9 := (i64_w _).trans hji9
        by_cases c10 : 0 ≤ (ji9)
        ·rw [if_pos c10] at H
         have c10b0 : decide (0 ≤ (ji9)) = true := decide_eq_true c10
         clear c10
         by_cases c11 : (ji9) < (a0.size : Int)
         ·rw [if_pos c11] at H
          have c11b0 : decide ((ji9) < (a0.size : Int)) = true := decide_eq_true c11
          clear c11
          have H' := Aside0.mk H
          clear H
          have p12 : 0 ≤ ((ji9) : Int) := of_decide_eq_true (by first | (with_reducible assumption) | assumption)
          have q12 : (ji9) < (a0.size : Int) := of_decide_eq_true (by first | (with_reducible assumption) | assumption)
          have hx12 := bt_at a0 (ji9)
          replace p12 := eq_true p12
          replace q12 := eq_true q12
          go_wp2
          go_meet
          case rel => exact ⟨_, (decide ((bt a0 (ji9)) > 1)), (by first | rfl | (simp; done) | (simp only [← hji9] <;> (first | rfl | simp)) | (simp [*]; done)), (by first | exact H' | (rw [hji9]; exact H')), ⟨by have := HK1.out; first | omega | exact Nat.le_refl _⟩, ⟨by (with_reducible repeat (first | apply Kd.R_alloc | apply Kd.R_drewN | apply Kd.R_drew)); exact HO_4.out⟩, ⟨by (with_reducible repeat (first | refine blk_drewN ?_ _ | refine blk_drew ?_ | refine blk_alloc ?_ _)); exact BK457.out⟩, ⟨by repeat (first | (with_reducible first | exact HB.out | apply below_alloc | apply pw_below_drewN | apply below_drew1 | refine below_set ?_ GE457.out) | exact HB.out)⟩⟩
         ·rw [if_neg c11] at H
          exact absurd H (by simp)
        ·rw [if_neg c10] at H
         exact absurd H (by simp)
      case rest =>
       clear HC7
       try clear c1; try clear p1; try clear q1; try clear hx1; try clear p2; try clear c3; try clear c3b0; try clear c4; try clear c4b0; try clear p5; try clear q5; try clear hx5; try clear c6; try clear c6b0; try clear c6b1; try clear p6; try clear c8; try clear c8b0; try clear c8b1; try clear c10; try clear c10b0; try clear c11; try clear c11b0; try clear p12; try clear q12; try clear hx12; try clear p12; try clear p2; try clear p5; try clear q12; try clear q5
       obtain ⟨kq, x29_6, rfl, HA, HJ6, HO_4, BK457, HB⟩ := hcut
       cases kq with
       | zero => exact absurd HA.out (by simp [key_cutText.j1])
       | succ kj6 =>
        have H := HA.out
        clear HA
        simp only [key_cutText.j1] at H
        by_cases c13 : x29_6 = true
        ·subst c13
         have H1 : (some (0, 0, (⟨#[]⟩ : ByteArray), 0)) = some (r1, r2, r3, r4) := by rw [if_pos rfl] at H; exact H
         clear H
         have H := H1
         clear H1
         simp only [Option.some.injEq, Prod.mk.injEq] at H
         obtain ⟨rfl, rfl, rfl, rfl⟩ := H
         have hcz14_0 : wc.cell? ⟨gb457, 0, none⟩ = some (.int .i64 x458000_1) := (blk_cell BK457.out 0).trans rfl
         have hcz14_1 : wc.cell? ⟨gb457, 1, none⟩ = some (.int .i64 x458001_1) := (blk_cell BK457.out 1).trans rfl
         have hcz14_2 : wc.cell? ⟨gb457, 2, none⟩ = some (.string x458002_1) := (blk_cell BK457.out 2).trans rfl
         have hfz14_0 := blk_frozen BK457.out 0
         have hfz14_1 := blk_frozen BK457.out 1
         have hfz14_2 := blk_frozen BK457.out 2
         go_wp2
         refine bodyPost_ret (results_ct rfl _ _ gb457 23 #[.int .i64 0, .int .i64 0, .string (⟨#[]⟩ : ByteArray)] (0, 0) _ rfl (by (with_reducible repeat (first | refine blk_drewN ?_ _ | refine blk_drew ?_ | refine blk_alloc ?_ _)); refine blk_put (cs := #[.int .i64 0, .int .i64 0, .string x458002_1]) ?_ 2 _ rfl; (with_reducible repeat (first | refine blk_drewN ?_ _ | refine blk_drew ?_ | refine blk_alloc ?_ _)); refine blk_put (cs := #[.int .i64 0, .int .i64 x458001_1, .string x458002_1]) ?_ 1 _ rfl; (with_reducible repeat (first | refine blk_drewN ?_ _ | refine blk_drew ?_ | refine blk_alloc ?_ _)); refine blk_put (cs := #[.int .i64 x458000_1, .int .i64 x458001_1, .string x458002_1]) ?_ 0 _ rfl; (with_reducible repeat (first | refine blk_drewN ?_ _ | refine blk_drew ?_ | refine blk_alloc ?_ _)); exact BK457.out) Tryd.underlying23 rfl (by kernel_rfl)) rfl ?_
         exact ⟨by first | rfl | (simp [errW_none, errW_some] <;> rfl) | (simp [*, errW_none, errW_some] <;> rfl), by repeat (first | (with_reducible first | exact HB.out | apply below_alloc | apply pw_below_drewN | apply below_drew1 | refine below_set ?_ GE457.out) | exact HB.out)⟩
        ·replace c13 := Bool.eq_false_iff.mpr c13
         subst c13
         have H1 : (if 0 ≤ (wrap64 (x5_1 + 1)) then (if (wrap64 (x5_1 + 1)) < (a0.size : Int) then (if (bt a0 (wrap64 (x5_1 + 1))) = 1 then (if x4_1.length < 140737488355328 then (key_cutText.l0 kj6 a0 (x4_1 ++ [0]) (wrap64 ((wrap64 (x5_1 + 1)) + 1))) else (none)) else (if (x4_1.length : Int) > 48 then (some (0, 0, (⟨#[]⟩ : ByteArray), 0)) else (some (4, 0, strOfNums x4_1, wrap64 ((wrap64 (x5_1 + 1)) + 1))))) else (none)) else (none)) = some (r1, r2, r3, r4) := by rw [if_neg (show ¬ (false = true) by decide)] at H; exact H
         clear H
         have H := H1
         clear H1
         obtain ⟨ji15, hji15⟩ : ∃ j_ : Int, (wrap64 (x5_1 + 1)) = j_ := ⟨_, rfl⟩
         replace H : (if 0 ≤ (ji15) then (if (ji15) < (a0.size : Int) then (if (bt a0 (ji15)) = 1 then (if x4_1.length < 140737488355328 then (key_cutText.l0 kj6 a0 (x4_1 ++ [0]) (wrap64 ((ji15) + 1))) else (none)) else (if (x4_1.length : Int) > 48 then (some (0, 0, (⟨#[]⟩ : ByteArray), 0)) else (some (4, 0, strOfNums x4_1, wrap64 ((ji15) + 1))))) else (none)) else (none)) = some (r1, r2, r3, r4) := by first | (rw [hji15] at H; exact H) | (simp only [hji15] at H ⊢; exact H)
         have hji15w : (IntKind.i64.wrap (x5_1 + 1)) = ji15 := (i64_w _).trans hji15
         by_cases c16 : 0 ≤ (ji15)
         ·rw [if_pos c16] at H
          have c16b0 : decide (0 ≤ (ji15)) = true := decide_eq_true c16
          clear c16
          by_cases c17 : (ji15) < (a0.size : Int)
          ·rw [if_pos c17] at H
           have c17b0 : decide ((ji15) < (a0.size : Int)) = true := decide_eq_true c17
           clear c17
           by_cases c19 : (bt a0 (ji15)) = 1
           ·rw [if_pos c19] at H
            have c19b0 : ((bt a0 (ji15)) == 1) = true := beq_iff_eq.mpr c19
            have c19b1 : ((bt a0 (ji15)) != 1) = false := bne_eq_false_iff_eq.mpr c19
            clear c19
            by_cases c20 : x4_1.length < 140737488355328
            ·rw [if_pos c20] at H
             have LMc20 := Aside0.mk c20
             clear c20
             obtain ⟨y461, hy461⟩ : ∃ y_ : List Int, y_ = (x4_1 ++ [0]) := ⟨_, rfl⟩
             replace H : (key_cutText.l0 kj6 a0 y461 (wrap64 ((ji15) + 1))) = some (r1, r2, r3, r4) := by first | (rw [hy461]; with_reducible exact H) | (have H2_ := (Option.bind_some _ _).symm.trans H; rw [hy461]; with_reducible exact H2_) | (have H2_ := (Option.bind_some _ _).symm.trans H; with_reducible exact H2_) | with_reducible exact H | (rw [hy461]; exact H) | exact H
             have Ny461 := Aside0.mk hy461
             clear hy461
             have H' := Aside0.mk H
             clear H
             have p18 : 0 ≤ ((ji15) : Int) := of_decide_eq_true (by first | (with_reducible assumption) | assumption)
             have q18 : (ji15) < (a0.size : Int) := of_decide_eq_true (by first | (with_reducible assumption) | assumption)
             have hx18 := bt_at a0 (ji15)
             replace p18 := eq_true p18
             replace q18 := eq_true q18
             go_wp2_with (first | ((with_reducible refine gate_builtin (b := .append) (xs := #[.tmp 46, .tmp 47]) rfl ?_); at_builtin; refine Kd.R_append (Kd.int .u8) (w0 := w) w.heap.size rfl (.tmp 46) (.tmp 47) 62 5 (.int .u8 0) 1 rfl Tryd.underlying62 info5 rfl (by decide) (by omega) u4 x4_1 0 [.int .u8 0] (fun _ => True) (fun _ => False) rfl rfl ?aP (fun _ hk => hk.elim) ?aF ?aO ?aB ?aS ?aL ?_; (case aP => exact rfl); (case aB => exact (by repeat (first | (with_reducible first | exact HB.out | apply below_alloc | apply pw_below_drewN | apply below_drew1 | refine below_set ?_ GE457.out) | exact HB.out))); (case aF => exact (fun _ _ => trivial)); (case aO => exact (by (with_reducible repeat (first | apply Kd.R_alloc | apply Kd.R_drewN | apply Kd.R_drew)); exact HO_4.out)); (case aS => exact (below_size (by repeat (first | (with_reducible first | exact HB.out | apply below_alloc | apply pw_below_drewN | apply below_drew1 | refine below_set ?_ GE457.out) | exact HB.out)))); (case aL => have := LMc20.out; omega); intro v462 w21 ho hb hg hat; rw [← Ny461.out] at ho; have n0_ := Aside0.mk (blk_grown (g := gb457) (o := .cells #[.int .i64 x458000_1, .int .i64 x458001_1, .string x458002_1] 23 (0, 0)) (by (with_reducible repeat (first | refine blk_drewN ?_ _ | refine blk_drew ?_ | refine blk_alloc ?_ _)); exact BK457.out) hg (Kd.R_ne HO_4.out BK457.out (by decide))); have n1_ := Aside0.mk (hb); have n2_ := Aside0.mk (ho); clear BK457; clear HB; clear HO_4; have BK457 := n0_; have HB := n1_; have HO463 := n2_; clear n0_ n1_ n2_; clear ho hb hg hat))
             go_roundg kj6
             case measure => have := HK1.out; have := HJ6.out; omega
             case rel => exact ⟨(y461), (wrap64 ((ji15) + 1)), (x458000_1), (x458001_1), (x458002_1), (by first | rfl | (simp; done) | (simp only [← hji15] <;> (first | rfl | simp)) | (simp [*]; done)), H', ⟨by have := HK1.out; have := HJ6.out; omega⟩, ⟨by (with_reducible repeat (first | apply Kd.R_alloc | apply Kd.R_drewN | apply Kd.R_drew)); exact HO463.out⟩, ⟨by (with_reducible repeat (first | refine blk_drewN ?_ _ | refine blk_drew ?_ | refine blk_alloc ?_ _)); exact BK457.out⟩, ⟨by repeat (first | (with_reducible first | exact HB.out | apply below_alloc | apply pw_below_drewN | apply below_drew1 | refine below_set ?_ GE457.out) | exact HB.out)⟩⟩
            ·rw [if_neg c20] at H
             exact absurd H (by simp)
           ·rw [if_neg c19] at H
            have c19b0 : ((bt a0 (ji15)) == 1) = false := beq_eq_false_iff_ne.mpr c19
            have c19b1 : ((bt a0 (ji15)) != 1) = true := bne_iff_ne.mpr c19
            by_cases c22 : (x4_1.length : Int) > 48
            ·rw [if_pos c22] at H
             have c22b0 : decide (48 < (x4_1.length : Int)) = true := decide_eq_true c22
             have c22b1 : decide (48 < x4_1.length) = true := decide_eq_true (by omega)
             clear c22
             simp only [Option.some.injEq, Prod.mk.injEq] at H
             obtain ⟨rfl, rfl, rfl, rfl⟩ := H
             have p18 : 0 ≤ ((ji15) : Int) := of_decide_eq_true (by first | (with_reducible assumption) | assumption)
             have q18 : (ji15) < (a0.size : Int) := of_decide_eq_true (by first | (with_reducible assumption) | assumption)
             have hx18 := bt_at a0 (ji15)
             replace p18 := eq_true p18
             replace q18 := eq_true q18
             obtain ⟨Ao23, co23, eo23⟩ := Kd.R_slice HO_4.out
             subst eo23
             have hcz24_0 : wc.cell? ⟨gb457, 0, none⟩ = some (.int .i64 x458000_1) := (blk_cell BK457.out 0).trans rfl
             have hcz24_1 : wc.cell? ⟨gb457, 1, none⟩ = some (.int .i64 x458001_1) := (blk_cell BK457.out 1).trans rfl
             have hcz24_2 : wc.cell? ⟨gb457, 2, none⟩ = some (.string x458002_1) := (blk_cell BK457.out 2).trans rfl
             have hfz24_0 := blk_frozen BK457.out 0
             have hfz24_1 := blk_frozen BK457.out 1
             have hfz24_2 := blk_frozen BK457.out 2
             go_wp2
             refine bodyPost_ret (results_ct rfl _ _ gb457 23 #[.int .i64 0, .int .i64 0, .string (⟨#[]⟩ : ByteArray)] (0, 0) _ rfl (by (with_reducible repeat (first | refine blk_drewN ?_ _ | refine blk_drew ?_ | refine blk_alloc ?_ _)); refine blk_put (cs := #[.int .i64 0, .int .i64 0, .string x458002_1]) ?_ 2 _ rfl; (with_reducible repeat (first | refine blk_drewN ?_ _ | refine blk_drew ?_ | refine blk_alloc ?_ _)); refine blk_put (cs := #[.int .i64 0, .int .i64 x458001_1, .string x458002_1]) ?_ 1 _ rfl; (with_reducible repeat (first | refine blk_drewN ?_ _ | refine blk_drew ?_ | refine blk_alloc ?_ _)); refine blk_put (cs := #[.int .i64 x458000_1, .int .i64 x458001_1, .string x458002_1]) ?_ 0 _ rfl; (with_reducible repeat (first | refine blk_drewN ?_ _ | refine blk_drew ?_ | refine blk_alloc ?_ _)); exact BK457.out) Tryd.underlying23 rfl (by kernel_rfl)) rfl ?_
             exact ⟨by first | rfl | (simp [errW_none, errW_some] <;> rfl) | (simp only [← hji15]; first | rfl | (simp [errW_none, errW_some] <;> rfl)) | (simp [*, errW_none, errW_some] <;> rfl), by repeat (first | (with_reducible first | exact HB.out | apply below_alloc | apply pw_below_drewN | apply below_drew1 | refine below_set ?_ GE457.out) | exact HB.out)⟩
            ·rw [if_neg c22] at H
             have c22b0 : decide (48 < (x4_1.length : Int)) = false := decide_eq_false c22
             have c22b1 : decide (48 < x4_1.length) = false := decide_eq_false (by omega)
             clear c22
             simp only [Option.some.injEq, Prod.mk.injEq] at H
             obtain ⟨rfl, rfl, rfl, rfl⟩ := H
             have p18 : 0 ≤ ((ji15) : Int) := of_decide_eq_true (by first | (with_reducible assumption) | assumption)
             have q18 : (ji15) < (a0.size : Int) := of_decide_eq_true (by first | (with_reducible assumption) | assumption)
             have hx18 := bt_at a0 (ji15)
             replace p18 := eq_true p18
             replace q18 := eq_true q18
             obtain ⟨Ao25, co25, eo25⟩ := Kd.R_slice HO_4.out
             subst eo25
             have hcv26 := own_string (P := Tryd.prog) Tryd.underlying62 Tryd.underlying5 Tryd.underlying9 (Kd.own_of_R HO_4.out)
             have hcz27_0 : wc.cell? ⟨gb457, 0, none⟩ = some (.int .i64 x458000_1) := (blk_cell BK457.out 0).trans rfl
             have hcz27_1 : wc.cell? ⟨gb457, 1, none⟩ = some (.int .i64 x458001_1) := (blk_cell BK457.out 1).trans rfl
             have hcz27_2 : wc.cell? ⟨gb457, 2, none⟩ = some (.string x458002_1) := (blk_cell BK457.out 2).trans rfl
             have hfz27_0 := blk_frozen BK457.out 0
             have hfz27_1 := blk_frozen BK457.out 1
             have hfz27_2 := blk_frozen BK457.out 2
             go_wp2
             refine bodyPost_ret (results_ct rfl _ _ gb457 23 #[.int .i64 4, .int .i64 0, .string (strOfNums x4_1)] (0, 0) _ rfl (by (with_reducible repeat (first | refine blk_drewN ?_ _ | refine blk_drew ?_ | refine blk_alloc ?_ _)); refine blk_put (cs := #[.int .i64 4, .int .i64 0, .string x458002_1]) ?_ 2 _ rfl; (with_reducible repeat (first | refine blk_drewN ?_ _ | refine blk_drew ?_ | refine blk_alloc ?_ _)); refine blk_put (cs := #[.int .i64 4, .int .i64 x458001_1, .string x458002_1]) ?_ 1 _ rfl; (with_reducible repeat (first | refine blk_drewN ?_ _ | refine blk_drew ?_ | refine blk_alloc ?_ _)); refine blk_put (cs := #[.int .i64 x458000_1, .int .i64 x458001_1, .string x458002_1]) ?_ 0 _ rfl; (with_reducible repeat (first | refine blk_drewN ?_ _ | refine blk_drew ?_ | refine blk_alloc ?_ _)); exact BK457.out) Tryd.underlying23 rfl (by kernel_rfl)) rfl ?_
             exact ⟨by first | rfl | (simp [errW_none, errW_some] <;> rfl) | (simp only [← hji15]; first | rfl | (simp [errW_none, errW_some] <;> rfl)) | (simp [*, errW_none, errW_some] <;> rfl), by repeat (first | (with_reducible first | exact HB.out | apply below_alloc | apply pw_below_drewN | apply below_drew1 | refine below_set ?_ GE457.out) | exact HB.out)⟩
          ·rw [if_neg c17] at H
           exact absurd H (by simp)
         ·rw [if_neg c16] at H
          exact absurd H (by simp)
     ·rw [if_neg c6] at H
      have c6b0 : ((bt a0 x5_1) == 0) = false := beq_eq_false_iff_ne.mpr c6
      have c6b1 : ((bt a0 x5_1) != 0) = true := bne_iff_ne.mpr c6
      by_cases c29 : x4_1.length < 140737488355328
      ·rw [if_pos c29] at H
       have LMc29 := Aside0.mk c29
       clear c29
       obtain ⟨y458, hy458⟩ : ∃ y_ : List Int, y_ = (x4_1 ++ [bt a0 x5_1]) := ⟨_, rfl⟩
       replace H : (key_cutText.l0 k1 a0 y458 (wrap64 (x5_1 + 1))) = some (r1, r2, r3, r4) := by first | (rw [hy458]; with_reducible exact H) | (have H2_ := (Option.bind_some _ _).symm.trans H; rw [hy458]; with_reducible exact H2_) | (have H2_ := (Option.bind_some _ _).symm.trans H; with_reducible exact H2_) | with_reducible exact H | (rw [hy458]; exact H) | exact H
       have Ny458 := Aside0.mk hy458
       clear hy458
       have H' := Aside0.mk H
       clear H
       have p5 : 0 ≤ (x5_1 : Int) := of_decide_eq_true (by first | (with_reducible assumption) | assumption)
       have q5 : x5_1 < (a0.size : Int) := of_decide_eq_true (by first | (with_reducible assumption) | assumption)
       have hx5 := bt_at a0 x5_1
       replace p5 := eq_true p5
       replace q5 := eq_true q5
       have p28 : 0 ≤ (x5_1 : Int) := of_decide_eq_true (by first | (with_reducible assumption) | assumption)
       have q28 : x5_1 < (a0.size : Int) := of_decide_eq_true (by first | (with_reducible assumption) | assumption)
       have hx28 := bt_at a0 x5_1
       replace p28 := eq_true p28
       replace q28 := eq_true q28
       go_wp2_with (first | ((with_reducible refine gate_builtin (b := .append) (xs := #[.tmp 16, .tmp 20]) rfl ?_); at_builtin; refine Kd.R_append (Kd.int .u8) (w0 := w) w.heap.size rfl (.tmp 16) (.tmp 20) 62 5 (.int .u8 0) 1 rfl Tryd.underlying62 info5 rfl (by decide) (by omega) u4 x4_1 (bt a0 x5_1) [.int .u8 (bt a0 x5_1)] (fun _ => True) (fun _ => False) rfl rfl ?aP (fun _ hk => hk.elim) ?aF ?aO ?aB ?aS ?aL ?_; (case aP => exact rfl); (case aB => exact (by repeat (first | (with_reducible first | exact HB.out | apply below_alloc | apply pw_below_drewN | apply below_drew1 | refine below_set ?_ GE457.out) | exact HB.out))); (case aF => exact (fun _ _ => trivial)); (case aO => exact (by (with_reducible repeat (first | apply Kd.R_alloc | apply Kd.R_drewN | apply Kd.R_drew)); exact HO_4.out)); (case aS => exact (below_size (by repeat (first | (with_reducible first | exact HB.out | apply below_alloc | apply pw_below_drewN | apply below_drew1 | refine below_set ?_ GE457.out) | exact HB.out)))); (case aL => have := LMc29.out; omega); intro v459 w30 ho hb hg hat; rw [← Ny458.out] at ho; have n0_ := Aside0.mk (blk_grown (g := gb457) (o := .cells #[.int .i64 x458000_1, .int .i64 x458001_1, .string x458002_1] 23 (0, 0)) (by (with_reducible repeat (first | refine blk_drewN ?_ _ | refine blk_drew ?_ | refine blk_alloc ?_ _)); exact BK457.out) hg (Kd.R_ne HO_4.out BK457.out (by decide))); have n1_ := Aside0.mk (hb); have n2_ := Aside0.mk (ho); clear BK457; clear HB; clear HO_4; have BK457 := n0_; have HB := n1_; have HO460 := n2_; clear n0_ n1_ n2_; clear ho hb hg hat))
       go_roundg k1
       case measure => have := HK1.out; omega
       case rel => exact ⟨(y458), (wrap64 (x5_1 + 1)), (x458000_1), (x458001_1), (x458002_1), (by first | rfl | (simp; done) | (simp [*]; done)), H', ⟨by have := HK1.out; omega⟩, ⟨by (with_reducible repeat (first | apply Kd.R_alloc | apply Kd.R_drewN | apply Kd.R_drew)); exact HO460.out⟩, ⟨by (with_reducible repeat (first | refine blk_drewN ?_ _ | refine blk_drew ?_ | refine blk_alloc ?_ _)); exact BK457.out⟩, ⟨by repeat (first | (with_reducible first | exact HB.out | apply below_alloc | apply pw_below_drewN | apply below_drew1 | refine below_set ?_ GE457.out) | exact HB.out)⟩⟩
      ·rw [if_neg c29] at H
       exact absurd H (by simp)
    ·rw [if_neg c4] at H
     exact absurd H (by simp)
   ·rw [if_neg c3] at H
    have c3b0 : decide (x5_1 < (a0.size : Int)) = false := decide_eq_false c3
    clear c3
    simp only [Option.some.injEq, Prod.mk.injEq] at H
    obtain ⟨rfl, rfl, rfl, rfl⟩ := H
    have hcz31_0 : wr.cell? ⟨gb457, 0, none⟩ = some (.int .i64 x458000_1) := (blk_cell BK457.out 0).trans rfl
    have hcz31_1 : wr.cell? ⟨gb457, 1, none⟩ = some (.int .i64 x458001_1) := (blk_cell BK457.out 1).trans rfl
    have hcz31_2 : wr.cell? ⟨gb457, 2, none⟩ = some (.string x458002_1) := (blk_cell BK457.out 2).trans rfl
    have hfz31_0 := blk_frozen BK457.out 0
    have hfz31_1 := blk_frozen BK457.out 1
    have hfz31_2 := blk_frozen BK457.out 2
    go_wp2
    refine bodyPost_ret (results_ct rfl _ _ gb457 23 #[.int .i64 0, .int .i64 0, .string (⟨#[]⟩ : ByteArray)] (0, 0) _ rfl (by (with_reducible repeat (first | refine blk_drewN ?_ _ | refine blk_drew ?_ | refine blk_alloc ?_ _)); refine blk_put (cs := #[.int .i64 0, .int .i64 0, .string x458002_1]) ?_ 2 _ rfl; (with_reducible repeat (first | refine blk_drewN ?_ _ | refine blk_drew ?_ | refine blk_alloc ?_ _)); refine blk_put (cs := #[.int .i64 0, .int .i64 x458001_1, .string x458002_1]) ?_ 1 _ rfl; (with_reducible repeat (first | refine blk_drewN ?_ _ | refine blk_drew ?_ | refine blk_alloc ?_ _)); refine blk_put (cs := #[.int .i64 x458000_1, .int .i64 x458001_1, .string x458002_1]) ?_ 0 _ rfl; (with_reducible repeat (first | refine blk_drewN ?_ _ | refine blk_drew ?_ | refine blk_alloc ?_ _)); exact BK457.out) Tryd.underlying23 rfl (by kernel_rfl)) rfl ?_
    exact ⟨by first | rfl | (simp [errW_none, errW_some] <;> rfl) | (simp [*, errW_none, errW_some] <;> rfl), by repeat (first | (with_reducible first | exact HB.out | apply below_alloc | apply pw_below_drewN | apply below_drew1 | refine below_set ?_ GE457.out) | exact HB.out)⟩
end Go.Proofs.YtnkejhfbkgfedaaDoor.PA
namespace Go.Proofs.YtnkejhfbkgfedaaDoor.PA
open Go.RowKit Go.Proofs.YtnkejhfbkgfedaaDoorW.PrintWords Go.Proofs.YtnkejhfbkgfedaaDoorW.PrintLast Go.Proofs.YtnkejhfbkgfedaaDoorW.PrintMore
attribute [local go_sem] max2_int min2_int max_two min_two max_three min_three max_four min_four   -- for this text's walks alone
set_option linter.unusedVariables false
set_option linter.unusedSimpArgs false
def key_number.l0 : Nat → ByteArray → Int → Int → Int → Option (Int)
 | 0, _, _, _, _ => none
 | k + 1, x0, x3, x6, x7 => if x7 < x6 then (if 0 ≤ x7 then (if x7 < (x0.size : Int) then (key_number.l0 k x0 (Go.bits .or .i64 (wrap64 (x3 * 256)) (wrap64 (bt x0 x7))) x6 (wrap64 (x7 + 1))) else (none)) else (none)) else (some x3)
def key_number.f (k : Nat) (a0 : ByteArray) : Option (Int) := key_number.l0 k a0 0 (a0.size : Int) 0
set_option maxHeartbeats 8000000 in
set_option maxRecDepth 100000 in
theorem key_number.calls (k : Nat) (a0 : ByteArray) (r : Int) (w : World) (h : key_number.f k a0 = some r) :
  Calls Tryd.prog 86 #[.string a0] w fun e w' => e = .returned (.int .i64 r) ∧ Drawn0 w w' := by
 have H : (key_number.l0 k a0 0 (a0.size : Int) 0) = some r := h
 clear h
 have H' := Aside0.mk H
 clear H
 go_enter Tryd.func86, Tryd.ntmps86
 go_wp2
 go_loopg [3, 7] k (fun kq v3 v7 w' => ∃ (x3_1 : Int) (x7_1 : Int), v3 = .int .i64 x3_1 ∧ v7 = .int .i64 x7_1 ∧ Aside0 (key_number.l0 kq a0 x3_1 (a0.size : Int) x7_1 = some r) ∧ Aside0 (kq ≤ k) ∧ Drawn0 w w')
 case atStart => exact ⟨(0), (0), (by first | rfl | (simp; done) | (simp [*]; done)), (by first | rfl | (simp; done) | (simp [*]; done)), H', ⟨Nat.le_refl _⟩, by repeat (first | exact Drawn0.refl _ | apply Drawn0.step)⟩
 case round =>
  clear H'
  obtain ⟨x3_1, x7_1, rfl, rfl, HA, HK1, ⟨m1, rfl⟩⟩ := hrel
  cases gk with
  | zero => exact absurd HA.out (by simp [key_number.l0])
  | succ k1 =>
   have H := HA.out
   clear HA
   simp only [key_number.l0] at H
   by_cases c2 : x7_1 < (a0.size : Int)
   ·rw [if_pos c2] at H
    have c2b0 : decide (x7_1 < (a0.size : Int)) = true := decide_eq_true c2
    clear c2
    by_cases c3 : 0 ≤ x7_1
    ·rw [if_pos c3] at H
     have c3b0 : decide (0 ≤ x7_1) = true := decide_eq_true c3
     clear c3
     by_cases c4 : x7_1 < (a0.size : Int)
     ·rw [if_pos c4] at H
      have c4b0 : decide (x7_1 < (a0.size : Int)) = true := decide_eq_true c4
      clear c4
      have H' := Aside0.mk H
      clear H
      have p5 : 0 ≤ (x7_1 : Int) := of_decide_eq_true (by first | (with_reducible assumption) | assumption)
      have q5 : x7_1 < (a0.size : Int) := of_decide_eq_true (by first | (with_reducible assumption) | assumption)
      have hx5 := bt_at a0 x7_1
      replace p5 := eq_true p5
      replace q5 := eq_true q5
      go_wp2
      go_roundg k1
      case measure => have := HK1.out; omega
      case rel => exact ⟨(Go.bits .or .i64 (wrap64 (x3_1 * 256)) (wrap64 (bt a0 x7_1))), (wrap64 (x7_1 + 1)), (by first | rfl | (simp; done) | (simp [*]; done)), (by first | rfl | (simp; done) | (simp [*]; done)), H', ⟨by have := HK1.out; omega⟩, by repeat (first | exact Drawn0.refl _ | apply Drawn0.step)⟩
     ·rw [if_neg c4] at H
      exact absurd H (by simp)
    ·rw [if_neg c3] at H
     exact absurd H (by simp)
   ·rw [if_neg c2] at H
    have c2b0 : decide (x7_1 < (a0.size : Int)) = false := decide_eq_false c2
    clear c2
    obtain rfl := Option.some.inj H
    simp only [Option.some.injEq, Prod.mk.injEq] at H
    obtain ⟨rfl⟩ := H
    go_wp2
    go_ret
    exact ⟨by first | rfl | (simp; done) | (simp [*]; done), by repeat (first | exact Drawn0.refl _ | apply Drawn0.step)⟩
end Go.Proofs.YtnkejhfbkgfedaaDoor.PA
namespace Go.Proofs.YtnkejhfbkgfedaaDoor.L1
open Go.RowKit Go.Proofs.YtnkejhfbkgfedaaDoorW.PrintWords Go.Proofs.YtnkejhfbkgfedaaDoorW.PrintLast Go.Proofs.YtnkejhfbkgfedaaDoor.PA Go.Proofs.YtnkejhfbkgfedaaDoor.H1 Go.Proofs.YtnkejhfbkgfedaaDoor.PB
set_option linter.unusedVariables false
set_option linter.unusedSimpArgs false
theorem or256 (x y : Int) (hx : x % 256 = 0) (h0 : -9223372036854775808 ≤ x) (h1 : x ≤ 9223372036854775807) (hy0 : 0 ≤ y) (hy1 : y < 256) : Go.bits .or .i64 x y = x + y := by
  unfold Go.bits
  have e1 : (BitVec.ofInt IntKind.i64.bits x).toNat = (x % 18446744073709551616).toNat := BitVec.toNat_ofInt x
  have e2 : (BitVec.ofInt IntKind.i64.bits y).toNat = (y % 18446744073709551616).toNat := BitVec.toNat_ofInt y
  simp only [BitVec.toNat_or, e1, e2]
  obtain ⟨q, hq⟩ : ∃ q : Nat, (x % 18446744073709551616).toNat = q <<< 8 := ⟨(x % 18446744073709551616).toNat / 256, by rw [Nat.shiftLeft_eq]; omega⟩
  have hy : (y % 18446744073709551616).toNat < 2 ^ 8 := by omega
  rw [hq, ← Nat.shiftLeft_add_eq_or_of_lt hy q, ← hq]
  rw [i64_w]
  unfold wrap64
  omega
def numL : Int → List UInt8 → Int
  | x, [] => x
  | x, b :: l => numL (wrap64 (x * 256) + toI b) l
theorem wrap256 (x : Int) : wrap64 (x * 256) % 256 = 0 ∧ -9223372036854775808 ≤ wrap64 (x * 256) ∧ wrap64 (x * 256) ≤ 9223372036854775552 := by unfold wrap64; omega
theorem keyNumber_l (s : ByteArray) (hs : s.size ≤ 140737488351232) : ∀ (n i k : Nat) (x : Int), s.size - i = n → i ≤ s.size → n < k → key_number.l0 k s x (s.size : Int) (i : Int) = some (numL x (s.data.toList.drop i)) := by
  intro n
  have ls := ba_len s
  induction n with
  | zero =>
    intro i k x hn hi hk
    obtain ⟨k, rfl⟩ : ∃ m, k = m + 1 := ⟨k - 1, by omega⟩
    simp only [key_number.l0]
    rw [if_neg (by omega), List.drop_eq_nil_of_le (by omega)]
    rfl
  | succ n ih =>
    intro i k x hn hi hk
    obtain ⟨k, rfl⟩ : ∃ m, k = m + 1 := ⟨k - 1, by omega⟩
    have hlt : i < s.data.toList.length := by omega
    have hr := toI_range s.data.toList[i]
    have hw := wrap256 x
    simp only [key_number.l0]
    rw [if_pos (by omega), if_pos (by omega), if_pos (by omega), bt_toI s i (by omega), w64 (x := toI s.data.toList[i]) (by omega) (by omega), or256 _ _ hw.1 hw.2.1 (by omega) hr.1 hr.2, w64 (x := (i : Int) + 1) (by omega) (by omega)]
    have := ih (i + 1) k (wrap64 (x * 256) + toI s.data.toList[i]) (by omega) (by omega) (by omega)
    rw [show ((i : Int) + 1) = ((i + 1 : Nat) : Int) by omega, this, List.drop_eq_getElem_cons hlt]
    rfl
theorem key_number_f (k : Nat) (s : ByteArray) (hs : s.size ≤ 140737488351232) (hk : s.size < k) : key_number.f k s = some (numL 0 s.data.toList) := by
  have := keyNumber_l s hs s.size 0 k 0 (by omega) (by omega) hk
  simpa [key_number.f] using this
def vN : Int → List UInt8 → Int
  | x, [] => x
  | x, b :: l => vN (x * 256 + toI b) l
theorem numL_vN : ∀ (l : List UInt8) (x y q : Int), x = y + q * 18446744073709551616 → -9223372036854775808 ≤ x → x ≤ 9223372036854775807 → ∃ r, numL x l = vN y l + r * 18446744073709551616 ∧ -9223372036854775808 ≤ numL x l ∧ numL x l ≤ 9223372036854775807
  | [], x, y, q, h, h0, h1 => ⟨q, h, h0, h1⟩
  | b :: l, x, y, q, h, h0, h1 => by
    have hr := toI_range b
    have hw := wrap256 x
    obtain ⟨q2, hq2⟩ : ∃ q2, wrap64 (x * 256) = x * 256 + q2 * 18446744073709551616 := ⟨(wrap64 (x * 256) - x * 256) / 18446744073709551616, by unfold wrap64; omega⟩
    exact numL_vN l (wrap64 (x * 256) + toI b) (y * 256 + toI b) (q * 256 + q2) (by omega) (by omega) (by omega)
theorem vN_snoc (b : UInt8) : ∀ (l : List UInt8) (x : Int), vN x (l ++ [b]) = vN x l * 256 + toI b
  | [], x => rfl
  | c :: l, x => by rw [List.cons_append, vN, vN_snoc b l]; rfl
theorem vN_be : ∀ (k n : Nat), n < 256 ^ k → vN 0 (be k n) = (n : Int)
  | 0, n, h => by have : n = 0 := by simp at h; omega
                  subst this; rfl
  | k + 1, n, h => by
    have ih := vN_be k (n / 256) (by rw [Nat.pow_succ] at h; exact Nat.div_lt_of_lt_mul (by omega))
    rw [be, vN_snoc, ih, toI_ofNat _ (Nat.mod_lt _ (by decide))]
    omega
theorem numL_be (k n : Nat) (h : n < 256 ^ k) (h2 : n < 9223372036854775808) : numL 0 (be k n) = (n : Int) := by
  obtain ⟨r, h3, h4, h5⟩ := numL_vN (be k n) 0 0 0 (by omega) (by omega) (by omega)
  rw [vN_be k n h] at h3
  omega
def tx : Nat → List UInt8 → List UInt8 → Option (List UInt8 × List UInt8)
  | 0, _, _ => none
  | _ + 1, _, [] => none
  | n + 1, acc, x :: l => if x = 0 then (match l with
      | [] => none
      | y :: m => if y = 0 then (if 48 < acc.length then none else some (acc, m)) else if y = 1 then tx n (acc ++ [0]) m else none)
    else tx n (acc ++ [x]) l
theorem tx_step (n : Nat) (acc : List UInt8) (x : UInt8) (l : List UInt8) : tx (n + 1) acc (x :: l) = if x = 0 then (match l with
      | [] => none
      | y :: m => if y = 0 then (if 48 < acc.length then none else some (acc, m)) else if y = 1 then tx n (acc ++ [0]) m else none)
    else tx n (acc ++ [x]) l := by simp only [tx]
def txV (z : Nat) : Option (List UInt8 × List UInt8) → Int × Int × ByteArray × Int
  | none => (0, 0, (⟨#[]⟩ : ByteArray), 0)
  | some (t, r) => (4, 0, ⟨t.toArray⟩, (z : Int) - r.length)
theorem byte_cases {y : UInt8} : (toI y = 0 ↔ y = 0) ∧ (toI y = 1 ↔ y = 1) := by
  refine ⟨⟨fun h => toI_inj (h.trans rfl), fun h => by rw [h]; rfl⟩, ⟨fun h => toI_inj (h.trans rfl), fun h => by rw [h]; rfl⟩⟩
theorem cutText_l (s : ByteArray) (hs : s.size ≤ 40000) : ∀ (n i k : Nat) (acc : List UInt8), s.size - i ≤ n → i ≤ s.size → 2 * n + 1 ≤ k → acc.length ≤ i →
    key_cutText.l0 k s (acc.map toI) (i : Int) = some (txV s.size (tx (n + 1) acc (s.data.toList.drop i))) := by
  intro n
  have ls := ba_len s
  induction n with
  | zero =>
    intro i k acc hn hi hk ha
    obtain ⟨k, rfl⟩ : ∃ m, k = m + 1 := ⟨k - 1, by omega⟩
    simp only [key_cutText.l0]
    rw [if_neg (by omega), List.drop_eq_nil_of_le (by omega)]
    rfl
  | succ n ih =>
    intro i k acc hn hi hk ha
    obtain ⟨k, rfl⟩ : ∃ m, k = m + 1 := ⟨k - 1, by omega⟩
    by_cases hlt : i < s.data.toList.length
    · simp only [key_cutText.l0]
      obtain ⟨k, rfl⟩ : ∃ m, k = m + 1 := ⟨k - 1, by omega⟩
      rw [if_pos (by omega), if_pos (by omega), bt_toI s i (by omega), List.drop_eq_getElem_cons hlt]
      rw [tx_step]
      by_cases hx : s.data.toList[i] = 0
      · rw [if_pos (byte_cases.1.2 hx), if_pos hx, w64 (x := (i : Int) + 1) (by omega) (by omega)]
        by_cases he : i + 1 = s.size
        · rw [if_pos (by omega), List.drop_eq_nil_of_le (by omega)]
          simp only [key_cutText.j1]
          rfl
        · have hlt2 : i + 1 < s.data.toList.length := by omega
          rw [if_neg (by omega), if_pos (by omega), if_pos (by omega), show ((i : Int) + 1) = ((i + 1 : Nat) : Int) by omega, bt_toI s (i + 1) (by omega), List.drop_eq_getElem_cons hlt2]
          simp only [key_cutText.j1]
          have hr := toI_range s.data.toList[i + 1]
          by_cases h0 : s.data.toList[i + 1] = 0
          · have e0 : toI s.data.toList[i + 1] = 0 := byte_cases.1.2 h0
            rw [if_neg (by rw [decide_eq_false (by omega)]; decide), if_pos (by omega), if_pos (by omega), bt_toI s (i + 1) (by omega), if_neg (by omega), if_pos h0, List.length_map]
            by_cases h48 : 48 < acc.length
            · rw [if_pos (by omega), if_pos h48]
              rfl
            · rw [if_neg (by omega), if_neg h48, strOf_map, w64 (by omega) (by omega)]
              unfold txV
              simp only [List.length_drop]
              congr 4
              omega
          · by_cases h1 : s.data.toList[i + 1] = 1
            · have e1 : toI s.data.toList[i + 1] = 1 := byte_cases.2.2 h1
              rw [if_neg (by rw [decide_eq_false (by omega)]; decide), if_pos (by omega), if_pos (by omega), bt_toI s (i + 1) (by omega), if_pos e1, if_neg h0, if_pos h1, List.length_map, if_pos (by omega), w64 (by omega) (by omega)]
              have ea : List.map toI acc ++ [0] = (acc ++ [0]).map toI := by simp [toI]
              rw [ea]
              have := ih (i + 2) k (acc ++ [0]) (by omega) (by omega) (by omega) (by simp; omega)
              rw [show (((i + 1 : Nat) : Int) + 1) = ((i + 2 : Nat) : Int) by omega, this]
            · have e2 : toI s.data.toList[i + 1] > 1 := by
                have a := mt byte_cases.1.1 h0
                have b := mt byte_cases.2.1 h1
                omega
              rw [if_pos (decide_eq_true e2), if_neg h0, if_neg h1]
              rfl
      · rw [if_neg (mt byte_cases.1.1 hx), if_neg hx, List.length_map, if_pos (by omega), w64 (by omega) (by omega)]
        have ea : List.map toI acc ++ [toI s.data.toList[i]] = (acc ++ [s.data.toList[i]]).map toI := by simp
        rw [ea]
        have := ih (i + 1) (k + 1) (acc ++ [s.data.toList[i]]) (by omega) (by omega) (by omega) (by simp; omega)
        rw [show ((i : Int) + 1) = ((i + 1 : Nat) : Int) by omega, this]
    · simp only [key_cutText.l0]
      rw [if_neg (by omega), List.drop_eq_nil_of_le (by omega)]
      rfl
end Go.Proofs.YtnkejhfbkgfedaaDoor.L1
