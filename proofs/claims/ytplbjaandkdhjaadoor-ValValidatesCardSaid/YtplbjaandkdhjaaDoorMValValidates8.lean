-- Written by a program of this session (wip/merge.py): the texts of this claim, joined.
import Derived.Laws.EntriesVeiled
import Derived.Test.YtplbjaandkdhjaaDoorProg
import Derived.Below
import Derived.Deep.Draws
import Derived.Deep.AppendLies
import Derived.Maps.AppendAt
import Derived.OwnWalk
import Derived.Laws.BytesArg
import Derived.Laws.MakeOwn
import Derived.Laws.OwnMore
import Derived.Deep.OwnRows
import Derived.Tactics
import Derived.Lib.ConvBytes
import Derived.Laws.Slices
import Derived.WalkKit
import Derived.KernelRfl
import Derived.RowKit3
import Derived.Deep.LoopGhost
import Derived.Deep.QuietTactic
import Derived.BigQuiet
import Derived.WideLaws
import Derived.Deep.DeepCutAuto
import Derived.Deep.CutBlock
import Derived.Deep.RegionHeld3
import Derived.Laws.Rows
import Derived.Lib.AppendStr
import Derived.ArgAppend
import Derived.Laws.IdiomCopy
import Derived.OrdersHeld
import Derived.Laws.BitsLemmas
import Derived.RowKit
import Derived.Test.YtplbjaandkdhjaaDoorMValValidates1
import Derived.Test.YtplbjaandkdhjaaDoorMValValidates2
import Derived.Test.YtplbjaandkdhjaaDoorMValValidates3
import Derived.Test.YtplbjaandkdhjaaDoorMValValidates5
import Derived.Test.YtplbjaandkdhjaaDoorMValValidates6
import Derived.Test.YtplbjaandkdhjaaDoorMValValidates7
namespace Go.Proofs.YtplbjaandkdhjaaDoor.PA
end Go.Proofs.YtplbjaandkdhjaaDoor.PA
namespace Go.Proofs.YtplbjaandkdhjaaDoor.PB
end Go.Proofs.YtplbjaandkdhjaaDoor.PB
namespace Go.Proofs.YtplbjaandkdhjaaDoor.PC
end Go.Proofs.YtplbjaandkdhjaaDoor.PC
namespace Go.Proofs.YtplbjaandkdhjaaDoor.H1
end Go.Proofs.YtplbjaandkdhjaaDoor.H1
namespace Go.Proofs.YtplbjaandkdhjaaDoor.L1
end Go.Proofs.YtplbjaandkdhjaaDoor.L1
namespace Go.Proofs.YtplbjaandkdhjaaDoor.PA
open Go.RowKit Go.Proofs.YtplbjaandkdhjaaDoorW.PrintWords Go.Proofs.YtplbjaandkdhjaaDoorW.PrintLast Go.Proofs.YtplbjaandkdhjaaDoorW.PrintMore
attribute [local go_sem] max2_int min2_int max_two min_two max_three min_three max_four min_four   -- for this text's walks alone
set_option linter.unusedVariables false
set_option linter.unusedSimpArgs false
mutual
def val_pow.j0 : Nat → Int → Int → Option (Int × Int × ByteArray × Int)
  | 0, _, _ => none
  | k + 1, x0, x1 => (val_number.f 1).bind fun bt221 => (val_pow.l0 k x0 x1 0 bt221.1 bt221.2.1 bt221.2.2.1 bt221.2.2.2)
def val_pow.l0 : Nat → Int → Int → Int → Int → Int → ByteArray → Int → Option (Int × Int × ByteArray × Int)
  | 0, _, _, _, _, _, _, _ => none
  | k + 1, x0, x18, x19, x226000, x226001, x226002, x226003 => if x19 < x18 then ((val_mul.f k x226001 x0).bind fun bt226 => (if bt226.2.2.2 = 0 then (val_pow.l0 k x0 x18 (wrap64 (x19 + 1)) bt226.1 bt226.2.1 bt226.2.2.1 bt226.2.2.2) else (some (bt226.1, bt226.2.1, bt226.2.2.1, bt226.2.2.2)))) else (some (x226000, x226001, x226002, x226003))
end
def val_pow.f (k : Nat) (a0 : Int) (a1 : Int) : Option (Int × Int × ByteArray × Int) := if a1 < 0 then ((val_died.f 3).bind fun bt216 => (some (bt216.1, bt216.2.1, bt216.2.2.1, bt216.2.2.2))) else ((val_size.f a0).bind fun t220 => (if t220 ≤ 1 then (val_pow.j0 k a0 (mn a1 (wrap64 (2 + (Int.tmod a1 2))))) else (val_pow.j0 k a0 a1)))
set_option maxHeartbeats 8000000 in
set_option maxRecDepth 100000 in
theorem val_pow.calls (k : Nat) (a0 : Int) (a1 : Int) (r1 : Int) (r2 : Int) (r3 : ByteArray) (r4 : Int) (w : World) (h : val_pow.f k a0 a1 = some (r1, r2, r3, r4)) :
    Calls Tryd.prog 66 #[.int .i64 a0, .int .i64 a1] w fun e w' => e = .returned (.agg #[.int .i64 r1, .int .i64 r2, .string r3, .int .i64 r4]) ∧ Below w.heap.size w w' := by
  have hu70 := Tryd.underlying70
  have HB := Aside0.mk (Below.refl w.heap.size w)
  have H : (if a1 < 0 then ((val_died.f 3).bind fun bt216 => (some (bt216.1, bt216.2.1, bt216.2.2.1, bt216.2.2.2))) else ((val_size.f a0).bind fun t220 => (if t220 ≤ 1 then (val_pow.j0 k a0 (mn a1 (wrap64 (2 + (Int.tmod a1 2))))) else (val_pow.j0 k a0 a1)))) = some (r1, r2, r3, r4) := h
  clear h
  by_cases c3 : a1 < 0
  · rw [if_pos c3] at H
    have c3b0 : decide (a1 < 0) = true := decide_eq_true c3
    clear c3
    replace H := Option.bind_eq_some_iff.mp H
    obtain ⟨⟨t216, t217, t218, t219⟩, A40, H⟩ := H
    replace H : (some (t216, t217, t218, t219)) = some (r1, r2, r3, r4) := H
    have A4 := Aside0.mk A40
    clear A40
    simp only [Option.some.injEq, Prod.mk.injEq] at H
    obtain ⟨rfl, rfl, rfl, rfl⟩ := H
    go_enter Tryd.func66, Tryd.ntmps66
    go_wp2_with (first | ((with_reducible refine gate_dst (N := 4) rfl ?_); refine box_event ?hg (N := 4) ?hd (cs := #[.int .i64 0, .int .i64 0, .string (⟨#[]⟩ : ByteArray), .int .i64 0]) (t := 70) ?hr ?_; (case hd => rfl); (case hg => rfl); (case hr => first | (go_simp; done) | (go_simp; rfl)); intro gb215 hg w5 hbox hb; have n0_ := Aside0.mk (below_step (by repeat (first | (with_reducible first | exact HB.out | apply below_alloc | apply pw_below_drewN | apply below_drew1) | exact HB.out)) hb); have n1_ := Aside0.mk (hbox); have n2_ := Aside0.mk ((by rw [hg]; exact (below_size (by repeat (first | (with_reducible first | exact HB.out | apply below_alloc | apply pw_below_drewN | apply below_drew1) | exact HB.out))) : w.heap.size ≤ gb215)); have n3_ := Aside0.mk ((by rw [hg]; exact (below_size (by repeat (first | (with_reducible first | exact HB.out | apply below_alloc | apply pw_below_drewN | apply below_drew1) | exact HB.out))) : w.heap.size ≤ gb215)); clear HB; have HB := n0_; have BK215 := n1_; have GW215 := n2_; have GE215 := n3_; clear n0_ n1_ n2_ n3_; clear hb hbox hg) | ((with_reducible refine gate_callee (f := 106) rfl ?_); refine goesL_ (some 8) rfl rfl Tryd.func106 (by kernel_rfl) rfl #[.int .i64 3] rfl (by (try simp only [List.map_toArray, List.map_cons, List.map_nil]); first | done | rfl | (simp only [List.length_drop, List.length_take]; rfl)) ?_; (with_reducible refine (val_died.calls 3 t216 t217 t218 t219 _ A4.out).mono ?_); rintro e w6 ⟨rfl, hb⟩; refine ⟨_, rfl, ?_⟩; have n0_ := Aside0.mk (blk_below (g := gb215) (o := .cells #[.int .i64 0, .int .i64 0, .string (⟨#[]⟩ : ByteArray), .int .i64 0] 70 (0, 0)) (by (with_reducible repeat (first | refine blk_drewN ?_ _ | refine blk_drew ?_ | refine blk_alloc ?_ _)); exact BK215.out) hb); have n1_ := Aside0.mk (below_step (by repeat (first | (with_reducible first | exact HB.out | apply below_alloc | apply pw_below_drewN | apply below_drew1 | refine below_set ?_ GE215.out) | exact HB.out)) hb); clear BK215; clear HB; have BK215 := n0_; have HB := n1_; clear n0_ n1_; (try clear hb); (try clear hb2); (try clear hk); (try clear hi); have hcz7_0 : w6.cell? ⟨gb215, 0, none⟩ = some (.int .i64 0) := (blk_cell BK215.out 0).trans rfl; have hcz7_1 : w6.cell? ⟨gb215, 1, none⟩ = some (.int .i64 0) := (blk_cell BK215.out 1).trans rfl; have hcz7_2 : w6.cell? ⟨gb215, 2, none⟩ = some (.string (⟨#[]⟩ : ByteArray)) := (blk_cell BK215.out 2).trans rfl; have hcz7_3 : w6.cell? ⟨gb215, 3, none⟩ = some (.int .i64 0) := (blk_cell BK215.out 3).trans rfl; have hfz7_0 := blk_frozen BK215.out 0; have hfz7_1 := blk_frozen BK215.out 1; have hfz7_2 := blk_frozen BK215.out 2; have hfz7_3 := blk_frozen BK215.out 3))
    refine bodyPost_ret (results_cell_row rfl _ _ gb215 70 #[.int .i64 t216, .int .i64 t217, .string t218, .int .i64 t219] (0, 0) _ rfl (by (with_reducible repeat (first | refine blk_drewN ?_ _ | refine blk_drew ?_ | refine blk_alloc ?_ _)); refine blk_put (cs := #[.int .i64 t216, .int .i64 t217, .string t218, .int .i64 0]) ?_ 3 _ rfl; (with_reducible repeat (first | refine blk_drewN ?_ _ | refine blk_drew ?_ | refine blk_alloc ?_ _)); refine blk_put (cs := #[.int .i64 t216, .int .i64 t217, .string (⟨#[]⟩ : ByteArray), .int .i64 0]) ?_ 2 _ rfl; (with_reducible repeat (first | refine blk_drewN ?_ _ | refine blk_drew ?_ | refine blk_alloc ?_ _)); refine blk_put (cs := #[.int .i64 t216, .int .i64 0, .string (⟨#[]⟩ : ByteArray), .int .i64 0]) ?_ 1 _ rfl; (with_reducible repeat (first | refine blk_drewN ?_ _ | refine blk_drew ?_ | refine blk_alloc ?_ _)); refine blk_put (cs := #[.int .i64 0, .int .i64 0, .string (⟨#[]⟩ : ByteArray), .int .i64 0]) ?_ 0 _ rfl; (with_reducible repeat (first | refine blk_drewN ?_ _ | refine blk_drew ?_ | refine blk_alloc ?_ _)); exact BK215.out) Tryd.underlying70 rfl (by kernel_rfl)) rfl ?_
    exact ⟨by first | rfl | (simp [errW_none, errW_some] <;> rfl) | (simp [*, errW_none, errW_some] <;> rfl), by repeat (first | (with_reducible first | exact HB.out | apply below_alloc | apply pw_below_drewN | apply below_drew1 | refine below_set ?_ GE215.out) | exact HB.out)⟩
  · rw [if_neg c3] at H
    have c3b0 : decide (a1 < 0) = false := decide_eq_false c3
    clear c3
    replace H := Option.bind_eq_some_iff.mp H
    obtain ⟨t220, A80, H⟩ := H
    replace H : (if t220 ≤ 1 then (val_pow.j0 k a0 (mn a1 (wrap64 (2 + (Int.tmod a1 2))))) else (val_pow.j0 k a0 a1)) = some (r1, r2, r3, r4) := H
    have A8 := Aside0.mk A80
    clear A80
    have HC9 := Aside0.mk H
    clear H
    go_enter Tryd.func66, Tryd.ntmps66
    go_upto_if 11 with (first | ((with_reducible refine gate_dst (N := 4) rfl ?_); refine box_event ?hg (N := 4) ?hd (cs := #[.int .i64 0, .int .i64 0, .string (⟨#[]⟩ : ByteArray), .int .i64 0]) (t := 70) ?hr ?_; (case hd => rfl); (case hg => rfl); (case hr => first | (go_simp; done) | (go_simp; rfl)); intro gb215 hg w10 hbox hb; have n0_ := Aside0.mk (below_step (by repeat (first | (with_reducible first | exact HB.out | apply below_alloc | apply pw_below_drewN | apply below_drew1) | exact HB.out)) hb); have n1_ := Aside0.mk (hbox); have n2_ := Aside0.mk ((by rw [hg]; exact (below_size (by repeat (first | (with_reducible first | exact HB.out | apply below_alloc | apply pw_below_drewN | apply below_drew1) | exact HB.out))) : w.heap.size ≤ gb215)); have n3_ := Aside0.mk ((by rw [hg]; exact (below_size (by repeat (first | (with_reducible first | exact HB.out | apply below_alloc | apply pw_below_drewN | apply below_drew1) | exact HB.out))) : w.heap.size ≤ gb215)); clear HB; have HB := n0_; have BK215 := n1_; have GW215 := n2_; have GE215 := n3_; clear n0_ n1_ n2_ n3_; clear hb hbox hg) | ((with_reducible refine gate_callee (f := 108) rfl ?_); refine goesL_ (some 10) rfl rfl Tryd.func108 (by kernel_rfl) rfl #[.int .i64 a0] rfl (by (try simp only [List.map_toArray, List.map_cons, List.map_nil]); first | done | rfl | (simp only [List.length_drop, List.length_take]; rfl)) ?_; (with_reducible refine (val_size.calls a0 t220 _ A8.out).mono ?_); rintro e w11 ⟨rfl, hb⟩; refine ⟨_, rfl, ?_⟩; have n0_ := Aside0.mk (blk_below (g := gb215) (o := .cells #[.int .i64 0, .int .i64 0, .string (⟨#[]⟩ : ByteArray), .int .i64 0] 70 (0, 0)) (by (with_reducible repeat (first | refine blk_drewN ?_ _ | refine blk_drew ?_ | refine blk_alloc ?_ _)); exact BK215.out) hb); have n1_ := Aside0.mk (below_step (by repeat (first | (with_reducible first | exact HB.out | apply below_alloc | apply pw_below_drewN | apply below_drew1 | refine below_set ?_ GE215.out) | exact HB.out)) hb); clear BK215; clear HB; have BK215 := n0_; have HB := n1_; clear n0_ n1_; (try clear hb); (try clear hb2); (try clear hk); (try clear hi)))
    (try simp only [Act.put, List.setIfInBounds_toArray, List.set_cons_zero, List.set_cons_succ])
    go_cut [1] (fun v1 wc => ∃ (kq : Nat) (x1_8 : Int), v1 = .int .i64 x1_8 ∧ Aside0 (val_pow.j0 kq a0 x1_8 = some (r1, r2, r3, r4)) ∧ Aside0 (kq ≤ k) ∧ Aside0 (wc.heap[gb215]? = some (.cells #[.int .i64 0, .int .i64 0, .string (⟨#[]⟩ : ByteArray), .int .i64 0] 70 (0, 0))) ∧ Aside0 (Below w.heap.size w wc))
    case first =>
      have H := HC9.out
      clear HC9
      by_cases c12 : t220 ≤ 1
      · rw [if_pos c12] at H
        have c12b0 : decide (t220 ≤ 1) = true := decide_eq_true c12
        clear c12
        (first | rw [c12b0] | (simp only [i64_w, i32_w]; rw [c12b0]) | skip)
        obtain ⟨ji13, hji13⟩ : ∃ j_ : Int, (mn a1 (wrap64 (2 + (Int.tmod a1 2)))) = j_ := ⟨_, rfl⟩
        replace H : (val_pow.j0 k a0 ji13) = some (r1, r2, r3, r4) := by first | (rw [hji13] at H; exact H) | (simp only [hji13] at H ⊢; exact H)
        have hji13_ : (if (wrap64 (2 + (Int.tmod a1 2))) < a1 then (wrap64 (2 + (Int.tmod a1 2))) else a1) = ji13 := hji13
        have H' := Aside0.mk H
        clear H
        go_wp2
        go_meet
        case rel => exact ⟨_, (ji13), (by first | rfl | (simp; done) | (simp only [← hji13] <;> (first | rfl | simp)) | (simp [*]; done)), (by first | exact H' | (rw [hji13]; exact H')), ⟨by first | omega | exact Nat.le_refl _⟩, ⟨by (with_reducible repeat (first | refine blk_drewN ?_ _ | refine blk_drew ?_ | refine blk_alloc ?_ _)); exact BK215.out⟩, ⟨by repeat (first | (with_reducible first | exact HB.out | apply below_alloc | apply pw_below_drewN | apply below_drew1 | refine below_set ?_ GE215.out) | exact HB.out)⟩⟩
      · rw [if_neg c12] at H
        have c12b0 : decide (t220 ≤ 1) = false := decide_eq_false c12
        clear c12
        (first | rw [c12b0] | (simp only [i64_w, i32_w]; rw [c12b0]) | skip)
        have H' := Aside0.mk H
        clear H
        go_wp2
        go_meet
        case rel => exact ⟨_, (a1), (by first | rfl | (simp; done) | (simp [*]; done)), (by first | exact H' | (rw [hji13]; exact H')), ⟨by first | omega | exact Nat.le_refl _⟩, ⟨by (with_reducible repeat (first | refine blk_drewN ?_ _ | refine blk_drew ?_ | refine blk_alloc ?_ _)); exact BK215.out⟩, ⟨by repeat (first | (with_reducible first | exact HB.out | apply below_alloc | apply pw_below_drewN | apply below_drew1 | refine below_set ?_ GE215.out) | exact HB.out)⟩⟩
    case rest =>
      clear HC9
      try clear c1
      try clear p2
      try clear c3
      try clear c3b0
      try clear c6
      try clear p6
      try clear c10
      try clear c12
      try clear c12b0
      try clear hcz7_0
      try clear hcz7_1
      try clear hcz7_2
      try clear hcz7_3
      try clear hfz7_0
      try clear hfz7_1
      try clear hfz7_2
      try clear hfz7_3
      obtain ⟨kq, x1_8, rfl, HA, HJ8, BK215, HB⟩ := hcut
      cases kq with
      | zero => exact absurd HA.out (by simp [val_pow.j0])
      | succ kj8 =>
        have H := HA.out
        clear HA
        simp only [val_pow.j0] at H
        replace H := Option.bind_eq_some_iff.mp H
        obtain ⟨⟨t221, t222, t223, t224⟩, A140, H⟩ := H
        replace H : (val_pow.l0 kj8 a0 x1_8 0 t221 t222 t223 t224) = some (r1, r2, r3, r4) := H
        have A14 := Aside0.mk A140
        clear A140
        have H' := Aside0.mk H
        clear H
        go_wp2_with (first | ((with_reducible refine gate_callee (f := 103) rfl ?_); refine goesL_ (some 17) rfl rfl Tryd.func103 (by kernel_rfl) rfl #[.int .i64 1] rfl (by (try simp only [List.map_toArray, List.map_cons, List.map_nil]); first | done | rfl | (simp only [List.length_drop, List.length_take]; rfl)) ?_; (with_reducible refine (val_number.calls 1 t221 t222 t223 t224 _ A14.out).mono ?_); rintro e w15 ⟨rfl, hb⟩; refine ⟨_, rfl, ?_⟩; have n0_ := Aside0.mk (blk_below (g := gb215) (o := .cells #[.int .i64 0, .int .i64 0, .string (⟨#[]⟩ : ByteArray), .int .i64 0] 70 (0, 0)) (by (with_reducible repeat (first | refine blk_drewN ?_ _ | refine blk_drew ?_ | refine blk_alloc ?_ _)); exact BK215.out) hb); have n1_ := Aside0.mk (below_step (by repeat (first | (with_reducible first | exact HB.out | apply below_alloc | apply pw_below_drewN | apply below_drew1 | refine below_set ?_ GE215.out) | exact HB.out)) hb); clear BK215; clear HB; have BK215 := n0_; have HB := n1_; clear n0_ n1_; (try clear hb); (try clear hb2); (try clear hk); (try clear hi)) | ((with_reducible refine gate_dst (N := 5) rfl ?_); refine box_event ?hg (N := 5) ?hd (cs := #[.int .i64 0, .int .i64 0, .string (⟨#[]⟩ : ByteArray), .int .i64 0]) (t := 70) ?hr ?_; (case hd => rfl); (case hg => rfl); (case hr => first | (go_simp; done) | (go_simp; rfl)); intro gb225 hg w16 hbox hb; have n0_ := Aside0.mk (blk_below (g := gb215) (o := .cells #[.int .i64 0, .int .i64 0, .string (⟨#[]⟩ : ByteArray), .int .i64 0] 70 (0, 0)) (by (with_reducible repeat (first | refine blk_drewN ?_ _ | refine blk_drew ?_ | refine blk_alloc ?_ _)); exact BK215.out) hb); have n1_ := Aside0.mk (below_step (by repeat (first | (with_reducible first | exact HB.out | apply below_alloc | apply pw_below_drewN | apply below_drew1 | refine below_set ?_ GE215.out) | exact HB.out)) hb); have n2_ := Aside0.mk (hbox); have n3_ := Aside0.mk ((by rw [hg]; exact (below_size (by repeat (first | (with_reducible first | exact HB.out | apply below_alloc | apply pw_below_drewN | apply below_drew1 | refine below_set ?_ GE215.out) | exact HB.out))) : w.heap.size ≤ gb225)); have n4_ := Aside0.mk ((by rw [hg]; exact (below_size (by repeat (first | (with_reducible first | exact HB.out | apply below_alloc | apply pw_below_drewN | apply below_drew1 | refine below_set ?_ GE215.out) | exact HB.out))) : w.heap.size ≤ gb225)); have n5_ := Aside0.mk ((by rw [hg]; exact Nat.ne_of_lt (blk_lt (g := gb215) (o := .cells #[.int .i64 0, .int .i64 0, .string (⟨#[]⟩ : ByteArray), .int .i64 0] 70 (0, 0)) (by (with_reducible repeat (first | refine blk_drewN ?_ _ | refine blk_drew ?_ | refine blk_alloc ?_ _)); exact BK215.out)) : gb215 ≠ gb225)); have n6_ := Aside0.mk ((by rw [hg]; exact Nat.ne_of_gt (blk_lt (g := gb215) (o := .cells #[.int .i64 0, .int .i64 0, .string (⟨#[]⟩ : ByteArray), .int .i64 0] 70 (0, 0)) (by (with_reducible repeat (first | refine blk_drewN ?_ _ | refine blk_drew ?_ | refine blk_alloc ?_ _)); exact BK215.out)) : gb225 ≠ gb215)); clear BK215; clear HB; have BK215 := n0_; have HB := n1_; have BK225 := n2_; have GW225 := n3_; have GE225 := n4_; have NB215_225 := n5_; have NB225_215 := n6_; clear n0_ n1_ n2_ n3_ n4_ n5_ n6_; clear hb hbox hg; have hnb17 := NB225_215.out; have hnc17 := NB215_225.out; have hcz18_0 : w16.cell? ⟨gb225, 0, none⟩ = some (.int .i64 0) := (blk_cell BK225.out 0).trans rfl; have hcz18_1 : w16.cell? ⟨gb225, 1, none⟩ = some (.int .i64 0) := (blk_cell BK225.out 1).trans rfl; have hcz18_2 : w16.cell? ⟨gb225, 2, none⟩ = some (.string (⟨#[]⟩ : ByteArray)) := (blk_cell BK225.out 2).trans rfl; have hcz18_3 : w16.cell? ⟨gb225, 3, none⟩ = some (.int .i64 0) := (blk_cell BK225.out 3).trans rfl; have hfz18_0 := blk_frozen BK225.out 0; have hfz18_1 := blk_frozen BK225.out 1; have hfz18_2 := blk_frozen BK225.out 2; have hfz18_3 := blk_frozen BK225.out 3))
        go_loopg [19] kj8 (fun kq v19 w' => ∃ (x19_2 : Int) (x216000_2 : Int) (x216001_2 : Int) (x216002_2 : ByteArray) (x216003_2 : Int) (x226000_2 : Int) (x226001_2 : Int) (x226002_2 : ByteArray) (x226003_2 : Int), v19 = .int .i64 x19_2 ∧ Aside0 (val_pow.l0 kq a0 x1_8 x19_2 x226000_2 x226001_2 x226002_2 x226003_2 = some (r1, r2, r3, r4)) ∧ Aside0 (kq ≤ kj8) ∧ Aside0 (w'.heap[gb215]? = some (.cells #[.int .i64 x216000_2, .int .i64 x216001_2, .string x216002_2, .int .i64 x216003_2] 70 (0, 0))) ∧ Aside0 (w'.heap[gb225]? = some (.cells #[.int .i64 x226000_2, .int .i64 x226001_2, .string x226002_2, .int .i64 x226003_2] 70 (0, 0))) ∧ Aside0 (Below w.heap.size w w'))
        case atStart => exact ⟨(0), (0), (0), ((⟨#[]⟩ : ByteArray)), (0), (t221), (t222), (t223), (t224), (by first | rfl | (simp; done) | (simp [*]; done)), H', ⟨Nat.le_refl _⟩, ⟨by (with_reducible repeat (first | refine blk_drewN ?_ _ | refine blk_drew ?_ | refine blk_alloc ?_ _)); refine blk_far ?_ NB215_225.out _; (with_reducible repeat (first | refine blk_drewN ?_ _ | refine blk_drew ?_ | refine blk_alloc ?_ _)); refine blk_far ?_ NB215_225.out _; (with_reducible repeat (first | refine blk_drewN ?_ _ | refine blk_drew ?_ | refine blk_alloc ?_ _)); refine blk_far ?_ NB215_225.out _; (with_reducible repeat (first | refine blk_drewN ?_ _ | refine blk_drew ?_ | refine blk_alloc ?_ _)); refine blk_far ?_ NB215_225.out _; (with_reducible repeat (first | refine blk_drewN ?_ _ | refine blk_drew ?_ | refine blk_alloc ?_ _)); exact BK215.out⟩, ⟨by (with_reducible repeat (first | refine blk_drewN ?_ _ | refine blk_drew ?_ | refine blk_alloc ?_ _)); refine blk_put (cs := #[.int .i64 t221, .int .i64 t222, .string t223, .int .i64 0]) ?_ 3 _ rfl; (with_reducible repeat (first | refine blk_drewN ?_ _ | refine blk_drew ?_ | refine blk_alloc ?_ _)); refine blk_put (cs := #[.int .i64 t221, .int .i64 t222, .string (⟨#[]⟩ : ByteArray), .int .i64 0]) ?_ 2 _ rfl; (with_reducible repeat (first | refine blk_drewN ?_ _ | refine blk_drew ?_ | refine blk_alloc ?_ _)); refine blk_put (cs := #[.int .i64 t221, .int .i64 0, .string (⟨#[]⟩ : ByteArray), .int .i64 0]) ?_ 1 _ rfl; (with_reducible repeat (first | refine blk_drewN ?_ _ | refine blk_drew ?_ | refine blk_alloc ?_ _)); refine blk_put (cs := #[.int .i64 0, .int .i64 0, .string (⟨#[]⟩ : ByteArray), .int .i64 0]) ?_ 0 _ rfl; (with_reducible repeat (first | refine blk_drewN ?_ _ | refine blk_drew ?_ | refine blk_alloc ?_ _)); exact BK225.out⟩, ⟨by repeat (first | (with_reducible first | exact HB.out | apply below_alloc | apply pw_below_drewN | apply below_drew1 | refine below_set ?_ GE215.out | refine below_set ?_ GE225.out) | exact HB.out)⟩⟩
        case round =>
          clear H'
          try clear c1
          try clear p2
          try clear c3
          try clear c3b0
          try clear c6
          try clear p6
          try clear c10
          try clear c12
          try clear c12b0
          try clear c17
          try clear hcz18_0
          try clear hcz18_1
          try clear hcz18_2
          try clear hcz18_3
          try clear hcz7_0
          try clear hcz7_1
          try clear hcz7_2
          try clear hcz7_3
          try clear hfz18_0
          try clear hfz18_1
          try clear hfz18_2
          try clear hfz18_3
          try clear hfz7_0
          try clear hfz7_1
          try clear hfz7_2
          try clear hfz7_3
          try clear p2
          try clear p6
          obtain ⟨x19_2, x216000_2, x216001_2, x216002_2, x216003_2, x226000_2, x226001_2, x226002_2, x226003_2, rfl, HA, HK2, BK215, BK225, HB⟩ := hrel
          cases gk with
          | zero => exact absurd HA.out (by simp [val_pow.l0])
          | succ k2 =>
            have H := HA.out
            clear HA
            simp only [val_pow.l0] at H
            by_cases c19 : x19_2 < x1_8
            · rw [if_pos c19] at H
              have c19b0 : decide (x19_2 < x1_8) = true := decide_eq_true c19
              clear c19
              replace H := Option.bind_eq_some_iff.mp H
              obtain ⟨⟨t226, t227, t228, t229⟩, A200, H⟩ := H
              replace H : (if t229 = 0 then (val_pow.l0 k2 a0 x1_8 (wrap64 (x19_2 + 1)) t226 t227 t228 t229) else (some (t226, t227, t228, t229))) = some (r1, r2, r3, r4) := H
              have A20 := Aside0.mk A200
              clear A200
              by_cases c21 : t229 = 0
              · rw [if_pos c21] at H
                have c21b0 : (t229 == 0) = true := beq_iff_eq.mpr c21
                have c21b1 : (t229 != 0) = false := bne_eq_false_iff_eq.mpr c21
                clear c21
                have H' := Aside0.mk H
                clear H
                have hnb22 := NB225_215.out
                have hnc22 := NB215_225.out
                have hcz23_0 : wr.cell? ⟨gb225, 0, none⟩ = some (.int .i64 x226000_2) := (blk_cell BK225.out 0).trans rfl
                have hcz23_1 : wr.cell? ⟨gb225, 1, none⟩ = some (.int .i64 x226001_2) := (blk_cell BK225.out 1).trans rfl
                have hcz23_2 : wr.cell? ⟨gb225, 2, none⟩ = some (.string x226002_2) := (blk_cell BK225.out 2).trans rfl
                have hcz23_3 : wr.cell? ⟨gb225, 3, none⟩ = some (.int .i64 x226003_2) := (blk_cell BK225.out 3).trans rfl
                have hfz23_0 := blk_frozen BK225.out 0
                have hfz23_1 := blk_frozen BK225.out 1
                have hfz23_2 := blk_frozen BK225.out 2
                have hfz23_3 := blk_frozen BK225.out 3
                go_wp2_with (first | ((with_reducible refine gate_callee (f := 63) rfl ?_); refine goesL_ (some 25) rfl rfl Tryd.func63 (by kernel_rfl) rfl #[.int .i64 x226001_2, .int .i64 a0] rfl (by (try simp only [List.map_toArray, List.map_cons, List.map_nil]); first | done | rfl | (simp only [List.length_drop, List.length_take]; rfl)) ?_; (with_reducible refine (val_mul.calls k2 x226001_2 a0 t226 t227 t228 t229 _ A20.out).mono ?_); rintro e w24 ⟨rfl, hb⟩; refine ⟨_, rfl, ?_⟩; have n0_ := Aside0.mk (blk_below (g := gb215) (o := .cells #[.int .i64 x216000_2, .int .i64 x216001_2, .string x216002_2, .int .i64 x216003_2] 70 (0, 0)) (by (with_reducible repeat (first | refine blk_drewN ?_ _ | refine blk_drew ?_ | refine blk_alloc ?_ _)); exact BK215.out) hb); have n1_ := Aside0.mk (blk_below (g := gb225) (o := .cells #[.int .i64 x226000_2, .int .i64 x226001_2, .string x226002_2, .int .i64 x226003_2] 70 (0, 0)) (by (with_reducible repeat (first | refine blk_drewN ?_ _ | refine blk_drew ?_ | refine blk_alloc ?_ _)); exact BK225.out) hb); have n2_ := Aside0.mk (below_step (by repeat (first | (with_reducible first | exact HB.out | apply below_alloc | apply pw_below_drewN | apply below_drew1 | refine below_set ?_ GE215.out | refine below_set ?_ GE225.out) | exact HB.out)) hb); clear BK215; clear BK225; clear HB; have BK215 := n0_; have BK225 := n1_; have HB := n2_; clear n0_ n1_ n2_; (try clear hb); (try clear hb2); (try clear hk); (try clear hi); have hcz25_0 : w24.cell? ⟨gb225, 0, none⟩ = some (.int .i64 x226000_2) := (blk_cell BK225.out 0).trans rfl; have hcz25_1 : w24.cell? ⟨gb225, 1, none⟩ = some (.int .i64 x226001_2) := (blk_cell BK225.out 1).trans rfl; have hcz25_2 : w24.cell? ⟨gb225, 2, none⟩ = some (.string x226002_2) := (blk_cell BK225.out 2).trans rfl; have hcz25_3 : w24.cell? ⟨gb225, 3, none⟩ = some (.int .i64 x226003_2) := (blk_cell BK225.out 3).trans rfl; have hfz25_0 := blk_frozen BK225.out 0; have hfz25_1 := blk_frozen BK225.out 1; have hfz25_2 := blk_frozen BK225.out 2; have hfz25_3 := blk_frozen BK225.out 3))
                go_roundg k2
                case measure => have := HJ8.out; have := HK2.out; omega
                case rel => exact ⟨(wrap64 (x19_2 + 1)), (x216000_2), (x216001_2), (x216002_2), (x216003_2), (t226), (t227), (t228), (t229), (by first | rfl | (simp; done) | (simp [*]; done)), H', ⟨by have := HJ8.out; have := HK2.out; omega⟩, ⟨by (with_reducible repeat (first | refine blk_drewN ?_ _ | refine blk_drew ?_ | refine blk_alloc ?_ _)); refine blk_far ?_ NB215_225.out _; (with_reducible repeat (first | refine blk_drewN ?_ _ | refine blk_drew ?_ | refine blk_alloc ?_ _)); refine blk_far ?_ NB215_225.out _; (with_reducible repeat (first | refine blk_drewN ?_ _ | refine blk_drew ?_ | refine blk_alloc ?_ _)); refine blk_far ?_ NB215_225.out _; (with_reducible repeat (first | refine blk_drewN ?_ _ | refine blk_drew ?_ | refine blk_alloc ?_ _)); refine blk_far ?_ NB215_225.out _; (with_reducible repeat (first | refine blk_drewN ?_ _ | refine blk_drew ?_ | refine blk_alloc ?_ _)); exact BK215.out⟩, ⟨by (with_reducible repeat (first | refine blk_drewN ?_ _ | refine blk_drew ?_ | refine blk_alloc ?_ _)); refine blk_put (cs := #[.int .i64 t226, .int .i64 t227, .string t228, .int .i64 x226003_2]) ?_ 3 _ rfl; (with_reducible repeat (first | refine blk_drewN ?_ _ | refine blk_drew ?_ | refine blk_alloc ?_ _)); refine blk_put (cs := #[.int .i64 t226, .int .i64 t227, .string x226002_2, .int .i64 x226003_2]) ?_ 2 _ rfl; (with_reducible repeat (first | refine blk_drewN ?_ _ | refine blk_drew ?_ | refine blk_alloc ?_ _)); refine blk_put (cs := #[.int .i64 t226, .int .i64 x226001_2, .string x226002_2, .int .i64 x226003_2]) ?_ 1 _ rfl; (with_reducible repeat (first | refine blk_drewN ?_ _ | refine blk_drew ?_ | refine blk_alloc ?_ _)); refine blk_put (cs := #[.int .i64 x226000_2, .int .i64 x226001_2, .string x226002_2, .int .i64 x226003_2]) ?_ 0 _ rfl; (with_reducible repeat (first | refine blk_drewN ?_ _ | refine blk_drew ?_ | refine blk_alloc ?_ _)); exact BK225.out⟩, ⟨by repeat (first | (with_reducible first | exact HB.out | apply below_alloc | apply pw_below_drewN | apply below_drew1 | refine below_set ?_ GE215.out | refine below_set ?_ GE225.out) | exact HB.out)⟩⟩
              · rw [if_neg c21] at H
                have c21b0 : (t229 == 0) = false := beq_eq_false_iff_ne.mpr c21
                have c21b1 : (t229 != 0) = true := bne_iff_ne.mpr c21
                simp only [Option.some.injEq, Prod.mk.injEq] at H
                obtain ⟨rfl, rfl, rfl, rfl⟩ := H
                have hnb26 := NB225_215.out
                have hnc26 := NB215_225.out
                have hcz27_0 : wr.cell? ⟨gb225, 0, none⟩ = some (.int .i64 x226000_2) := (blk_cell BK225.out 0).trans rfl
                have hcz27_1 : wr.cell? ⟨gb225, 1, none⟩ = some (.int .i64 x226001_2) := (blk_cell BK225.out 1).trans rfl
                have hcz27_2 : wr.cell? ⟨gb225, 2, none⟩ = some (.string x226002_2) := (blk_cell BK225.out 2).trans rfl
                have hcz27_3 : wr.cell? ⟨gb225, 3, none⟩ = some (.int .i64 x226003_2) := (blk_cell BK225.out 3).trans rfl
                have hfz27_0 := blk_frozen BK225.out 0
                have hfz27_1 := blk_frozen BK225.out 1
                have hfz27_2 := blk_frozen BK225.out 2
                have hfz27_3 := blk_frozen BK225.out 3
                go_wp2_with (first | ((with_reducible refine gate_callee (f := 63) rfl ?_); refine goesL_ (some 25) rfl rfl Tryd.func63 (by kernel_rfl) rfl #[.int .i64 x226001_2, .int .i64 a0] rfl (by (try simp only [List.map_toArray, List.map_cons, List.map_nil]); first | done | rfl | (simp only [List.length_drop, List.length_take]; rfl)) ?_; (with_reducible refine (val_mul.calls k2 x226001_2 a0 t226 t227 t228 t229 _ A20.out).mono ?_); rintro e w28 ⟨rfl, hb⟩; refine ⟨_, rfl, ?_⟩; have n0_ := Aside0.mk (blk_below (g := gb215) (o := .cells #[.int .i64 x216000_2, .int .i64 x216001_2, .string x216002_2, .int .i64 x216003_2] 70 (0, 0)) (by (with_reducible repeat (first | refine blk_drewN ?_ _ | refine blk_drew ?_ | refine blk_alloc ?_ _)); exact BK215.out) hb); have n1_ := Aside0.mk (blk_below (g := gb225) (o := .cells #[.int .i64 x226000_2, .int .i64 x226001_2, .string x226002_2, .int .i64 x226003_2] 70 (0, 0)) (by (with_reducible repeat (first | refine blk_drewN ?_ _ | refine blk_drew ?_ | refine blk_alloc ?_ _)); exact BK225.out) hb); have n2_ := Aside0.mk (below_step (by repeat (first | (with_reducible first | exact HB.out | apply below_alloc | apply pw_below_drewN | apply below_drew1 | refine below_set ?_ GE215.out | refine below_set ?_ GE225.out) | exact HB.out)) hb); clear BK215; clear BK225; clear HB; have BK215 := n0_; have BK225 := n1_; have HB := n2_; clear n0_ n1_ n2_; (try clear hb); (try clear hb2); (try clear hk); (try clear hi); have hcz29_0 : w28.cell? ⟨gb225, 0, none⟩ = some (.int .i64 x226000_2) := (blk_cell BK225.out 0).trans rfl; have hcz29_1 : w28.cell? ⟨gb225, 1, none⟩ = some (.int .i64 x226001_2) := (blk_cell BK225.out 1).trans rfl; have hcz29_2 : w28.cell? ⟨gb225, 2, none⟩ = some (.string x226002_2) := (blk_cell BK225.out 2).trans rfl; have hcz29_3 : w28.cell? ⟨gb225, 3, none⟩ = some (.int .i64 x226003_2) := (blk_cell BK225.out 3).trans rfl; have hfz29_0 := blk_frozen BK225.out 0; have hfz29_1 := blk_frozen BK225.out 1; have hfz29_2 := blk_frozen BK225.out 2; have hfz29_3 := blk_frozen BK225.out 3; have hcz30_0 : w28.cell? ⟨gb215, 0, none⟩ = some (.int .i64 x216000_2) := (blk_cell BK215.out 0).trans rfl; have hcz30_1 : w28.cell? ⟨gb215, 1, none⟩ = some (.int .i64 x216001_2) := (blk_cell BK215.out 1).trans rfl; have hcz30_2 : w28.cell? ⟨gb215, 2, none⟩ = some (.string x216002_2) := (blk_cell BK215.out 2).trans rfl; have hcz30_3 : w28.cell? ⟨gb215, 3, none⟩ = some (.int .i64 x216003_2) := (blk_cell BK215.out 3).trans rfl; have hfz30_0 := blk_frozen BK215.out 0; have hfz30_1 := blk_frozen BK215.out 1; have hfz30_2 := blk_frozen BK215.out 2; have hfz30_3 := blk_frozen BK215.out 3))
                refine bodyPost_ret (results_cell_row rfl _ _ gb215 70 #[.int .i64 t226, .int .i64 t227, .string t228, .int .i64 t229] (0, 0) _ rfl (by (with_reducible repeat (first | refine blk_drewN ?_ _ | refine blk_drew ?_ | refine blk_alloc ?_ _)); refine blk_put (cs := #[.int .i64 t226, .int .i64 t227, .string t228, .int .i64 x216003_2]) ?_ 3 _ rfl; (with_reducible repeat (first | refine blk_drewN ?_ _ | refine blk_drew ?_ | refine blk_alloc ?_ _)); refine blk_put (cs := #[.int .i64 t226, .int .i64 t227, .string x216002_2, .int .i64 x216003_2]) ?_ 2 _ rfl; (with_reducible repeat (first | refine blk_drewN ?_ _ | refine blk_drew ?_ | refine blk_alloc ?_ _)); refine blk_put (cs := #[.int .i64 t226, .int .i64 x216001_2, .string x216002_2, .int .i64 x216003_2]) ?_ 1 _ rfl; (with_reducible repeat (first | refine blk_drewN ?_ _ | refine blk_drew ?_ | refine blk_alloc ?_ _)); refine blk_put (cs := #[.int .i64 x216000_2, .int .i64 x216001_2, .string x216002_2, .int .i64 x216003_2]) ?_ 0 _ rfl; (with_reducible repeat (first | refine blk_drewN ?_ _ | refine blk_drew ?_ | refine blk_alloc ?_ _)); refine blk_far ?_ NB215_225.out _; (with_reducible repeat (first | refine blk_drewN ?_ _ | refine blk_drew ?_ | refine blk_alloc ?_ _)); refine blk_far ?_ NB215_225.out _; (with_reducible repeat (first | refine blk_drewN ?_ _ | refine blk_drew ?_ | refine blk_alloc ?_ _)); refine blk_far ?_ NB215_225.out _; (with_reducible repeat (first | refine blk_drewN ?_ _ | refine blk_drew ?_ | refine blk_alloc ?_ _)); refine blk_far ?_ NB215_225.out _; (with_reducible repeat (first | refine blk_drewN ?_ _ | refine blk_drew ?_ | refine blk_alloc ?_ _)); exact BK215.out) Tryd.underlying70 rfl (by kernel_rfl)) rfl ?_
                exact ⟨by first | rfl | (simp [errW_none, errW_some] <;> rfl) | (simp [*, errW_none, errW_some] <;> rfl), by repeat (first | (with_reducible first | exact HB.out | apply below_alloc | apply pw_below_drewN | apply below_drew1 | refine below_set ?_ GE215.out | refine below_set ?_ GE225.out) | exact HB.out)⟩
            · rw [if_neg c19] at H
              have c19b0 : decide (x19_2 < x1_8) = false := decide_eq_false c19
              clear c19
              simp only [Option.some.injEq, Prod.mk.injEq] at H
              obtain ⟨rfl, rfl, rfl, rfl⟩ := H
              have hnb31 := NB225_215.out
              have hnc31 := NB215_225.out
              have hcz32_0 : wr.cell? ⟨gb225, 0, none⟩ = some (.int .i64 x226000_2) := (blk_cell BK225.out 0).trans rfl
              have hcz32_1 : wr.cell? ⟨gb225, 1, none⟩ = some (.int .i64 x226001_2) := (blk_cell BK225.out 1).trans rfl
              have hcz32_2 : wr.cell? ⟨gb225, 2, none⟩ = some (.string x226002_2) := (blk_cell BK225.out 2).trans rfl
              have hcz32_3 : wr.cell? ⟨gb225, 3, none⟩ = some (.int .i64 x226003_2) := (blk_cell BK225.out 3).trans rfl
              have hfz32_0 := blk_frozen BK225.out 0
              have hfz32_1 := blk_frozen BK225.out 1
              have hfz32_2 := blk_frozen BK225.out 2
              have hfz32_3 := blk_frozen BK225.out 3
              have hcz33_0 : wr.cell? ⟨gb215, 0, none⟩ = some (.int .i64 x216000_2) := (blk_cell BK215.out 0).trans rfl
              have hcz33_1 : wr.cell? ⟨gb215, 1, none⟩ = some (.int .i64 x216001_2) := (blk_cell BK215.out 1).trans rfl
              have hcz33_2 : wr.cell? ⟨gb215, 2, none⟩ = some (.string x216002_2) := (blk_cell BK215.out 2).trans rfl
              have hcz33_3 : wr.cell? ⟨gb215, 3, none⟩ = some (.int .i64 x216003_2) := (blk_cell BK215.out 3).trans rfl
              have hfz33_0 := blk_frozen BK215.out 0
              have hfz33_1 := blk_frozen BK215.out 1
              have hfz33_2 := blk_frozen BK215.out 2
              have hfz33_3 := blk_frozen BK215.out 3
              go_wp2
              refine bodyPost_ret (results_cell_row rfl _ _ gb215 70 #[.int .i64 x226000_2, .int .i64 x226001_2, .string x226002_2, .int .i64 x226003_2] (0, 0) _ rfl (by (with_reducible repeat (first | refine blk_drewN ?_ _ | refine blk_drew ?_ | refine blk_alloc ?_ _)); refine blk_put (cs := #[.int .i64 x226000_2, .int .i64 x226001_2, .string x226002_2, .int .i64 x216003_2]) ?_ 3 _ rfl; (with_reducible repeat (first | refine blk_drewN ?_ _ | refine blk_drew ?_ | refine blk_alloc ?_ _)); refine blk_put (cs := #[.int .i64 x226000_2, .int .i64 x226001_2, .string x216002_2, .int .i64 x216003_2]) ?_ 2 _ rfl; (with_reducible repeat (first | refine blk_drewN ?_ _ | refine blk_drew ?_ | refine blk_alloc ?_ _)); refine blk_put (cs := #[.int .i64 x226000_2, .int .i64 x216001_2, .string x216002_2, .int .i64 x216003_2]) ?_ 1 _ rfl; (with_reducible repeat (first | refine blk_drewN ?_ _ | refine blk_drew ?_ | refine blk_alloc ?_ _)); refine blk_put (cs := #[.int .i64 x216000_2, .int .i64 x216001_2, .string x216002_2, .int .i64 x216003_2]) ?_ 0 _ rfl; (with_reducible repeat (first | refine blk_drewN ?_ _ | refine blk_drew ?_ | refine blk_alloc ?_ _)); exact BK215.out) Tryd.underlying70 rfl (by kernel_rfl)) rfl ?_
              exact ⟨by first | rfl | (simp [errW_none, errW_some] <;> rfl) | (simp [*, errW_none, errW_some] <;> rfl), by repeat (first | (with_reducible first | exact HB.out | apply below_alloc | apply pw_below_drewN | apply below_drew1 | refine below_set ?_ GE215.out | refine below_set ?_ GE225.out) | exact HB.out)⟩
end Go.Proofs.YtplbjaandkdhjaaDoor.PA
namespace Go.Proofs.YtplbjaandkdhjaaDoor.H1
open Go.RowKit Go.Proofs.YtplbjaandkdhjaaDoorW.PrintWords Go.Proofs.YtplbjaandkdhjaaDoorW.PrintLast Go.Proofs.YtplbjaandkdhjaaDoorW.PrintMore Go.Proofs.YtplbjaandkdhjaaDoor.PA
set_option linter.unusedVariables false
set_option linter.unusedSimpArgs false
theorem blk3 (w : World) (A B C : Obj) : (((w.alloc A).alloc B).alloc C).heap[w.heap.size + 1 + 1]? = some C := by
  have h := blk_new ((w.alloc A).alloc B) C
  rwa [show ((w.alloc A).alloc B).heap.size = w.heap.size + 1 + 1 by simp] at h
theorem below3 (w w1 : World) (A B C : Obj) (hb : Below (((w.alloc A).alloc B).alloc C).heap.size (((w.alloc A).alloc B).alloc C) w1) (a b c d : Value) :
    Below w.heap.size w ((((w1.setCell ⟨w.heap.size + 1 + 1, 0, none⟩ a).setCell ⟨w.heap.size + 1 + 1, 1, none⟩ b).setCell ⟨w.heap.size + 1 + 1, 2, none⟩ c).setCell ⟨w.heap.size + 1 + 1, 3, none⟩ d) := by
  have h : Below w.heap.size w w1 := below_step (below_alloc (below_alloc (below_alloc (Below.refl _ _) _) _) _) hb
  exact below_set (below_set (below_set (below_set h (by omega)) (by omega)) (by omega)) (by omega)
theorem cell_old3 (w : World) (bx : Nat) (v : Value) (hc0 : w.cell? ⟨bx, 0, none⟩ = some v) : ∀ A B C, (((w.alloc A).alloc B).alloc C).cell? ⟨bx, 0, none⟩ = some v := fun A B C => by
  have hbx := World.block_lt_of_cell? w _ hc0
  exact (Below.cell (B := w.heap.size) ((((Below.refl _ _).alloc (Nat.le_refl _) A).alloc (by simp) B).alloc (by simp; omega) C) (p := ⟨bx, 0, none⟩) hbx).trans hc0
theorem put70 (w1 : World) (g : Nat) (r1 r2 : Int) (r3 : ByteArray) (r4 : Int) (h : w1.heap[g]? = some (.cells #[.int .i64 0, .int .i64 0, .string (⟨#[]⟩ : ByteArray), .int .i64 0] 70 (0, 0))) :
    ((((w1.setCell ⟨g, 0, none⟩ (.int .i64 r1)).setCell ⟨g, 1, none⟩ (.int .i64 r2)).setCell ⟨g, 2, none⟩ (.string r3)).setCell ⟨g, 3, none⟩ (.int .i64 r4)).heap[g]? = some (.cells #[.int .i64 r1, .int .i64 r2, .string r3, .int .i64 r4] 70 (0, 0)) := by
  refine blk_put (cs := #[.int .i64 r1, .int .i64 r2, .string r3, .int .i64 0]) ?_ 3 _ rfl
  refine blk_put (cs := #[.int .i64 r1, .int .i64 r2, .string ⟨#[]⟩, .int .i64 0]) ?_ 2 _ rfl
  refine blk_put (cs := #[.int .i64 r1, .int .i64 0, .string ⟨#[]⟩, .int .i64 0]) ?_ 1 _ rfl
  exact blk_put (cs := #[.int .i64 0, .int .i64 0, .string ⟨#[]⟩, .int .i64 0]) h 0 _ rfl
set_option maxHeartbeats 4000000 in
set_option maxRecDepth 100000 in
theorem whole63 (a1 : Int) (a2 : ByteArray) (b1 : Int) (b2 : ByteArray) (bx : Nat) (k : Nat) (r1 r2 : Int) (r3 : ByteArray) (r4 : Int) (w : World)
    (hc0 : w.cell? ⟨bx, 0, none⟩ = some (.func (.func 63) #[] #[])) (h : val_mul.f k a1 b1 = some (r1, r2, r3, r4)) :
    Calls Tryd.prog 107 #[.agg #[.int .i64 2, .int .i64 a1, .string a2], .agg #[.int .i64 2, .int .i64 b1, .string b2], .pointer (some ⟨bx, 0, none⟩)] w fun e w' =>
      e = .returned (.agg #[.int .i64 r1, .int .i64 r2, .string r3, .int .i64 r4]) ∧ Below w.heap.size w w' := by
  have hu23 := Tryd.underlying23
  have hu70 := Tryd.underlying70
  have hc3 := cell_old3 w bx _ hc0
  clear hc0
  have H := Aside0.mk h
  clear h
  go_enter Tryd.func107, Tryd.ntmps107
  go_wp2_with (first
    | (go_at_call 63; refine (val_mul.calls k a1 b1 r1 r2 r3 r4 _ H.out).mono ?_; rintro e w1 ⟨rfl, hb⟩; have HBK := Aside0.mk (blk_below (blk3 _ _ _ _) hb); have HB := Aside0.mk hb; clear hb; have hcz0 := blk_cell HBK.out 0; have hcz1 := blk_cell HBK.out 1; have hcz2 := blk_cell HBK.out 2; have hcz3 := blk_cell HBK.out 3; have hf0 := blk_frozen HBK.out 0; have hf1 := blk_frozen HBK.out 1; have hf2 := blk_frozen HBK.out 2; have hf3 := blk_frozen HBK.out 3))
  refine bodyPost_ret (results_cell_row rfl _ _ (w.heap.size + 1 + 1) 70 #[.int .i64 r1, .int .i64 r2, .string r3, .int .i64 r4] (0, 0) _ rfl (put70 _ _ _ _ _ _ HBK.out) Tryd.underlying70 rfl (by kernel_rfl)) rfl ?_
  exact ⟨rfl, below3 _ _ _ _ _ HB.out _ _ _ _⟩
set_option maxHeartbeats 4000000 in
set_option maxRecDepth 100000 in
theorem whole64 (a1 : Int) (a2 : ByteArray) (b1 : Int) (b2 : ByteArray) (bx : Nat) (r1 r2 : Int) (r3 : ByteArray) (r4 : Int) (w : World)
    (hc0 : w.cell? ⟨bx, 0, none⟩ = some (.func (.func 64) #[] #[])) (h : val_div.f a1 b1 = some (r1, r2, r3, r4)) :
    Calls Tryd.prog 107 #[.agg #[.int .i64 2, .int .i64 a1, .string a2], .agg #[.int .i64 2, .int .i64 b1, .string b2], .pointer (some ⟨bx, 0, none⟩)] w fun e w' =>
      e = .returned (.agg #[.int .i64 r1, .int .i64 r2, .string r3, .int .i64 r4]) ∧ Below w.heap.size w w' := by
  have hu23 := Tryd.underlying23
  have hu70 := Tryd.underlying70
  have hc3 := cell_old3 w bx _ hc0
  clear hc0
  have H := Aside0.mk h
  clear h
  go_enter Tryd.func107, Tryd.ntmps107
  go_wp2_with (first
    | (go_at_call 64; refine (val_div.calls a1 b1 r1 r2 r3 r4 _ H.out).mono ?_; rintro e w1 ⟨rfl, hb⟩; have HBK := Aside0.mk (blk_below (blk3 _ _ _ _) hb); have HB := Aside0.mk hb; clear hb; have hcz0 := blk_cell HBK.out 0; have hcz1 := blk_cell HBK.out 1; have hcz2 := blk_cell HBK.out 2; have hcz3 := blk_cell HBK.out 3; have hf0 := blk_frozen HBK.out 0; have hf1 := blk_frozen HBK.out 1; have hf2 := blk_frozen HBK.out 2; have hf3 := blk_frozen HBK.out 3))
  refine bodyPost_ret (results_cell_row rfl _ _ (w.heap.size + 1 + 1) 70 #[.int .i64 r1, .int .i64 r2, .string r3, .int .i64 r4] (0, 0) _ rfl (put70 _ _ _ _ _ _ HBK.out) Tryd.underlying70 rfl (by kernel_rfl)) rfl ?_
  exact ⟨rfl, below3 _ _ _ _ _ HB.out _ _ _ _⟩
set_option maxHeartbeats 4000000 in
set_option maxRecDepth 100000 in
theorem whole65 (a1 : Int) (a2 : ByteArray) (b1 : Int) (b2 : ByteArray) (bx : Nat) (r1 r2 : Int) (r3 : ByteArray) (r4 : Int) (w : World)
    (hc0 : w.cell? ⟨bx, 0, none⟩ = some (.func (.func 65) #[] #[])) (h : val_mod.f a1 b1 = some (r1, r2, r3, r4)) :
    Calls Tryd.prog 107 #[.agg #[.int .i64 2, .int .i64 a1, .string a2], .agg #[.int .i64 2, .int .i64 b1, .string b2], .pointer (some ⟨bx, 0, none⟩)] w fun e w' =>
      e = .returned (.agg #[.int .i64 r1, .int .i64 r2, .string r3, .int .i64 r4]) ∧ Below w.heap.size w w' := by
  have hu23 := Tryd.underlying23
  have hu70 := Tryd.underlying70
  have hc3 := cell_old3 w bx _ hc0
  clear hc0
  have H := Aside0.mk h
  clear h
  go_enter Tryd.func107, Tryd.ntmps107
  go_wp2_with (first
    | (go_at_call 65; refine (val_mod.calls a1 b1 r1 r2 r3 r4 _ H.out).mono ?_; rintro e w1 ⟨rfl, hb⟩; have HBK := Aside0.mk (blk_below (blk3 _ _ _ _) hb); have HB := Aside0.mk hb; clear hb; have hcz0 := blk_cell HBK.out 0; have hcz1 := blk_cell HBK.out 1; have hcz2 := blk_cell HBK.out 2; have hcz3 := blk_cell HBK.out 3; have hf0 := blk_frozen HBK.out 0; have hf1 := blk_frozen HBK.out 1; have hf2 := blk_frozen HBK.out 2; have hf3 := blk_frozen HBK.out 3))
  refine bodyPost_ret (results_cell_row rfl _ _ (w.heap.size + 1 + 1) 70 #[.int .i64 r1, .int .i64 r2, .string r3, .int .i64 r4] (0, 0) _ rfl (put70 _ _ _ _ _ _ HBK.out) Tryd.underlying70 rfl (by kernel_rfl)) rfl ?_
  exact ⟨rfl, below3 _ _ _ _ _ HB.out _ _ _ _⟩
set_option maxHeartbeats 4000000 in
set_option maxRecDepth 100000 in
theorem whole66 (a1 : Int) (a2 : ByteArray) (b1 : Int) (b2 : ByteArray) (bx : Nat) (k : Nat) (r1 r2 : Int) (r3 : ByteArray) (r4 : Int) (w : World)
    (hc0 : w.cell? ⟨bx, 0, none⟩ = some (.func (.func 66) #[] #[])) (h : val_pow.f k a1 b1 = some (r1, r2, r3, r4)) :
    Calls Tryd.prog 107 #[.agg #[.int .i64 2, .int .i64 a1, .string a2], .agg #[.int .i64 2, .int .i64 b1, .string b2], .pointer (some ⟨bx, 0, none⟩)] w fun e w' =>
      e = .returned (.agg #[.int .i64 r1, .int .i64 r2, .string r3, .int .i64 r4]) ∧ Below w.heap.size w w' := by
  have hu23 := Tryd.underlying23
  have hu70 := Tryd.underlying70
  have hc3 := cell_old3 w bx _ hc0
  clear hc0
  have H := Aside0.mk h
  clear h
  go_enter Tryd.func107, Tryd.ntmps107
  go_wp2_with (first
    | (go_at_call 66; refine (val_pow.calls k a1 b1 r1 r2 r3 r4 _ H.out).mono ?_; rintro e w1 ⟨rfl, hb⟩; have HBK := Aside0.mk (blk_below (blk3 _ _ _ _) hb); have HB := Aside0.mk hb; clear hb; have hcz0 := blk_cell HBK.out 0; have hcz1 := blk_cell HBK.out 1; have hcz2 := blk_cell HBK.out 2; have hcz3 := blk_cell HBK.out 3; have hf0 := blk_frozen HBK.out 0; have hf1 := blk_frozen HBK.out 1; have hf2 := blk_frozen HBK.out 2; have hf3 := blk_frozen HBK.out 3))
  refine bodyPost_ret (results_cell_row rfl _ _ (w.heap.size + 1 + 1) 70 #[.int .i64 r1, .int .i64 r2, .string r3, .int .i64 r4] (0, 0) _ rfl (put70 _ _ _ _ _ _ HBK.out) Tryd.underlying70 rfl (by kernel_rfl)) rfl ?_
  exact ⟨rfl, below3 _ _ _ _ _ HB.out _ _ _ _⟩
set_option maxHeartbeats 4000000 in
set_option maxRecDepth 100000 in
theorem wholeNo1 (a0 : Int) (a1 : Int) (a2 : ByteArray) (b0 : Int) (b1 : Int) (b2 : ByteArray) (bx : Nat) (F : FuncId) (r1 r2 : Int) (r3 : ByteArray) (r4 : Int) (w : World)
    (hc0 : w.cell? ⟨bx, 0, none⟩ = some (.func (.func F) #[] #[])) (ha : (a0 != 2) = true) (h : val_died.f 1 = some (r1, r2, r3, r4)) :
    Calls Tryd.prog 107 #[.agg #[.int .i64 a0, .int .i64 a1, .string a2], .agg #[.int .i64 b0, .int .i64 b1, .string b2], .pointer (some ⟨bx, 0, none⟩)] w fun e w' =>
      e = .returned (.agg #[.int .i64 r1, .int .i64 r2, .string r3, .int .i64 r4]) ∧ Below w.heap.size w w' := by
  have hu23 := Tryd.underlying23
  have hu70 := Tryd.underlying70
  have hc3 := cell_old3 w bx _ hc0
  clear hc0
  have H := Aside0.mk h
  clear h
  go_enter Tryd.func107, Tryd.ntmps107
  go_wp2_with (first
    | (go_at_call 106; refine (val_died.calls 1 r1 r2 r3 r4 _ H.out).mono ?_; rintro e w1 ⟨rfl, hb⟩; have HBK := Aside0.mk (blk_below (blk3 _ _ _ _) hb); have HB := Aside0.mk hb; clear hb; have hcz0 := blk_cell HBK.out 0; have hcz1 := blk_cell HBK.out 1; have hcz2 := blk_cell HBK.out 2; have hcz3 := blk_cell HBK.out 3; have hf0 := blk_frozen HBK.out 0; have hf1 := blk_frozen HBK.out 1; have hf2 := blk_frozen HBK.out 2; have hf3 := blk_frozen HBK.out 3))
  refine bodyPost_ret (results_cell_row rfl _ _ (w.heap.size + 1 + 1) 70 #[.int .i64 r1, .int .i64 r2, .string r3, .int .i64 r4] (0, 0) _ rfl (put70 _ _ _ _ _ _ HBK.out) Tryd.underlying70 rfl (by kernel_rfl)) rfl ?_
  exact ⟨rfl, below3 _ _ _ _ _ HB.out _ _ _ _⟩
set_option maxHeartbeats 4000000 in
set_option maxRecDepth 100000 in
theorem wholeNo2 (a1 : Int) (a2 : ByteArray) (b0 : Int) (b1 : Int) (b2 : ByteArray) (bx : Nat) (F : FuncId) (r1 r2 : Int) (r3 : ByteArray) (r4 : Int) (w : World)
    (hc0 : w.cell? ⟨bx, 0, none⟩ = some (.func (.func F) #[] #[])) (hb : (b0 != 2) = true) (h : val_died.f 1 = some (r1, r2, r3, r4)) :
    Calls Tryd.prog 107 #[.agg #[.int .i64 2, .int .i64 a1, .string a2], .agg #[.int .i64 b0, .int .i64 b1, .string b2], .pointer (some ⟨bx, 0, none⟩)] w fun e w' =>
      e = .returned (.agg #[.int .i64 r1, .int .i64 r2, .string r3, .int .i64 r4]) ∧ Below w.heap.size w w' := by
  have hu23 := Tryd.underlying23
  have hu70 := Tryd.underlying70
  have hc3 := cell_old3 w bx _ hc0
  clear hc0
  have H := Aside0.mk h
  clear h
  go_enter Tryd.func107, Tryd.ntmps107
  go_wp2_with (first
    | (go_at_call 106; refine (val_died.calls 1 r1 r2 r3 r4 _ H.out).mono ?_; rintro e w1 ⟨rfl, hb⟩; have HBK := Aside0.mk (blk_below (blk3 _ _ _ _) hb); have HB := Aside0.mk hb; clear hb; have hcz0 := blk_cell HBK.out 0; have hcz1 := blk_cell HBK.out 1; have hcz2 := blk_cell HBK.out 2; have hcz3 := blk_cell HBK.out 3; have hf0 := blk_frozen HBK.out 0; have hf1 := blk_frozen HBK.out 1; have hf2 := blk_frozen HBK.out 2; have hf3 := blk_frozen HBK.out 3))
  refine bodyPost_ret (results_cell_row rfl _ _ (w.heap.size + 1 + 1) 70 #[.int .i64 r1, .int .i64 r2, .string r3, .int .i64 r4] (0, 0) _ rfl (put70 _ _ _ _ _ _ HBK.out) Tryd.underlying70 rfl (by kernel_rfl)) rfl ?_
  exact ⟨rfl, below3 _ _ _ _ _ HB.out _ _ _ _⟩
set_option maxHeartbeats 4000000 in
set_option maxRecDepth 100000 in
theorem whole_any (F : FuncId) (w : World) :
    Calls Tryd.prog 62 #[.func (.func F) #[] #[]] w fun e w' =>
      e = .returned (.func (.func 107) #[] #[.pointer (some ⟨w.heap.size, 0, none⟩)]) ∧ w' = w.alloc (.cells #[.func (.func F) #[] #[]] 67 (0, 0)) := by
  have hu67 := Tryd.underlying67
  have hmf : ∀ (fn : Fn) (first cap : Array Value) (w : World), (Instr.makeFunc fn first cap).run Tryd.prog w = .ok (.func fn first cap) w := fun _ _ _ _ => rfl
  go_enter Tryd.func62, Tryd.ntmps62
  go_wp2
  go_ret
  exact ⟨rfl, rfl⟩
end Go.Proofs.YtplbjaandkdhjaaDoor.H1
