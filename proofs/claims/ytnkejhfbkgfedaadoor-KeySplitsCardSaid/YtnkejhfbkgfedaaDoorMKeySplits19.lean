-- Written by a program of this session (wip/merge.py): the texts of this claim, joined.
import Derived.Test.YtnkejhfbkgfedaaDoorMKeySplits1
import Derived.Test.YtnkejhfbkgfedaaDoorMKeySplits2
import Derived.Test.YtnkejhfbkgfedaaDoorMKeySplits3
import Derived.Test.YtnkejhfbkgfedaaDoorMKeySplits4
import Derived.Test.YtnkejhfbkgfedaaDoorMKeySplits5
import Derived.Test.YtnkejhfbkgfedaaDoorMKeySplits6
import Derived.Test.YtnkejhfbkgfedaaDoorMKeySplits7
import Derived.Test.YtnkejhfbkgfedaaDoorMKeySplits8
import Derived.Test.YtnkejhfbkgfedaaDoorMKeySplits9
import Derived.Test.YtnkejhfbkgfedaaDoorMKeySplits10
import Derived.Test.YtnkejhfbkgfedaaDoorMKeySplits11
import Derived.Test.YtnkejhfbkgfedaaDoorMKeySplits12
import Derived.Test.YtnkejhfbkgfedaaDoorMKeySplits13
import Derived.Test.YtnkejhfbkgfedaaDoorMKeySplits14
import Derived.Test.YtnkejhfbkgfedaaDoorMKeySplits15
import Derived.Test.YtnkejhfbkgfedaaDoorMKeySplits16
import Derived.Test.YtnkejhfbkgfedaaDoorMKeySplits17
import Derived.Test.YtnkejhfbkgfedaaDoorMKeySplits18
namespace Go.Proofs.YtnkejhfbkgfedaaDoor.PA
end Go.Proofs.YtnkejhfbkgfedaaDoor.PA
namespace Go.Proofs.YtnkejhfbkgfedaaDoor.PB
end Go.Proofs.YtnkejhfbkgfedaaDoor.PB
namespace Go.Proofs.YtnkejhfbkgfedaaDoor.PC
end Go.Proofs.YtnkejhfbkgfedaaDoor.PC
namespace Go.Proofs.YtnkejhfbkgfedaaDoor.H1
end Go.Proofs.YtnkejhfbkgfedaaDoor.H1
namespace Go.Proofs.YtnkejhfbkgfedaaDoor.L1
end Go.Proofs.YtnkejhfbkgfedaaDoor.L1
namespace Go.Proofs.YtnkejhfbkgfedaaDoor.PA
open Go.RowKit Go.Proofs.YtnkejhfbkgfedaaDoorW.PrintWords Go.Proofs.YtnkejhfbkgfedaaDoorW.PrintLast Go.Proofs.YtnkejhfbkgfedaaDoorW.PrintMore
attribute [local go_sem] max2_int min2_int max_two min_two max_three min_three max_four min_four   -- for this text's walks alone
set_option linter.unusedVariables false
set_option linter.unusedSimpArgs false
def cabinetryref01_SameValue.f (a0_0 : Int) (a0_1 : Int) (a0_2 : ByteArray) (a1_0 : Int) (a1_1 : Int) (a1_2 : ByteArray) : Option (Bool) := if a0_0 = a1_0 then (if a0_1 = a1_1 then (some (a0_2.toList == a1_2.toList)) else (some false)) else (some false)
set_option maxHeartbeats 8000000 in
set_option maxRecDepth 100000 in
theorem cabinetryref01_SameValue.calls (a0_0 : Int) (a0_1 : Int) (a0_2 : ByteArray) (a1_0 : Int) (a1_1 : Int) (a1_2 : ByteArray) (r : Bool) (w : World) (h : cabinetryref01_SameValue.f a0_0 a0_1 a0_2 a1_0 a1_1 a1_2 = some r) :
  Calls Tryd.prog 47 #[.agg #[.int .i64 a0_0, .int .i64 a0_1, .string a0_2], .agg #[.int .i64 a1_0, .int .i64 a1_1, .string a1_2]] w fun e w' => e = .returned (.bool r) ∧ Below w.heap.size w w' := by
 have hu23 := Tryd.underlying23
 have HB := Aside0.mk (Below.refl w.heap.size w)
 have H : (if a0_0 = a1_0 then (if a0_1 = a1_1 then (some (a0_2.toList == a1_2.toList)) else (some false)) else (some false)) = some r := h
 clear h
 by_cases c3 : a0_0 = a1_0
 ·rw [if_pos c3] at H
  have c3b0 : (a0_0 == a1_0) = true := beq_iff_eq.mpr c3
  have c3b1 : (a0_0 != a1_0) = false := bne_eq_false_iff_eq.mpr c3
  clear c3
  by_cases c4 : a0_1 = a1_1
  ·rw [if_pos c4] at H
   have c4b0 : (a0_1 == a1_1) = true := beq_iff_eq.mpr c4
   have c4b1 : (a0_1 != a1_1) = false := bne_eq_false_iff_eq.mpr c4
   clear c4
   obtain rfl := Option.some.inj H
   simp only [Option.some.injEq, Prod.mk.injEq] at H
   obtain ⟨rfl⟩ := H
   go_enter Tryd.func47, Tryd.ntmps47
   go_wp2_with (first | ((with_reducible refine gate_dst (N := 2) rfl ?_); refine box_event ?hg (N := 2) ?hd (cs := #[.int .i64 a0_0, .int .i64 a0_1, .string a0_2]) (t := 23) ?hr ?_; (case hd => rfl); (case hg => rfl); (case hr => first | (go_simp; done) | (go_simp; rfl)); intro gb500 hg w5 hbox hb; have n0_ := Aside0.mk (below_step (by repeat (first | (with_reducible first | exact HB.out | apply below_alloc | apply pw_below_drewN | apply below_drew1) | exact HB.out)) hb); have n1_ := Aside0.mk (hbox); have n2_ := Aside0.mk ((by rw [hg]; exact (below_size (by repeat (first | (with_reducible first | exact HB.out | apply below_alloc | apply pw_below_drewN | apply below_drew1) | exact HB.out))) : w.heap.size ≤ gb500)); have n3_ := Aside0.mk ((by rw [hg]; exact (below_size (by repeat (first | (with_reducible first | exact HB.out | apply below_alloc | apply pw_below_drewN | apply below_drew1) | exact HB.out))) : w.heap.size ≤ gb500)); clear HB; have HB := n0_; have BK500 := n1_; have GW500 := n2_; have GE500 := n3_; clear n0_ n1_ n2_ n3_; clear hb hbox hg) | ((with_reducible refine gate_dst (N := 3) rfl ?_); refine box_event ?hg (N := 3) ?hd (cs := #[.int .i64 a1_0, .int .i64 a1_1, .string a1_2]) (t := 23) ?hr ?_; (case hd => rfl); (case hg => rfl); (case hr => first | (go_simp; done) | (go_simp; rfl)); intro gb501 hg w6 hbox hb; have n0_ := Aside0.mk (blk_below (g := gb500) (o := .cells #[.int .i64 a0_0, .int .i64 a0_1, .string a0_2] 23 (0, 0)) (by (with_reducible repeat (first | refine blk_drewN ?_ _ | refine blk_drew ?_ | refine blk_alloc ?_ _)); exact BK500.out) hb); have n1_ := Aside0.mk (below_step (by repeat (first | (with_reducible first | exact HB.out | apply below_alloc | apply pw_below_drewN | apply below_drew1 | refine below_set ?_ GE500.out) | exact HB.out)) hb); have n2_ := Aside0.mk (hbox); have n3_ := Aside0.mk ((by rw [hg]; exact (below_size (by repeat (first | (with_reducible first | exact HB.out | apply below_alloc | apply pw_below_drewN | apply below_drew1 | refine below_set ?_ GE500.out) | exact HB.out))) : w.heap.size ≤ gb501)); have n4_ := Aside0.mk ((by rw [hg]; exact (below_size (by repeat (first | (with_reducible first | exact HB.out | apply below_alloc | apply pw_below_drewN | apply below_drew1 | refine below_set ?_ GE500.out) | exact HB.out))) : w.heap.size ≤ gb501)); have n5_ := Aside0.mk ((by rw [hg]; exact Nat.ne_of_lt (blk_lt (g := gb500) (o := .cells #[.int .i64 a0_0, .int .i64 a0_1, .string a0_2] 23 (0, 0)) (by (with_reducible repeat (first | refine blk_drewN ?_ _ | refine blk_drew ?_ | refine blk_alloc ?_ _)); exact BK500.out)) : gb500 ≠ gb501)); have n6_ := Aside0.mk ((by rw [hg]; exact Nat.ne_of_gt (blk_lt (g := gb500) (o := .cells #[.int .i64 a0_0, .int .i64 a0_1, .string a0_2] 23 (0, 0)) (by (with_reducible repeat (first | refine blk_drewN ?_ _ | refine blk_drew ?_ | refine blk_alloc ?_ _)); exact BK500.out)) : gb501 ≠ gb500)); clear BK500; clear HB; have BK500 := n0_; have HB := n1_; have BK501 := n2_; have GW501 := n3_; have GE501 := n4_; have NB500_501 := n5_; have NB501_500 := n6_; clear n0_ n1_ n2_ n3_ n4_ n5_ n6_; clear hb hbox hg; have hnb7 := NB500_501.out; have hnc7 := NB501_500.out; have hcz8_0 : w6.cell? ⟨gb500, 0, none⟩ = some (.int .i64 a0_0) := (blk_cell BK500.out 0).trans rfl; have hcz8_1 : w6.cell? ⟨gb500, 1, none⟩ = some (.int .i64 a0_1) := (blk_cell BK500.out 1).trans rfl; have hcz8_2 : w6.cell? ⟨gb500, 2, none⟩ = some (.string a0_2) := (blk_cell BK500.out 2).trans rfl; have hfz8_0 := blk_frozen BK500.out 0; have hfz8_1 := blk_frozen BK500.out 1; have hfz8_2 := blk_frozen BK500.out 2; have hcz9_0 : w6.cell? ⟨gb501, 0, none⟩ = some (.int .i64 a1_0) := (blk_cell BK501.out 0).trans rfl; have hcz9_1 : w6.cell? ⟨gb501, 1, none⟩ = some (.int .i64 a1_1) := (blk_cell BK501.out 1).trans rfl; have hcz9_2 : w6.cell? ⟨gb501, 2, none⟩ = some (.string a1_2) := (blk_cell BK501.out 2).trans rfl; have hfz9_0 := blk_frozen BK501.out 0; have hfz9_1 := blk_frozen BK501.out 1; have hfz9_2 := blk_frozen BK501.out 2))
   go_ret
   exact ⟨by first | rfl | (simp [errW_none, errW_some] <;> rfl) | (simp [*, errW_none, errW_some] <;> rfl), by repeat (first | (with_reducible first | exact HB.out | apply below_alloc | apply pw_below_drewN | apply below_drew1 | refine below_set ?_ GE500.out | refine below_set ?_ GE501.out) | exact HB.out)⟩
  ·rw [if_neg c4] at H
   have c4b0 : (a0_1 == a1_1) = false := beq_eq_false_iff_ne.mpr c4
   have c4b1 : (a0_1 != a1_1) = true := bne_iff_ne.mpr c4
   obtain rfl := Option.some.inj H
   simp only [Option.some.injEq, Prod.mk.injEq] at H
   obtain ⟨rfl⟩ := H
   go_enter Tryd.func47, Tryd.ntmps47
   go_wp2_with (first | ((with_reducible refine gate_dst (N := 2) rfl ?_); refine box_event ?hg (N := 2) ?hd (cs := #[.int .i64 a0_0, .int .i64 a0_1, .string a0_2]) (t := 23) ?hr ?_; (case hd => rfl); (case hg => rfl); (case hr => first | (go_simp; done) | (go_simp; rfl)); intro gb500 hg w10 hbox hb; have n0_ := Aside0.mk (below_step (by repeat (first | (with_reducible first | exact HB.out | apply below_alloc | apply pw_below_drewN | apply below_drew1) | exact HB.out)) hb); have n1_ := Aside0.mk (hbox); have n2_ := Aside0.mk ((by rw [hg]; exact (below_size (by repeat (first | (with_reducible first | exact HB.out | apply below_alloc | apply pw_below_drewN | apply below_drew1) | exact HB.out))) : w.heap.size ≤ gb500)); have n3_ := Aside0.mk ((by rw [hg]; exact (below_size (by repeat (first | (with_reducible first | exact HB.out | apply below_alloc | apply pw_below_drewN | apply below_drew1) | exact HB.out))) : w.heap.size ≤ gb500)); clear HB; have HB := n0_; have BK500 := n1_; have GW500 := n2_; have GE500 := n3_; clear n0_ n1_ n2_ n3_; clear hb hbox hg) | ((with_reducible refine gate_dst (N := 3) rfl ?_); refine box_event ?hg (N := 3) ?hd (cs := #[.int .i64 a1_0, .int .i64 a1_1, .string a1_2]) (t := 23) ?hr ?_; (case hd => rfl); (case hg => rfl); (case hr => first | (go_simp; done) | (go_simp; rfl)); intro gb501 hg w11 hbox hb; have n0_ := Aside0.mk (blk_below (g := gb500) (o := .cells #[.int .i64 a0_0, .int .i64 a0_1, .string a0_2] 23 (0, 0)) (by (with_reducible repeat (first | refine blk_drewN ?_ _ | refine blk_drew ?_ | refine blk_alloc ?_ _)); exact BK500.out) hb); have n1_ := Aside0.mk (below_step (by repeat (first | (with_reducible first | exact HB.out | apply below_alloc | apply pw_below_drewN | apply below_drew1 | refine below_set ?_ GE500.out) | exact HB.out)) hb); have n2_ := Aside0.mk (hbox); have n3_ := Aside0.mk ((by rw [hg]; exact (below_size (by repeat (first | (with_reducible first | exact HB.out | apply below_alloc | apply pw_below_drewN | apply below_drew1 | refine below_set ?_ GE500.out) | exact HB.out))) : w.heap.size ≤ gb501)); have n4_ := Aside0.mk ((by rw [hg]; exact (below_size (by repeat (first | (with_reducible first | exact HB.out | apply below_alloc | apply pw_below_drewN | apply below_drew1 | refine below_set ?_ GE500.out) | exact HB.out))) : w.heap.size ≤ gb501)); have n5_ := Aside0.mk ((by rw [hg]; exact Nat.ne_of_lt (blk_lt (g := gb500) (o := .cells #[.int .i64 a0_0, .int .i64 a0_1, .string a0_2] 23 (0, 0)) (by (with_reducible repeat (first | refine blk_drewN ?_ _ | refine blk_drew ?_ | refine blk_alloc ?_ _)); exact BK500.out)) : gb500 ≠ gb501)); have n6_ := Aside0.mk ((by rw [hg]; exact Nat.ne_of_gt (blk_lt (g := gb500) (o := .cells #[.int .i64 a0_0, .int .i64 a0_1, .string a0_2] 23 (0, 0)) (by (with_reducible repeat (first | refine blk_drewN ?_ _ | refine blk_drew ?_ | refine blk_alloc ?_ _)); exact BK500.out)) : gb501 ≠ gb500)); clear BK500; clear HB; have BK500 := n0_; have HB := n1_; have BK501 := n2_; have GW501 := n3_; have GE501 := n4_; have NB500_501 := n5_; have NB501_500 := n6_; clear n0_ n1_ n2_ n3_ n4_ n5_ n6_; clear hb hbox hg; have hnb12 := NB500_501.out; have hnc12 := NB501_500.out; have hcz13_0 : w11.cell? ⟨gb500, 0, none⟩ = some (.int .i64 a0_0) := (blk_cell BK500.out 0).trans rfl; have hcz13_1 : w11.cell? ⟨gb500, 1, none⟩ = some (.int .i64 a0_1) := (blk_cell BK500.out 1).trans rfl; have hcz13_2 : w11.cell? ⟨gb500, 2, none⟩ = some (.string a0_2) := (blk_cell BK500.out 2).trans rfl; have hfz13_0 := blk_frozen BK500.out 0; have hfz13_1 := blk_frozen BK500.out 1; have hfz13_2 := blk_frozen BK500.out 2; have hcz14_0 : w11.cell? ⟨gb501, 0, none⟩ = some (.int .i64 a1_0) := (blk_cell BK501.out 0).trans rfl; have hcz14_1 : w11.cell? ⟨gb501, 1, none⟩ = some (.int .i64 a1_1) := (blk_cell BK501.out 1).trans rfl; have hcz14_2 : w11.cell? ⟨gb501, 2, none⟩ = some (.string a1_2) := (blk_cell BK501.out 2).trans rfl; have hfz14_0 := blk_frozen BK501.out 0; have hfz14_1 := blk_frozen BK501.out 1; have hfz14_2 := blk_frozen BK501.out 2))
   go_ret
   exact ⟨by first | rfl | (simp [errW_none, errW_some] <;> rfl) | (simp [*, errW_none, errW_some] <;> rfl), by repeat (first | (with_reducible first | exact HB.out | apply below_alloc | apply pw_below_drewN | apply below_drew1 | refine below_set ?_ GE500.out | refine below_set ?_ GE501.out) | exact HB.out)⟩
 ·rw [if_neg c3] at H
  have c3b0 : (a0_0 == a1_0) = false := beq_eq_false_iff_ne.mpr c3
  have c3b1 : (a0_0 != a1_0) = true := bne_iff_ne.mpr c3
  obtain rfl := Option.some.inj H
  simp only [Option.some.injEq, Prod.mk.injEq] at H
  obtain ⟨rfl⟩ := H
  go_enter Tryd.func47, Tryd.ntmps47
  go_wp2_with (first | ((with_reducible refine gate_dst (N := 2) rfl ?_); refine box_event ?hg (N := 2) ?hd (cs := #[.int .i64 a0_0, .int .i64 a0_1, .string a0_2]) (t := 23) ?hr ?_; (case hd => rfl); (case hg => rfl); (case hr => first | (go_simp; done) | (go_simp; rfl)); intro gb500 hg w15 hbox hb; have n0_ := Aside0.mk (below_step (by repeat (first | (with_reducible first | exact HB.out | apply below_alloc | apply pw_below_drewN | apply below_drew1) | exact HB.out)) hb); have n1_ := Aside0.mk (hbox); have n2_ := Aside0.mk ((by rw [hg]; exact (below_size (by repeat (first | (with_reducible first | exact HB.out | apply below_alloc | apply pw_below_drewN | apply below_drew1) | exact HB.out))) : w.heap.size ≤ gb500)); have n3_ := Aside0.mk ((by rw [hg]; exact (below_size (by repeat (first | (with_reducible first | exact HB.out | apply below_alloc | apply pw_below_drewN | apply below_drew1) | exact HB.out))) : w.heap.size ≤ gb500)); clear HB; have HB := n0_; have BK500 := n1_; have GW500 := n2_; have GE500 := n3_; clear n0_ n1_ n2_ n3_; clear hb hbox hg) | ((with_reducible refine gate_dst (N := 3) rfl ?_); refine box_event ?hg (N := 3) ?hd (cs := #[.int .i64 a1_0, .int .i64 a1_1, .string a1_2]) (t := 23) ?hr ?_; (case hd => rfl); (case hg => rfl); (case hr => first | (go_simp; done) | (go_simp; rfl)); intro gb501 hg w16 hbox hb; have n0_ := Aside0.mk (blk_below (g := gb500) (o := .cells #[.int .i64 a0_0, .int .i64 a0_1, .string a0_2] 23 (0, 0)) (by (with_reducible repeat (first | refine blk_drewN ?_ _ | refine blk_drew ?_ | refine blk_alloc ?_ _)); exact BK500.out) hb); have n1_ := Aside0.mk (below_step (by repeat (first | (with_reducible first | exact HB.out | apply below_alloc | apply pw_below_drewN | apply below_drew1 | refine below_set ?_ GE500.out) | exact HB.out)) hb); have n2_ := Aside0.mk (hbox); have n3_ := Aside0.mk ((by rw [hg]; exact (below_size (by repeat (first | (with_reducible first | exact HB.out | apply below_alloc | apply pw_below_drewN | apply below_drew1 | refine below_set ?_ GE500.out) | exact HB.out))) : w.heap.size ≤ gb501)); have n4_ := Aside0.mk ((by rw [hg]; exact (below_size (by repeat (first | (with_reducible first | exact HB.out | apply below_alloc | apply pw_below_drewN | apply below_drew1 | refine below_set ?_ GE500.out) | exact HB.out))) : w.heap.size ≤ gb501)); have n5_ := Aside0.mk ((by rw [hg]; exact Nat.ne_of_lt (blk_lt (g := gb500) (o := .cells #[.int .i64 a0_0, .int .i64 a0_1, .string a0_2] 23 (0, 0)) (by (with_reducible repeat (first | refine blk_drewN ?_ _ | refine blk_drew ?_ | refine blk_alloc ?_ _)); exact BK500.out)) : gb500 ≠ gb501)); have n6_ := Aside0.mk ((by rw [hg]; exact Nat.ne_of_gt (blk_lt (g := gb500) (o := .cells #[.int .i64 a0_0, .int .i64 a0_1, .string a0_2] 23 (0, 0)) (by (with_reducible repeat (first | refine blk_drewN ?_ _ | refine blk_drew ?_ | refine blk_alloc ?_ _)); exact BK500.out)) : gb501 ≠ gb500)); clear BK500; clear HB; have BK500 := n0_; have HB := n1_; have BK501 := n2_; have GW501 := n3_; have GE501 := n4_; have NB500_501 := n5_; have NB501_500 := n6_; clear n0_ n1_ n2_ n3_ n4_ n5_ n6_; clear hb hbox hg; have hnb17 := NB500_501.out; have hnc17 := NB501_500.out; have hcz18_0 : w16.cell? ⟨gb500, 0, none⟩ = some (.int .i64 a0_0) := (blk_cell BK500.out 0).trans rfl; have hcz18_1 : w16.cell? ⟨gb500, 1, none⟩ = some (.int .i64 a0_1) := (blk_cell BK500.out 1).trans rfl; have hcz18_2 : w16.cell? ⟨gb500, 2, none⟩ = some (.string a0_2) := (blk_cell BK500.out 2).trans rfl; have hfz18_0 := blk_frozen BK500.out 0; have hfz18_1 := blk_frozen BK500.out 1; have hfz18_2 := blk_frozen BK500.out 2; have hcz19_0 : w16.cell? ⟨gb501, 0, none⟩ = some (.int .i64 a1_0) := (blk_cell BK501.out 0).trans rfl; have hcz19_1 : w16.cell? ⟨gb501, 1, none⟩ = some (.int .i64 a1_1) := (blk_cell BK501.out 1).trans rfl; have hcz19_2 : w16.cell? ⟨gb501, 2, none⟩ = some (.string a1_2) := (blk_cell BK501.out 2).trans rfl; have hfz19_0 := blk_frozen BK501.out 0; have hfz19_1 := blk_frozen BK501.out 1; have hfz19_2 := blk_frozen BK501.out 2))
  go_ret
  exact ⟨by first | rfl | (simp [errW_none, errW_some] <;> rfl) | (simp [*, errW_none, errW_some] <;> rfl), by repeat (first | (with_reducible first | exact HB.out | apply below_alloc | apply pw_below_drewN | apply below_drew1 | refine below_set ?_ GE500.out | refine below_set ?_ GE501.out) | exact HB.out)⟩
end Go.Proofs.YtnkejhfbkgfedaaDoor.PA
namespace Go.Proofs.YtnkejhfbkgfedaaDoor.L1
open Go.RowKit Go.Proofs.YtnkejhfbkgfedaaDoorW.PrintWords Go.Proofs.YtnkejhfbkgfedaaDoor.PA Go.Proofs.YtnkejhfbkgfedaaDoor.H1 Go.Proofs.YtnkejhfbkgfedaaDoor.PB
set_option linter.unusedVariables false
set_option linter.unusedSimpArgs false
theorem tx_rest : ∀ (n : Nat) (acc l t r : List UInt8), tx n acc l = some (t, r) → r.length + 2 ≤ l.length
  | 0, _, _, _, _, h => by simp [tx] at h
  | n + 1, acc, [], t, r, h => by simp [tx] at h
  | n + 1, acc, x :: l, t, r, h => by
    rw [tx_step] at h
    by_cases hx : x = 0
    · rw [if_pos hx] at h
      cases l with
      | nil => simp at h
      | cons y m =>
        simp only [] at h
        by_cases hy : y = 0
        · rw [if_pos hy] at h
          split at h
          · cases h
          · obtain ⟨rfl, rfl⟩ := Prod.mk.inj (Option.some.inj h)
            simp
        · rw [if_neg hy] at h
          by_cases hy1 : y = 1
          · rw [if_pos hy1] at h
            have := tx_rest n _ m t r h
            simp only [List.length_cons]; omega
          · rw [if_neg hy1] at h; cases h
    · rw [if_neg hx] at h
      have := tx_rest n _ l t r h
      simp only [List.length_cons]; omega
def numV (a : Int) (z : Nat) (l : List UInt8) : Option (Int × Int × ByteArray × Int) :=
  if l.length < z then none else if validV a (if a = 2 then wrap64 (numL 0 (l.take z) - 1000000000000000) else numL 0 (l.take z)) ⟨#[]⟩ = 0 then some (a, (if a = 2 then wrap64 (numL 0 (l.take z) - 1000000000000000) else numL 0 (l.take z)), ⟨#[]⟩, (1 + z : Nat)) else none
def onV : List UInt8 → Option (Int × Int × ByteArray × Int)
  | [] => none
  | x :: l => if x = 0 then some (0, 0, ⟨#[]⟩, 1) else if x = 4 then (match tx (l.length + 1) [] l with
      | none => none
      | some (t, r) => some (4, 0, ⟨t.toArray⟩, ((l.length + 1 : Nat) : Int) - r.length))
    else if x = 1 then numV 1 1 l else if x = 2 then numV 2 8 l else if x = 3 then numV 3 4 l else none
def isCut (s : ByteArray) (r : Int × Int × ByteArray × Int) : Option (Int × Int × ByteArray × Int) → Prop
  | none => r.2.2.2 = 0
  | some q => r = q ∧ 1 ≤ q.2.2.2 ∧ q.2.2.2 ≤ (s.size : Int)
theorem cut_part (s : ByteArray) (x : UInt8) (l : List UInt8) (h : s.data.toList = x :: l) (z : Nat) (hz : z ≤ l.length) : (s.extract 1 (1 + z)).data.toList = l.take z := by
  have ls := ba_len s
  rw [h, List.length_cons] at ls
  rw [ba_extract s 1 (1 + z) (by omega), h, Nat.add_comm 1 z, List.take_succ_cons, List.drop_succ_cons, List.drop_zero]
theorem key_j0 (k : Nat) (hk : 100 ≤ k) (s : ByteArray) (hs : s.size ≤ 40000) (x : UInt8) (l : List UInt8) (h : s.data.toList = x :: l) (a : Int) (z : Nat) (hz : 1 ≤ z ∧ z ≤ 8) :
    ∃ r, key_cut.j0 k s (z : Int) a 0 (⟨#[]⟩ : ByteArray) = some r ∧ isCut s r (numV a z l) := by
  obtain ⟨k, rfl⟩ : ∃ m, k = m + 1 + 1 + 1 := ⟨k - 3, by omega⟩
  have ls := ba_len s
  rw [h, List.length_cons] at ls
  simp only [key_cut.j0, key_cut.j1]
  rw [if_neg (by omega), w64 (x := (1 : Int) + (z : Int)) (by omega) (by omega)]
  unfold numV
  by_cases hl : l.length < z
  · rw [if_pos (decide_eq_true (by omega)), if_pos hl]
    exact ⟨_, rfl, rfl⟩
  · rw [if_neg (by rw [decide_eq_false (by omega)]; decide), if_neg hl, if_pos (by omega), if_pos (by omega), show ((1 : Int) + (z : Int)).toNat = 1 + z by omega]
    have hp := cut_part s x l h z (by omega)
    have hsz : (s.extract 1 (1 + z)).size ≤ 8 := by rw [ByteArray.size_extract]; omega
    rw [key_number_f _ _ (by omega) (by omega), hp]
    simp only [Option.bind_some, validate_f]
    by_cases ha : a = 2
    · rw [if_pos ha, if_pos ha]
      by_cases hv : validV a (wrap64 (numL 0 (l.take z) - 1000000000000000)) ⟨#[]⟩ = 0
      · rw [if_pos hv, if_pos hv]
        exact ⟨_, rfl, by simp, by simp; omega, by simp; omega⟩
      · rw [if_neg hv, if_neg hv]
        exact ⟨_, rfl, rfl⟩
    · rw [if_neg ha, if_neg ha]
      by_cases hv : validV a (numL 0 (l.take z)) ⟨#[]⟩ = 0
      · rw [if_pos hv, if_pos hv]
        exact ⟨_, rfl, by simp, by simp; omega, by simp; omega⟩
      · rw [if_neg hv, if_neg hv]
        exact ⟨_, rfl, rfl⟩
theorem text_cut (s : ByteArray) (x : UInt8) (l : List UInt8) (h : s.data.toList = x :: l) : isCut s (txV s.size (tx (l.length + 1) [] l)) (match tx (l.length + 1) [] l with
      | none => none
      | some (t, r) => some (4, 0, ⟨t.toArray⟩, ((l.length + 1 : Nat) : Int) - r.length)) := by
  have ls := ba_len s
  rw [h, List.length_cons] at ls
  cases ht : tx (l.length + 1) [] l with
  | none => rfl
  | some q =>
    obtain ⟨t, r⟩ := q
    have := tx_rest _ _ _ _ _ ht
    refine ⟨?_, ?_, ?_⟩
    · unfold txV; rw [← ls]
    · show (1 : Int) ≤ ((l.length + 1 : Nat) : Int) - r.length
      omega
    · show ((l.length + 1 : Nat) : Int) - r.length ≤ (s.size : Int)
      omega
theorem key_cut_f (k : Nat) (hk : 90000 ≤ k) (s : ByteArray) (hs : s.size ≤ 40000) : ∃ r, key_cut.f k s = some r ∧ isCut s r (onV s.data.toList) := by
  unfold key_cut.f
  rw [ByteArray.toList_eq]
  cases h : s.data.toList with
  | nil =>
    rw [if_pos rfl]
    exact ⟨_, rfl, rfl⟩
  | cons x l =>
    have ls := ba_len s
    rw [h, List.length_cons] at ls
    have hb : bt s 0 = toI x := by
      have := bt_toI s 0 (by omega)
      simp only [h, List.getElem_cons_zero] at this
      exact this
    have hr := toI_range x
    rw [if_neg (by simp), if_pos (by omega), hb, w64 (by omega) (by omega)]
    by_cases h0 : x = 0
    · rw [if_pos (by rw [h0]; rfl), onV, if_pos h0, h0]
      exact ⟨_, rfl, rfl, by decide, by simp; omega⟩
    · rw [if_neg (fun e => h0 (toI_inj (e.trans rfl))), onV, if_neg h0]
      by_cases h4 : x = 4
      · rw [if_pos (by rw [h4]; rfl), if_pos h4]
        have hT := cutText_l s hs l.length 1 k [] (by omega) (by omega) (by omega) (by simp)
        rw [h, List.drop_succ_cons, List.drop_zero] at hT
        unfold key_cutText.f
        rw [show ((1 : Nat) : Int) = 1 from rfl, List.map_nil] at hT
        rw [hT]
        simp only [Option.bind_some]
        exact ⟨_, rfl, text_cut s x l h⟩
      · rw [if_neg (fun e => h4 (toI_inj (e.trans rfl))), if_neg h4]
        by_cases h1 : x = 1
        · rw [if_pos (by rw [h1]; rfl), if_pos h1, show toI x = 1 by rw [h1]; rfl]
          exact key_j0 k (by omega) s hs x l h 1 1 (by omega)
        · rw [if_neg (fun e => h1 (toI_inj (e.trans rfl))), if_neg h1]
          by_cases h2 : x = 2
          · rw [if_pos (by rw [h2]; rfl), if_pos h2, if_neg (by decide), show toI x = 2 by rw [h2]; rfl]
            exact key_j0 k (by omega) s hs x l h 2 8 (by omega)
          · rw [if_neg (fun e => h2 (toI_inj (e.trans rfl))), if_neg h2]
            by_cases h3 : x = 3
            · rw [if_pos (by rw [h3]; rfl), if_pos h3, if_pos rfl, show toI x = 3 by rw [h3]; rfl]
              exact key_j0 k (by omega) s hs x l h 3 4 (by omega)
            · rw [if_neg (fun e => h3 (toI_inj (e.trans rfl))), if_neg h3]
              obtain ⟨k, rfl⟩ : ∃ m, k = m + 1 + 1 := ⟨k - 2, by omega⟩
              simp only [key_cut.j0, key_cut.j1]
              exact ⟨_, rfl, rfl⟩
theorem ref_j0 (k : Nat) (hk : 100 ≤ k) (s : ByteArray) (hs : s.size ≤ 40000) (x : UInt8) (l : List UInt8) (h : s.data.toList = x :: l) (a : Int) (z : Nat) (hx : toI x = a) (hz : (a = 1 ∧ z = 1) ∨ (a = 2 ∧ z = 8) ∨ (a = 3 ∧ z = 4)) :
    ∃ r, cabinetryref09_one.j0 k s ((1 + z : Nat) : Int) = some r ∧ isCut s r (numV a z l) := by
  obtain ⟨k, rfl⟩ : ∃ m, k = m + 1 + 1 := ⟨k - 2, by omega⟩
  have ls := ba_len s
  rw [h, List.length_cons] at ls
  have hb : bt s 0 = toI x := by
    have := bt_toI s 0 (by omega)
    simp only [h, List.getElem_cons_zero] at this
    exact this
  have main : z ≤ l.length → (∃ r, cabinetryref09_one.j1 (k + 1) s ((1 + z : Nat) : Int) false = some r ∧ isCut s r (numV a z l)) := by
    intro hl
    simp only [cabinetryref09_one.j1]
    rw [if_neg (by decide), if_pos (by omega), if_pos (by omega), if_pos (by omega), Int.toNat_natCast]
    have hp := cut_part s x l h z (by omega)
    have hsz : (s.extract 1 (1 + z)).size ≤ 8 := by rw [ByteArray.size_extract]; omega
    rw [refRead_f _ _ (by omega) (by omega), hp, hb, w64 (x := toI x) (by omega) (by omega), hx]
    simp only [Option.bind_some, refValidate_f]
    unfold numV
    rw [if_neg (show ¬ l.length < z by omega)]
    by_cases ha : a = 2
    · rw [if_pos ha, if_pos ha]
      by_cases hv : validV a (wrap64 (numL 0 (l.take z) - 1000000000000000)) ⟨#[]⟩ = 0
      · rw [if_pos hv, if_pos hv]
        exact ⟨_, rfl, rfl, by simp; omega, by simp; omega⟩
      · rw [if_neg hv, if_neg hv]
        exact ⟨_, rfl, rfl⟩
    · rw [if_neg ha, if_neg ha]
      by_cases hv : validV a (numL 0 (l.take z)) ⟨#[]⟩ = 0
      · rw [if_pos hv, if_pos hv]
        exact ⟨_, rfl, rfl, by simp; omega, by simp; omega⟩
      · rw [if_neg hv, if_neg hv]
        exact ⟨_, rfl, rfl⟩
  have none_ : numV a z l = none → ∃ r, cabinetryref09_one.j1 (k + 1) s ((1 + z : Nat) : Int) true = some r ∧ isCut s r (numV a z l) := by
    intro e
    rw [e]
    simp only [cabinetryref09_one.j1]
    exact ⟨_, rfl, rfl⟩
  generalize hK : k + 1 = K at main none_
  simp only [cabinetryref09_one.j0]
  by_cases hl : l.length < z
  · rw [if_pos (by omega)]
    exact none_ (by unfold numV; rw [if_pos hl])
  · rw [if_neg (by omega)]
    rcases hz with ⟨ha, rfl⟩ | ⟨ha, rfl⟩ | ⟨ha, rfl⟩
    · rw [if_neg (by decide)]
      exact main (by omega)
    · rw [if_pos (by decide), if_pos (by omega)]
      cases hl2 : l with
      | nil => rw [hl2] at hl; simp at hl
      | cons y m =>
        have hb1 : bt s 1 = toI y := by
          have := bt_toI s 1 (by omega)
          simp only [h, hl2, List.getElem_cons_succ, List.getElem_cons_zero] at this
          exact this
        rw [hb1]
        by_cases hy : toI y > 127
        · rw [decide_eq_true hy]
          rw [hl2] at none_
          refine none_ ?_
          rw [hl2] at hl
          unfold numV
          rw [if_neg hl, if_pos ha]
          have hn := numL_neg ((y :: m).take 8) (by rw [List.length_take]; omega) ⟨y, m.take 7, rfl, by unfold toI at hy; omega⟩
          have hq : ∃ q, numL 0 ((y :: m).take 8) = q ∧ q < 0 ∧ -9223372036854775808 ≤ q := by
            obtain ⟨r, h3, h4, h5⟩ := numL_vN ((y :: m).take 8) 0 0 0 (by omega) (by omega) (by omega)
            exact ⟨_, rfl, hn, h4⟩
          obtain ⟨q, hq, hq0, hq1⟩ := hq
          rw [hq, if_neg]
          intro hv
          obtain ⟨_, hc⟩ := valid_cases hv
          have hw : wrap64 (q - 1000000000000000) < -1000000000000000 ∨ 1000000000000000 < wrap64 (q - 1000000000000000) := by unfold wrap64; omega
          omega
        · rw [decide_eq_false hy]
          rw [hl2] at main
          rw [hl2] at hl
          exact main (by omega)
    · rw [if_neg (by decide)]
      exact main (by omega)
theorem ref_one_f (k : Nat) (hk : 90000 ≤ k) (s : ByteArray) (hs : s.size ≤ 40000) : ∃ r, cabinetryref09_one.f k s = some r ∧ isCut s r (onV s.data.toList) := by
  unfold cabinetryref09_one.f
  rw [ByteArray.toList_eq]
  cases h : s.data.toList with
  | nil =>
    rw [if_pos rfl]
    exact ⟨_, rfl, rfl⟩
  | cons x l =>
    have ls := ba_len s
    rw [h, List.length_cons] at ls
    have hb : bt s 0 = toI x := by
      have := bt_toI s 0 (by omega)
      simp only [h, List.getElem_cons_zero] at this
      exact this
    have hr := toI_range x
    rw [if_neg (by simp), if_pos (by omega), hb, w64 (by omega) (by omega)]
    by_cases h0 : x = 0
    · rw [if_pos (by rw [h0]; rfl), onV, if_pos h0]
      exact ⟨_, rfl, rfl, by decide, by simp; omega⟩
    · rw [if_neg (fun e => h0 (toI_inj (e.trans rfl))), onV, if_neg h0]
      by_cases h1 : x = 1
      · rw [if_pos (by rw [h1]; rfl), if_neg (by rw [h1]; decide), if_pos h1]
        exact ref_j0 k (by omega) s hs x l h 1 1 (by rw [h1]; rfl) (Or.inl ⟨rfl, rfl⟩)
      · rw [if_neg (fun e => h1 (toI_inj (e.trans rfl))), if_neg h1]
        by_cases h2 : x = 2
        · rw [if_pos (by rw [h2]; rfl), if_neg (by rw [h2]; decide), if_pos h2]
          exact ref_j0 k (by omega) s hs x l h 2 8 (by rw [h2]; rfl) (Or.inr (Or.inl ⟨rfl, rfl⟩))
        · rw [if_neg (fun e => h2 (toI_inj (e.trans rfl))), if_neg h2]
          by_cases h3 : x = 3
          · rw [if_pos (by rw [h3]; rfl), if_neg (by rw [h3]; decide), if_pos h3]
            exact ref_j0 k (by omega) s hs x l h 3 4 (by rw [h3]; rfl) (Or.inr (Or.inr ⟨rfl, rfl⟩))
          · rw [if_neg (fun e => h3 (toI_inj (e.trans rfl))), if_neg h3]
            by_cases h4 : x = 4
            · rw [if_pos (by rw [h4]; rfl), if_pos h4]
              have hT := refText_l s hs l.length 1 k [] (by omega) (by omega) (by omega) (by simp)
              rw [h, List.drop_succ_cons, List.drop_zero] at hT
              unfold cabinetryref09_text.f
              rw [show ((1 : Nat) : Int) = 1 from rfl, List.map_nil] at hT
              rw [hT]
              simp only [Option.bind_some]
              exact ⟨_, rfl, text_cut s x l h⟩
            · rw [if_neg (fun e => h4 (toI_inj (e.trans rfl))), if_neg h4]
              exact ⟨_, rfl, rfl⟩
theorem same_f (a n : Int) (s : ByteArray) : cabinetryref01_SameValue.f a n s a n s = some true := by
  unfold cabinetryref01_SameValue.f
  rw [if_pos rfl, if_pos rfl]
  simp
end Go.Proofs.YtnkejhfbkgfedaaDoor.L1
