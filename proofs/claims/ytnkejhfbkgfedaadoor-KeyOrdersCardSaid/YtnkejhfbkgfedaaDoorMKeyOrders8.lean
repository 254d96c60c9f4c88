-- Written by a program of this session (wip/merge.py): the texts of this claim, joined.
import Derived.Test.YtnkejhfbkgfedaaDoorMKeyOrders1
import Derived.Test.YtnkejhfbkgfedaaDoorMKeyOrders2
import Derived.Test.YtnkejhfbkgfedaaDoorMKeyOrders3
import Derived.Test.YtnkejhfbkgfedaaDoorMKeyOrders4
import Derived.Test.YtnkejhfbkgfedaaDoorMKeyOrders5
import Derived.Test.YtnkejhfbkgfedaaDoorMKeyOrders6
import Derived.Test.YtnkejhfbkgfedaaDoorMKeyOrders7
namespace Go.Proofs.YtnkejhfbkgfedaaDoor.PA
end Go.Proofs.YtnkejhfbkgfedaaDoor.PA
namespace Go.Proofs.YtnkejhfbkgfedaaDoor.PB
end Go.Proofs.YtnkejhfbkgfedaaDoor.PB
namespace Go.Proofs.YtnkejhfbkgfedaaDoor.PC
end Go.Proofs.YtnkejhfbkgfedaaDoor.PC
namespace Go.Proofs.YtnkejhfbkgfedaaDoor.H1
end Go.Proofs.YtnkejhfbkgfedaaDoor.H1
namespace Go.Proofs.YtnkejhfbkgfedaaDoor.L1
end Go.Proofs.YtnkejhfbkgfedaaDoor.L1
namespace Go.Proofs.YtnkejhfbkgfedaaDoor.PA
open Go.RowKit Go.Proofs.YtnkejhfbkgfedaaDoorW.PrintWords Go.Proofs.YtnkejhfbkgfedaaDoorW.PrintLast Go.Proofs.YtnkejhfbkgfedaaDoorW.PrintMore
attribute [local go_sem] max2_int min2_int max_two min_two max_three min_three max_four min_four   -- for this text's walks alone
set_option linter.unusedVariables false
set_option linter.unusedSimpArgs false
def cabinetryref01_Compare.j0 : Nat → Bool → Int → Int → ByteArray → Int → Int → ByteArray → Option (Int × Int)
 | 0, _, _, _, _, _, _, _ => none
 | k + 1, x22, x250000, x250001, x250002, x251000, x251001, x251002 => if x22 = true then (some (0, 6)) else (if x250000 = 4 then ((cabinetryref01_CompareTexts.f k x250002 x251002).bind fun t252 => (some (t252, 0))) else ((cabinetryref01_CompareInts.f x250001 x251001).bind fun t253 => (some (t253, 0))))
def cabinetryref01_Compare.f (k : Nat) (a0_0 : Int) (a0_1 : Int) (a0_2 : ByteArray) (a1_0 : Int) (a1_1 : Int) (a1_2 : ByteArray) : Option (Int × Int) := (cabinetryref01_Both.f a0_0 a0_1 a0_2 a1_0 a1_1 a1_2).bind fun t251 => (if t251 = 0 then (if a0_0 = a1_0 then (cabinetryref01_Compare.j0 k (a0_0 == 0) a0_0 a0_1 a0_2 a1_0 a1_1 a1_2) else (cabinetryref01_Compare.j0 k true a0_0 a0_1 a0_2 a1_0 a1_1 a1_2)) else (some (0, t251)))
set_option maxHeartbeats 8000000 in
set_option maxRecDepth 100000 in
theorem cabinetryref01_Compare.calls (k : Nat) (a0_0 : Int) (a0_1 : Int) (a0_2 : ByteArray) (a1_0 : Int) (a1_1 : Int) (a1_2 : ByteArray) (r1 : Int) (r2 : Int) (w : World) (h : cabinetryref01_Compare.f k a0_0 a0_1 a0_2 a1_0 a1_1 a1_2 = some (r1, r2)) :
  Calls Tryd.prog 20 #[.agg #[.int .i64 a0_0, .int .i64 a0_1, .string a0_2], .agg #[.int .i64 a1_0, .int .i64 a1_1, .string a1_2]] w fun e w' => e = .returned (.tuple #[.int .i64 r1, .int .i64 r2]) ∧ Below w.heap.size w w' := by
 have hu23 := Tryd.underlying23
 have HB := Aside0.mk (Below.refl w.heap.size w)
 have H : ((cabinetryref01_Both.f a0_0 a0_1 a0_2 a1_0 a1_1 a1_2).bind fun t251 => (if t251 = 0 then (if a0_0 = a1_0 then (cabinetryref01_Compare.j0 k (a0_0 == 0) a0_0 a0_1 a0_2 a1_0 a1_1 a1_2) else (cabinetryref01_Compare.j0 k true a0_0 a0_1 a0_2 a1_0 a1_1 a1_2)) else (some (0, t251)))) = some (r1, r2) := h
 clear h
 replace H := Option.bind_eq_some_iff.mp H
 obtain ⟨t251, A30, H⟩ := H
 replace H : (if t251 = 0 then (if a0_0 = a1_0 then (cabinetryref01_Compare.j0 k (a0_0 == 0) a0_0 a0_1 a0_2 a1_0 a1_1 a1_2) else (cabinetryref01_Compare.j0 k true a0_0 a0_1 a0_2 a1_0 a1_1 a1_2)) else (some (0, t251))) = some (r1, r2) := H
 have A3 := Aside0.mk A30
 clear A30
 by_cases c4 : t251 = 0
 ·rw [if_pos c4] at H
  have c4b0 : (t251 == 0) = true := beq_iff_eq.mpr c4
  have c4b1 : (t251 != 0) = false := bne_eq_false_iff_eq.mpr c4
  clear c4
  have HC5 := Aside0.mk H
  clear H
  go_enter Tryd.func20, Tryd.ntmps20
  go_upto_region 4 with (first | ((with_reducible refine gate_dst (N := 2) rfl ?_); refine box_event ?hg (N := 2) ?hd (cs := #[.int .i64 a0_0, .int .i64 a0_1, .string a0_2]) (t := 23) ?hr ?_; (case hd => rfl); (case hg => rfl); (case hr => first | (go_simp; done) | (go_simp; rfl)); intro gb249 hg w6 hbox hb; have n0_ := Aside0.mk (below_step (by repeat (first | (with_reducible first | exact HB.out | apply below_alloc | apply pw_below_drewN | apply below_drew1) | exact HB.out)) hb); have n1_ := Aside0.mk (hbox); have n2_ := Aside0.mk ((by rw [hg]; exact (below_size (by repeat (first | (with_reducible first | exact HB.out | apply below_alloc | apply pw_below_drewN | apply below_drew1) | exact HB.out))) : w.heap.size ≤ gb249)); have n3_ := Aside0.mk ((by rw [hg]; exact (below_size (by repeat (first | (with_reducible first | exact HB.out | apply below_alloc | apply pw_below_drewN | apply below_drew1) | exact HB.out))) : w.heap.size ≤ gb249)); clear HB; have HB := n0_; have BK249 := n1_; have GW249 := n2_; have GE249 := n3_; clear n0_ n1_ n2_ n3_; clear hb hbox hg) | ((with_reducible refine gate_dst (N := 3) rfl ?_); refine box_event ?hg (N := 3) ?hd (cs := #[.int .i64 a1_0, .int .i64 a1_1, .string a1_2]) (t := 23) ?hr ?_; (case hd => rfl); (case hg => rfl); (case hr => first | (go_simp; done) | (go_simp; rfl)); intro gb250 hg w7 hbox hb; have n0_ := Aside0.mk (blk_below (g := gb249) (o := .cells #[.int .i64 a0_0, .int .i64 a0_1, .string a0_2] 23 (0, 0)) (by (with_reducible repeat (first | refine blk_drewN ?_ _ | refine blk_drew ?_ | refine blk_alloc ?_ _)); exact BK249.out) hb); have n1_ := Aside0.mk (below_step (by repeat (first | (with_reducible first | exact HB.out | apply below_alloc | apply pw_below_drewN | apply below_drew1 | refine below_set ?_ GE249.out) | exact HB.out)) hb); have n2_ := Aside0.mk (hbox); have n3_ := Aside0.mk ((by rw [hg]; exact (below_size (by repeat (first | (with_reducible first | exact HB.out | apply below_alloc | apply pw_below_drewN | apply below_drew1 | refine below_set ?_ GE249.out) | exact HB.out))) : w.heap.size ≤ gb250)); have n4_ := Aside0.mk ((by rw [hg]; exact (below_size (by repeat (first | (with_reducible first | exact HB.out | apply below_alloc | apply pw_below_drewN | apply below_drew1 | refine below_set ?_ GE249.out) | exact HB.out))) : w.heap.size ≤ gb250)); have n5_ := Aside0.mk ((by rw [hg]; exact Nat.ne_of_lt (blk_lt (g := gb249) (o := .cells #[.int .i64 a0_0, .int .i64 a0_1, .string a0_2] 23 (0, 0)) (by (with_reducible repeat (first | refine blk_drewN ?_ _ | refine blk_drew ?_ | refine blk_alloc ?_ _)); exact BK249.out)) : gb249 ≠ gb250)); have n6_ := Aside0.mk ((by rw [hg]; exact Nat.ne_of_gt (blk_lt (g := gb249) (o := .cells #[.int .i64 a0_0, .int .i64 a0_1, .string a0_2] 23 (0, 0)) (by (with_reducible repeat (first | refine blk_drewN ?_ _ | refine blk_drew ?_ | refine blk_alloc ?_ _)); exact BK249.out)) : gb250 ≠ gb249)); clear BK249; clear HB; have BK249 := n0_; have HB := n1_; have BK250 := n2_; have GW250 := n3_; have GE250 := n4_; have NB249_250 := n5_; have NB250_249 := n6_; clear n0_ n1_ n2_ n3_ n4_ n5_ n6_; clear hb hbox hg; have hnb8 := NB249_250.out; have hnc8 := NB250_249.out; have hcz9_0 : w7.cell? ⟨gb249, 0, none⟩ = some (.int .i64 a0_0) := (blk_cell BK249.out 0).trans rfl; have hcz9_1 : w7.cell? ⟨gb249, 1, none⟩ = some (.int .i64 a0_1) := (blk_cell BK249.out 1).trans rfl; have hcz9_2 : w7.cell? ⟨gb249, 2, none⟩ = some (.string a0_2) := (blk_cell BK249.out 2).trans rfl; have hfz9_0 := blk_frozen BK249.out 0; have hfz9_1 := blk_frozen BK249.out 1; have hfz9_2 := blk_frozen BK249.out 2; have hcz10_0 : w7.cell? ⟨gb250, 0, none⟩ = some (.int .i64 a1_0) := (blk_cell BK250.out 0).trans rfl; have hcz10_1 : w7.cell? ⟨gb250, 1, none⟩ = some (.int .i64 a1_1) := (blk_cell BK250.out 1).trans rfl; have hcz10_2 : w7.cell? ⟨gb250, 2, none⟩ = some (.string a1_2) := (blk_cell BK250.out 2).trans rfl; have hfz10_0 := blk_frozen BK250.out 0; have hfz10_1 := blk_frozen BK250.out 1; have hfz10_2 := blk_frozen BK250.out 2) | ((with_reducible refine gate_callee (f := 55) rfl ?_); refine goesL_ (some 9) rfl rfl Tryd.func55 (by kernel_rfl) rfl #[.agg #[.int .i64 a0_0, .int .i64 a0_1, .string a0_2], .agg #[.int .i64 a1_0, .int .i64 a1_1, .string a1_2]] rfl (by (try simp only [List.map_toArray, List.map_cons, List.map_nil]); first | done | rfl | (simp only [List.length_drop, List.length_take]; rfl)) ?_; (with_reducible refine (cabinetryref01_Both.calls a0_0 a0_1 a0_2 a1_0 a1_1 a1_2 t251 _ A3.out).mono ?_); rintro e w11 ⟨rfl, hb⟩; refine ⟨_, rfl, ?_⟩; have n0_ := Aside0.mk (blk_below (g := gb249) (o := .cells #[.int .i64 a0_0, .int .i64 a0_1, .string a0_2] 23 (0, 0)) (by (with_reducible repeat (first | refine blk_drewN ?_ _ | refine blk_drew ?_ | refine blk_alloc ?_ _)); exact BK249.out) hb); have n1_ := Aside0.mk (blk_below (g := gb250) (o := .cells #[.int .i64 a1_0, .int .i64 a1_1, .string a1_2] 23 (0, 0)) (by (with_reducible repeat (first | refine blk_drewN ?_ _ | refine blk_drew ?_ | refine blk_alloc ?_ _)); exact BK250.out) hb); have n2_ := Aside0.mk (below_step (by repeat (first | (with_reducible first | exact HB.out | apply below_alloc | apply pw_below_drewN | apply below_drew1 | refine below_set ?_ GE249.out | refine below_set ?_ GE250.out) | exact HB.out)) hb); clear BK249; clear BK250; clear HB; have BK249 := n0_; have BK250 := n1_; have HB := n2_; clear n0_ n1_ n2_; (try clear hb); (try clear hb2); (try clear hk); (try clear hi)))
  (try simp only [Act.put, List.setIfInBounds_toArray, List.set_cons_zero, List.set_cons_succ])
  go_cut [22] (fun v22 wc => ∃ (kq : Nat) (x22_4 : Bool), v22 = .bool x22_4 ∧ Aside0 (cabinetryref01_Compare.j0 kq x22_4 a0_0 a0_1 a0_2 a1_0 a1_1 a1_2 = some (r1, r2)) ∧ Aside0 (kq ≤ k) ∧ Aside0 (wc.heap[gb249]? = some (.cells #[.int .i64 a0_0, .int .i64 a0_1, .string a0_2] 23 (0, 0))) ∧ Aside0 (wc.heap[gb250]? = some (.cells #[.int .i64 a1_0, .int .i64 a1_1, .string a1_2] 23 (0, 0))) ∧ Aside0 (Below w.heap.size w wc))
  case first =>
   have H := HC5.out
   clear HC5
   by_cases c12 : a0_0 = a1_0
   ·rw [if_pos c12] at H
    have c12b0 : (a0_0 == a1_0) = true := beq_iff_eq.mpr c12
    have c12b1 : (a0_0 != a1_0) = false := bne_eq_false_iff_eq.mpr c12
    clear c12
    (first | rw [c12b0] | (simp only [i64_w, i32_w]; rw [c12b0]) | skip)
    have H' := Aside0.mk H
    clear H
    have hnb13 := NB249_250.out
    have hnc13 := NB250_249.out
    have hcz14_0 : w11.cell? ⟨gb249, 0, none⟩ = some (.int .i64 a0_0) := (blk_cell BK249.out 0).trans rfl
    have hcz14_1 : w11.cell? ⟨gb249, 1, none⟩ = some (.int .i64 a0_1) := (blk_cell BK249.out 1).trans rfl
    have hcz14_2 : w11.cell? ⟨gb249, 2, none⟩ = some (.string a0_2) := (blk_cell BK249.out 2).trans rfl
    have hfz14_0 := blk_frozen BK249.out 0
    have hfz14_1 := blk_frozen BK249.out 1
    have hfz14_2 := blk_frozen BK249.out 2
    have hcz15_0 : w11.cell? ⟨gb250, 0, none⟩ = some (.int .i64 a1_0) := (blk_cell BK250.out 0).trans rfl
    have hcz15_1 : w11.cell? ⟨gb250, 1, none⟩ = some (.int .i64 a1_1) := (blk_cell BK250.out 1).trans rfl
    have hcz15_2 : w11.cell? ⟨gb250, 2, none⟩ = some (.string a1_2) := (blk_cell BK250.out 2).trans rfl
    have hfz15_0 := blk_frozen BK250.out 0
    have hfz15_1 := blk_frozen BK250.out 1
    have hfz15_2 := blk_frozen BK250.out 2
    go_wp2
    go_meet
    case rel => exact ⟨_, ((a0_0 == 0)), (by first | rfl | (simp; done) | (simp [*]; done)), H', ⟨by first | omega | exact Nat.le_refl _⟩, ⟨by (with_reducible repeat (first | refine blk_drewN ?_ _ | refine blk_drew ?_ | refine blk_alloc ?_ _)); exact BK249.out⟩, ⟨by (with_reducible repeat (first | refine blk_drewN ?_ _ | refine blk_drew ?_ | refine blk_alloc ?_ _)); exact BK250.out⟩, ⟨by repeat (first | (with_reducible first | exact HB.out | apply below_alloc | apply pw_below_drewN | apply below_drew1 | refine below_set ?_ GE249.out | refine below_set ?_ GE250.out) | exact HB.out)⟩⟩
   ·rw [if_neg c12] at H
    have c12b0 : (a0_0 == a1_0) = false := beq_eq_false_iff_ne.mpr c12
    have c12b1 : (a0_0 != a1_0) = true := bne_iff_ne.mpr c12
    (first | rw [c12b0] | (simp only [i64_w, i32_w]; rw [c12b0]) | skip)
    have H' := Aside0.mk H
    clear H
    have hnb16 := NB249_250.out
    have hnc16 := NB250_249.out
    have hcz17_0 : w11.cell? ⟨gb249, 0, none⟩ = some (.int .i64 a0_0) := (blk_cell BK249.out 0).trans rfl
    have hcz17_1 : w11.cell? ⟨gb249, 1, none⟩ = some (.int .i64 a0_1) := (blk_cell BK249.out 1).trans rfl
    have hcz17_2 : w11.cell? ⟨gb249, 2, none⟩ = some (.string a0_2) := (blk_cell BK249.out 2).trans rfl
    have hfz17_0 := blk_frozen BK249.out 0
    have hfz17_1 := blk_frozen BK249.out 1
    have hfz17_2 := blk_frozen BK249.out 2
    have hcz18_0 : w11.cell? ⟨gb250, 0, none⟩ = some (.int .i64 a1_0) := (blk_cell BK250.out 0).trans rfl
    have hcz18_1 : w11.cell? ⟨gb250, 1, none⟩ = some (.int .i64 a1_1) := (blk_cell BK250.out 1).trans rfl
    have hcz18_2 : w11.cell? ⟨gb250, 2, none⟩ = some (.string a1_2) := (blk_cell BK250.out 2).trans rfl
    have hfz18_0 := blk_frozen BK250.out 0
    have hfz18_1 := blk_frozen BK250.out 1
    have hfz18_2 := blk_frozen BK250.out 2
    go_wp2
    go_meet
    case rel => exact ⟨_, (true), (by first | rfl | (simp; done) | (simp [*]; done)), H', ⟨by first | omega | exact Nat.le_refl _⟩, ⟨by (with_reducible repeat (first | refine blk_drewN ?_ _ | refine blk_drew ?_ | refine blk_alloc ?_ _)); exact BK249.out⟩, ⟨by (with_reducible repeat (first | refine blk_drewN ?_ _ | refine blk_drew ?_ | refine blk_alloc ?_ _)); exact BK250.out⟩, ⟨by repeat (first | (with_reducible first | exact HB.out | apply below_alloc | apply pw_below_drewN | apply below_drew1 | refine below_set ?_ GE249.out | refine below_set ?_ GE250.out) | exact HB.out)⟩⟩
  case rest =>
   clear HC5
   try clear c1; try clear c2; try clear p2; try clear c4; try clear c4b0; try clear c4b1; try clear c5; try clear c8; try clear c12; try clear c12b0; try clear c12b1; try clear c13; try clear c16; try clear hcz10_0; try clear hcz10_1; try clear hcz10_2; try clear hcz14_0; try clear hcz14_1; try clear hcz14_2; try clear hcz15_0; try clear hcz15_1; try clear hcz15_2; try clear hcz17_0; try clear hcz17_1; try clear hcz17_2; try clear hcz18_0; try clear hcz18_1; try clear hcz18_2; try clear hcz9_0; try clear hcz9_1; try clear hcz9_2; try clear hfz10_0; try clear hfz10_1; try clear hfz10_2; try clear hfz14_0; try clear hfz14_1; try clear hfz14_2; try clear hfz15_0; try clear hfz15_1; try clear hfz15_2; try clear hfz17_0; try clear hfz17_1; try clear hfz17_2; try clear hfz18_0; try clear hfz18_1; try clear hfz18_2; try clear hfz9_0; try clear hfz9_1; try clear hfz9_2
   obtain ⟨kq, x22_4, rfl, HA, HJ4, BK249, BK250, HB⟩ := hcut
   cases kq with
   | zero => exact absurd HA.out (by simp [cabinetryref01_Compare.j0])
   | succ kj4 =>
    have H := HA.out
    clear HA
    simp only [cabinetryref01_Compare.j0] at H
    by_cases c19 : x22_4 = true
    ·subst c19
     have H1 : (some (0, 6)) = some (r1, r2) := by rw [if_pos rfl] at H; exact H
     clear H
     have H := H1
     clear H1
     simp only [Option.some.injEq, Prod.mk.injEq] at H
     obtain ⟨rfl, rfl⟩ := H
     go_wp2
     go_ret2
     exact ⟨by first | rfl | (simp [errW_none, errW_some] <;> rfl) | (simp [*, errW_none, errW_some] <;> rfl), by repeat (first | (with_reducible first | exact HB.out | apply below_alloc | apply pw_below_drewN | apply below_drew1 | refine below_set ?_ GE249.out | refine below_set ?_ GE250.out) | exact HB.out)⟩
    ·replace c19 := Bool.eq_false_iff.mpr c19
     subst c19
     have H1 : (if a0_0 = 4 then ((cabinetryref01_CompareTexts.f kj4 a0_2 a1_2).bind fun t252 => (some (t252, 0))) else ((cabinetryref01_CompareInts.f a0_1 a1_1).bind fun t253 => (some (t253, 0)))) = some (r1, r2) := by rw [if_neg (show ¬ (false = true) by decide)] at H; exact H
     clear H
     have H := H1
     clear H1
     by_cases c20 : a0_0 = 4
     ·rw [if_pos c20] at H
      have c20b0 : (a0_0 == 4) = true := beq_iff_eq.mpr c20
      have c20b1 : (a0_0 != 4) = false := bne_eq_false_iff_eq.mpr c20
      clear c20
      replace H := Option.bind_eq_some_iff.mp H
      obtain ⟨t252, A210, H⟩ := H
      replace H : (some (t252, 0)) = some (r1, r2) := H
      have A21 := Aside0.mk A210
      clear A210
      simp only [Option.some.injEq, Prod.mk.injEq] at H
      obtain ⟨rfl, rfl⟩ := H
      have hnb22 := NB249_250.out
      have hnc22 := NB250_249.out
      have hcz23_0 : wc.cell? ⟨gb249, 0, none⟩ = some (.int .i64 a0_0) := (blk_cell BK249.out 0).trans rfl
      have hcz23_1 : wc.cell? ⟨gb249, 1, none⟩ = some (.int .i64 a0_1) := (blk_cell BK249.out 1).trans rfl
      have hcz23_2 : wc.cell? ⟨gb249, 2, none⟩ = some (.string a0_2) := (blk_cell BK249.out 2).trans rfl
      have hfz23_0 := blk_frozen BK249.out 0
      have hfz23_1 := blk_frozen BK249.out 1
      have hfz23_2 := blk_frozen BK249.out 2
      have hcz24_0 : wc.cell? ⟨gb250, 0, none⟩ = some (.int .i64 a1_0) := (blk_cell BK250.out 0).trans rfl
      have hcz24_1 : wc.cell? ⟨gb250, 1, none⟩ = some (.int .i64 a1_1) := (blk_cell BK250.out 1).trans rfl
      have hcz24_2 : wc.cell? ⟨gb250, 2, none⟩ = some (.string a1_2) := (blk_cell BK250.out 2).trans rfl
      have hfz24_0 := blk_frozen BK250.out 0
      have hfz24_1 := blk_frozen BK250.out 1
      have hfz24_2 := blk_frozen BK250.out 2
      go_wp2_with (first | ((with_reducible refine gate_callee (f := 23) rfl ?_); refine goesL_ (some 30) rfl rfl Tryd.func23 (by kernel_rfl) rfl #[.string a0_2, .string a1_2] rfl (by (try simp only [List.map_toArray, List.map_cons, List.map_nil]); first | done | rfl | (simp only [List.length_drop, List.length_take]; rfl)) ?_; (with_reducible refine (cabinetryref01_CompareTexts.calls kj4 a0_2 a1_2 t252 _ A21.out).mono ?_); rintro e w' ⟨rfl, ⟨nd, rfl⟩⟩; refine ⟨_, rfl, ?_⟩))
      go_ret2
      exact ⟨by first | rfl | (simp [errW_none, errW_some] <;> rfl) | (simp [*, errW_none, errW_some] <;> rfl), by repeat (first | (with_reducible first | exact HB.out | apply below_alloc | apply pw_below_drewN | apply below_drew1 | refine below_set ?_ GE249.out | refine below_set ?_ GE250.out) | exact HB.out)⟩
     ·rw [if_neg c20] at H
      have c20b0 : (a0_0 == 4) = false := beq_eq_false_iff_ne.mpr c20
      have c20b1 : (a0_0 != 4) = true := bne_iff_ne.mpr c20
      replace H := Option.bind_eq_some_iff.mp H
      obtain ⟨t253, A250, H⟩ := H
      replace H : (some (t253, 0)) = some (r1, r2) := H
      have A25 := Aside0.mk A250
      clear A250
      simp only [Option.some.injEq, Prod.mk.injEq] at H
      obtain ⟨rfl, rfl⟩ := H
      have hnb26 := NB249_250.out
      have hnc26 := NB250_249.out
      have hcz27_0 : wc.cell? ⟨gb249, 0, none⟩ = some (.int .i64 a0_0) := (blk_cell BK249.out 0).trans rfl
      have hcz27_1 : wc.cell? ⟨gb249, 1, none⟩ = some (.int .i64 a0_1) := (blk_cell BK249.out 1).trans rfl
      have hcz27_2 : wc.cell? ⟨gb249, 2, none⟩ = some (.string a0_2) := (blk_cell BK249.out 2).trans rfl
      have hfz27_0 := blk_frozen BK249.out 0
      have hfz27_1 := blk_frozen BK249.out 1
      have hfz27_2 := blk_frozen BK249.out 2
      have hcz28_0 : wc.cell? ⟨gb250, 0, none⟩ = some (.int .i64 a1_0) := (blk_cell BK250.out 0).trans rfl
      have hcz28_1 : wc.cell? ⟨gb250, 1, none⟩ = some (.int .i64 a1_1) := (blk_cell BK250.out 1).trans rfl
      have hcz28_2 : wc.cell? ⟨gb250, 2, none⟩ = some (.string a1_2) := (blk_cell BK250.out 2).trans rfl
      have hfz28_0 := blk_frozen BK250.out 0
      have hfz28_1 := blk_frozen BK250.out 1
      have hfz28_2 := blk_frozen BK250.out 2
      go_wp2_with (first | ((with_reducible refine gate_callee (f := 21) rfl ?_); refine goesL_ (some 35) rfl rfl Tryd.func21 (by kernel_rfl) rfl #[.int .i64 a0_1, .int .i64 a1_1] rfl (by (try simp only [List.map_toArray, List.map_cons, List.map_nil]); first | done | rfl | (simp only [List.length_drop, List.length_take]; rfl)) ?_; (with_reducible refine (cabinetryref01_CompareInts.calls a0_1 a1_1 t253 _ A25.out).mono ?_); rintro e w' ⟨rfl, ⟨nd, rfl⟩⟩; refine ⟨_, rfl, ?_⟩))
      go_ret2
      exact ⟨by first | rfl | (simp [errW_none, errW_some] <;> rfl) | (simp [*, errW_none, errW_some] <;> rfl), by repeat (first | (with_reducible first | exact HB.out | apply below_alloc | apply pw_below_drewN | apply below_drew1 | refine below_set ?_ GE249.out | refine below_set ?_ GE250.out) | exact HB.out)⟩
 ·rw [if_neg c4] at H
  have c4b0 : (t251 == 0) = false := beq_eq_false_iff_ne.mpr c4
  have c4b1 : (t251 != 0) = true := bne_iff_ne.mpr c4
  simp only [Option.some.injEq, Prod.mk.injEq] at H
  obtain ⟨rfl, rfl⟩ := H
  go_enter Tryd.func20, Tryd.ntmps20
  go_wp2_with (first | ((with_reducible refine gate_dst (N := 2) rfl ?_); refine box_event ?hg (N := 2) ?hd (cs := #[.int .i64 a0_0, .int .i64 a0_1, .string a0_2]) (t := 23) ?hr ?_; (case hd => rfl); (case hg => rfl); (case hr => first | (go_simp; done) | (go_simp; rfl)); intro gb249 hg w29 hbox hb; have n0_ := Aside0.mk (below_step (by repeat (first | (with_reducible first | exact HB.out | apply below_alloc | apply pw_below_drewN | apply below_drew1) | exact HB.out)) hb); have n1_ := Aside0.mk (hbox); have n2_ := Aside0.mk ((by rw [hg]; exact (below_size (by repeat (first | (with_reducible first | exact HB.out | apply below_alloc | apply pw_below_drewN | apply below_drew1) | exact HB.out))) : w.heap.size ≤ gb249)); have n3_ := Aside0.mk ((by rw [hg]; exact (below_size (by repeat (first | (with_reducible first | exact HB.out | apply below_alloc | apply pw_below_drewN | apply below_drew1) | exact HB.out))) : w.heap.size ≤ gb249)); clear HB; have HB := n0_; have BK249 := n1_; have GW249 := n2_; have GE249 := n3_; clear n0_ n1_ n2_ n3_; clear hb hbox hg) | ((with_reducible refine gate_dst (N := 3) rfl ?_); refine box_event ?hg (N := 3) ?hd (cs := #[.int .i64 a1_0, .int .i64 a1_1, .string a1_2]) (t := 23) ?hr ?_; (case hd => rfl); (case hg => rfl); (case hr => first | (go_simp; done) | (go_simp; rfl)); intro gb250 hg w30 hbox hb; have n0_ := Aside0.mk (blk_below (g := gb249) (o := .cells #[.int .i64 a0_0, .int .i64 a0_1, .string a0_2] 23 (0, 0)) (by (with_reducible repeat (first | refine blk_drewN ?_ _ | refine blk_drew ?_ | refine blk_alloc ?_ _)); exact BK249.out) hb); have n1_ := Aside0.mk (below_step (by repeat (first | (with_reducible first | exact HB.out | apply below_alloc | apply pw_below_drewN | apply below_drew1 | refine below_set ?_ GE249.out) | exact HB.out)) hb); have n2_ := Aside0.mk (hbox); have n3_ := Aside0.mk ((by rw [hg]; exact (below_size (by repeat (first | (with_reducible first | exact HB.out | apply below_alloc | apply pw_below_drewN | apply below_drew1 | refine below_set ?_ GE249.out) | exact HB.out))) : w.heap.size ≤ gb250)); have n4_ := Aside0.mk ((by rw [hg]; exact (below_size (by repeat (first | (with_reducible first | exact HB.out | apply below_alloc | apply pw_below_drewN | apply below_drew1 | refine below_set ?_ GE249.out) | exact HB.out))) : w.heap.size ≤ gb250)); have n5_ := Aside0.mk ((by rw [hg]; exact Nat.ne_of_lt (blk_lt (g := gb249) (o := .cells #[.int .i64 a0_0, .int .i64 a0_1, .string a0_2] 23 (0, 0)) (by (with_reducible repeat (first | refine blk_drewN ?_ _ | refine blk_drew ?_ | refine blk_alloc ?_ _)); exact BK249.out)) : gb249 ≠ gb250)); have n6_ := Aside0.mk ((by rw [hg]; exact Nat.ne_of_gt (blk_lt (g := gb249) (o := .cells #[.int .i64 a0_0, .int .i64 a0_1, .string a0_2] 23 (0, 0)) (by (with_reducible repeat (first | refine blk_drewN ?_ _ | refine blk_drew ?_ | refine blk_alloc ?_ _)); exact BK249.out)) : gb250 ≠ gb249)); clear BK249; clear HB; have BK249 := n0_; have HB := n1_; have BK250 := n2_; have GW250 := n3_; have GE250 := n4_; have NB249_250 := n5_; have NB250_249 := n6_; clear n0_ n1_ n2_ n3_ n4_ n5_ n6_; clear hb hbox hg; have hnb31 := NB249_250.out; have hnc31 := NB250_249.out; have hcz32_0 : w30.cell? ⟨gb249, 0, none⟩ = some (.int .i64 a0_0) := (blk_cell BK249.out 0).trans rfl; have hcz32_1 : w30.cell? ⟨gb249, 1, none⟩ = some (.int .i64 a0_1) := (blk_cell BK249.out 1).trans rfl; have hcz32_2 : w30.cell? ⟨gb249, 2, none⟩ = some (.string a0_2) := (blk_cell BK249.out 2).trans rfl; have hfz32_0 := blk_frozen BK249.out 0; have hfz32_1 := blk_frozen BK249.out 1; have hfz32_2 := blk_frozen BK249.out 2; have hcz33_0 : w30.cell? ⟨gb250, 0, none⟩ = some (.int .i64 a1_0) := (blk_cell BK250.out 0).trans rfl; have hcz33_1 : w30.cell? ⟨gb250, 1, none⟩ = some (.int .i64 a1_1) := (blk_cell BK250.out 1).trans rfl; have hcz33_2 : w30.cell? ⟨gb250, 2, none⟩ = some (.string a1_2) := (blk_cell BK250.out 2).trans rfl; have hfz33_0 := blk_frozen BK250.out 0; have hfz33_1 := blk_frozen BK250.out 1; have hfz33_2 := blk_frozen BK250.out 2) | ((with_reducible refine gate_callee (f := 55) rfl ?_); refine goesL_ (some 9) rfl rfl Tryd.func55 (by kernel_rfl) rfl #[.agg #[.int .i64 a0_0, .int .i64 a0_1, .string a0_2], .agg #[.int .i64 a1_0, .int .i64 a1_1, .string a1_2]] rfl (by (try simp only [List.map_toArray, List.map_cons, List.map_nil]); first | done | rfl | (simp only [List.length_drop, List.length_take]; rfl)) ?_; (with_reducible refine (cabinetryref01_Both.calls a0_0 a0_1 a0_2 a1_0 a1_1 a1_2 t251 _ A3.out).mono ?_); rintro e w34 ⟨rfl, hb⟩; refine ⟨_, rfl, ?_⟩; have n0_ := Aside0.mk (blk_below (g := gb249) (o := .cells #[.int .i64 a0_0, .int .i64 a0_1, .string a0_2] 23 (0, 0)) (by (with_reducible repeat (first | refine blk_drewN ?_ _ | refine blk_drew ?_ | refine blk_alloc ?_ _)); exact BK249.out) hb); have n1_ := Aside0.mk (blk_below (g := gb250) (o := .cells #[.int .i64 a1_0, .int .i64 a1_1, .string a1_2] 23 (0, 0)) (by (with_reducible repeat (first | refine blk_drewN ?_ _ | refine blk_drew ?_ | refine blk_alloc ?_ _)); exact BK250.out) hb); have n2_ := Aside0.mk (below_step (by repeat (first | (with_reducible first | exact HB.out | apply below_alloc | apply pw_below_drewN | apply below_drew1 | refine below_set ?_ GE249.out | refine below_set ?_ GE250.out) | exact HB.out)) hb); clear BK249; clear BK250; clear HB; have BK249 := n0_; have BK250 := n1_; have HB := n2_; clear n0_ n1_ n2_; (try clear hb); (try clear hb2); (try clear hk); (try clear hi)))
  go_ret2
  exact ⟨by first | rfl | (simp [errW_none, errW_some] <;> rfl) | (simp [*, errW_none, errW_some] <;> rfl), by repeat (first | (with_reducible first | exact HB.out | apply below_alloc | apply pw_below_drewN | apply below_drew1 | refine below_set ?_ GE249.out | refine below_set ?_ GE250.out) | exact HB.out)⟩
end Go.Proofs.YtnkejhfbkgfedaaDoor.PA
namespace Go.Proofs.YtnkejhfbkgfedaaDoor.L1
open Go.RowKit Go.Proofs.YtnkejhfbkgfedaaDoorW.PrintWords Go.Proofs.YtnkejhfbkgfedaaDoor.PA Go.Proofs.YtnkejhfbkgfedaaDoor.PB Go.Proofs.YtnkejhfbkgfedaaDoor.H1
def cmpI (a b : Int) : Int := if a < b then -1 else if a > b then 1 else 0
theorem compareInts_f (a b : Int) : cabinetryref01_CompareInts.f a b = some (cmpI a b) := by
  unfold cabinetryref01_CompareInts.f cmpI
  split
  · rfl
  · split <;> rfl
theorem compareTexts_l (s t : ByteArray) (hs : s.size ≤ 140737488351232) : ∀ (n i k : Nat), s.size - i = n → i ≤ s.size → i ≤ t.size → 2 * n + 2 ≤ k →
    cabinetryref01_CompareTexts.l0 k s t (i : Int) = some (Lib.compareBytes (s.data.toList.drop i) (t.data.toList.drop i)) := by
  intro n
  induction n with
  | zero =>
    intro i k hn hi hj hk
    obtain ⟨k1, rfl⟩ : ∃ k1, k = k1 + 1 + 1 := ⟨k - 2, by omega⟩
    have e : i = s.size := by omega
    subst e
    simp only [cabinetryref01_CompareTexts.l0]
    rw [if_neg (by omega)]
    simp only [cabinetryref01_CompareTexts.j1]
    rw [if_neg (by decide), compareInts_f]
    simp only [Option.bind_some]
    rw [List.drop_eq_nil_of_le (by rw [ba_len]; exact Nat.le_refl _)]
    by_cases h : s.size = t.size
    · rw [List.drop_eq_nil_of_le (by rw [ba_len]; omega)]
      simp [Lib.compareBytes, cmpI, h]
    · have hl : s.size < t.data.toList.length := by rw [ba_len]; omega
      rw [List.drop_eq_getElem_cons hl]
      simp only [Lib.compareBytes, cmpI]
      rw [if_pos (by omega)]
  | succ n ih =>
    intro i k hn hi hj hk
    obtain ⟨k1, rfl⟩ : ∃ k1, k = k1 + 1 + 1 := ⟨k - 2, by omega⟩
    have hl : i < s.data.toList.length := by rw [ba_len]; omega
    simp only [cabinetryref01_CompareTexts.l0]
    rw [if_pos (by omega), List.drop_eq_getElem_cons hl]
    simp only [cabinetryref01_CompareTexts.j1]
    by_cases h : i < t.size
    · have hl2 : i < t.data.toList.length := by rw [ba_len]; omega
      rw [if_pos (by simpa using h), if_pos (by omega), if_pos (by omega), if_pos (by omega), bt_get s i (by omega), bt_get t i h, List.drop_eq_getElem_cons hl2]
      simp only [Lib.compareBytes, UInt8.lt_iff_toNat_lt]
      have b1 := (s.data.toList[i]).toNat_lt
      have b2 := (t.data.toList[i]).toNat_lt
      by_cases he : (s.data.toList[i]).toNat = (t.data.toList[i]).toNat
      · rw [if_pos (by omega), if_neg (by omega), if_neg (by omega), w64 (by omega) (by omega)]
        have := ih (i + 1) k1 (by omega) (by omega) (by omega) (by omega)
        simpa using this
      · rw [if_neg (by omega), compareInts_f, w64 (by omega) (by omega), w64 (by omega) (by omega)]
        simp only [Option.bind_some, cmpI]
        by_cases hc : (s.data.toList[i]).toNat < (t.data.toList[i]).toNat
        · rw [if_pos (by omega), if_pos hc]
        · rw [if_neg (by omega), if_neg hc, if_pos (by omega), if_pos (by omega)]
    · rw [if_neg (by simpa using h), compareInts_f]
      have e : i = t.size := by omega
      rw [show t.data.toList.drop i = [] from List.drop_eq_nil_of_le (by rw [ba_len]; omega)]
      simp only [Option.bind_some, Lib.compareBytes, cmpI]
      rw [if_neg (by omega), if_pos (by omega)]
theorem compareTexts_f (s t : ByteArray) (hs : s.size ≤ 140737488351232) (k : Nat) (hk : 2 * s.size + 2 ≤ k) :
    cabinetryref01_CompareTexts.f k s t = some (Lib.compareBytes s.data.toList t.data.toList) := by
  have := compareTexts_l s t hs s.size 0 k (by omega) (by omega) (by omega) hk
  simpa [cabinetryref01_CompareTexts.f] using this
def cmpV (a n : Int) (s : ByteArray) (b m : Int) (t : ByteArray) : Int × Int :=
  if bothV a n s b m t = 0 then (if a = b ∧ a ≠ 0 then (if a = 4 then (Lib.compareBytes s.data.toList t.data.toList, 0) else (cmpI n m, 0)) else (0, 6)) else (0, bothV a n s b m t)
theorem refCompare_f (k : Nat) (hk : 5000 ≤ k) (a n : Int) (s : ByteArray) (b m : Int) (t : ByteArray) : cabinetryref01_Compare.f k a n s b m t = some (cmpV a n s b m t) := by
  obtain ⟨k, rfl⟩ : ∃ k1, k = k1 + 1 := ⟨k - 1, by omega⟩
  unfold cabinetryref01_Compare.f cmpV
  rw [refBoth_f]
  simp only [Option.bind_some]
  split
  · rename_i hv
    have hva : validV a n s = 0 := by
      unfold bothV at hv
      by_cases h : validV a n s = 0
      · exact h
      · rw [if_neg h] at hv; exact hv
    have hsz := valid_size hva
    simp only [cabinetryref01_Compare.j0, compareInts_f, Option.bind_some]
    by_cases h : a = b
    · rw [if_pos h]
      by_cases h0 : a = 0
      · simp [h0]
      · have e0 : (a == 0) = false := beq_eq_false_iff_ne.mpr h0
        rw [e0, if_neg (show ¬ (false = true) by decide), if_pos (show a = b ∧ a ≠ 0 from ⟨h, h0⟩), compareTexts_f s t (by omega) k (by omega)]
        by_cases h4 : a = 4
        · rw [if_pos h4, if_pos h4]; rfl
        · rw [if_neg h4, if_neg h4]
    · rw [if_neg h, if_neg (fun x : a = b ∧ a ≠ 0 => h x.1)]
      simp only [if_true]
  · rfl
theorem cmpB_bound : ∀ a b : List UInt8, -1 ≤ Lib.compareBytes a b ∧ Lib.compareBytes a b ≤ 1
  | [], [] => by simp [Lib.compareBytes]
  | [], _ :: _ => by simp [Lib.compareBytes]
  | _ :: _, [] => by simp [Lib.compareBytes]
  | x :: a, y :: b => by
    have := cmpB_bound a b
    simp only [Lib.compareBytes]
    split
    · omega
    · split <;> omega
theorem bothV_zero (a n : Int) (s : ByteArray) (b m : Int) (t : ByteArray) : bothV a n s b m t = 0 ↔ validV a n s = 0 ∧ validV b m t = 0 := by
  unfold bothV
  constructor
  · intro h
    by_cases h1 : validV a n s = 0
    · rw [if_pos h1] at h; exact ⟨h1, h⟩
    · rw [if_neg h1] at h; exact absurd h h1
  · rintro ⟨h1, h2⟩
    rw [if_pos h1, h2]
theorem cmpV_ok (a n : Int) (s : ByteArray) (b m : Int) (t : ByteArray) : (cmpV a n s b m t).2 = 0 ↔ validV a n s = 0 ∧ validV b m t = 0 ∧ a = b ∧ a ≠ 0 := by
  have hb := bothV_zero a n s b m t
  unfold cmpV
  by_cases h : bothV a n s b m t = 0
  · rw [if_pos h]
    have := hb.1 h
    by_cases h2 : a = b ∧ a ≠ 0
    · rw [if_pos h2]
      have e : (if a = 4 then (Lib.compareBytes s.data.toList t.data.toList, (0 : Int)) else (cmpI n m, 0)).2 = 0 := by split <;> rfl
      rw [e]
      exact ⟨fun _ => ⟨this.1, this.2, h2.1, h2.2⟩, fun _ => rfl⟩
    · rw [if_neg h2]
      exact ⟨fun x => absurd x (by decide), fun x => absurd ⟨x.2.2.1, x.2.2.2⟩ h2⟩
  · rw [if_neg h]
    exact ⟨fun x => absurd x h, fun x => absurd (hb.2 ⟨x.1, x.2.1⟩) h⟩
theorem cmpV_val {a n : Int} {s : ByteArray} {b m : Int} {t : ByteArray} (h : (cmpV a n s b m t).2 = 0) : (cmpV a n s b m t).1 = if a = 4 then Lib.compareBytes s.data.toList t.data.toList else cmpI n m := by
  have h' := (cmpV_ok a n s b m t).1 h
  unfold cmpV
  rw [if_pos ((bothV_zero a n s b m t).2 ⟨h'.1, h'.2.1⟩), if_pos h'.2.2]
  split <;> rfl
end Go.Proofs.YtnkejhfbkgfedaaDoor.L1
namespace Go.Proofs.YtnkejhfbkgfedaaDoor.PA
open Go.RowKit Go.Proofs.YtnkejhfbkgfedaaDoorW.PrintWords Go.Proofs.YtnkejhfbkgfedaaDoorW.PrintLast Go.Proofs.YtnkejhfbkgfedaaDoorW.PrintMore
attribute [local go_sem] max2_int min2_int max_two min_two max_three min_three max_four min_four   -- for this text's walks alone
set_option linter.unusedVariables false
set_option linter.unusedSimpArgs false
def key_turner_1.f (a0 : ByteArray) : Option (ByteArray) := some a0
set_option maxHeartbeats 8000000 in
set_option maxRecDepth 100000 in
theorem key_turner_1.calls (a0 : ByteArray) (r : ByteArray) (w : World) (h : key_turner_1.f a0 = some r) :
  Calls Tryd.prog 74 #[.string a0] w fun e w' => e = .returned (.string r) ∧ Drawn0 w w' := by
 have H : (some a0) = some r := h
 clear h
 obtain rfl := Option.some.inj H
 simp only [Option.some.injEq, Prod.mk.injEq] at H
 obtain ⟨rfl⟩ := H
 go_enter Tryd.func74, Tryd.ntmps74
 go_wp2
 go_ret
 exact ⟨by first | rfl | (simp; done) | (simp [*]; done), by repeat (first | exact Drawn0.refl _ | apply Drawn0.step)⟩
def key_turner_2.l0 : Nat → List Int → Int → Int → Option (ByteArray)
 | 0, _, _, _ => none
 | k + 1, x3, x8, x9 => if x9 < x8 then (if 0 ≤ x9 then (if x9 < (x3.length : Int) then (key_turner_2.l0 k (x3.set (x9 : Int).toNat ((255 - (rd x3 x9)) % 256)) x8 (wrap64 (x9 + 1))) else (none)) else (none)) else (some (strOfNums x3))
def key_turner_2.f (k : Nat) (a0 : ByteArray) : Option (ByteArray) := if a0.size ≤ 140737488351232 then ((some (bytesOf a0 : List Int)).bind fun y521 => (key_turner_2.l0 k y521 (y521.length : Int) 0)) else (none)
theorem key_turner_2.mono_l : ∀ k, (∀ y0 y1 y2, LeO (key_turner_2.l0 k y0 y1 y2) (key_turner_2.l0 (k + 1) y0 y1 y2))
 | 0 => fun _ _ _ r h => by simp [key_turner_2.l0] at h
 | k + 1 => by
  have ih0 := key_turner_2.mono_l k
  ·intro y0 y1 y2
   unfold key_turner_2.l0
   repeat' first
   | (with_reducible exact ih0 _ _ _)
   | (with_reducible exact LeO.refl _)
   | (with_reducible exact LeO.none _)
   | (with_reducible refine LeO.ite ?_ ?_)
   | (with_reducible refine LeO.bind ?_ (fun _ => ?_))
   | exact ih0 _ _ _
   | exact LeO.none _
   | refine LeO.ite ?_ ?_
   | refine LeO.bind ?_ (fun _ => ?_)
theorem key_turner_2.mono : ∀ a0 k, LeO (key_turner_2.f k a0) (key_turner_2.f (k + 1) a0) := by
 intro a0 k
 have ih0 := key_turner_2.mono_l k
 unfold key_turner_2.f
 repeat' first
   | (with_reducible exact ih0 _ _ _)
   | (with_reducible exact LeO.refl _)
   | (with_reducible exact LeO.none _)
   | (with_reducible refine LeO.ite ?_ ?_)
   | (with_reducible refine LeO.bind ?_ (fun _ => ?_))
   | exact ih0 _ _ _
   | exact LeO.none _
   | refine LeO.ite ?_ ?_
   | refine LeO.bind ?_ (fun _ => ?_)
set_option maxHeartbeats 8000000 in
set_option maxRecDepth 100000 in
theorem key_turner_2.calls (k : Nat) (a0 : ByteArray) (r : ByteArray) (w : World) (h : key_turner_2.f k a0 = some r) :
  Calls Tryd.prog 75 #[.string a0] w fun e w' => e = .returned (.string r) ∧ Below w.heap.size w w' := by
 have HB := Aside0.mk (Below.refl w.heap.size w)
 have H : (if a0.size ≤ 140737488351232 then ((some (bytesOf a0 : List Int)).bind fun y521 => (key_turner_2.l0 k y521 (y521.length : Int) 0)) else (none)) = some r := h
 clear h
 by_cases c2 : a0.size ≤ 140737488351232
 ·rw [if_pos c2] at H
  have c2b0 := eq_true c2
  have c2b1 : decide (a0.size ≤ 140737488351232) = true := decide_eq_true c2
  clear c2
  obtain ⟨y521, hy521⟩ : ∃ y_ : List Int, y_ = (bytesOf a0) := ⟨_, rfl⟩
  replace H : (key_turner_2.l0 k y521 (y521.length : Int) 0) = some r := by first | (rw [hy521]; with_reducible exact H) | (have H2_ := (Option.bind_some _ _).symm.trans H; rw [hy521]; with_reducible exact H2_) | (have H2_ := (Option.bind_some _ _).symm.trans H; with_reducible exact H2_) | with_reducible exact H | (rw [hy521]; exact H) | exact H
  have Ny521 := Aside0.mk hy521
  clear hy521
  have H' := Aside0.mk H
  clear H
  go_enter Tryd.func75, Tryd.ntmps75
  go_wp2_with (first | ((with_reducible refine gate_dst (N := 6) rfl ?_); refine Kf.R_ofstr _ 5 rfl (N := 6) rfl 9 62 _ rfl a0 rfl Tryd.underlying9 Tryd.underlying62 Tryd.underlying5 (of_decide_eq_true (by first | (with_reducible assumption) | assumption)) (Below.refl _ _) (Nat.le_refl _) ?_; intro v522 w3 ho4 hb hg_ hnew_; clear hg_ hnew_; (first | rw [← Ny521.out] at ho4 | (simp only [Int.reduceToNat] at ho4; rw [← Ny521.out] at ho4)); have n0_ := Aside0.mk (Kf.R_lower ho4 (below_size (by repeat (first | (with_reducible first | exact HB.out | apply below_alloc | apply pw_below_drewN | apply below_drew1) | exact HB.out)))); have n1_ := Aside0.mk (below_step (by repeat (first | (with_reducible first | exact HB.out | apply below_alloc | apply pw_below_drewN | apply below_drew1) | exact HB.out)) hb); clear HB; have HO523 := n0_; have HB := n1_; clear n0_ n1_; clear hb ho4; obtain ⟨Ao5, co5, eo5⟩ := Kf.R_slice HO523.out; subst eo5))
  go_loopg [9] k (fun kq v9 w' => ∃ (x3_1 : List Int) (x9_1 : Int), v9 = .int .i64 x9_1 ∧ Aside0 (key_turner_2.l0 kq x3_1 (y521.length : Int) x9_1 = some r) ∧ Aside0 (kq ≤ k) ∧ Aside0 (Kf.R (Kd.int .u8) 5 w' w.heap.size (fun _ => True) (.slice Ao5 y521.length co5) x3_1) ∧ Aside0 (Below w.heap.size w w'))
  case atStart => exact ⟨(y521), (0), (by first | rfl | (simp; done) | (simp [*]; done)), H', ⟨Nat.le_refl _⟩, ⟨by (with_reducible repeat (first | apply Kf.R_alloc | apply Kf.R_drewN | apply Kf.R_drew | apply Kd.R_alloc | apply Kd.R_drewN | apply Kd.R_drew)); exact HO523.out⟩, ⟨by repeat (first | (with_reducible first | exact HB.out | apply below_alloc | apply pw_below_drewN | apply below_drew1) | exact HB.out)⟩⟩
  case round =>
   clear H'
   try clear c2; try clear c2b0; try clear c2b1; try clear p2
   obtain ⟨x3_1, x9_1, rfl, HA, HK1, HO_3, HB⟩ := hrel
   have hl3_1 := (Kf.R_reads' HO_3.out).1
   rw [hl3_1] at HO_3
   (try simp only [hl3_1])
   cases gk with
   | zero => exact absurd HA.out (by simp [key_turner_2.l0])
   | succ k1 =>
    have H := HA.out
    clear HA
    simp only [key_turner_2.l0] at H
    by_cases c6 : x9_1 < (y521.length : Int)
    ·rw [if_pos c6] at H
     have c6b0 : decide (x9_1 < (y521.length : Int)) = true := decide_eq_true c6
     clear c6
     by_cases c7 : 0 ≤ x9_1
     ·rw [if_pos c7] at H
      have c7b0 : decide (0 ≤ x9_1) = true := decide_eq_true c7
      clear c7
      by_cases c8 : x9_1 < (x3_1.length : Int)
      ·rw [if_pos c8] at H
       have c8b0 : decide (x9_1 < (x3_1.length : Int)) = true := decide_eq_true c8
       clear c8
       obtain ⟨y525, hy525⟩ : ∃ y_ : List Int, y_ = (x3_1.set (x9_1 : Int).toNat ((255 - (rd x3_1 x9_1)) % 256)) := ⟨_, rfl⟩
       replace H : (key_turner_2.l0 k1 y525 (y521.length : Int) (wrap64 (x9_1 + 1))) = some r := by first | (rw [hy525]; with_reducible exact H) | (have H2_ := (Option.bind_some _ _).symm.trans H; rw [hy525]; with_reducible exact H2_) | (have H2_ := (Option.bind_some _ _).symm.trans H; with_reducible exact H2_) | with_reducible exact H | (rw [hy525]; exact H) | exact H
       have Ny525 := Aside0.mk hy525
       clear hy525
       have H' := Aside0.mk H
       clear H
       have p524 : 0 ≤ (x9_1 : Int) := of_decide_eq_true (by first | (with_reducible assumption) | assumption)
       have q524 : x9_1 < (x3_1.length : Int) := of_decide_eq_true (by first | (with_reducible assumption) | assumption)
       obtain ⟨ad524, e524, hx524_0⟩ := Kd.at_int (Kf.R_reads' HO_3.out).2.2 x9_1 p524 q524
       cases e524
       replace p524 := eq_true p524
       replace q524 := eq_true q524
       have p9 : 0 ≤ (x9_1 : Int) := of_decide_eq_true (by first | (with_reducible assumption) | assumption)
       have q9 : (x9_1 : Int) < ((x3_1.length : Int) : Int) := of_decide_eq_true (by first | (with_reducible assumption) | assumption)
       obtain ⟨go9, co9, eo9, gb9, gl9, cl9, HG9⟩ := Kf.R_form HO_3.out (by omega)
       (first | cases eo9 | (injection eo9 with ea_ en_ ec_; (first | subst ea_ | (injection ea_ with ea_; subst ea_)); subst ec_; clear en_))
       have GB9 := Aside0.mk gb9
       have GG9 := Aside0.mk HG9
       clear gb9 gl9 HG9
       (first | simp only [add_plain] at hx524_0 | skip)
       obtain ⟨hx9_0, hf9_0⟩ := Kf.R_celln 0 HO_3.out (x9_1 : Int) p9 q9
       replace p9 := eq_true p9
       replace q9 := eq_true q9
       have HP10 := Kf.R_putg HO_3.out (x9_1 : Int) ((255 - (rd x3_1 x9_1)) % 256)
       go_wp2_with (first | ((with_reducible refine gate_store (t := 5) (p := 19) rfl ?_); refine store_event (t := 5) (p := 19) (v := ?vo_w11) (w1 := (wr.setCell ⟨go9, (x9_1 : Int).toNat, none⟩ (.int .u8 ((255 - (rd x3_1 x9_1)) % 256)))) ?hg ?ho ?hn ?hr ?_; (case ho => rfl); (case hg => rfl); (case hn => rfl); (case hr => first | (go_simp; done) | (go_simp; rfl)); intro w11 hw; have hg : wr.grownBy w11 (some go9) := (by rw [hw]; exact HP10.2); have hp_ : Kf.R (Kd.int .u8) 5 w11 w.heap.size (fun _ => True) (.slice (some ⟨go9, 0, none⟩) x3_1.length co5) y525 := (by rw [hw, Ny525.out]; exact HP10.1); clear HP10; have n0_ := Aside0.mk (hp_); have n1_ := Aside0.mk ((by rw [hw]; exact below_set (HB.out) GB9.out : Below w.heap.size w w11)); clear HO_3; clear HB; have HO_3 := n0_; have HB := n1_; clear n0_ n1_; clear hg hw hp_))
       (try simp only [← hl3_1])
       go_roundg k1
       case measure => have := HK1.out; omega
       case rel => exact ⟨(y525), (wrap64 (x9_1 + 1)), (by first | rfl | (simp; done) | (simp [*]; done)), H', ⟨by have := HK1.out; omega⟩, ⟨by (try simp only [hl3_1]); (with_reducible repeat (first | apply Kf.R_alloc | apply Kf.R_drewN | apply Kf.R_drew | apply Kd.R_alloc | apply Kd.R_drewN | apply Kd.R_drew)); exact HO_3.out⟩, ⟨by repeat (first | (with_reducible first | exact HB.out | apply below_alloc | apply pw_below_drewN | apply below_drew1) | exact HB.out)⟩⟩
      ·rw [if_neg c8] at H
       exact absurd H (by simp)
     ·rw [if_neg c7] at H
      exact absurd H (by simp)
    ·rw [if_neg c6] at H
     have c6b0 : decide (x9_1 < (y521.length : Int)) = false := decide_eq_false c6
     (try rw [hl3_1] at c6b0)
     clear c6
     obtain rfl := Option.some.inj H
     simp only [Option.some.injEq, Prod.mk.injEq] at H
     obtain ⟨rfl⟩ := H
     have hcv12 := Kf.own_string (P := Tryd.prog) Tryd.underlying62 Tryd.underlying5 Tryd.underlying9 (Kf.own_of_R HO_3.out)
     go_wp2
     go_ret
     exact ⟨by first | rfl | (simp [errW_none, errW_some] <;> rfl) | (simp [*, errW_none, errW_some] <;> rfl), by repeat (first | (with_reducible first | exact HB.out | apply below_alloc | apply pw_below_drewN | apply below_drew1) | exact HB.out)⟩
 ·rw [if_neg c2] at H
  exact absurd H (by simp)
end Go.Proofs.YtnkejhfbkgfedaaDoor.PA
namespace Go.Proofs.YtnkejhfbkgfedaaDoor.H1
open Go.RowKit Go.Proofs.YtnkejhfbkgfedaaDoorW.PrintWords Go.Proofs.YtnkejhfbkgfedaaDoorW.PrintLast Go.Proofs.YtnkejhfbkgfedaaDoorW.PrintMore Go.Proofs.YtnkejhfbkgfedaaDoor.PA
set_option linter.unusedVariables false
set_option linter.unusedSimpArgs false
def turnF (d : Bool) : FuncId := match d with | true => 75 | false => 74
def turnV (d : Bool) : Value := .func (.func (turnF d)) #[] #[]
def key_turner.f (a0 : Bool) : Option Bool := some a0
set_option maxHeartbeats 4000000 in
set_option maxRecDepth 100000 in
theorem key_turner.calls (a0 : Bool) (r : Bool) (w : World) (h : key_turner.f a0 = some r) :
    Calls Tryd.prog 53 #[.bool a0] w fun e w' => e = .returned (turnV r) ∧ Drawn0 w w' := by
  obtain rfl := Option.some.inj h
  clear h
  cases a0
  all_goals
    go_enter Tryd.func53, Tryd.ntmps53
    go_wp2
    go_ret
    exact ⟨rfl, by repeat (first | exact Drawn0.refl _ | apply Drawn0.step)⟩
def key_turn.f (k : Nat) (d : Bool) (s : ByteArray) : Option ByteArray := match d with | true => key_turner_2.f k s | false => key_turner_1.f s
theorem key_turn.calls (k : Nat) (d : Bool) (s r : ByteArray) (w : World) (h : key_turn.f k d s = some r) :
    Calls Tryd.prog (turnF d) #[.string s] w fun e w' => e = .returned (.string r) ∧ Below w.heap.size w w' := by
  cases d
  · exact (key_turner_1.calls s r w h).mono fun e w' ⟨he, hd⟩ => ⟨he, by obtain ⟨n, rfl⟩ := hd; exact pw_below_drewN (Below.refl _ _) _⟩
  · exact key_turner_2.calls k s r w h
theorem key_turn.mono : ∀ d s k, LeO (key_turn.f k d s) (key_turn.f (k + 1) d s) := by
  intro d s k
  cases d
  · exact LeO.refl _
  · exact key_turner_2.mono _ _
section
variable {ops : Array Oper} {rest : List Oper} {o : Oper} {a : Act} {W : World} {Q : Exit → Act → World → Prop} {P : Program}
end
section
variable {ops : Array Oper} {Q : Exit → Act → World → Prop}
theorem goesR_ {oi : Oper} {N : Option Tmp} {a : Act} {w : World} {K : Act → World → Prop} (d : Bool) {c : Tmp} {as_ : Array Operand} {ts : Array TypeId} (args : Array Value)
    (hw : Region.wanted oi (yielded ops a.tmps) = true) (hN : oi.dst = N) (hop : oi.op = .call { callee := .value (.tmp c), args := as_, argTypes := ts }) (hc : a.eval (.tmp c) = turnV d) (hargs : as_.map a.eval = args)
    (h : Calls Tryd.prog (turnF d) args w fun e w' => ∃ v, e = .returned v ∧ K (a.put N v) w') : if Region.wanted oi (yielded ops a.tmps) = true then Oper.wp Tryd.prog oi a w K Q else K (a.put N undef) w := by
  refine call_ (turnF d) args hw hN ?_ h
  have he : (callFunc (turnF d) args).run Tryd.prog w = .ok (.enter (turnF d) args) w := by
    cases d
    · exact enters_ Tryd.func74 (by kernel_rfl) rfl args w
    · exact enters_ Tryd.func75 (by kernel_rfl) rfl args w
  unfold execOp
  simp [hop, resolve, Deferred.ofValue, invoke, hc, turnV, hargs, he]
end
end Go.Proofs.YtnkejhfbkgfedaaDoor.H1
