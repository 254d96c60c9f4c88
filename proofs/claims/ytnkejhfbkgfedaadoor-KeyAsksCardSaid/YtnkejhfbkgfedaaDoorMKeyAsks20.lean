-- Written by a program of this session (wip/merge.py): the texts of this claim, joined.
import Derived.Test.YtnkejhfbkgfedaaDoorMKeyAsks1
import Derived.Test.YtnkejhfbkgfedaaDoorMKeyAsks2
import Derived.Test.YtnkejhfbkgfedaaDoorMKeyAsks3
import Derived.Test.YtnkejhfbkgfedaaDoorMKeyAsks4
import Derived.Test.YtnkejhfbkgfedaaDoorMKeyAsks5
import Derived.Test.YtnkejhfbkgfedaaDoorMKeyAsks6
import Derived.Test.YtnkejhfbkgfedaaDoorMKeyAsks7
import Derived.Test.YtnkejhfbkgfedaaDoorMKeyAsks8
import Derived.Test.YtnkejhfbkgfedaaDoorMKeyAsks9
import Derived.Test.YtnkejhfbkgfedaaDoorMKeyAsks10
import Derived.Test.YtnkejhfbkgfedaaDoorMKeyAsks11
import Derived.Test.YtnkejhfbkgfedaaDoorMKeyAsks12
import Derived.Test.YtnkejhfbkgfedaaDoorMKeyAsks13
import Derived.Test.YtnkejhfbkgfedaaDoorMKeyAsks14
import Derived.Test.YtnkejhfbkgfedaaDoorMKeyAsks15
import Derived.Test.YtnkejhfbkgfedaaDoorMKeyAsks16
import Derived.Test.YtnkejhfbkgfedaaDoorMKeyAsks17
import Derived.Test.YtnkejhfbkgfedaaDoorMKeyAsks18
import Derived.Test.YtnkejhfbkgfedaaDoorMKeyAsks19
namespace Go.Proofs.YtnkejhfbkgfedaaDoor.PA
end Go.Proofs.YtnkejhfbkgfedaaDoor.PA
namespace Go.Proofs.YtnkejhfbkgfedaaDoor.PB
end Go.Proofs.YtnkejhfbkgfedaaDoor.PB
namespace Go.Proofs.YtnkejhfbkgfedaaDoor.PC
end Go.Proofs.YtnkejhfbkgfedaaDoor.PC
namespace Go.Proofs.YtnkejhfbkgfedaaDoor.H1
end Go.Proofs.YtnkejhfbkgfedaaDoor.H1
namespace Go.Proofs.YtnkejhfbkgfedaaDoor.L1
end Go.Proofs.YtnkejhfbkgfedaaDoor.L1
namespace Go.Proofs.YtnkejhfbkgfedaaDoor.PB
open Go.RowKit Go.Proofs.YtnkejhfbkgfedaaDoorW.PrintWords Go.Proofs.YtnkejhfbkgfedaaDoorW.PrintLast Go.Proofs.YtnkejhfbkgfedaaDoorW.PrintMore Go.Proofs.YtnkejhfbkgfedaaDoor.PA Go.Proofs.YtnkejhfbkgfedaaDoor.H1
attribute [local go_sem] max2_int min2_int max_two min_two max_three min_three max_four min_four   -- for this text's walks alone
set_option linter.unusedVariables false
set_option linter.unusedSimpArgs false
mutual
def cabinetrylaw09_KeyAsks.j0 : Nat → ByteArray → Bool → Int → Int → ByteArray → Int → Int → Option (Bool)
 | 0, _, _, _, _, _, _, _ => none
 | k + 1, x0, x19, x233000, x233001, x233002, x234000, x234001 => if x19 = true then ((cabinetrylaw09_known.f k).bind fun t238 => (some t238)) else ((key_Range.f k x0 x233000 x233001 x233002 true x234000 x234001 false).bind fun bt239 => ((cabinetryref01_Validate.f x233000 x233001 x233002).bind fun t243 => (if t243 = 0 then ((cabinetryref09_Asked.f x234000 x234001).bind fun t244 => (if t244 = 0 then ((cabinetrylaw09_operators.f).bind fun t245 => ((cabinetryref01_In.f k t245 x0).bind fun t248 => (cabinetrylaw09_KeyAsks.j1 k bt239.1 bt239.2.1 bt239.2.2.1 bt239.2.2.2 t243 (!t248) x233000 x233001 x233002))) else (cabinetrylaw09_KeyAsks.j1 k bt239.1 bt239.2.1 bt239.2.2.1 bt239.2.2.2 t243 true x233000 x233001 x233002))) else (if bt239.2.2.2 = t243 then (if bt239.2.2.2 = 0 then ((cabinetrylaw09_known.f k).bind fun t255 => (some t255)) else (if bt239.1.toList = ([] : List UInt8) then (if bt239.2.1.toList = ([] : List UInt8) then (if bt239.2.2.1 = true then (some false) else ((cabinetrylaw09_known.f k).bind fun t256 => (some t256))) else (some false)) else (some false))) else (some false)))))
def cabinetrylaw09_KeyAsks.j1 : Nat → ByteArray → ByteArray → Bool → Int → Int → Bool → Int → Int → ByteArray → Option (Bool)
 | 0, _, _, _, _, _, _, _, _, _ => none
 | k + 1, x7, x8, x9, x10, x11, x38, x233000, x233001, x233002 => if x38 = true then (if x10 = 1 then (if x10 = 0 then ((cabinetrylaw09_known.f k).bind fun t249 => (some t249)) else (if x7.toList = ([] : List UInt8) then (if x8.toList = ([] : List UInt8) then (if x9 = true then (some false) else ((cabinetrylaw09_known.f k).bind fun t250 => (some t250))) else (some false)) else (some false))) else (some false)) else (if x233000 = 0 then (if x10 = 6 then (if x10 = 0 then ((cabinetrylaw09_known.f k).bind fun t251 => (some t251)) else (if x7.toList = ([] : List UInt8) then (if x8.toList = ([] : List UInt8) then (if x9 = true then (some false) else ((cabinetrylaw09_known.f k).bind fun t252 => (some t252))) else (some false)) else (some false))) else (some false)) else (if x10 = x11 then (if x10 = 0 then ((cabinetrylaw09_known.f k).bind fun t253 => (some t253)) else (if x7.toList = ([] : List UInt8) then (if x8.toList = ([] : List UInt8) then (if x9 = true then (some false) else ((cabinetrylaw09_known.f k).bind fun t254 => (some t254))) else (some false)) else (some false))) else (some false)))
end
def cabinetrylaw09_KeyAsks.f (k : Nat) (a0 : ByteArray) (a1_0 : Int) (a1_1 : Int) (a1_2 : ByteArray) (a2_0 : Int) (a2_1 : Int) : Option (Bool) := if (a0.size : Int) > 40000 then (cabinetrylaw09_KeyAsks.j0 k a0 true a1_0 a1_1 a1_2 a2_0 a2_1) else ((cabinetrylaw09_over.f k (([(⟨a1_0, a1_1, a1_2⟩ : S23)] : List (S23)))).bind fun t237 => (cabinetrylaw09_KeyAsks.j0 k a0 t237 a1_0 a1_1 a1_2 a2_0 a2_1))
set_option maxHeartbeats 8000000 in
set_option maxRecDepth 100000 in
theorem cabinetrylaw09_KeyAsks.calls (k : Nat) (a0 : ByteArray) (a1_0 : Int) (a1_1 : Int) (a1_2 : ByteArray) (a2_0 : Int) (a2_1 : Int) (r : Bool) (w : World) (h : cabinetrylaw09_KeyAsks.f k a0 a1_0 a1_1 a1_2 a2_0 a2_1 = some r) (hr_ : Aside0 (r = true)) (hm_ : Aside0 (Hm.HM w)) :
  Calls Tryd.prog 8 #[.string a0, .agg #[.int .i64 a1_0, .int .i64 a1_1, .string a1_2], .agg #[.int .i64 a2_0, .int .i64 a2_1]] w fun e w' => e = .returned (.bool r) ∧ Below w.heap.size w w' := by
 have hu23 := Tryd.underlying23
 have hu56 := Tryd.underlying56
 have HB := Aside0.mk (Below.refl w.heap.size w)
 have H : (if (a0.size : Int) > 40000 then (cabinetrylaw09_KeyAsks.j0 k a0 true a1_0 a1_1 a1_2 a2_0 a2_1) else ((cabinetrylaw09_over.f k (([(⟨a1_0, a1_1, a1_2⟩ : S23)] : List (S23)))).bind fun t237 => (cabinetrylaw09_KeyAsks.j0 k a0 t237 a1_0 a1_1 a1_2 a2_0 a2_1))) = some r := h
 clear h
 have HC4 := Aside0.mk H
 clear H
 go_enter Tryd.func8, Tryd.ntmps8
 go_upto_region 1 with (first | ((with_reducible refine gate_dst (N := 4) rfl ?_); (try (refine gate_guard (by rfl) ?_; dsimp only)); refine box_event ?hg (N := 4) ?hd (cs := #[.int .i64 a1_0, .int .i64 a1_1, .string a1_2]) (t := 23) ?hr ?_; (case hd => rfl); (case hg => rfl); (case hr => first | (go_simp; done) | (go_simp; rfl)); intro gb232 hg w5 hbox hb; have n0_ := Aside0.mk (below_step (by repeat (first | (with_reducible first | exact HB.out | apply below_alloc | apply pw_below_drewN | apply below_drew1) | exact HB.out)) hb); have n1_ := Aside0.mk (hbox); have n2_ := Aside0.mk ((by rw [hg]; exact (below_size (by repeat (first | (with_reducible first | exact HB.out | apply below_alloc | apply pw_below_drewN | apply below_drew1) | exact HB.out))) : w.heap.size ≤ gb232)); have n3_ := Aside0.mk ((by rw [hg]; exact (below_size (by repeat (first | (with_reducible first | exact HB.out | apply below_alloc | apply pw_below_drewN | apply below_drew1) | exact HB.out))) : w.heap.size ≤ gb232)); clear HB; have HB := n0_; have BK232 := n1_; have GW232 := n2_; have GE232 := n3_; clear n0_ n1_ n2_ n3_; clear hb hbox hg) | ((with_reducible refine gate_dst (N := 5) rfl ?_); (try (refine gate_guard (by rfl) ?_; dsimp only)); refine box_event ?hg (N := 5) ?hd (cs := #[.int .i64 a2_0, .int .i64 a2_1]) (t := 56) ?hr ?_; (case hd => rfl); (case hg => rfl); (case hr => first | (go_simp; done) | (go_simp; rfl)); intro gb233 hg w6 hbox hb; have n0_ := Aside0.mk (blk_below (g := gb232) (o := .cells #[.int .i64 a1_0, .int .i64 a1_1, .string a1_2] 23 (0, 0)) (by (with_reducible repeat (first | refine blk_drewN ?_ _ | refine blk_drew ?_ | refine blk_alloc ?_ _)); exact BK232.out) hb); have n1_ := Aside0.mk (below_step (by repeat (first | (with_reducible first | exact HB.out | apply below_alloc | apply pw_below_drewN | apply below_drew1 | refine below_set ?_ GE232.out) | exact HB.out)) hb); have n2_ := Aside0.mk (hbox); have n3_ := Aside0.mk ((by rw [hg]; exact (below_size (by repeat (first | (with_reducible first | exact HB.out | apply below_alloc | apply pw_below_drewN | apply below_drew1 | refine below_set ?_ GE232.out) | exact HB.out))) : w.heap.size ≤ gb233)); have n4_ := Aside0.mk ((by rw [hg]; exact (below_size (by repeat (first | (with_reducible first | exact HB.out | apply below_alloc | apply pw_below_drewN | apply below_drew1 | refine below_set ?_ GE232.out) | exact HB.out))) : w.heap.size ≤ gb233)); have n5_ := Aside0.mk ((by rw [hg]; exact Nat.ne_of_lt (blk_lt (g := gb232) (o := .cells #[.int .i64 a1_0, .int .i64 a1_1, .string a1_2] 23 (0, 0)) (by (with_reducible repeat (first | refine blk_drewN ?_ _ | refine blk_drew ?_ | refine blk_alloc ?_ _)); exact BK232.out)) : gb232 ≠ gb233)); have n6_ := Aside0.mk ((by rw [hg]; exact Nat.ne_of_gt (blk_lt (g := gb232) (o := .cells #[.int .i64 a1_0, .int .i64 a1_1, .string a1_2] 23 (0, 0)) (by (with_reducible repeat (first | refine blk_drewN ?_ _ | refine blk_drew ?_ | refine blk_alloc ?_ _)); exact BK232.out)) : gb233 ≠ gb232)); clear BK232; clear HB; have BK232 := n0_; have HB := n1_; have BK233 := n2_; have GW233 := n3_; have GE233 := n4_; have NB232_233 := n5_; have NB233_232 := n6_; clear n0_ n1_ n2_ n3_ n4_ n5_ n6_; clear hb hbox hg))
 (try simp only [Act.put, List.setIfInBounds_toArray, List.set_cons_zero, List.set_cons_succ])
 go_cut [19] (fun v19 wc => ∃ (kq : Nat) (x19_3 : Bool), v19 = .bool x19_3 ∧ Aside0 (cabinetrylaw09_KeyAsks.j0 kq a0 x19_3 a1_0 a1_1 a1_2 a2_0 a2_1 = some r) ∧ Aside0 (kq ≤ k) ∧ Aside0 (wc.heap[gb232]? = some (.cells #[.int .i64 a1_0, .int .i64 a1_1, .string a1_2] 23 (0, 0))) ∧ Aside0 (wc.heap[gb233]? = some (.cells #[.int .i64 a2_0, .int .i64 a2_1] 56 (0, 0))) ∧ Aside0 (Below w.heap.size w wc))
 case first =>
  have H := HC4.out
  clear HC4
  by_cases c7 : (a0.size : Int) > 40000
  ·rw [if_pos c7] at H
   have c7b0 : decide (40000 < (a0.size : Int)) = true := decide_eq_true c7
   have c7b1 : decide (40000 < a0.size) = true := decide_eq_true (by omega)
   clear c7
   (first | rw [c7b0] | (simp only [i64_w, i32_w]; rw [c7b0]) | skip)
   have H' := Aside0.mk H
   clear H
   go_wp2
   go_meet
   case rel => exact ⟨_, (true), (by first | rfl | (simp; done) | (simp [*]; done)), H', ⟨by first | omega | exact Nat.le_refl _⟩, ⟨by (with_reducible repeat (first | refine blk_drewN ?_ _ | refine blk_drew ?_ | refine blk_alloc ?_ _)); exact BK232.out⟩, ⟨by (with_reducible repeat (first | refine blk_drewN ?_ _ | refine blk_drew ?_ | refine blk_alloc ?_ _)); exact BK233.out⟩, ⟨by repeat (first | (with_reducible first | exact HB.out | apply below_alloc | apply pw_below_drewN | apply below_drew1 | refine below_set ?_ GE232.out | refine below_set ?_ GE233.out) | exact HB.out)⟩⟩
  ·rw [if_neg c7] at H
   have c7b0 : decide (40000 < (a0.size : Int)) = false := decide_eq_false c7
   have c7b1 : decide (40000 < a0.size) = false := decide_eq_false (by omega)
   clear c7
   (first | rw [c7b0] | (simp only [i64_w, i32_w]; rw [c7b0]) | skip)
   obtain ⟨y234, hy234⟩ : ∃ y_ : List (S23), y_ = (([(⟨a1_0, a1_1, a1_2⟩ : S23)] : List (S23))) := ⟨_, rfl⟩
   replace H : ((cabinetrylaw09_over.f k y234).bind fun t237 => (cabinetrylaw09_KeyAsks.j0 k a0 t237 a1_0 a1_1 a1_2 a2_0 a2_1)) = some r := by first | (rw [hy234]; with_reducible exact H) | (have H2_ := (Option.bind_some _ _).symm.trans H; rw [hy234]; with_reducible exact H2_) | (have H2_ := (Option.bind_some _ _).symm.trans H; with_reducible exact H2_) | with_reducible exact H | (rw [hy234]; exact H) | exact H
   have Ny234 := Aside0.mk hy234
   clear hy234
   replace H := Option.bind_eq_some_iff.mp H
   obtain ⟨t237, A80, H⟩ := H
   replace H : (cabinetrylaw09_KeyAsks.j0 k a0 t237 a1_0 a1_1 a1_2 a2_0 a2_1) = some r := H
   have A8 := Aside0.mk A80
   clear A80
   have H' := Aside0.mk H
   clear H
   have hnb9 := NB232_233.out
   have hnc9 := NB233_232.out
   have hcz10_0 : w6.cell? ⟨gb232, 0, none⟩ = some (.int .i64 a1_0) := (blk_cell BK232.out 0).trans rfl
   have hcz10_1 : w6.cell? ⟨gb232, 1, none⟩ = some (.int .i64 a1_1) := (blk_cell BK232.out 1).trans rfl
   have hcz10_2 : w6.cell? ⟨gb232, 2, none⟩ = some (.string a1_2) := (blk_cell BK232.out 2).trans rfl
   have hfz10_0 := blk_frozen BK232.out 0
   have hfz10_1 := blk_frozen BK232.out 1
   have hfz10_2 := blk_frozen BK232.out 2
   go_wp2_with (first | ((with_reducible refine gate_dst (N := 17) rfl ?_); (try (refine gate_guard (by rfl) ?_; dsimp only)); refine Kd.R_lit k23 _ 23 ?hg (N := 17) ?hd (xs := ([(⟨a1_0, a1_1, a1_2⟩ : S23)] : List (S23))) (inner := [.int .i64 a1_0, .int .i64 a1_1, .string a1_2]) (ok := fun _ => True) (okp := fun _ => True) ?hr ?hp (fun _ hk => hk) trivial (Below.refl _ _) (Nat.le_refl _) (by simp) ?_; (case hd => rfl); (case hg => rfl); (case hr => first | (go_simp; done) | (go_simp; rfl)); (case hp => exact (Reps.c3 (show Kd.M k23 _ _ _ (⟨a1_0, a1_1, a1_2⟩ : S23) [.int .i64 a1_0, .int .i64 a1_1, .string a1_2] from (k23_mkM _ _ _ (⟨a1_0, a1_1, a1_2⟩ : S23) )) (Reps.none _ _))); intro v235 w11 ho12 hb hg_ hnew_; clear hg_ hnew_; (first | rw [← Ny234.out] at ho12 | (simp only [Int.reduceToNat] at ho12; rw [← Ny234.out] at ho12)); have n0_ := Aside0.mk (Kd.R_lower (Kd.R_newB ho12 (g := gb232) (o := .cells #[.int .i64 a1_0, .int .i64 a1_1, .string a1_2] 23 (0, 0)) (by (with_reducible repeat (first | refine blk_drewN ?_ _ | refine blk_drew ?_ | refine blk_alloc ?_ _)); exact BK232.out)) (below_size (by repeat (first | (with_reducible first | exact HB.out | apply below_alloc | apply pw_below_drewN | apply below_drew1 | refine below_set ?_ GE232.out | refine below_set ?_ GE233.out) | exact HB.out)))); have n1_ := Aside0.mk (blk_below (g := gb232) (o := .cells #[.int .i64 a1_0, .int .i64 a1_1, .string a1_2] 23 (0, 0)) (by (with_reducible repeat (first | refine blk_drewN ?_ _ | refine blk_drew ?_ | refine blk_alloc ?_ _)); exact BK232.out) hb); have n2_ := Aside0.mk (blk_below (g := gb233) (o := .cells #[.int .i64 a2_0, .int .i64 a2_1] 56 (0, 0)) (by (with_reducible repeat (first | refine blk_drewN ?_ _ | refine blk_drew ?_ | refine blk_alloc ?_ _)); exact BK233.out) hb); have n3_ := Aside0.mk (below_step (by repeat (first | (with_reducible first | exact HB.out | apply below_alloc | apply pw_below_drewN | apply below_drew1 | refine below_set ?_ GE232.out | refine below_set ?_ GE233.out) | exact HB.out)) hb); clear BK232; clear BK233; clear HB; have HO236 := n0_; have BK232 := n1_; have BK233 := n2_; have HB := n3_; clear n0_ n1_ n2_ n3_; clear hb ho12; obtain ⟨Ao13, co13, eo13⟩ := Kd.R_slice HO236.out; subst eo13) | (go_at_call 14; (with_reducible refine (cabinetrylaw09_over.calls k _ _ y234 t237 _ ?side1 ?side2 A8.out).mono ?_); (case side1 => repeat (first | exact (Kd.R_reads' HO236.out).2.2 | (with_reducible refine Kd.C_alloc ?_ _) | (with_reducible refine Kd.C_drewN ?_ _) | (with_reducible refine Kd.C_drew ?_))); (case side2 => exact (Kd.R_reads' HO236.out).2.1); rintro e w' ⟨rfl, ⟨nd, rfl⟩⟩))
   go_meet
   case rel => exact ⟨_, (t237), (by first | rfl | (simp; done) | (simp [*]; done)), H', ⟨by first | omega | exact Nat.le_refl _⟩, ⟨by (with_reducible repeat (first | refine blk_drewN ?_ _ | refine blk_drew ?_ | refine blk_alloc ?_ _)); exact BK232.out⟩, ⟨by (with_reducible repeat (first | refine blk_drewN ?_ _ | refine blk_drew ?_ | refine blk_alloc ?_ _)); exact BK233.out⟩, ⟨by repeat (first | (with_reducible first | exact HB.out | apply below_alloc | apply pw_below_drewN | apply below_drew1 | refine below_set ?_ GE232.out | refine below_set ?_ GE233.out) | exact HB.out)⟩⟩
 case rest =>
  clear HC4
  try clear p2; try clear c3; try clear c7; try clear c7b0; try clear c7b1; try clear c8; try clear c9; try clear hcz10_0; try clear hcz10_1; try clear hcz10_2; try clear hfz10_0; try clear hfz10_1; try clear hfz10_2
  obtain ⟨kq, x19_3, rfl, HA, HJ3, BK232, BK233, HB⟩ := hcut
  cases kq with
  | zero => exact absurd HA.out (by simp [cabinetrylaw09_KeyAsks.j0])
  | succ kj3 =>
   have H := HA.out
   clear HA
   simp only [cabinetrylaw09_KeyAsks.j0] at H
   by_cases c14 : x19_3 = true
   ·subst c14
    have H1 : ((cabinetrylaw09_known.f kj3).bind fun t238 => (some t238)) = some r := by rw [if_pos rfl] at H; exact H
    clear H
    have H := H1
    clear H1
    replace H := Option.bind_eq_some_iff.mp H
    obtain ⟨t238, A150, H⟩ := H
    replace H : (some t238) = some r := H
    have A15 := Aside0.mk A150
    clear A150
    obtain rfl := Option.some.inj H
    simp only [Option.some.injEq, Prod.mk.injEq] at H
    obtain ⟨rfl⟩ := H
    go_wp2_with (first | ((with_reducible refine gate_callee (f := 15) rfl ?_); refine goesL_ (some 20) rfl rfl Tryd.func15 (by kernel_rfl) rfl #[] rfl (by (try simp only [List.map_toArray, List.map_cons, List.map_nil]); first | done | rfl | (simp only [List.length_drop, List.length_take]; rfl)) ?_; (with_reducible refine (cabinetrylaw09_known.calls kj3  t238 _ A15.out hr_ (Hm.keep hm_ (by repeat (first | (with_reducible first | exact HB.out | apply below_alloc | apply pw_below_drewN | apply below_drew1 | refine below_set ?_ GE232.out | refine below_set ?_ GE233.out) | exact HB.out)))).mono ?_); rintro e w16 ⟨rfl, hb⟩; refine ⟨_, rfl, ?_⟩; have n0_ := Aside0.mk (blk_below (g := gb232) (o := .cells #[.int .i64 a1_0, .int .i64 a1_1, .string a1_2] 23 (0, 0)) (by (with_reducible repeat (first | refine blk_drewN ?_ _ | refine blk_drew ?_ | refine blk_alloc ?_ _)); exact BK232.out) hb); have n1_ := Aside0.mk (blk_below (g := gb233) (o := .cells #[.int .i64 a2_0, .int .i64 a2_1] 56 (0, 0)) (by (with_reducible repeat (first | refine blk_drewN ?_ _ | refine blk_drew ?_ | refine blk_alloc ?_ _)); exact BK233.out) hb); have n2_ := Aside0.mk (below_step (by repeat (first | (with_reducible first | exact HB.out | apply below_alloc | apply pw_below_drewN | apply below_drew1 | refine below_set ?_ GE232.out | refine below_set ?_ GE233.out) | exact HB.out)) hb); clear BK232; clear BK233; clear HB; have BK232 := n0_; have BK233 := n1_; have HB := n2_; clear n0_ n1_ n2_; (try clear hb); (try clear hb2); (try clear hk); (try clear hi)))
    go_ret
    exact ⟨by first | rfl | (simp [errW_none, errW_some] <;> rfl) | (simp [*, errW_none, errW_some] <;> rfl), by repeat (first | (with_reducible first | exact HB.out | apply below_alloc | apply pw_below_drewN | apply below_drew1 | refine below_set ?_ GE232.out | refine below_set ?_ GE233.out) | exact HB.out)⟩
   ·replace c14 := Bool.eq_false_iff.mpr c14
    subst c14
    have H1 : ((key_Range.f kj3 a0 a1_0 a1_1 a1_2 true a2_0 a2_1 false).bind fun bt239 => ((cabinetryref01_Validate.f a1_0 a1_1 a1_2).bind fun t243 => (if t243 = 0 then ((cabinetryref09_Asked.f a2_0 a2_1).bind fun t244 => (if t244 = 0 then ((cabinetrylaw09_operators.f).bind fun t245 => ((cabinetryref01_In.f kj3 t245 a0).bind fun t248 => (cabinetrylaw09_KeyAsks.j1 kj3 bt239.1 bt239.2.1 bt239.2.2.1 bt239.2.2.2 t243 (!t248) a1_0 a1_1 a1_2))) else (cabinetrylaw09_KeyAsks.j1 kj3 bt239.1 bt239.2.1 bt239.2.2.1 bt239.2.2.2 t243 true a1_0 a1_1 a1_2))) else (if bt239.2.2.2 = t243 then (if bt239.2.2.2 = 0 then ((cabinetrylaw09_known.f kj3).bind fun t255 => (some t255)) else (if bt239.1.toList = ([] : List UInt8) then (if bt239.2.1.toList = ([] : List UInt8) then (if bt239.2.2.1 = true then (some false) else ((cabinetrylaw09_known.f kj3).bind fun t256 => (some t256))) else (some false)) else (some false))) else (some false))))) = some r := by rw [if_neg (show ¬ (false = true) by decide)] at H; exact H
    clear H
    have H := H1
    clear H1
    replace H := Option.bind_eq_some_iff.mp H
    obtain ⟨⟨t239, t240, t241, t242⟩, A170, H⟩ := H
    replace H : ((cabinetryref01_Validate.f a1_0 a1_1 a1_2).bind fun t243 => (if t243 = 0 then ((cabinetryref09_Asked.f a2_0 a2_1).bind fun t244 => (if t244 = 0 then ((cabinetrylaw09_operators.f).bind fun t245 => ((cabinetryref01_In.f kj3 t245 a0).bind fun t248 => (cabinetrylaw09_KeyAsks.j1 kj3 t239 t240 t241 t242 t243 (!t248) a1_0 a1_1 a1_2))) else (cabinetrylaw09_KeyAsks.j1 kj3 t239 t240 t241 t242 t243 true a1_0 a1_1 a1_2))) else (if t242 = t243 then (if t242 = 0 then ((cabinetrylaw09_known.f kj3).bind fun t255 => (some t255)) else (if t239.toList = ([] : List UInt8) then (if t240.toList = ([] : List UInt8) then (if t241 = true then (some false) else ((cabinetrylaw09_known.f kj3).bind fun t256 => (some t256))) else (some false)) else (some false))) else (some false)))) = some r := H
    have A17 := Aside0.mk A170
    clear A170
    replace H := Option.bind_eq_some_iff.mp H
    obtain ⟨t243, A180, H⟩ := H
    replace H : (if t243 = 0 then ((cabinetryref09_Asked.f a2_0 a2_1).bind fun t244 => (if t244 = 0 then ((cabinetrylaw09_operators.f).bind fun t245 => ((cabinetryref01_In.f kj3 t245 a0).bind fun t248 => (cabinetrylaw09_KeyAsks.j1 kj3 t239 t240 t241 t242 t243 (!t248) a1_0 a1_1 a1_2))) else (cabinetrylaw09_KeyAsks.j1 kj3 t239 t240 t241 t242 t243 true a1_0 a1_1 a1_2))) else (if t242 = t243 then (if t242 = 0 then ((cabinetrylaw09_known.f kj3).bind fun t255 => (some t255)) else (if t239.toList = ([] : List UInt8) then (if t240.toList = ([] : List UInt8) then (if t241 = true then (some false) else ((cabinetrylaw09_known.f kj3).bind fun t256 => (some t256))) else (some false)) else (some false))) else (some false))) = some r := H
    have A18 := Aside0.mk A180
    clear A180
    by_cases c19 : t243 = 0
    ·rw [if_pos c19] at H
     have c19b0 : (t243 == 0) = true := beq_iff_eq.mpr c19
     have c19b1 : (t243 != 0) = false := bne_eq_false_iff_eq.mpr c19
     clear c19
     have HC20 := Aside0.mk H
     clear H
     have hnb21 := NB232_233.out
     have hnc21 := NB233_232.out
     have hcz22_0 : wc.cell? ⟨gb232, 0, none⟩ = some (.int .i64 a1_0) := (blk_cell BK232.out 0).trans rfl
     have hcz22_1 : wc.cell? ⟨gb232, 1, none⟩ = some (.int .i64 a1_1) := (blk_cell BK232.out 1).trans rfl
     have hcz22_2 : wc.cell? ⟨gb232, 2, none⟩ = some (.string a1_2) := (blk_cell BK232.out 2).trans rfl
     have hfz22_0 := blk_frozen BK232.out 0
     have hfz22_1 := blk_frozen BK232.out 1
     have hfz22_2 := blk_frozen BK232.out 2
     have hcz23_0 : wc.cell? ⟨gb233, 0, none⟩ = some (.int .i64 a2_0) := (blk_cell BK233.out 0).trans rfl
     have hcz23_1 : wc.cell? ⟨gb233, 1, none⟩ = some (.int .i64 a2_1) := (blk_cell BK233.out 1).trans rfl
     have hfz23_0 := blk_frozen BK233.out 0
     have hfz23_1 := blk_frozen BK233.out 1
     go_upto_region 6 with (first | ((with_reducible refine gate_callee (f := 25) rfl ?_); refine goesL_ (some 28) rfl rfl Tryd.func25 (by kernel_rfl) rfl #[.string a0, .agg #[.int .i64 a1_0, .int .i64 a1_1, .string a1_2], .bool true, .int .i64 a2_0, .int .i64 a2_1, .bool false] rfl (by (try simp only [List.map_toArray, List.map_cons, List.map_nil]); first | done | rfl | (simp only [List.length_drop, List.length_take]; rfl)) ?_; (with_reducible refine (key_Range.calls kj3 a0 a1_0 a1_1 a1_2 true a2_0 a2_1 false t239 t240 t241 t242 _ A17.out (Hm.keep hm_ (by repeat (first | (with_reducible first | exact HB.out | apply below_alloc | apply pw_below_drewN | apply below_drew1 | refine below_set ?_ GE232.out | refine below_set ?_ GE233.out) | exact HB.out)))).mono ?_); rintro e w24 ⟨rfl, hb⟩; refine ⟨_, rfl, ?_⟩; have n0_ := Aside0.mk (blk_below (g := gb232) (o := .cells #[.int .i64 a1_0, .int .i64 a1_1, .string a1_2] 23 (0, 0)) (by (with_reducible repeat (first | refine blk_drewN ?_ _ | refine blk_drew ?_ | refine blk_alloc ?_ _)); exact BK232.out) hb); have n1_ := Aside0.mk (blk_below (g := gb233) (o := .cells #[.int .i64 a2_0, .int .i64 a2_1] 56 (0, 0)) (by (with_reducible repeat (first | refine blk_drewN ?_ _ | refine blk_drew ?_ | refine blk_alloc ?_ _)); exact BK233.out) hb); have n2_ := Aside0.mk (below_step (by repeat (first | (with_reducible first | exact HB.out | apply below_alloc | apply pw_below_drewN | apply below_drew1 | refine below_set ?_ GE232.out | refine below_set ?_ GE233.out) | exact HB.out)) hb); clear BK232; clear BK233; clear HB; have BK232 := n0_; have BK233 := n1_; have HB := n2_; clear n0_ n1_ n2_; (try clear hb); (try clear hb2); (try clear hk); (try clear hi); have hcz25_0 : w24.cell? ⟨gb232, 0, none⟩ = some (.int .i64 a1_0) := (blk_cell BK232.out 0).trans rfl; have hcz25_1 : w24.cell? ⟨gb232, 1, none⟩ = some (.int .i64 a1_1) := (blk_cell BK232.out 1).trans rfl; have hcz25_2 : w24.cell? ⟨gb232, 2, none⟩ = some (.string a1_2) := (blk_cell BK232.out 2).trans rfl; have hfz25_0 := blk_frozen BK232.out 0; have hfz25_1 := blk_frozen BK232.out 1; have hfz25_2 := blk_frozen BK232.out 2) | ((with_reducible refine gate_callee (f := 26) rfl ?_); refine goesL_ (some 34) rfl rfl Tryd.func26 (by kernel_rfl) rfl #[.agg #[.int .i64 a1_0, .int .i64 a1_1, .string a1_2]] rfl (by (try simp only [List.map_toArray, List.map_cons, List.map_nil]); first | done | rfl | (simp only [List.length_drop, List.length_take]; rfl)) ?_; (with_reducible refine (cabinetryref01_Validate.calls a1_0 a1_1 a1_2 t243 _ A18.out).mono ?_); rintro e w26 ⟨rfl, hb⟩; refine ⟨_, rfl, ?_⟩; have n0_ := Aside0.mk (blk_below (g := gb232) (o := .cells #[.int .i64 a1_0, .int .i64 a1_1, .string a1_2] 23 (0, 0)) (by (with_reducible repeat (first | refine blk_drewN ?_ _ | refine blk_drew ?_ | refine blk_alloc ?_ _)); exact BK232.out) hb); have n1_ := Aside0.mk (blk_below (g := gb233) (o := .cells #[.int .i64 a2_0, .int .i64 a2_1] 56 (0, 0)) (by (with_reducible repeat (first | refine blk_drewN ?_ _ | refine blk_drew ?_ | refine blk_alloc ?_ _)); exact BK233.out) hb); have n2_ := Aside0.mk (below_step (by repeat (first | (with_reducible first | exact HB.out | apply below_alloc | apply pw_below_drewN | apply below_drew1 | refine below_set ?_ GE232.out | refine below_set ?_ GE233.out) | exact HB.out)) hb); clear BK232; clear BK233; clear HB; have BK232 := n0_; have BK233 := n1_; have HB := n2_; clear n0_ n1_ n2_; (try clear hb); (try clear hb2); (try clear hk); (try clear hi)))
     (try simp only [Act.put, List.setIfInBounds_toArray, List.set_cons_zero, List.set_cons_succ])
     go_cut [38] (fun v38 wc => ∃ (kq : Nat) (x38_19 : Bool), v38 = .bool x38_19 ∧ Aside0 (cabinetrylaw09_KeyAsks.j1 kq t239 t240 t241 t242 t243 x38_19 a1_0 a1_1 a1_2 = some r) ∧ Aside0 (kq ≤ kj3) ∧ Aside0 (wc.heap[gb232]? = some (.cells #[.int .i64 a1_0, .int .i64 a1_1, .string a1_2] 23 (0, 0))) ∧ Aside0 (wc.heap[gb233]? = some (.cells #[.int .i64 a2_0, .int .i64 a2_1] 56 (0, 0))) ∧ Aside0 (Below w.heap.size w wc))
     case first =>
      have H := HC20.out
      clear HC20
      replace H := Option.bind_eq_some_iff.mp H
      obtain ⟨t244, A270, H⟩ := H
      replace H : (if t244 = 0 then ((cabinetrylaw09_operators.f).bind fun t245 => ((cabinetryref01_In.f kj3 t245 a0).bind fun t248 => (cabinetrylaw09_KeyAsks.j1 kj3 t239 t240 t241 t242 t243 (!t248) a1_0 a1_1 a1_2))) else (cabinetrylaw09_KeyAsks.j1 kj3 t239 t240 t241 t242 t243 true a1_0 a1_1 a1_2)) = some r := H
      have A27 := Aside0.mk A270
      clear A270
      by_cases c28 : t244 = 0
      ·rw [if_pos c28] at H
       have c28b0 : (t244 == 0) = true := beq_iff_eq.mpr c28
       have c28b1 : (t244 != 0) = false := bne_eq_false_iff_eq.mpr c28
       clear c28
       (first | rw [c28b0] | (simp only [i64_w, i32_w]; rw [c28b0]) | skip)
       replace H := Option.bind_eq_some_iff.mp H
       obtain ⟨t245, A290, H⟩ := H
       replace H : ((cabinetryref01_In.f kj3 t245 a0).bind fun t248 => (cabinetrylaw09_KeyAsks.j1 kj3 t239 t240 t241 t242 t243 (!t248) a1_0 a1_1 a1_2)) = some r := H
       have A29 := Aside0.mk A290
       clear A290
       replace H := Option.bind_eq_some_iff.mp H
       obtain ⟨t248, A300, H⟩ := H
       replace H : (cabinetrylaw09_KeyAsks.j1 kj3 t239 t240 t241 t242 t243 (!t248) a1_0 a1_1 a1_2) = some r := H
       have A30 := Aside0.mk A300
       clear A300
       have H' := Aside0.mk H
       clear H
       have hnb31 := NB233_232.out
       have hnc31 := NB232_233.out
       have hcz32_0 : w26.cell? ⟨gb233, 0, none⟩ = some (.int .i64 a2_0) := (blk_cell BK233.out 0).trans rfl
       have hcz32_1 : w26.cell? ⟨gb233, 1, none⟩ = some (.int .i64 a2_1) := (blk_cell BK233.out 1).trans rfl
       have hfz32_0 := blk_frozen BK233.out 0
       have hfz32_1 := blk_frozen BK233.out 1
       go_wp2_with (first | ((with_reducible refine gate_callee (f := 36) rfl ?_); refine goesL_ (some 43) rfl rfl Tryd.func36 (by kernel_rfl) rfl #[.int .i64 a2_0, .int .i64 a2_1] rfl (by (try simp only [List.map_toArray, List.map_cons, List.map_nil]); first | done | rfl | (simp only [List.length_drop, List.length_take]; rfl)) ?_; (with_reducible refine (cabinetryref09_Asked.calls a2_0 a2_1 t244 _ A27.out).mono ?_); rintro e w' ⟨rfl, ⟨nd, rfl⟩⟩; refine ⟨_, rfl, ?_⟩) | (go_at_call 24; (with_reducible refine (cabinetrylaw09_operators.calls  t245 _ A29.out).mono ?_); rintro e w33 ⟨v246, rfl, ho0, hb⟩; have n0_ := Aside0.mk (Kd.R_lower ho0 (below_size (by repeat (first | (with_reducible first | exact HB.out | apply below_alloc | apply pw_below_drewN | apply below_drew1 | refine below_set ?_ GE232.out | refine below_set ?_ GE233.out) | exact HB.out)))); have n1_ := Aside0.mk (blk_below (g := gb232) (o := .cells #[.int .i64 a1_0, .int .i64 a1_1, .string a1_2] 23 (0, 0)) (by (with_reducible repeat (first | refine blk_drewN ?_ _ | refine blk_drew ?_ | refine blk_alloc ?_ _)); exact BK232.out) hb); have n2_ := Aside0.mk (blk_below (g := gb233) (o := .cells #[.int .i64 a2_0, .int .i64 a2_1] 56 (0, 0)) (by (with_reducible repeat (first | refine blk_drewN ?_ _ | refine blk_drew ?_ | refine blk_alloc ?_ _)); exact BK233.out) hb); have n3_ := Aside0.mk (below_step (by repeat (first | (with_reducible first | exact HB.out | apply below_alloc | apply pw_below_drewN | apply below_drew1 | refine below_set ?_ GE232.out | refine below_set ?_ GE233.out) | exact HB.out)) hb); clear BK232; clear BK233; clear HB; have HO247 := n0_; have BK232 := n1_; have BK233 := n2_; have HB := n3_; clear n0_ n1_ n2_ n3_; (try clear hb); (try clear hb2); (try clear hk); (try clear hi); (try clear ho0); obtain ⟨Ao34, co34, eo34⟩ := Kd.R_slice HO247.out; subst eo34) | (go_at_call 37; (with_reducible refine (cabinetryref01_In.calls kj3 _ _ t245 a0 t248 _ ?side1 ?side2 A30.out).mono ?_); (case side1 => repeat (first | exact (Kd.R_reads' HO247.out).2.2 | (with_reducible refine Kd.C_alloc ?_ _) | (with_reducible refine Kd.C_drewN ?_ _) | (with_reducible refine Kd.C_drew ?_))); (case side2 => exact (Kd.R_reads' HO247.out).2.1); rintro e w' ⟨rfl, ⟨nd, rfl⟩⟩))
       go_meet
       case rel => exact ⟨_, (!t248), (by first | rfl | (simp; done) | (simp [*]; done)), H', ⟨by have := HJ3.out; first | omega | exact Nat.le_refl _⟩, ⟨by (with_reducible repeat (first | refine blk_drewN ?_ _ | refine blk_drew ?_ | refine blk_alloc ?_ _)); exact BK232.out⟩, ⟨by (with_reducible repeat (first | refine blk_drewN ?_ _ | refine blk_drew ?_ | refine blk_alloc ?_ _)); exact BK233.out⟩, ⟨by repeat (first | (with_reducible first | exact HB.out | apply below_alloc | apply pw_below_drewN | apply below_drew1 | refine below_set ?_ GE232.out | refine below_set ?_ GE233.out) | exact HB.out)⟩⟩
      ·rw [if_neg c28] at H
       have c28b0 : (t244 == 0) = false := beq_eq_false_iff_ne.mpr c28
       have c28b1 : (t244 != 0) = true := bne_iff_ne.mpr c28
       (first | rw [c28b0] | (simp only [i64_w, i32_w]; rw [c28b0]) | skip)
       have H' := Aside0.mk H
       clear H
       have hnb35 := NB233_232.out
       have hnc35 := NB232_233.out
       have hcz36_0 : w26.cell? ⟨gb233, 0, none⟩ = some (.int .i64 a2_0) := (blk_cell BK233.out 0).trans rfl
       have hcz36_1 : w26.cell? ⟨gb233, 1, none⟩ = some (.int .i64 a2_1) := (blk_cell BK233.out 1).trans rfl
       have hfz36_0 := blk_frozen BK233.out 0
       have hfz36_1 := blk_frozen BK233.out 1
       go_wp2_with (first | ((with_reducible refine gate_callee (f := 36) rfl ?_); refine goesL_ (some 43) rfl rfl Tryd.func36 (by kernel_rfl) rfl #[.int .i64 a2_0, .int .i64 a2_1] rfl (by (try simp only [List.map_toArray, List.map_cons, List.map_nil]); first | done | rfl | (simp only [List.length_drop, List.length_take]; rfl)) ?_; (with_reducible refine (cabinetryref09_Asked.calls a2_0 a2_1 t244 _ A27.out).mono ?_); rintro e w' ⟨rfl, ⟨nd, rfl⟩⟩; refine ⟨_, rfl, ?_⟩))
       go_meet
       case rel => exact ⟨_, (true), (by first | rfl | (simp; done) | (simp [*]; done)), H', ⟨by have := HJ3.out; first | omega | exact Nat.le_refl _⟩, ⟨by (with_reducible repeat (first | refine blk_drewN ?_ _ | refine blk_drew ?_ | refine blk_alloc ?_ _)); exact BK232.out⟩, ⟨by (with_reducible repeat (first | refine blk_drewN ?_ _ | refine blk_drew ?_ | refine blk_alloc ?_ _)); exact BK233.out⟩, ⟨by repeat (first | (with_reducible first | exact HB.out | apply below_alloc | apply pw_below_drewN | apply below_drew1 | refine below_set ?_ GE232.out | refine below_set ?_ GE233.out) | exact HB.out)⟩⟩
     case rest =>
      clear HC20
      try clear c1; try clear c2; try clear p2; try clear c3; try clear c7; try clear c7b0; try clear c7b1; try clear c8; try clear c9; try clear c14; try clear c15; try clear c19; try clear c19b0; try clear c19b1; try clear c21; try clear c25; try clear c26; try clear c28; try clear c28b0; try clear c28b1; try clear c31; try clear c35; try clear c36; try clear hcz10_0; try clear hcz10_1; try clear hcz10_2; try clear hcz22_0; try clear hcz22_1; try clear hcz22_2; try clear hcz23_0; try clear hcz23_1; try clear hcz25_0; try clear hcz25_1; try clear hcz25_2; try clear hcz32_0; try clear hcz32_1; try clear hcz36_0; try clear hcz36_1; try clear hfz10_0; try clear hfz10_1; try clear hfz10_2; try clear hfz22_0; try clear hfz22_1; try clear hfz22_2; try clear hfz23_0; try clear hfz23_1; try clear hfz25_0; try clear hfz25_1; try clear hfz25_2; try clear hfz32_0; try clear hfz32_1; try clear hfz36_0; try clear hfz36_1; try clear p2
      obtain ⟨kq, x38_19, rfl, HA, HJ19, BK232, BK233, HB⟩ := hcut
      cases kq with
      | zero => exact absurd HA.out (by simp [cabinetrylaw09_KeyAsks.j1])
      | succ kj19 =>
       have H := HA.out
       clear HA
       simp only [cabinetrylaw09_KeyAsks.j1] at H
       by_cases c37 : x38_19 = true
       ·subst c37
        have H1 : (if t242 = 1 then (if t242 = 0 then ((cabinetrylaw09_known.f kj19).bind fun t249 => (some t249)) else (if t239.toList = ([] : List UInt8) then (if t240.toList = ([] : List UInt8) then (if t241 = true then (some false) else ((cabinetrylaw09_known.f kj19).bind fun t250 => (some t250))) else (some false)) else (some false))) else (some false)) = some r := by rw [if_pos rfl] at H; exact H
        clear H
        have H := H1
        clear H1
        by_cases c38 : t242 = 1
        ·rw [if_pos c38] at H
         have c38b0 : (t242 == 1) = true := beq_iff_eq.mpr c38
         have c38b1 : (t242 != 1) = false := bne_eq_false_iff_eq.mpr c38
         clear c38
         by_cases c39 : t242 = 0
         ·rw [if_pos c39] at H
          have c39b0 : (t242 == 0) = true := beq_iff_eq.mpr c39
          have c39b1 : (t242 != 0) = false := bne_eq_false_iff_eq.mpr c39
          clear c39
          replace H := Option.bind_eq_some_iff.mp H
          obtain ⟨t249, A400, H⟩ := H
          replace H : (some t249) = some r := H
          have A40 := Aside0.mk A400
          clear A400
          obtain rfl := Option.some.inj H
          simp only [Option.some.injEq, Prod.mk.injEq] at H
          obtain ⟨rfl⟩ := H
          go_wp2_with (first | (go_at_call 15; (with_reducible refine (cabinetrylaw09_known.calls kj19  t249 _ A40.out hr_ (Hm.keep hm_ (by repeat (first | (with_reducible first | exact HB.out | apply below_alloc | apply pw_below_drewN | apply below_drew1 | refine below_set ?_ GE232.out | refine below_set ?_ GE233.out) | exact HB.out)))).mono ?_); rintro e w41 ⟨rfl, hb⟩; have n0_ := Aside0.mk (blk_below (g := gb232) (o := .cells #[.int .i64 a1_0, .int .i64 a1_1, .string a1_2] 23 (0, 0)) (by (with_reducible repeat (first | refine blk_drewN ?_ _ | refine blk_drew ?_ | refine blk_alloc ?_ _)); exact BK232.out) hb); have n1_ := Aside0.mk (blk_below (g := gb233) (o := .cells #[.int .i64 a2_0, .int .i64 a2_1] 56 (0, 0)) (by (with_reducible repeat (first | refine blk_drewN ?_ _ | refine blk_drew ?_ | refine blk_alloc ?_ _)); exact BK233.out) hb); have n2_ := Aside0.mk (below_step (by repeat (first | (with_reducible first | exact HB.out | apply below_alloc | apply pw_below_drewN | apply below_drew1 | refine below_set ?_ GE232.out | refine below_set ?_ GE233.out) | exact HB.out)) hb); clear BK232; clear BK233; clear HB; have BK232 := n0_; have BK233 := n1_; have HB := n2_; clear n0_ n1_ n2_; (try clear hb); (try clear hb2); (try clear hk); (try clear hi)))
          go_ret
          exact ⟨by first | rfl | (simp [errW_none, errW_some] <;> rfl) | (simp [*, errW_none, errW_some] <;> rfl), by repeat (first | (with_reducible first | exact HB.out | apply below_alloc | apply pw_below_drewN | apply below_drew1 | refine below_set ?_ GE232.out | refine below_set ?_ GE233.out) | exact HB.out)⟩
         ·rw [if_neg c39] at H
          have c39b0 : (t242 == 0) = false := beq_eq_false_iff_ne.mpr c39
          have c39b1 : (t242 != 0) = true := bne_iff_ne.mpr c39
          by_cases c42 : t239.toList = ([] : List UInt8)
          ·rw [if_pos c42] at H
           have c42b0 : (t239.toList == ([] : List UInt8)) = true := beq_iff_eq.mpr c42
           have c42b1 : (t239.toList != ([] : List UInt8)) = false := bne_eq_false_iff_eq.mpr c42
           clear c42
           by_cases c43 : t240.toList = ([] : List UInt8)
           ·rw [if_pos c43] at H
            have c43b0 : (t240.toList == ([] : List UInt8)) = true := beq_iff_eq.mpr c43
            have c43b1 : (t240.toList != ([] : List UInt8)) = false := bne_eq_false_iff_eq.mpr c43
            clear c43
            by_cases c44 : t241 = true
            ·subst c44
             have H1 : (some false) = some r := by rw [if_pos rfl] at H; exact H
             clear H
             have H := H1
             clear H1
             obtain rfl := Option.some.inj H
             exact absurd hr_.out (by decide)
            ·replace c44 := Bool.eq_false_iff.mpr c44
             subst c44
             have H1 : ((cabinetrylaw09_known.f kj19).bind fun t250 => (some t250)) = some r := by rw [if_neg (show ¬ (false = true) by decide)] at H; exact H
             clear H
             have H := H1
             clear H1
             replace H := Option.bind_eq_some_iff.mp H
             obtain ⟨t250, A450, H⟩ := H
             replace H : (some t250) = some r := H
             have A45 := Aside0.mk A450
             clear A450
             obtain rfl := Option.some.inj H
             simp only [Option.some.injEq, Prod.mk.injEq] at H
             obtain ⟨rfl⟩ := H
             go_wp2_with (first | (go_at_call 15; (with_reducible refine (cabinetrylaw09_known.calls kj19  t250 _ A45.out hr_ (Hm.keep hm_ (by repeat (first | (with_reducible first | exact HB.out | apply below_alloc | apply pw_below_drewN | apply below_drew1 | refine below_set ?_ GE232.out | refine below_set ?_ GE233.out) | exact HB.out)))).mono ?_); rintro e w46 ⟨rfl, hb⟩; have n0_ := Aside0.mk (blk_below (g := gb232) (o := .cells #[.int .i64 a1_0, .int .i64 a1_1, .string a1_2] 23 (0, 0)) (by (with_reducible repeat (first | refine blk_drewN ?_ _ | refine blk_drew ?_ | refine blk_alloc ?_ _)); exact BK232.out) hb); have n1_ := Aside0.mk (blk_below (g := gb233) (o := .cells #[.int .i64 a2_0, .int .i64 a2_1] 56 (0, 0)) (by (with_reducible repeat (first | refine blk_drewN ?_ _ | refine blk_drew ?_ | refine blk_alloc ?_ _)); exact BK233.out) hb); have n2_ := Aside0.mk (below_step (by repeat (first | (with_reducible first | exact HB.out | apply below_alloc | apply pw_below_drewN | apply below_drew1 | refine below_set ?_ GE232.out | refine below_set ?_ GE233.out) | exact HB.out)) hb); clear BK232; clear BK233; clear HB; have BK232 := n0_; have BK233 := n1_; have HB := n2_; clear n0_ n1_ n2_; (try clear hb); (try clear hb2); (try clear hk); (try clear hi)))
             go_ret
             exact ⟨by first | rfl | (simp [errW_none, errW_some] <;> rfl) | (simp [*, errW_none, errW_some] <;> rfl), by repeat (first | (with_reducible first | exact HB.out | apply below_alloc | apply pw_below_drewN | apply below_drew1 | refine below_set ?_ GE232.out | refine below_set ?_ GE233.out) | exact HB.out)⟩
           ·rw [if_neg c43] at H
            have c43b0 : (t240.toList == ([] : List UInt8)) = false := beq_eq_false_iff_ne.mpr c43
            have c43b1 : (t240.toList != ([] : List UInt8)) = true := bne_iff_ne.mpr c43
            obtain rfl := Option.some.inj H
            exact absurd hr_.out (by decide)
          ·rw [if_neg c42] at H
           have c42b0 : (t239.toList == ([] : List UInt8)) = false := beq_eq_false_iff_ne.mpr c42
           have c42b1 : (t239.toList != ([] : List UInt8)) = true := bne_iff_ne.mpr c42
           obtain rfl := Option.some.inj H
           exact absurd hr_.out (by decide)
        ·rw [if_neg c38] at H
         have c38b0 : (t242 == 1) = false := beq_eq_false_iff_ne.mpr c38
         have c38b1 : (t242 != 1) = true := bne_iff_ne.mpr c38
         obtain rfl := Option.some.inj H
         exact absurd hr_.out (by decide)
       ·replace c37 := Bool.eq_false_iff.mpr c37
        subst c37
        have H1 : (if a1_0 = 0 then (if t242 = 6 then (if t242 = 0 then ((cabinetrylaw09_known.f kj19).bind fun t251 => (some t251)) else (if t239.toList = ([] : List UInt8) then (if t240.toList = ([] : List UInt8) then (if t241 = true then (some false) else ((cabinetrylaw09_known.f kj19).bind fun t252 => (some t252))) else (some false)) else (some false))) else (some false)) else (if t242 = t243 then (if t242 = 0 then ((cabinetrylaw09_known.f kj19).bind fun t253 => (some t253)) else (if t239.toList = ([] : List UInt8) then (if t240.toList = ([] : List UInt8) then (if t241 = true then (some false) else ((cabinetrylaw09_known.f kj19).bind fun t254 => (some t254))) else (some false)) else (some false))) else (some false))) = some r := by rw [if_neg (show ¬ (false = true) by decide)] at H; exact H
        clear H
        have H := H1
        clear H1
        by_cases c47 : a1_0 = 0
        ·rw [if_pos c47] at H
         have c47b0 : (a1_0 == 0) = true := beq_iff_eq.mpr c47
         have c47b1 : (a1_0 != 0) = false := bne_eq_false_iff_eq.mpr c47
         clear c47
         by_cases c48 : t242 = 6
         ·rw [if_pos c48] at H
          have c48b0 : (t242 == 6) = true := beq_iff_eq.mpr c48
          have c48b1 : (t242 != 6) = false := bne_eq_false_iff_eq.mpr c48
          clear c48
          by_cases c49 : t242 = 0
          ·rw [if_pos c49] at H
           have c49b0 : (t242 == 0) = true := beq_iff_eq.mpr c49
           have c49b1 : (t242 != 0) = false := bne_eq_false_iff_eq.mpr c49
           clear c49
           replace H := Option.bind_eq_some_iff.mp H
           obtain ⟨t251, A500, H⟩ := H
           replace H : (some t251) = some r := H
           have A50 := Aside0.mk A500
           clear A500
           obtain rfl := Option.some.inj H
           simp only [Option.some.injEq, Prod.mk.injEq] at H
           obtain ⟨rfl⟩ := H
           have hnb51 := NB232_233.out
           have hnc51 := NB233_232.out
           have hcz52_0 : wc.cell? ⟨gb232, 0, none⟩ = some (.int .i64 a1_0) := (blk_cell BK232.out 0).trans rfl
           have hcz52_1 : wc.cell? ⟨gb232, 1, none⟩ = some (.int .i64 a1_1) := (blk_cell BK232.out 1).trans rfl
           have hcz52_2 : wc.cell? ⟨gb232, 2, none⟩ = some (.string a1_2) := (blk_cell BK232.out 2).trans rfl
           have hfz52_0 := blk_frozen BK232.out 0
           have hfz52_1 := blk_frozen BK232.out 1
           have hfz52_2 := blk_frozen BK232.out 2
           go_wp2_with (first | (go_at_call 15; (with_reducible refine (cabinetrylaw09_known.calls kj19  t251 _ A50.out hr_ (Hm.keep hm_ (by repeat (first | (with_reducible first | exact HB.out | apply below_alloc | apply pw_below_drewN | apply below_drew1 | refine below_set ?_ GE232.out | refine below_set ?_ GE233.out) | exact HB.out)))).mono ?_); rintro e w53 ⟨rfl, hb⟩; have n0_ := Aside0.mk (blk_below (g := gb232) (o := .cells #[.int .i64 a1_0, .int .i64 a1_1, .string a1_2] 23 (0, 0)) (by (with_reducible repeat (first | refine blk_drewN ?_ _ | refine blk_drew ?_ | refine blk_alloc ?_ _)); exact BK232.out) hb); have n1_ := Aside0.mk (blk_below (g := gb233) (o := .cells #[.int .i64 a2_0, .int .i64 a2_1] 56 (0, 0)) (by (with_reducible repeat (first | refine blk_drewN ?_ _ | refine blk_drew ?_ | refine blk_alloc ?_ _)); exact BK233.out) hb); have n2_ := Aside0.mk (below_step (by repeat (first | (with_reducible first | exact HB.out | apply below_alloc | apply pw_below_drewN | apply below_drew1 | refine below_set ?_ GE232.out | refine below_set ?_ GE233.out) | exact HB.out)) hb); clear BK232; clear BK233; clear HB; have BK232 := n0_; have BK233 := n1_; have HB := n2_; clear n0_ n1_ n2_; (try clear hb); (try clear hb2); (try clear hk); (try clear hi)))
           go_ret
           exact ⟨by first | rfl | (simp [errW_none, errW_some] <;> rfl) | (simp [*, errW_none, errW_some] <;> rfl), by repeat (first | (with_reducible first | exact HB.out | apply below_alloc | apply pw_below_drewN | apply below_drew1 | refine below_set ?_ GE232.out | refine below_set ?_ GE233.out) | exact HB.out)⟩
          ·rw [if_neg c49] at H
           have c49b0 : (t242 == 0) = false := beq_eq_false_iff_ne.mpr c49
           have c49b1 : (t242 != 0) = true := bne_iff_ne.mpr c49
           by_cases c54 : t239.toList = ([] : List UInt8)
           ·rw [if_pos c54] at H
            have c54b0 : (t239.toList == ([] : List UInt8)) = true := beq_iff_eq.mpr c54
            have c54b1 : (t239.toList != ([] : List UInt8)) = false := bne_eq_false_iff_eq.mpr c54
            clear c54
            by_cases c55 : t240.toList = ([] : List UInt8)
            ·rw [if_pos c55] at H
             have c55b0 : (t240.toList == ([] : List UInt8)) = true := beq_iff_eq.mpr c55
             have c55b1 : (t240.toList != ([] : List UInt8)) = false := bne_eq_false_iff_eq.mpr c55
             clear c55
             by_cases c56 : t241 = true
             ·subst c56
              have H1 : (some false) = some r := by rw [if_pos rfl] at H; exact H
              clear H
              have H := H1
              clear H1
              obtain rfl := Option.some.inj H
              exact absurd hr_.out (by decide)
             ·replace c56 := Bool.eq_false_iff.mpr c56
              subst c56
              have H1 : ((cabinetrylaw09_known.f kj19).bind fun t252 => (some t252)) = some r := by rw [if_neg (show ¬ (false = true) by decide)] at H; exact H
              clear H
              have H := H1
              clear H1
              replace H := Option.bind_eq_some_iff.mp H
              obtain ⟨t252, A570, H⟩ := H
              replace H : (some t252) = some r := H
              have A57 := Aside0.mk A570
              clear A570
              obtain rfl := Option.some.inj H
              simp only [Option.some.injEq, Prod.mk.injEq] at H
              obtain ⟨rfl⟩ := H
              have hnb58 := NB232_233.out
              have hnc58 := NB233_232.out
              have hcz59_0 : wc.cell? ⟨gb232, 0, none⟩ = some (.int .i64 a1_0) := (blk_cell BK232.out 0).trans rfl
              have hcz59_1 : wc.cell? ⟨gb232, 1, none⟩ = some (.int .i64 a1_1) := (blk_cell BK232.out 1).trans rfl
              have hcz59_2 : wc.cell? ⟨gb232, 2, none⟩ = some (.string a1_2) := (blk_cell BK232.out 2).trans rfl
              have hfz59_0 := blk_frozen BK232.out 0
              have hfz59_1 := blk_frozen BK232.out 1
              have hfz59_2 := blk_frozen BK232.out 2
              go_wp2_with (first | (go_at_call 15; (with_reducible refine (cabinetrylaw09_known.calls kj19  t252 _ A57.out hr_ (Hm.keep hm_ (by repeat (first | (with_reducible first | exact HB.out | apply below_alloc | apply pw_below_drewN | apply below_drew1 | refine below_set ?_ GE232.out | refine below_set ?_ GE233.out) | exact HB.out)))).mono ?_); rintro e w60 ⟨rfl, hb⟩; have n0_ := Aside0.mk (blk_below (g := gb232) (o := .cells #[.int .i64 a1_0, .int .i64 a1_1, .string a1_2] 23 (0, 0)) (by (with_reducible repeat (first | refine blk_drewN ?_ _ | refine blk_drew ?_ | refine blk_alloc ?_ _)); exact BK232.out) hb); have n1_ := Aside0.mk (blk_below (g := gb233) (o := .cells #[.int .i64 a2_0, .int .i64 a2_1] 56 (0, 0)) (by (with_reducible repeat (first | refine blk_drewN ?_ _ | refine blk_drew ?_ | refine blk_alloc ?_ _)); exact BK233.out) hb); have n2_ := Aside0.mk (below_step (by repeat (first | (with_reducible first | exact HB.out | apply below_alloc | apply pw_below_drewN | apply below_drew1 | refine below_set ?_ GE232.out | refine below_set ?_ GE233.out) | exact HB.out)) hb); clear BK232; clear BK233; clear HB; have BK232 := n0_; have BK233 := n1_; have HB := n2_; clear n0_ n1_ n2_; (try clear hb); (try clear hb2); (try clear hk); (try clear hi)))
              go_ret
              exact ⟨by first | rfl | (simp [errW_none, errW_some] <;> rfl) | (simp [*, errW_none, errW_some] <;> rfl), by repeat (first | (with_reducible first | exact HB.out | apply below_alloc | apply pw_below_drewN | apply below_drew1 | refine below_set ?_ GE232.out | refine below_set ?_ GE233.out) | exact HB.out)⟩
            ·rw [if_neg c55] at H
             have c55b0 : (t240.toList == ([] : List UInt8)) = false := beq_eq_false_iff_ne.mpr c55
             have c55b1 : (t240.toList != ([] : List UInt8)) = true := bne_iff_ne.mpr c55
             obtain rfl := Option.some.inj H
             exact absurd hr_.out (by decide)
           ·rw [if_neg c54] at H
            have c54b0 : (t239.toList == ([] : List UInt8)) = false := beq_eq_false_iff_ne.mpr c54
            have c54b1 : (t239.toList != ([] : List UInt8)) = true := bne_iff_ne.mpr c54
            obtain rfl := Option.some.inj H
            exact absurd hr_.out (by decide)
         ·rw [if_neg c48] at H
          have c48b0 : (t242 == 6) = false := beq_eq_false_iff_ne.mpr c48
          have c48b1 : (t242 != 6) = true := bne_iff_ne.mpr c48
          obtain rfl := Option.some.inj H
          exact absurd hr_.out (by decide)
        ·rw [if_neg c47] at H
         have c47b0 : (a1_0 == 0) = false := beq_eq_false_iff_ne.mpr c47
         have c47b1 : (a1_0 != 0) = true := bne_iff_ne.mpr c47
         by_cases c61 : t242 = t243
         ·rw [if_pos c61] at H
          have c61b0 : (t242 == t243) = true := beq_iff_eq.mpr c61
          have c61b1 : (t242 != t243) = false := bne_eq_false_iff_eq.mpr c61
          clear c61
          by_cases c62 : t242 = 0
          ·rw [if_pos c62] at H
           have c62b0 : (t242 == 0) = true := beq_iff_eq.mpr c62
           have c62b1 : (t242 != 0) = false := bne_eq_false_iff_eq.mpr c62
           clear c62
           replace H := Option.bind_eq_some_iff.mp H
           obtain ⟨t253, A630, H⟩ := H
           replace H : (some t253) = some r := H
           have A63 := Aside0.mk A630
           clear A630
           obtain rfl := Option.some.inj H
           simp only [Option.some.injEq, Prod.mk.injEq] at H
           obtain ⟨rfl⟩ := H
           have hnb64 := NB232_233.out
           have hnc64 := NB233_232.out
           have hcz65_0 : wc.cell? ⟨gb232, 0, none⟩ = some (.int .i64 a1_0) := (blk_cell BK232.out 0).trans rfl
           have hcz65_1 : wc.cell? ⟨gb232, 1, none⟩ = some (.int .i64 a1_1) := (blk_cell BK232.out 1).trans rfl
           have hcz65_2 : wc.cell? ⟨gb232, 2, none⟩ = some (.string a1_2) := (blk_cell BK232.out 2).trans rfl
           have hfz65_0 := blk_frozen BK232.out 0
           have hfz65_1 := blk_frozen BK232.out 1
           have hfz65_2 := blk_frozen BK232.out 2
           go_wp2_with (first | (go_at_call 15; (with_reducible refine (cabinetrylaw09_known.calls kj19  t253 _ A63.out hr_ (Hm.keep hm_ (by repeat (first | (with_reducible first | exact HB.out | apply below_alloc | apply pw_below_drewN | apply below_drew1 | refine below_set ?_ GE232.out | refine below_set ?_ GE233.out) | exact HB.out)))).mono ?_); rintro e w66 ⟨rfl, hb⟩; have n0_ := Aside0.mk (blk_below (g := gb232) (o := .cells #[.int .i64 a1_0, .int .i64 a1_1, .string a1_2] 23 (0, 0)) (by (with_reducible repeat (first | refine blk_drewN ?_ _ | refine blk_drew ?_ | refine blk_alloc ?_ _)); exact BK232.out) hb); have n1_ := Aside0.mk (blk_below (g := gb233) (o := .cells #[.int .i64 a2_0, .int .i64 a2_1] 56 (0, 0)) (by (with_reducible repeat (first | refine blk_drewN ?_ _ | refine blk_drew ?_ | refine blk_alloc ?_ _)); exact BK233.out) hb); have n2_ := Aside0.mk (below_step (by repeat (first | (with_reducible first | exact HB.out | apply below_alloc | apply pw_below_drewN | apply below_drew1 | refine below_set ?_ GE232.out | refine below_set ?_ GE233.out) | exact HB.out)) hb); clear BK232; clear BK233; clear HB; have BK232 := n0_; have BK233 := n1_; have HB := n2_; clear n0_ n1_ n2_; (try clear hb); (try clear hb2); (try clear hk); (try clear hi)))
           go_ret
           exact ⟨by first | rfl | (simp [errW_none, errW_some] <;> rfl) | (simp [*, errW_none, errW_some] <;> rfl), by repeat (first | (with_reducible first | exact HB.out | apply below_alloc | apply pw_below_drewN | apply below_drew1 | refine below_set ?_ GE232.out | refine below_set ?_ GE233.out) | exact HB.out)⟩
          ·rw [if_neg c62] at H
           have c62b0 : (t242 == 0) = false := beq_eq_false_iff_ne.mpr c62
           have c62b1 : (t242 != 0) = true := bne_iff_ne.mpr c62
           by_cases c67 : t239.toList = ([] : List UInt8)
           ·rw [if_pos c67] at H
            have c67b0 : (t239.toList == ([] : List UInt8)) = true := beq_iff_eq.mpr c67
            have c67b1 : (t239.toList != ([] : List UInt8)) = false := bne_eq_false_iff_eq.mpr c67
            clear c67
            by_cases c68 : t240.toList = ([] : List UInt8)
            ·rw [if_pos c68] at H
             have c68b0 : (t240.toList == ([] : List UInt8)) = true := beq_iff_eq.mpr c68
             have c68b1 : (t240.toList != ([] : List UInt8)) = false := bne_eq_false_iff_eq.mpr c68
             clear c68
             by_cases c69 : t241 = true
             ·subst c69
              have H1 : (some false) = some r := by rw [if_pos rfl] at H; exact H
              clear H
              have H := H1
              clear H1
              obtain rfl := Option.some.inj H
              exact absurd hr_.out (by decide)
             ·replace c69 := Bool.eq_false_iff.mpr c69
              subst c69
              have H1 : ((cabinetrylaw09_known.f kj19).bind fun t254 => (some t254)) = some r := by rw [if_neg (show ¬ (false = true) by decide)] at H; exact H
              clear H
              have H := H1
              clear H1
              replace H := Option.bind_eq_some_iff.mp H
              obtain ⟨t254, A700, H⟩ := H
              replace H : (some t254) = some r := H
              have A70 := Aside0.mk A700
              clear A700
              obtain rfl := Option.some.inj H
              simp only [Option.some.injEq, Prod.mk.injEq] at H
              obtain ⟨rfl⟩ := H
              have hnb71 := NB232_233.out
              have hnc71 := NB233_232.out
              have hcz72_0 : wc.cell? ⟨gb232, 0, none⟩ = some (.int .i64 a1_0) := (blk_cell BK232.out 0).trans rfl
              have hcz72_1 : wc.cell? ⟨gb232, 1, none⟩ = some (.int .i64 a1_1) := (blk_cell BK232.out 1).trans rfl
              have hcz72_2 : wc.cell? ⟨gb232, 2, none⟩ = some (.string a1_2) := (blk_cell BK232.out 2).trans rfl
              have hfz72_0 := blk_frozen BK232.out 0
              have hfz72_1 := blk_frozen BK232.out 1
              have hfz72_2 := blk_frozen BK232.out 2
              go_wp2_with (first | (go_at_call 15; (with_reducible refine (cabinetrylaw09_known.calls kj19  t254 _ A70.out hr_ (Hm.keep hm_ (by repeat (first | (with_reducible first | exact HB.out | apply below_alloc | apply pw_below_drewN | apply below_drew1 | refine below_set ?_ GE232.out | refine below_set ?_ GE233.out) | exact HB.out)))).mono ?_); rintro e w73 ⟨rfl, hb⟩; have n0_ := Aside0.mk (blk_below (g := gb232) (o := .cells #[.int .i64 a1_0, .int .i64 a1_1, .string a1_2] 23 (0, 0)) (by (with_reducible repeat (first | refine blk_drewN ?_ _ | refine blk_drew ?_ | refine blk_alloc ?_ _)); exact BK232.out) hb); have n1_ := Aside0.mk (blk_below (g := gb233) (o := .cells #[.int .i64 a2_0, .int .i64 a2_1] 56 (0, 0)) (by (with_reducible repeat (first | refine blk_drewN ?_ _ | refine blk_drew ?_ | refine blk_alloc ?_ _)); exact BK233.out) hb); have n2_ := Aside0.mk (below_step (by repeat (first | (with_reducible first | exact HB.out | apply below_alloc | apply pw_below_drewN | apply below_drew1 | refine below_set ?_ GE232.out | refine below_set ?_ GE233.out) | exact HB.out)) hb); clear BK232; clear BK233; clear HB; have BK232 := n0_; have BK233 := n1_; have HB := n2_; clear n0_ n1_ n2_; (try clear hb); (try clear hb2); (try clear hk); (try clear hi)))
              go_ret
              exact ⟨by first | rfl | (simp [errW_none, errW_some] <;> rfl) | (simp [*, errW_none, errW_some] <;> rfl), by repeat (first | (with_reducible first | exact HB.out | apply below_alloc | apply pw_below_drewN | apply below_drew1 | refine below_set ?_ GE232.out | refine below_set ?_ GE233.out) | exact HB.out)⟩
            ·rw [if_neg c68] at H
             have c68b0 : (t240.toList == ([] : List UInt8)) = false := beq_eq_false_iff_ne.mpr c68
             have c68b1 : (t240.toList != ([] : List UInt8)) = true := bne_iff_ne.mpr c68
             obtain rfl := Option.some.inj H
             exact absurd hr_.out (by decide)
           ·rw [if_neg c67] at H
            have c67b0 : (t239.toList == ([] : List UInt8)) = false := beq_eq_false_iff_ne.mpr c67
            have c67b1 : (t239.toList != ([] : List UInt8)) = true := bne_iff_ne.mpr c67
            obtain rfl := Option.some.inj H
            exact absurd hr_.out (by decide)
         ·rw [if_neg c61] at H
          have c61b0 : (t242 == t243) = false := beq_eq_false_iff_ne.mpr c61
          have c61b1 : (t242 != t243) = true := bne_iff_ne.mpr c61
          obtain rfl := Option.some.inj H
          exact absurd hr_.out (by decide)
    ·rw [if_neg c19] at H
     have c19b0 : (t243 == 0) = false := beq_eq_false_iff_ne.mpr c19
     have c19b1 : (t243 != 0) = true := bne_iff_ne.mpr c19
     by_cases c74 : t242 = t243
     ·rw [if_pos c74] at H
      have c74b0 : (t242 == t243) = true := beq_iff_eq.mpr c74
      have c74b1 : (t242 != t243) = false := bne_eq_false_iff_eq.mpr c74
      clear c74
      by_cases c75 : t242 = 0
      ·rw [if_pos c75] at H
       have c75b0 : (t242 == 0) = true := beq_iff_eq.mpr c75
       have c75b1 : (t242 != 0) = false := bne_eq_false_iff_eq.mpr c75
       clear c75
       replace H := Option.bind_eq_some_iff.mp H
       obtain ⟨t255, A760, H⟩ := H
       replace H : (some t255) = some r := H
       have A76 := Aside0.mk A760
       clear A760
       obtain rfl := Option.some.inj H
       simp only [Option.some.injEq, Prod.mk.injEq] at H
       obtain ⟨rfl⟩ := H
       have hnb77 := NB232_233.out
       have hnc77 := NB233_232.out
       have hcz78_0 : wc.cell? ⟨gb232, 0, none⟩ = some (.int .i64 a1_0) := (blk_cell BK232.out 0).trans rfl
       have hcz78_1 : wc.cell? ⟨gb232, 1, none⟩ = some (.int .i64 a1_1) := (blk_cell BK232.out 1).trans rfl
       have hcz78_2 : wc.cell? ⟨gb232, 2, none⟩ = some (.string a1_2) := (blk_cell BK232.out 2).trans rfl
       have hfz78_0 := blk_frozen BK232.out 0
       have hfz78_1 := blk_frozen BK232.out 1
       have hfz78_2 := blk_frozen BK232.out 2
       have hcz79_0 : wc.cell? ⟨gb233, 0, none⟩ = some (.int .i64 a2_0) := (blk_cell BK233.out 0).trans rfl
       have hcz79_1 : wc.cell? ⟨gb233, 1, none⟩ = some (.int .i64 a2_1) := (blk_cell BK233.out 1).trans rfl
       have hfz79_0 := blk_frozen BK233.out 0
       have hfz79_1 := blk_frozen BK233.out 1
       go_wp2_with (first | ((with_reducible refine gate_callee (f := 25) rfl ?_); refine goesL_ (some 28) rfl rfl Tryd.func25 (by kernel_rfl) rfl #[.string a0, .agg #[.int .i64 a1_0, .int .i64 a1_1, .string a1_2], .bool true, .int .i64 a2_0, .int .i64 a2_1, .bool false] rfl (by (try simp only [List.map_toArray, List.map_cons, List.map_nil]); first | done | rfl | (simp only [List.length_drop, List.length_take]; rfl)) ?_; (with_reducible refine (key_Range.calls kj3 a0 a1_0 a1_1 a1_2 true a2_0 a2_1 false t239 t240 t241 t242 _ A17.out (Hm.keep hm_ (by repeat (first | (with_reducible first | exact HB.out | apply below_alloc | apply pw_below_drewN | apply below_drew1 | refine below_set ?_ GE232.out | refine below_set ?_ GE233.out) | exact HB.out)))).mono ?_); rintro e w80 ⟨rfl, hb⟩; refine ⟨_, rfl, ?_⟩; have n0_ := Aside0.mk (blk_below (g := gb232) (o := .cells #[.int .i64 a1_0, .int .i64 a1_1, .string a1_2] 23 (0, 0)) (by (with_reducible repeat (first | refine blk_drewN ?_ _ | refine blk_drew ?_ | refine blk_alloc ?_ _)); exact BK232.out) hb); have n1_ := Aside0.mk (blk_below (g := gb233) (o := .cells #[.int .i64 a2_0, .int .i64 a2_1] 56 (0, 0)) (by (with_reducible repeat (first | refine blk_drewN ?_ _ | refine blk_drew ?_ | refine blk_alloc ?_ _)); exact BK233.out) hb); have n2_ := Aside0.mk (below_step (by repeat (first | (with_reducible first | exact HB.out | apply below_alloc | apply pw_below_drewN | apply below_drew1 | refine below_set ?_ GE232.out | refine below_set ?_ GE233.out) | exact HB.out)) hb); clear BK232; clear BK233; clear HB; have BK232 := n0_; have BK233 := n1_; have HB := n2_; clear n0_ n1_ n2_; (try clear hb); (try clear hb2); (try clear hk); (try clear hi); have hcz81_0 : w80.cell? ⟨gb232, 0, none⟩ = some (.int .i64 a1_0) := (blk_cell BK232.out 0).trans rfl; have hcz81_1 : w80.cell? ⟨gb232, 1, none⟩ = some (.int .i64 a1_1) := (blk_cell BK232.out 1).trans rfl; have hcz81_2 : w80.cell? ⟨gb232, 2, none⟩ = some (.string a1_2) := (blk_cell BK232.out 2).trans rfl; have hfz81_0 := blk_frozen BK232.out 0; have hfz81_1 := blk_frozen BK232.out 1; have hfz81_2 := blk_frozen BK232.out 2) | ((with_reducible refine gate_callee (f := 26) rfl ?_); refine goesL_ (some 34) rfl rfl Tryd.func26 (by kernel_rfl) rfl #[.agg #[.int .i64 a1_0, .int .i64 a1_1, .string a1_2]] rfl (by (try simp only [List.map_toArray, List.map_cons, List.map_nil]); first | done | rfl | (simp only [List.length_drop, List.length_take]; rfl)) ?_; (with_reducible refine (cabinetryref01_Validate.calls a1_0 a1_1 a1_2 t243 _ A18.out).mono ?_); rintro e w82 ⟨rfl, hb⟩; refine ⟨_, rfl, ?_⟩; have n0_ := Aside0.mk (blk_below (g := gb232) (o := .cells #[.int .i64 a1_0, .int .i64 a1_1, .string a1_2] 23 (0, 0)) (by (with_reducible repeat (first | refine blk_drewN ?_ _ | refine blk_drew ?_ | refine blk_alloc ?_ _)); exact BK232.out) hb); have n1_ := Aside0.mk (blk_below (g := gb233) (o := .cells #[.int .i64 a2_0, .int .i64 a2_1] 56 (0, 0)) (by (with_reducible repeat (first | refine blk_drewN ?_ _ | refine blk_drew ?_ | refine blk_alloc ?_ _)); exact BK233.out) hb); have n2_ := Aside0.mk (below_step (by repeat (first | (with_reducible first | exact HB.out | apply below_alloc | apply pw_below_drewN | apply below_drew1 | refine below_set ?_ GE232.out | refine below_set ?_ GE233.out) | exact HB.out)) hb); clear BK232; clear BK233; clear HB; have BK232 := n0_; have BK233 := n1_; have HB := n2_; clear n0_ n1_ n2_; (try clear hb); (try clear hb2); (try clear hk); (try clear hi)) | (go_at_call 15; (with_reducible refine (cabinetrylaw09_known.calls kj3  t255 _ A76.out hr_ (Hm.keep hm_ (by repeat (first | (with_reducible first | exact HB.out | apply below_alloc | apply pw_below_drewN | apply below_drew1 | refine below_set ?_ GE232.out | refine below_set ?_ GE233.out) | exact HB.out)))).mono ?_); rintro e w83 ⟨rfl, hb⟩; have n0_ := Aside0.mk (blk_below (g := gb232) (o := .cells #[.int .i64 a1_0, .int .i64 a1_1, .string a1_2] 23 (0, 0)) (by (with_reducible repeat (first | refine blk_drewN ?_ _ | refine blk_drew ?_ | refine blk_alloc ?_ _)); exact BK232.out) hb); have n1_ := Aside0.mk (blk_below (g := gb233) (o := .cells #[.int .i64 a2_0, .int .i64 a2_1] 56 (0, 0)) (by (with_reducible repeat (first | refine blk_drewN ?_ _ | refine blk_drew ?_ | refine blk_alloc ?_ _)); exact BK233.out) hb); have n2_ := Aside0.mk (below_step (by repeat (first | (with_reducible first | exact HB.out | apply below_alloc | apply pw_below_drewN | apply below_drew1 | refine below_set ?_ GE232.out | refine below_set ?_ GE233.out) | exact HB.out)) hb); clear BK232; clear BK233; clear HB; have BK232 := n0_; have BK233 := n1_; have HB := n2_; clear n0_ n1_ n2_; (try clear hb); (try clear hb2); (try clear hk); (try clear hi)))
       go_ret
       exact ⟨by first | rfl | (simp [errW_none, errW_some] <;> rfl) | (simp [*, errW_none, errW_some] <;> rfl), by repeat (first | (with_reducible first | exact HB.out | apply below_alloc | apply pw_below_drewN | apply below_drew1 | refine below_set ?_ GE232.out | refine below_set ?_ GE233.out) | exact HB.out)⟩
      ·rw [if_neg c75] at H
       have c75b0 : (t242 == 0) = false := beq_eq_false_iff_ne.mpr c75
       have c75b1 : (t242 != 0) = true := bne_iff_ne.mpr c75
       by_cases c84 : t239.toList = ([] : List UInt8)
       ·rw [if_pos c84] at H
        have c84b0 : (t239.toList == ([] : List UInt8)) = true := beq_iff_eq.mpr c84
        have c84b1 : (t239.toList != ([] : List UInt8)) = false := bne_eq_false_iff_eq.mpr c84
        clear c84
        by_cases c85 : t240.toList = ([] : List UInt8)
        ·rw [if_pos c85] at H
         have c85b0 : (t240.toList == ([] : List UInt8)) = true := beq_iff_eq.mpr c85
         have c85b1 : (t240.toList != ([] : List UInt8)) = false := bne_eq_false_iff_eq.mpr c85
         clear c85
         by_cases c86 : t241 = true
         ·subst c86
          have H1 : (some false) = some r := by rw [if_pos rfl] at H; exact H
          clear H
          have H := H1
          clear H1
          obtain rfl := Option.some.inj H
          exact absurd hr_.out (by decide)
         ·replace c86 := Bool.eq_false_iff.mpr c86
          subst c86
          have H1 : ((cabinetrylaw09_known.f kj3).bind fun t256 => (some t256)) = some r := by rw [if_neg (show ¬ (false = true) by decide)] at H; exact H
          clear H
          have H := H1
          clear H1
          replace H := Option.bind_eq_some_iff.mp H
          obtain ⟨t256, A870, H⟩ := H
          replace H : (some t256) = some r := H
          have A87 := Aside0.mk A870
          clear A870
          obtain rfl := Option.some.inj H
          simp only [Option.some.injEq, Prod.mk.injEq] at H
          obtain ⟨rfl⟩ := H
          have hnb88 := NB232_233.out
          have hnc88 := NB233_232.out
          have hcz89_0 : wc.cell? ⟨gb232, 0, none⟩ = some (.int .i64 a1_0) := (blk_cell BK232.out 0).trans rfl
          have hcz89_1 : wc.cell? ⟨gb232, 1, none⟩ = some (.int .i64 a1_1) := (blk_cell BK232.out 1).trans rfl
          have hcz89_2 : wc.cell? ⟨gb232, 2, none⟩ = some (.string a1_2) := (blk_cell BK232.out 2).trans rfl
          have hfz89_0 := blk_frozen BK232.out 0
          have hfz89_1 := blk_frozen BK232.out 1
          have hfz89_2 := blk_frozen BK232.out 2
          have hcz90_0 : wc.cell? ⟨gb233, 0, none⟩ = some (.int .i64 a2_0) := (blk_cell BK233.out 0).trans rfl
          have hcz90_1 : wc.cell? ⟨gb233, 1, none⟩ = some (.int .i64 a2_1) := (blk_cell BK233.out 1).trans rfl
          have hfz90_0 := blk_frozen BK233.out 0
          have hfz90_1 := blk_frozen BK233.out 1
          go_wp2_with (first | ((with_reducible refine gate_callee (f := 25) rfl ?_); refine goesL_ (some 28) rfl rfl Tryd.func25 (by kernel_rfl) rfl #[.string a0, .agg #[.int .i64 a1_0, .int .i64 a1_1, .string a1_2], .bool true, .int .i64 a2_0, .int .i64 a2_1, .bool false] rfl (by (try simp only [List.map_toArray, List.map_cons, List.map_nil]); first | done | rfl | (simp only [List.length_drop, List.length_take]; rfl)) ?_; (with_reducible refine (key_Range.calls kj3 a0 a1_0 a1_1 a1_2 true a2_0 a2_1 false t239 t240 false t242 _ A17.out (Hm.keep hm_ (by repeat (first | (with_reducible first | exact HB.out | apply below_alloc | apply pw_below_drewN | apply below_drew1 | refine below_set ?_ GE232.out | refine below_set ?_ GE233.out) | exact HB.out)))).mono ?_); rintro e w91 ⟨rfl, hb⟩; refine ⟨_, rfl, ?_⟩; have n0_ := Aside0.mk (blk_below (g := gb232) (o := .cells #[.int .i64 a1_0, .int .i64 a1_1, .string a1_2] 23 (0, 0)) (by (with_reducible repeat (first | refine blk_drewN ?_ _ | refine blk_drew ?_ | refine blk_alloc ?_ _)); exact BK232.out) hb); have n1_ := Aside0.mk (blk_below (g := gb233) (o := .cells #[.int .i64 a2_0, .int .i64 a2_1] 56 (0, 0)) (by (with_reducible repeat (first | refine blk_drewN ?_ _ | refine blk_drew ?_ | refine blk_alloc ?_ _)); exact BK233.out) hb); have n2_ := Aside0.mk (below_step (by repeat (first | (with_reducible first | exact HB.out | apply below_alloc | apply pw_below_drewN | apply below_drew1 | refine below_set ?_ GE232.out | refine below_set ?_ GE233.out) | exact HB.out)) hb); clear BK232; clear BK233; clear HB; have BK232 := n0_; have BK233 := n1_; have HB := n2_; clear n0_ n1_ n2_; (try clear hb); (try clear hb2); (try clear hk); (try clear hi); have hcz92_0 : w91.cell? ⟨gb232, 0, none⟩ = some (.int .i64 a1_0) := (blk_cell BK232.out 0).trans rfl; have hcz92_1 : w91.cell? ⟨gb232, 1, none⟩ = some (.int .i64 a1_1) := (blk_cell BK232.out 1).trans rfl; have hcz92_2 : w91.cell? ⟨gb232, 2, none⟩ = some (.string a1_2) := (blk_cell BK232.out 2).trans rfl; have hfz92_0 := blk_frozen BK232.out 0; have hfz92_1 := blk_frozen BK232.out 1; have hfz92_2 := blk_frozen BK232.out 2) | ((with_reducible refine gate_callee (f := 26) rfl ?_); refine goesL_ (some 34) rfl rfl Tryd.func26 (by kernel_rfl) rfl #[.agg #[.int .i64 a1_0, .int .i64 a1_1, .string a1_2]] rfl (by (try simp only [List.map_toArray, List.map_cons, List.map_nil]); first | done | rfl | (simp only [List.length_drop, List.length_take]; rfl)) ?_; (with_reducible refine (cabinetryref01_Validate.calls a1_0 a1_1 a1_2 t243 _ A18.out).mono ?_); rintro e w93 ⟨rfl, hb⟩; refine ⟨_, rfl, ?_⟩; have n0_ := Aside0.mk (blk_below (g := gb232) (o := .cells #[.int .i64 a1_0, .int .i64 a1_1, .string a1_2] 23 (0, 0)) (by (with_reducible repeat (first | refine blk_drewN ?_ _ | refine blk_drew ?_ | refine blk_alloc ?_ _)); exact BK232.out) hb); have n1_ := Aside0.mk (blk_below (g := gb233) (o := .cells #[.int .i64 a2_0, .int .i64 a2_1] 56 (0, 0)) (by (with_reducible repeat (first | refine blk_drewN ?_ _ | refine blk_drew ?_ | refine blk_alloc ?_ _)); exact BK233.out) hb); have n2_ := Aside0.mk (below_step (by repeat (first | (with_reducible first | exact HB.out | apply below_alloc | apply pw_below_drewN | apply below_drew1 | refine below_set ?_ GE232.out | refine below_set ?_ GE233.out) | exact HB.out)) hb); clear BK232; clear BK233; clear HB; have BK232 := n0_; have BK233 := n1_; have HB := n2_; clear n0_ n1_ n2_; (try clear hb); (try clear hb2); (try clear hk); (try clear hi)) | (go_at_call 15; (with_reducible refine (cabinetrylaw09_known.calls kj3  t256 _ A87.out hr_ (Hm.keep hm_ (by repeat (first | (with_reducible first | exact HB.out | apply below_alloc | apply pw_below_drewN | apply below_drew1 | refine below_set ?_ GE232.out | refine below_set ?_ GE233.out) | exact HB.out)))).mono ?_); rintro e w94 ⟨rfl, hb⟩; have n0_ := Aside0.mk (blk_below (g := gb232) (o := .cells #[.int .i64 a1_0, .int .i64 a1_1, .string a1_2] 23 (0, 0)) (by (with_reducible repeat (first | refine blk_drewN ?_ _ | refine blk_drew ?_ | refine blk_alloc ?_ _)); exact BK232.out) hb); have n1_ := Aside0.mk (blk_below (g := gb233) (o := .cells #[.int .i64 a2_0, .int .i64 a2_1] 56 (0, 0)) (by (with_reducible repeat (first | refine blk_drewN ?_ _ | refine blk_drew ?_ | refine blk_alloc ?_ _)); exact BK233.out) hb); have n2_ := Aside0.mk (below_step (by repeat (first | (with_reducible first | exact HB.out | apply below_alloc | apply pw_below_drewN | apply below_drew1 | refine below_set ?_ GE232.out | refine below_set ?_ GE233.out) | exact HB.out)) hb); clear BK232; clear BK233; clear HB; have BK232 := n0_; have BK233 := n1_; have HB := n2_; clear n0_ n1_ n2_; (try clear hb); (try clear hb2); (try clear hk); (try clear hi)))
          go_ret
          exact ⟨by first | rfl | (simp [errW_none, errW_some] <;> rfl) | (simp [*, errW_none, errW_some] <;> rfl), by repeat (first | (with_reducible first | exact HB.out | apply below_alloc | apply pw_below_drewN | apply below_drew1 | refine below_set ?_ GE232.out | refine below_set ?_ GE233.out) | exact HB.out)⟩
        ·rw [if_neg c85] at H
         have c85b0 : (t240.toList == ([] : List UInt8)) = false := beq_eq_false_iff_ne.mpr c85
         have c85b1 : (t240.toList != ([] : List UInt8)) = true := bne_iff_ne.mpr c85
         obtain rfl := Option.some.inj H
         exact absurd hr_.out (by decide)
       ·rw [if_neg c84] at H
        have c84b0 : (t239.toList == ([] : List UInt8)) = false := beq_eq_false_iff_ne.mpr c84
        have c84b1 : (t239.toList != ([] : List UInt8)) = true := bne_iff_ne.mpr c84
        obtain rfl := Option.some.inj H
        exact absurd hr_.out (by decide)
     ·rw [if_neg c74] at H
      have c74b0 : (t242 == t243) = false := beq_eq_false_iff_ne.mpr c74
      have c74b1 : (t242 != t243) = true := bne_iff_ne.mpr c74
      obtain rfl := Option.some.inj H
      exact absurd hr_.out (by decide)
end Go.Proofs.YtnkejhfbkgfedaaDoor.PB
