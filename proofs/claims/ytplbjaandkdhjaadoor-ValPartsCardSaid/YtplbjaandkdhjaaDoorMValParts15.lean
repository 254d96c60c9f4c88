/-
  ValParts of package cabinetry/cabinetrylaw01: for every input the call returns true, and each argument reads afterwards as it read before. Conditions: the package-level variables that the row lists (of unicode/utf8) hold what the program's text lays, which the card ties; nothing else.
-/
-- Written by a program of this session (wip/merge.py): the texts of this claim, joined.
import Derived.Test.YtplbjaandkdhjaaDoorRows
import Derived.Test.YtplbjaandkdhjaaDoorCards
import Derived.Test.YtplbjaandkdhjaaDoorTie
import Derived.WalkKit
import Derived.ProofKit
import Derived.OpenShut
import Derived.ShutString
import Derived.ChangeOld
import Derived.Below
import Derived.SizedLaws
import Derived.LaidMore
import Derived.Lay
import Derived.SevenTiedAt
import Derived.Stop.Joined
import Derived.Test.YtplbjaandkdhjaaDoorMValParts0
import Derived.Test.YtplbjaandkdhjaaDoorMValParts1
import Derived.Test.YtplbjaandkdhjaaDoorMValParts2
import Derived.Test.YtplbjaandkdhjaaDoorMValParts3
import Derived.Test.YtplbjaandkdhjaaDoorMValParts4
import Derived.Test.YtplbjaandkdhjaaDoorMValParts5
import Derived.Test.YtplbjaandkdhjaaDoorMValParts6
import Derived.Test.YtplbjaandkdhjaaDoorMValParts7
import Derived.Test.YtplbjaandkdhjaaDoorMValParts8
import Derived.Test.YtplbjaandkdhjaaDoorMValParts9
import Derived.Test.YtplbjaandkdhjaaDoorMValParts10
import Derived.Test.YtplbjaandkdhjaaDoorMValParts11
import Derived.Test.YtplbjaandkdhjaaDoorMValParts12
import Derived.Test.YtplbjaandkdhjaaDoorMValParts13
import Derived.Test.YtplbjaandkdhjaaDoorMValParts14
namespace Go.Proofs.YtplbjaandkdhjaaDoor.PA
end Go.Proofs.YtplbjaandkdhjaaDoor.PA
namespace Go.Proofs.YtplbjaandkdhjaaDoor.PB
end Go.Proofs.YtplbjaandkdhjaaDoor.PB
namespace Go.Proofs.YtplbjaandkdhjaaDoor.PC
end Go.Proofs.YtplbjaandkdhjaaDoor.PC
namespace Go.Proofs.YtplbjaandkdhjaaDoor.H1
end Go.Proofs.YtplbjaandkdhjaaDoor.H1
namespace Go.Proofs.YtplbjaandkdhjaaDoor.L1
end Go.Proofs.YtplbjaandkdhjaaDoor.L1
namespace Go.Proofs.YtplbjaandkdhjaaDoor.PC
open Go.RowKit Go.Proofs.YtplbjaandkdhjaaDoorW.PrintWords Go.Proofs.YtplbjaandkdhjaaDoorW.PrintLast Go.Proofs.YtplbjaandkdhjaaDoorW.PrintMore Go.Proofs.YtplbjaandkdhjaaDoor.PA Go.Proofs.YtplbjaandkdhjaaDoor.H1 Go.Proofs.YtplbjaandkdhjaaDoor.PB
attribute [local go_sem] max2_int min2_int max_two min_two max_three min_three max_four min_four   -- for this text's walks alone
set_option linter.unusedVariables false
set_option linter.unusedSimpArgs false
def cabinetrylaw01_ValParts.f (k : Nat) (a0_0 : ByteArray) (a0_1 : ByteArray) (a1 : Int) (a2 : Int) : Option (Bool) := if (wrap64 ((a0_0.size : Int) + (a0_1.size : Int))) > 20000 then ((cabinetrylaw01_known.f k).bind fun t208 => (some t208)) else ((val_Part.f k a0_0 a1 a2).bind fun bt209 => ((cabinetryref01_Part.f a0_0 a1 a2).bind fun bt211 => ((val_Stuff.f k a0_0 a1 a2 a0_1).bind fun bt213 => ((cabinetryref01_Stuff.f k a0_0 a1 a2 a0_1).bind fun bt215 => (if bt209.1.toList = bt211.1.toList then (if bt209.2 = bt211.2 then (if bt213.1.toList = bt215.1.toList then (if bt213.2 = bt215.2 then ((val_At.f a0_1 a0_0).bind fun t217 => ((cabinetryref01_At.f k a0_1 a0_0).bind fun t218 => (if t217 = t218 then ((cabinetrylaw01_known.f k).bind fun t219 => (some t219)) else (some false)))) else (some false)) else (some false)) else (some false)) else (some false))))))
set_option maxHeartbeats 8000000 in
set_option maxRecDepth 100000 in
theorem cabinetrylaw01_ValParts.calls (k : Nat) (a0_0 : ByteArray) (a0_1 : ByteArray) (a1 : Int) (a2 : Int) (r : Bool) (w : World) (h : cabinetrylaw01_ValParts.f k a0_0 a0_1 a1 a2 = some r) (hr_ : Aside0 (r = true)) (hm_ : Aside0 (Hm.HM w)) :
  Calls Tryd.prog 9 #[.agg #[.string a0_0, .string a0_1], .int .i64 a1, .int .i64 a2] w fun e w' => e = .returned (.bool r) ∧ Below w.heap.size w w' := by
 have hu41 := Tryd.underlying41
 have HB := Aside0.mk (Below.refl w.heap.size w)
 have H : (if (wrap64 ((a0_0.size : Int) + (a0_1.size : Int))) > 20000 then ((cabinetrylaw01_known.f k).bind fun t208 => (some t208)) else ((val_Part.f k a0_0 a1 a2).bind fun bt209 => ((cabinetryref01_Part.f a0_0 a1 a2).bind fun bt211 => ((val_Stuff.f k a0_0 a1 a2 a0_1).bind fun bt213 => ((cabinetryref01_Stuff.f k a0_0 a1 a2 a0_1).bind fun bt215 => (if bt209.1.toList = bt211.1.toList then (if bt209.2 = bt211.2 then (if bt213.1.toList = bt215.1.toList then (if bt213.2 = bt215.2 then ((val_At.f a0_1 a0_0).bind fun t217 => ((cabinetryref01_At.f k a0_1 a0_0).bind fun t218 => (if t217 = t218 then ((cabinetrylaw01_known.f k).bind fun t219 => (some t219)) else (some false)))) else (some false)) else (some false)) else (some false)) else (some false))))))) = some r := h
 clear h
 by_cases c4 : (wrap64 ((a0_0.size : Int) + (a0_1.size : Int))) > 20000
 ·rw [if_pos c4] at H
  have c4b0 : decide (20000 < (wrap64 ((a0_0.size : Int) + (a0_1.size : Int)))) = true := decide_eq_true c4
  clear c4
  replace H := Option.bind_eq_some_iff.mp H
  obtain ⟨t208, A50, H⟩ := H
  replace H : (some t208) = some r := H
  have A5 := Aside0.mk A50
  clear A50
  obtain rfl := Option.some.inj H
  simp only [Option.some.injEq, Prod.mk.injEq] at H
  obtain ⟨rfl⟩ := H
  go_enter Tryd.func9, Tryd.ntmps9
  go_wp2_with (first | ((with_reducible refine gate_dst (N := 3) rfl ?_); refine box_event ?hg (N := 3) ?hd (cs := #[.string a0_0, .string a0_1]) (t := 41) ?hr ?_; (case hd => rfl); (case hg => rfl); (case hr => first | (go_simp; done) | (go_simp; rfl)); intro gb207 hg w6 hbox hb; have n0_ := Aside0.mk (below_step (by repeat (first | (with_reducible first | exact HB.out | apply below_alloc | apply pw_below_drewN | apply below_drew1) | exact HB.out)) hb); have n1_ := Aside0.mk (hbox); have n2_ := Aside0.mk ((by rw [hg]; exact (below_size (by repeat (first | (with_reducible first | exact HB.out | apply below_alloc | apply pw_below_drewN | apply below_drew1) | exact HB.out))) : w.heap.size ≤ gb207)); have n3_ := Aside0.mk ((by rw [hg]; exact (below_size (by repeat (first | (with_reducible first | exact HB.out | apply below_alloc | apply pw_below_drewN | apply below_drew1) | exact HB.out))) : w.heap.size ≤ gb207)); clear HB; have HB := n0_; have BK207 := n1_; have GW207 := n2_; have GE207 := n3_; clear n0_ n1_ n2_ n3_; clear hb hbox hg; have hcz7_0 : w6.cell? ⟨gb207, 0, none⟩ = some (.string a0_0) := (blk_cell BK207.out 0).trans rfl; have hcz7_1 : w6.cell? ⟨gb207, 1, none⟩ = some (.string a0_1) := (blk_cell BK207.out 1).trans rfl; have hfz7_0 := blk_frozen BK207.out 0; have hfz7_1 := blk_frozen BK207.out 1) | (go_at_call 16; (with_reducible refine (cabinetrylaw01_known.calls k  t208 _ A5.out hr_).mono ?_); rintro e w8 ⟨rfl, hb⟩; have n0_ := Aside0.mk (blk_below (g := gb207) (o := .cells #[.string a0_0, .string a0_1] 41 (0, 0)) (by (with_reducible repeat (first | refine blk_drewN ?_ _ | refine blk_drew ?_ | refine blk_alloc ?_ _)); exact BK207.out) hb); have n1_ := Aside0.mk (below_step (by repeat (first | (with_reducible first | exact HB.out | apply below_alloc | apply pw_below_drewN | apply below_drew1 | refine below_set ?_ GE207.out) | exact HB.out)) hb); clear BK207; clear HB; have BK207 := n0_; have HB := n1_; clear n0_ n1_; (try clear hb); (try clear hb2); (try clear hk); (try clear hi)))
  repeat (go_quiet (first | ((with_reducible refine gate_dst (N := 3) rfl ?_); refine box_event ?hg (N := 3) ?hd (cs := #[.string a0_0, .string a0_1]) (t := 41) ?hr ?_; (case hd => rfl); (case hg => rfl); (case hr => first | (go_simp; done) | (go_simp; rfl)); intro gb207 hg w6 hbox hb; have n0_ := Aside0.mk (below_step (by repeat (first | (with_reducible first | exact HB.out | apply below_alloc | apply pw_below_drewN | apply below_drew1) | exact HB.out)) hb); have n1_ := Aside0.mk (hbox); have n2_ := Aside0.mk ((by rw [hg]; exact (below_size (by repeat (first | (with_reducible first | exact HB.out | apply below_alloc | apply pw_below_drewN | apply below_drew1) | exact HB.out))) : w.heap.size ≤ gb207)); have n3_ := Aside0.mk ((by rw [hg]; exact (below_size (by repeat (first | (with_reducible first | exact HB.out | apply below_alloc | apply pw_below_drewN | apply below_drew1) | exact HB.out))) : w.heap.size ≤ gb207)); clear HB; have HB := n0_; have BK207 := n1_; have GW207 := n2_; have GE207 := n3_; clear n0_ n1_ n2_ n3_; clear hb hbox hg; have hcz7_0 : w6.cell? ⟨gb207, 0, none⟩ = some (.string a0_0) := (blk_cell BK207.out 0).trans rfl; have hcz7_1 : w6.cell? ⟨gb207, 1, none⟩ = some (.string a0_1) := (blk_cell BK207.out 1).trans rfl; have hfz7_0 := blk_frozen BK207.out 0; have hfz7_1 := blk_frozen BK207.out 1) | (go_at_call 16; (with_reducible refine (cabinetrylaw01_known.calls k  t208 _ A5.out hr_).mono ?_); rintro e w8 ⟨rfl, hb⟩; have n0_ := Aside0.mk (blk_below (g := gb207) (o := .cells #[.string a0_0, .string a0_1] 41 (0, 0)) (by (with_reducible repeat (first | refine blk_drewN ?_ _ | refine blk_drew ?_ | refine blk_alloc ?_ _)); exact BK207.out) hb); have n1_ := Aside0.mk (below_step (by repeat (first | (with_reducible first | exact HB.out | apply below_alloc | apply pw_below_drewN | apply below_drew1 | refine below_set ?_ GE207.out) | exact HB.out)) hb); clear BK207; clear HB; have BK207 := n0_; have HB := n1_; clear n0_ n1_; (try clear hb); (try clear hb2); (try clear hk); (try clear hi))); try go_wp2_with (first | ((with_reducible refine gate_dst (N := 3) rfl ?_); refine box_event ?hg (N := 3) ?hd (cs := #[.string a0_0, .string a0_1]) (t := 41) ?hr ?_; (case hd => rfl); (case hg => rfl); (case hr => first | (go_simp; done) | (go_simp; rfl)); intro gb207 hg w6 hbox hb; have n0_ := Aside0.mk (below_step (by repeat (first | (with_reducible first | exact HB.out | apply below_alloc | apply pw_below_drewN | apply below_drew1) | exact HB.out)) hb); have n1_ := Aside0.mk (hbox); have n2_ := Aside0.mk ((by rw [hg]; exact (below_size (by repeat (first | (with_reducible first | exact HB.out | apply below_alloc | apply pw_below_drewN | apply below_drew1) | exact HB.out))) : w.heap.size ≤ gb207)); have n3_ := Aside0.mk ((by rw [hg]; exact (below_size (by repeat (first | (with_reducible first | exact HB.out | apply below_alloc | apply pw_below_drewN | apply below_drew1) | exact HB.out))) : w.heap.size ≤ gb207)); clear HB; have HB := n0_; have BK207 := n1_; have GW207 := n2_; have GE207 := n3_; clear n0_ n1_ n2_ n3_; clear hb hbox hg; have hcz7_0 : w6.cell? ⟨gb207, 0, none⟩ = some (.string a0_0) := (blk_cell BK207.out 0).trans rfl; have hcz7_1 : w6.cell? ⟨gb207, 1, none⟩ = some (.string a0_1) := (blk_cell BK207.out 1).trans rfl; have hfz7_0 := blk_frozen BK207.out 0; have hfz7_1 := blk_frozen BK207.out 1) | (go_at_call 16; (with_reducible refine (cabinetrylaw01_known.calls k  t208 _ A5.out hr_).mono ?_); rintro e w8 ⟨rfl, hb⟩; have n0_ := Aside0.mk (blk_below (g := gb207) (o := .cells #[.string a0_0, .string a0_1] 41 (0, 0)) (by (with_reducible repeat (first | refine blk_drewN ?_ _ | refine blk_drew ?_ | refine blk_alloc ?_ _)); exact BK207.out) hb); have n1_ := Aside0.mk (below_step (by repeat (first | (with_reducible first | exact HB.out | apply below_alloc | apply pw_below_drewN | apply below_drew1 | refine below_set ?_ GE207.out) | exact HB.out)) hb); clear BK207; clear HB; have BK207 := n0_; have HB := n1_; clear n0_ n1_; (try clear hb); (try clear hb2); (try clear hk); (try clear hi))))
  go_ret
  exact ⟨by first | rfl | (simp [errW_none, errW_some] <;> rfl) | (simp [*, errW_none, errW_some] <;> rfl), by repeat (first | (with_reducible first | exact HB.out | apply below_alloc | apply pw_below_drewN | apply below_drew1 | refine below_set ?_ GE207.out) | exact HB.out)⟩
 ·rw [if_neg c4] at H
  have c4b0 : decide (20000 < (wrap64 ((a0_0.size : Int) + (a0_1.size : Int)))) = false := decide_eq_false c4
  clear c4
  replace H := Option.bind_eq_some_iff.mp H
  obtain ⟨⟨t209, t210⟩, A90, H⟩ := H
  replace H : ((cabinetryref01_Part.f a0_0 a1 a2).bind fun bt211 => ((val_Stuff.f k a0_0 a1 a2 a0_1).bind fun bt213 => ((cabinetryref01_Stuff.f k a0_0 a1 a2 a0_1).bind fun bt215 => (if t209.toList = bt211.1.toList then (if t210 = bt211.2 then (if bt213.1.toList = bt215.1.toList then (if bt213.2 = bt215.2 then ((val_At.f a0_1 a0_0).bind fun t217 => ((cabinetryref01_At.f k a0_1 a0_0).bind fun t218 => (if t217 = t218 then ((cabinetrylaw01_known.f k).bind fun t219 => (some t219)) else (some false)))) else (some false)) else (some false)) else (some false)) else (some false))))) = some r := H
  have A9 := Aside0.mk A90
  clear A90
  replace H := Option.bind_eq_some_iff.mp H
  obtain ⟨⟨t211, t212⟩, A100, H⟩ := H
  replace H : ((val_Stuff.f k a0_0 a1 a2 a0_1).bind fun bt213 => ((cabinetryref01_Stuff.f k a0_0 a1 a2 a0_1).bind fun bt215 => (if t209.toList = t211.toList then (if t210 = t212 then (if bt213.1.toList = bt215.1.toList then (if bt213.2 = bt215.2 then ((val_At.f a0_1 a0_0).bind fun t217 => ((cabinetryref01_At.f k a0_1 a0_0).bind fun t218 => (if t217 = t218 then ((cabinetrylaw01_known.f k).bind fun t219 => (some t219)) else (some false)))) else (some false)) else (some false)) else (some false)) else (some false)))) = some r := H
  have A10 := Aside0.mk A100
  clear A100
  replace H := Option.bind_eq_some_iff.mp H
  obtain ⟨⟨t213, t214⟩, A110, H⟩ := H
  replace H : ((cabinetryref01_Stuff.f k a0_0 a1 a2 a0_1).bind fun bt215 => (if t209.toList = t211.toList then (if t210 = t212 then (if t213.toList = bt215.1.toList then (if t214 = bt215.2 then ((val_At.f a0_1 a0_0).bind fun t217 => ((cabinetryref01_At.f k a0_1 a0_0).bind fun t218 => (if t217 = t218 then ((cabinetrylaw01_known.f k).bind fun t219 => (some t219)) else (some false)))) else (some false)) else (some false)) else (some false)) else (some false))) = some r := H
  have A11 := Aside0.mk A110
  clear A110
  replace H := Option.bind_eq_some_iff.mp H
  obtain ⟨⟨t215, t216⟩, A120, H⟩ := H
  replace H : (if t209.toList = t211.toList then (if t210 = t212 then (if t213.toList = t215.toList then (if t214 = t216 then ((val_At.f a0_1 a0_0).bind fun t217 => ((cabinetryref01_At.f k a0_1 a0_0).bind fun t218 => (if t217 = t218 then ((cabinetrylaw01_known.f k).bind fun t219 => (some t219)) else (some false)))) else (some false)) else (some false)) else (some false)) else (some false)) = some r := H
  have A12 := Aside0.mk A120
  clear A120
  by_cases c13 : t209.toList = t211.toList
  ·rw [if_pos c13] at H
   have c13b0 : (t209.toList == t211.toList) = true := beq_iff_eq.mpr c13
   have c13b1 : (t209.toList != t211.toList) = false := bne_eq_false_iff_eq.mpr c13
   clear c13
   by_cases c14 : t210 = t212
   ·rw [if_pos c14] at H
    have c14b0 : (t210 == t212) = true := beq_iff_eq.mpr c14
    have c14b1 : (t210 != t212) = false := bne_eq_false_iff_eq.mpr c14
    clear c14
    by_cases c15 : t213.toList = t215.toList
    ·rw [if_pos c15] at H
     have c15b0 : (t213.toList == t215.toList) = true := beq_iff_eq.mpr c15
     have c15b1 : (t213.toList != t215.toList) = false := bne_eq_false_iff_eq.mpr c15
     clear c15
     by_cases c16 : t214 = t216
     ·rw [if_pos c16] at H
      have c16b0 : (t214 == t216) = true := beq_iff_eq.mpr c16
      have c16b1 : (t214 != t216) = false := bne_eq_false_iff_eq.mpr c16
      clear c16
      replace H := Option.bind_eq_some_iff.mp H
      obtain ⟨t217, A170, H⟩ := H
      replace H : ((cabinetryref01_At.f k a0_1 a0_0).bind fun t218 => (if t217 = t218 then ((cabinetrylaw01_known.f k).bind fun t219 => (some t219)) else (some false))) = some r := H
      have A17 := Aside0.mk A170
      clear A170
      replace H := Option.bind_eq_some_iff.mp H
      obtain ⟨t218, A180, H⟩ := H
      replace H : (if t217 = t218 then ((cabinetrylaw01_known.f k).bind fun t219 => (some t219)) else (some false)) = some r := H
      have A18 := Aside0.mk A180
      clear A180
      by_cases c19 : t217 = t218
      ·rw [if_pos c19] at H
       have c19b0 : (t217 == t218) = true := beq_iff_eq.mpr c19
       have c19b1 : (t217 != t218) = false := bne_eq_false_iff_eq.mpr c19
       clear c19
       replace H := Option.bind_eq_some_iff.mp H
       obtain ⟨t219, A200, H⟩ := H
       replace H : (some t219) = some r := H
       have A20 := Aside0.mk A200
       clear A200
       obtain rfl := Option.some.inj H
       simp only [Option.some.injEq, Prod.mk.injEq] at H
       obtain ⟨rfl⟩ := H
       go_enter Tryd.func9, Tryd.ntmps9
       go_wp2_with (first | ((with_reducible refine gate_dst (N := 3) rfl ?_); refine box_event ?hg (N := 3) ?hd (cs := #[.string a0_0, .string a0_1]) (t := 41) ?hr ?_; (case hd => rfl); (case hg => rfl); (case hr => first | (go_simp; done) | (go_simp; rfl)); intro gb207 hg w21 hbox hb; have n0_ := Aside0.mk (below_step (by repeat (first | (with_reducible first | exact HB.out | apply below_alloc | apply pw_below_drewN | apply below_drew1) | exact HB.out)) hb); have n1_ := Aside0.mk (hbox); have n2_ := Aside0.mk ((by rw [hg]; exact (below_size (by repeat (first | (with_reducible first | exact HB.out | apply below_alloc | apply pw_below_drewN | apply below_drew1) | exact HB.out))) : w.heap.size ≤ gb207)); have n3_ := Aside0.mk ((by rw [hg]; exact (below_size (by repeat (first | (with_reducible first | exact HB.out | apply below_alloc | apply pw_below_drewN | apply below_drew1) | exact HB.out))) : w.heap.size ≤ gb207)); clear HB; have HB := n0_; have BK207 := n1_; have GW207 := n2_; have GE207 := n3_; clear n0_ n1_ n2_ n3_; clear hb hbox hg; have hcz22_0 : w21.cell? ⟨gb207, 0, none⟩ = some (.string a0_0) := (blk_cell BK207.out 0).trans rfl; have hcz22_1 : w21.cell? ⟨gb207, 1, none⟩ = some (.string a0_1) := (blk_cell BK207.out 1).trans rfl; have hfz22_0 := blk_frozen BK207.out 0; have hfz22_1 := blk_frozen BK207.out 1) | (go_at_call 29; (with_reducible refine (val_Part.calls k a0_0 a1 a2 t209 t210 _ A9.out).mono ?_); rintro e w23 ⟨rfl, hb⟩; have n0_ := Aside0.mk (blk_below (g := gb207) (o := .cells #[.string a0_0, .string a0_1] 41 (0, 0)) (by (with_reducible repeat (first | refine blk_drewN ?_ _ | refine blk_drew ?_ | refine blk_alloc ?_ _)); exact BK207.out) hb); have n1_ := Aside0.mk (below_step (by repeat (first | (with_reducible first | exact HB.out | apply below_alloc | apply pw_below_drewN | apply below_drew1 | refine below_set ?_ GE207.out) | exact HB.out)) hb); clear BK207; clear HB; have BK207 := n0_; have HB := n1_; clear n0_ n1_; (try clear hb); (try clear hb2); (try clear hk); (try clear hi)) | (go_at_call 30; (with_reducible refine (cabinetryref01_Part.calls a0_0 a1 a2 t211 t212 _ A10.out).mono ?_); rintro e w24 ⟨rfl, hb⟩; have n0_ := Aside0.mk (blk_below (g := gb207) (o := .cells #[.string a0_0, .string a0_1] 41 (0, 0)) (by (with_reducible repeat (first | refine blk_drewN ?_ _ | refine blk_drew ?_ | refine blk_alloc ?_ _)); exact BK207.out) hb); have n1_ := Aside0.mk (below_step (by repeat (first | (with_reducible first | exact HB.out | apply below_alloc | apply pw_below_drewN | apply below_drew1 | refine below_set ?_ GE207.out) | exact HB.out)) hb); clear BK207; clear HB; have BK207 := n0_; have HB := n1_; clear n0_ n1_; (try clear hb); (try clear hb2); (try clear hk); (try clear hi)) | (go_at_call 31; (with_reducible refine (val_Stuff.calls k a0_0 a1 a2 a0_1 t213 t214 _ A11.out).mono ?_); rintro e w25 ⟨rfl, hb⟩; have n0_ := Aside0.mk (blk_below (g := gb207) (o := .cells #[.string a0_0, .string a0_1] 41 (0, 0)) (by (with_reducible repeat (first | refine blk_drewN ?_ _ | refine blk_drew ?_ | refine blk_alloc ?_ _)); exact BK207.out) hb); have n1_ := Aside0.mk (below_step (by repeat (first | (with_reducible first | exact HB.out | apply below_alloc | apply pw_below_drewN | apply below_drew1 | refine below_set ?_ GE207.out) | exact HB.out)) hb); clear BK207; clear HB; have BK207 := n0_; have HB := n1_; clear n0_ n1_; (try clear hb); (try clear hb2); (try clear hk); (try clear hi)) | (go_at_call 32; (with_reducible refine (cabinetryref01_Stuff.calls k a0_0 a1 a2 a0_1 t215 t216 _ A12.out).mono ?_); rintro e w26 ⟨rfl, hb⟩; have n0_ := Aside0.mk (blk_below (g := gb207) (o := .cells #[.string a0_0, .string a0_1] 41 (0, 0)) (by (with_reducible repeat (first | refine blk_drewN ?_ _ | refine blk_drew ?_ | refine blk_alloc ?_ _)); exact BK207.out) hb); have n1_ := Aside0.mk (below_step (by repeat (first | (with_reducible first | exact HB.out | apply below_alloc | apply pw_below_drewN | apply below_drew1 | refine below_set ?_ GE207.out) | exact HB.out)) hb); clear BK207; clear HB; have BK207 := n0_; have HB := n1_; clear n0_ n1_; (try clear hb); (try clear hb2); (try clear hk); (try clear hi)) | (go_at_call 33; (with_reducible refine (val_At.calls a0_1 a0_0 t217 _ A17.out (Hm.keep hm_ (by repeat (first | (with_reducible first | exact HB.out | apply below_alloc | apply pw_below_drewN | apply below_drew1 | refine below_set ?_ GE207.out) | exact HB.out)))).mono ?_); rintro e w27 ⟨rfl, hb⟩; have n0_ := Aside0.mk (blk_below (g := gb207) (o := .cells #[.string a0_0, .string a0_1] 41 (0, 0)) (by (with_reducible repeat (first | refine blk_drewN ?_ _ | refine blk_drew ?_ | refine blk_alloc ?_ _)); exact BK207.out) hb); have n1_ := Aside0.mk (below_step (by repeat (first | (with_reducible first | exact HB.out | apply below_alloc | apply pw_below_drewN | apply below_drew1 | refine below_set ?_ GE207.out) | exact HB.out)) hb); clear BK207; clear HB; have BK207 := n0_; have HB := n1_; clear n0_ n1_; (try clear hb); (try clear hb2); (try clear hk); (try clear hi)) | (go_at_call 34; (with_reducible refine (cabinetryref01_At.calls k a0_1 a0_0 t218 _ A18.out).mono ?_); rintro e w' ⟨rfl, ⟨nd, rfl⟩⟩; (try first | exact ⟨rfl, _, World.drewN_drewN _ _ _⟩ | exact ⟨rfl, _, Eq.trans (World.drewN_drewN _ _ _) (congrArg (World.drewN _) (Nat.add_assoc _ _ _))⟩)) | (go_at_call 16; (with_reducible refine (cabinetrylaw01_known.calls k  t219 _ A20.out hr_).mono ?_); rintro e w28 ⟨rfl, hb⟩; have n0_ := Aside0.mk (blk_below (g := gb207) (o := .cells #[.string a0_0, .string a0_1] 41 (0, 0)) (by (with_reducible repeat (first | refine blk_drewN ?_ _ | refine blk_drew ?_ | refine blk_alloc ?_ _)); exact BK207.out) hb); have n1_ := Aside0.mk (below_step (by repeat (first | (with_reducible first | exact HB.out | apply below_alloc | apply pw_below_drewN | apply below_drew1 | refine below_set ?_ GE207.out) | exact HB.out)) hb); clear BK207; clear HB; have BK207 := n0_; have HB := n1_; clear n0_ n1_; (try clear hb); (try clear hb2); (try clear hk); (try clear hi)))
       repeat (go_quiet (first | ((with_reducible refine gate_dst (N := 3) rfl ?_); refine box_event ?hg (N := 3) ?hd (cs := #[.string a0_0, .string a0_1]) (t := 41) ?hr ?_; (case hd => rfl); (case hg => rfl); (case hr => first | (go_simp; done) | (go_simp; rfl)); intro gb207 hg w21 hbox hb; have n0_ := Aside0.mk (below_step (by repeat (first | (with_reducible first | exact HB.out | apply below_alloc | apply pw_below_drewN | apply below_drew1) | exact HB.out)) hb); have n1_ := Aside0.mk (hbox); have n2_ := Aside0.mk ((by rw [hg]; exact (below_size (by repeat (first | (with_reducible first | exact HB.out | apply below_alloc | apply pw_below_drewN | apply below_drew1) | exact HB.out))) : w.heap.size ≤ gb207)); have n3_ := Aside0.mk ((by rw [hg]; exact (below_size (by repeat (first | (with_reducible first | exact HB.out | apply below_alloc | apply pw_below_drewN | apply below_drew1) | exact HB.out))) : w.heap.size ≤ gb207)); clear HB; have HB := n0_; have BK207 := n1_; have GW207 := n2_; have GE207 := n3_; clear n0_ n1_ n2_ n3_; clear hb hbox hg; have hcz22_0 : w21.cell? ⟨gb207, 0, none⟩ = some (.string a0_0) := (blk_cell BK207.out 0).trans rfl; have hcz22_1 : w21.cell? ⟨gb207, 1, none⟩ = some (.string a0_1) := (blk_cell BK207.out 1).trans rfl; have hfz22_0 := blk_frozen BK207.out 0; have hfz22_1 := blk_frozen BK207.out 1) | (go_at_call 29; (with_reducible refine (val_Part.calls k a0_0 a1 a2 t209 t210 _ A9.out).mono ?_); rintro e w23 ⟨rfl, hb⟩; have n0_ := Aside0.mk (blk_below (g := gb207) (o := .cells #[.string a0_0, .string a0_1] 41 (0, 0)) (by (with_reducible repeat (first | refine blk_drewN ?_ _ | refine blk_drew ?_ | refine blk_alloc ?_ _)); exact BK207.out) hb); have n1_ := Aside0.mk (below_step (by repeat (first | (with_reducible first | exact HB.out | apply below_alloc | apply pw_below_drewN | apply below_drew1 | refine below_set ?_ GE207.out) | exact HB.out)) hb); clear BK207; clear HB; have BK207 := n0_; have HB := n1_; clear n0_ n1_; (try clear hb); (try clear hb2); (try clear hk); (try clear hi)) | (go_at_call 30; (with_reducible refine (cabinetryref01_Part.calls a0_0 a1 a2 t211 t212 _ A10.out).mono ?_); rintro e w24 ⟨rfl, hb⟩; have n0_ := Aside0.mk (blk_below (g := gb207) (o := .cells #[.string a0_0, .string a0_1] 41 (0, 0)) (by (with_reducible repeat (first | refine blk_drewN ?_ _ | refine blk_drew ?_ | refine blk_alloc ?_ _)); exact BK207.out) hb); have n1_ := Aside0.mk (below_step (by repeat (first | (with_reducible first | exact HB.out | apply below_alloc | apply pw_below_drewN | apply below_drew1 | refine below_set ?_ GE207.out) | exact HB.out)) hb); clear BK207; clear HB; have BK207 := n0_; have HB := n1_; clear n0_ n1_; (try clear hb); (try clear hb2); (try clear hk); (try clear hi)) | (go_at_call 31; (with_reducible refine (val_Stuff.calls k a0_0 a1 a2 a0_1 t213 t214 _ A11.out).mono ?_); rintro e w25 ⟨rfl, hb⟩; have n0_ := Aside0.mk (blk_below (g := gb207) (o := .cells #[.string a0_0, .string a0_1] 41 (0, 0)) (by (with_reducible repeat (first | refine blk_drewN ?_ _ | refine blk_drew ?_ | refine blk_alloc ?_ _)); exact BK207.out) hb); have n1_ := Aside0.mk (below_step (by repeat (first | (with_reducible first | exact HB.out | apply below_alloc | apply pw_below_drewN | apply below_drew1 | refine below_set ?_ GE207.out) | exact HB.out)) hb); clear BK207; clear HB; have BK207 := n0_; have HB := n1_; clear n0_ n1_; (try clear hb); (try clear hb2); (try clear hk); (try clear hi)) | (go_at_call 32; (with_reducible refine (cabinetryref01_Stuff.calls k a0_0 a1 a2 a0_1 t215 t216 _ A12.out).mono ?_); rintro e w26 ⟨rfl, hb⟩; have n0_ := Aside0.mk (blk_below (g := gb207) (o := .cells #[.string a0_0, .string a0_1] 41 (0, 0)) (by (with_reducible repeat (first | refine blk_drewN ?_ _ | refine blk_drew ?_ | refine blk_alloc ?_ _)); exact BK207.out) hb); have n1_ := Aside0.mk (below_step (by repeat (first | (with_reducible first | exact HB.out | apply below_alloc | apply pw_below_drewN | apply below_drew1 | refine below_set ?_ GE207.out) | exact HB.out)) hb); clear BK207; clear HB; have BK207 := n0_; have HB := n1_; clear n0_ n1_; (try clear hb); (try clear hb2); (try clear hk); (try clear hi)) | (go_at_call 33; (with_reducible refine (val_At.calls a0_1 a0_0 t217 _ A17.out (Hm.keep hm_ (by repeat (first | (with_reducible first | exact HB.out | apply below_alloc | apply pw_below_drewN | apply below_drew1 | refine below_set ?_ GE207.out) | exact HB.out)))).mono ?_); rintro e w27 ⟨rfl, hb⟩; have n0_ := Aside0.mk (blk_below (g := gb207) (o := .cells #[.string a0_0, .string a0_1] 41 (0, 0)) (by (with_reducible repeat (first | refine blk_drewN ?_ _ | refine blk_drew ?_ | refine blk_alloc ?_ _)); exact BK207.out) hb); have n1_ := Aside0.mk (below_step (by repeat (first | (with_reducible first | exact HB.out | apply below_alloc | apply pw_below_drewN | apply below_drew1 | refine below_set ?_ GE207.out) | exact HB.out)) hb); clear BK207; clear HB; have BK207 := n0_; have HB := n1_; clear n0_ n1_; (try clear hb); (try clear hb2); (try clear hk); (try clear hi)) | (go_at_call 34; (with_reducible refine (cabinetryref01_At.calls k a0_1 a0_0 t218 _ A18.out).mono ?_); rintro e w' ⟨rfl, ⟨nd, rfl⟩⟩; (try first | exact ⟨rfl, _, World.drewN_drewN _ _ _⟩ | exact ⟨rfl, _, Eq.trans (World.drewN_drewN _ _ _) (congrArg (World.drewN _) (Nat.add_assoc _ _ _))⟩)) | (go_at_call 16; (with_reducible refine (cabinetrylaw01_known.calls k  t219 _ A20.out hr_).mono ?_); rintro e w28 ⟨rfl, hb⟩; have n0_ := Aside0.mk (blk_below (g := gb207) (o := .cells #[.string a0_0, .string a0_1] 41 (0, 0)) (by (with_reducible repeat (first | refine blk_drewN ?_ _ | refine blk_drew ?_ | refine blk_alloc ?_ _)); exact BK207.out) hb); have n1_ := Aside0.mk (below_step (by repeat (first | (with_reducible first | exact HB.out | apply below_alloc | apply pw_below_drewN | apply below_drew1 | refine below_set ?_ GE207.out) | exact HB.out)) hb); clear BK207; clear HB; have BK207 := n0_; have HB := n1_; clear n0_ n1_; (try clear hb); (try clear hb2); (try clear hk); (try clear hi))); try go_wp2_with (first | ((with_reducible refine gate_dst (N := 3) rfl ?_); refine box_event ?hg (N := 3) ?hd (cs := #[.string a0_0, .string a0_1]) (t := 41) ?hr ?_; (case hd => rfl); (case hg => rfl); (case hr => first | (go_simp; done) | (go_simp; rfl)); intro gb207 hg w21 hbox hb; have n0_ := Aside0.mk (below_step (by repeat (first | (with_reducible first | exact HB.out | apply below_alloc | apply pw_below_drewN | apply below_drew1) | exact HB.out)) hb); have n1_ := Aside0.mk (hbox); have n2_ := Aside0.mk ((by rw [hg]; exact (below_size (by repeat (first | (with_reducible first | exact HB.out | apply below_alloc | apply pw_below_drewN | apply below_drew1) | exact HB.out))) : w.heap.size ≤ gb207)); have n3_ := Aside0.mk ((by rw [hg]; exact (below_size (by repeat (first | (with_reducible first | exact HB.out | apply below_alloc | apply pw_below_drewN | apply below_drew1) | exact HB.out))) : w.heap.size ≤ gb207)); clear HB; have HB := n0_; have BK207 := n1_; have GW207 := n2_; have GE207 := n3_; clear n0_ n1_ n2_ n3_; clear hb hbox hg; have hcz22_0 : w21.cell? ⟨gb207, 0, none⟩ = some (.string a0_0) := (blk_cell BK207.out 0).trans rfl; have hcz22_1 : w21.cell? ⟨gb207, 1, none⟩ = some (.string a0_1) := (blk_cell BK207.out 1).trans rfl; have hfz22_0 := blk_frozen BK207.out 0; have hfz22_1 := blk_frozen BK207.out 1) | (go_at_call 29; (with_reducible refine (val_Part.calls k a0_0 a1 a2 t209 t210 _ A9.out).mono ?_); rintro e w23 ⟨rfl, hb⟩; have n0_ := Aside0.mk (blk_below (g := gb207) (o := .cells #[.string a0_0, .string a0_1] 41 (0, 0)) (by (with_reducible repeat (first | refine blk_drewN ?_ _ | refine blk_drew ?_ | refine blk_alloc ?_ _)); exact BK207.out) hb); have n1_ := Aside0.mk (below_step (by repeat (first | (with_reducible first | exact HB.out | apply below_alloc | apply pw_below_drewN | apply below_drew1 | refine below_set ?_ GE207.out) | exact HB.out)) hb); clear BK207; clear HB; have BK207 := n0_; have HB := n1_; clear n0_ n1_; (try clear hb); (try clear hb2); (try clear hk); (try clear hi)) | (go_at_call 30; (with_reducible refine (cabinetryref01_Part.calls a0_0 a1 a2 t211 t212 _ A10.out).mono ?_); rintro e w24 ⟨rfl, hb⟩; have n0_ := Aside0.mk (blk_below (g := gb207) (o := .cells #[.string a0_0, .string a0_1] 41 (0, 0)) (by (with_reducible repeat (first | refine blk_drewN ?_ _ | refine blk_drew ?_ | refine blk_alloc ?_ _)); exact BK207.out) hb); have n1_ := Aside0.mk (below_step (by repeat (first | (with_reducible first | exact HB.out | apply below_alloc | apply pw_below_drewN | apply below_drew1 | refine below_set ?_ GE207.out) | exact HB.out)) hb); clear BK207; clear HB; have BK207 := n0_; have HB := n1_; clear n0_ n1_; (try clear hb); (try clear hb2); (try clear hk); (try clear hi)) | (go_at_call 31; (with_reducible refine (val_Stuff.calls k a0_0 a1 a2 a0_1 t213 t214 _ A11.out).mono ?_); rintro e w25 ⟨rfl, hb⟩; have n0_ := Aside0.mk (blk_below (g := gb207) (o := .cells #[.string a0_0, .string a0_1] 41 (0, 0)) (by (with_reducible repeat (first | refine blk_drewN ?_ _ | refine blk_drew ?_ | refine blk_alloc ?_ _)); exact BK207.out) hb); have n1_ := Aside0.mk (below_step (by repeat (first | (with_reducible first | exact HB.out | apply below_alloc | apply pw_below_drewN | apply below_drew1 | refine below_set ?_ GE207.out) | exact HB.out)) hb); clear BK207; clear HB; have BK207 := n0_; have HB := n1_; clear n0_ n1_; (try clear hb); (try clear hb2); (try clear hk); (try clear hi)) | (go_at_call 32; (with_reducible refine (cabinetryref01_Stuff.calls k a0_0 a1 a2 a0_1 t215 t216 _ A12.out).mono ?_); rintro e w26 ⟨rfl, hb⟩; have n0_ := Aside0.mk (blk_below (g := gb207) (o := .cells #[.string a0_0, .string a0_1] 41 (0, 0)) (by (with_reducible repeat (first | refine blk_drewN ?_ _ | refine blk_drew ?_ | refine blk_alloc ?_ _)); exact BK207.out) hb); have n1_ := Aside0.mk (below_step (by repeat (first | (with_reducible first | exact HB.out | apply below_alloc | apply pw_below_drewN | apply below_drew1 | refine below_set ?_ GE207.out) | exact HB.out)) hb); clear BK207; clear HB; have BK207 := n0_; have HB := n1_; clear n0_ n1_; (try clear hb); (try clear hb2); (try clear hk); (try clear hi)) | (go_at_call 33; (with_reducible refine (val_At.calls a0_1 a0_0 t217 _ A17.out (Hm.keep hm_ (by repeat (first | (with_reducible first | exact HB.out | apply below_alloc | apply pw_below_drewN | apply below_drew1 | refine below_set ?_ GE207.out) | exact HB.out)))).mono ?_); rintro e w27 ⟨rfl, hb⟩; have n0_ := Aside0.mk (blk_below (g := gb207) (o := .cells #[.string a0_0, .string a0_1] 41 (0, 0)) (by (with_reducible repeat (first | refine blk_drewN ?_ _ | refine blk_drew ?_ | refine blk_alloc ?_ _)); exact BK207.out) hb); have n1_ := Aside0.mk (below_step (by repeat (first | (with_reducible first | exact HB.out | apply below_alloc | apply pw_below_drewN | apply below_drew1 | refine below_set ?_ GE207.out) | exact HB.out)) hb); clear BK207; clear HB; have BK207 := n0_; have HB := n1_; clear n0_ n1_; (try clear hb); (try clear hb2); (try clear hk); (try clear hi)) | (go_at_call 34; (with_reducible refine (cabinetryref01_At.calls k a0_1 a0_0 t218 _ A18.out).mono ?_); rintro e w' ⟨rfl, ⟨nd, rfl⟩⟩; (try first | exact ⟨rfl, _, World.drewN_drewN _ _ _⟩ | exact ⟨rfl, _, Eq.trans (World.drewN_drewN _ _ _) (congrArg (World.drewN _) (Nat.add_assoc _ _ _))⟩)) | (go_at_call 16; (with_reducible refine (cabinetrylaw01_known.calls k  t219 _ A20.out hr_).mono ?_); rintro e w28 ⟨rfl, hb⟩; have n0_ := Aside0.mk (blk_below (g := gb207) (o := .cells #[.string a0_0, .string a0_1] 41 (0, 0)) (by (with_reducible repeat (first | refine blk_drewN ?_ _ | refine blk_drew ?_ | refine blk_alloc ?_ _)); exact BK207.out) hb); have n1_ := Aside0.mk (below_step (by repeat (first | (with_reducible first | exact HB.out | apply below_alloc | apply pw_below_drewN | apply below_drew1 | refine below_set ?_ GE207.out) | exact HB.out)) hb); clear BK207; clear HB; have BK207 := n0_; have HB := n1_; clear n0_ n1_; (try clear hb); (try clear hb2); (try clear hk); (try clear hi))))
       go_ret
       exact ⟨by first | rfl | (simp [errW_none, errW_some] <;> rfl) | (simp [*, errW_none, errW_some] <;> rfl), by repeat (first | (with_reducible first | exact HB.out | apply below_alloc | apply pw_below_drewN | apply below_drew1 | refine below_set ?_ GE207.out) | exact HB.out)⟩
      ·rw [if_neg c19] at H
       have c19b0 : (t217 == t218) = false := beq_eq_false_iff_ne.mpr c19
       have c19b1 : (t217 != t218) = true := bne_iff_ne.mpr c19
       obtain rfl := Option.some.inj H
       exact absurd hr_.out (by decide)
     ·rw [if_neg c16] at H
      have c16b0 : (t214 == t216) = false := beq_eq_false_iff_ne.mpr c16
      have c16b1 : (t214 != t216) = true := bne_iff_ne.mpr c16
      obtain rfl := Option.some.inj H
      exact absurd hr_.out (by decide)
    ·rw [if_neg c15] at H
     have c15b0 : (t213.toList == t215.toList) = false := beq_eq_false_iff_ne.mpr c15
     have c15b1 : (t213.toList != t215.toList) = true := bne_iff_ne.mpr c15
     obtain rfl := Option.some.inj H
     exact absurd hr_.out (by decide)
   ·rw [if_neg c14] at H
    have c14b0 : (t210 == t212) = false := beq_eq_false_iff_ne.mpr c14
    have c14b1 : (t210 != t212) = true := bne_iff_ne.mpr c14
    obtain rfl := Option.some.inj H
    exact absurd hr_.out (by decide)
  ·rw [if_neg c13] at H
   have c13b0 : (t209.toList == t211.toList) = false := beq_eq_false_iff_ne.mpr c13
   have c13b1 : (t209.toList != t211.toList) = true := bne_iff_ne.mpr c13
   obtain rfl := Option.some.inj H
   exact absurd hr_.out (by decide)
end Go.Proofs.YtplbjaandkdhjaaDoor.PC
namespace Go.Proofs.YtplbjaandkdhjaaDoor.LValParts
open Go.RowKit Go.Proofs.YtplbjaandkdhjaaDoorW.PrintWords Go.Proofs.YtplbjaandkdhjaaDoor.PA Go.Proofs.YtplbjaandkdhjaaDoor.PB Go.Proofs.YtplbjaandkdhjaaDoor.PC Go.Proofs.YtplbjaandkdhjaaDoor.H1 Go.Proofs.YtplbjaandkdhjaaDoor.L1
set_option linter.unusedVariables false
theorem part_same (s : ByteArray) (f n : Int) (hs : s.size ≤ 140737488351232) (hf : -9223372036854775808 ≤ f ∧ f ≤ 9223372036854775807) (hn : -9223372036854775808 ≤ n ∧ n ≤ 9223372036854775807) (k : Nat) (hk : 100 < k) :
    ∃ v, val_Part.f k s f n = some v ∧ cabinetryref01_Part.f s f n = some v := by
  unfold val_Part.f cabinetryref01_Part.f
  rw [long_f [s] (by simp) k hk, refLong_f, bounds_f s f n hs hf hn, cut_f s f n hs hf hn]
  simp only [Option.bind_some, List.any_cons, List.any_nil, Bool.or_false]
  have h1 := partB_le s f
  have h2 := part_le s f n
  have h3 := partE_le s f n
  by_cases h : 2048 < s.size
  · simp [h]
  · simp only [h, decide_false, Bool.false_eq_true, if_false, if_true]
    rw [if_pos (by omega), if_pos (by omega), if_pos (by omega)]
    exact ⟨_, rfl, rfl⟩
theorem stuff_same (s t : ByteArray) (f n : Int) (hs : s.size ≤ 20000) (ht : t.size ≤ 20000) (hf : -9223372036854775808 ≤ f ∧ f ≤ 9223372036854775807) (hn : -9223372036854775808 ≤ n ∧ n ≤ 9223372036854775807) (k : Nat) (hk : 101 < k) :
    ∃ v, val_Stuff.f k s f n t = some v ∧ cabinetryref01_Stuff.f k s f n t = some v := by
  obtain ⟨k, rfl⟩ : ∃ m, k = m + 1 := ⟨k - 1, by omega⟩
  unfold val_Stuff.f cabinetryref01_Stuff.f
  rw [long_f [s, t] (by simp) (k + 1) (by omega), refLong_f, refLong_f, bounds_f s f n (by omega) hf hn]
  simp only [Option.bind_some, List.any_cons, List.any_nil, Bool.or_false, cabinetryref01_Stuff.j0]
  rw [cut_f s f n (by omega) hf hn]
  simp only [Option.bind_some]
  have h1 := partB_le s f
  have h2 := part_le s f n
  have h3 := partE_le s f n
  by_cases h : 2048 < s.size
  · simp [h]
  · by_cases h' : 2048 < t.size
    · simp [h, h']
    · simp only [h, h', decide_false, Bool.false_eq_true, if_false, if_true, Bool.or_self]
      have z1 : (s.extract 0 (partB s f)).size ≤ s.size := by rw [ByteArray.size_extract]; omega
      have z2 : (s.extract (partE s f n) s.size).size ≤ s.size := by rw [ByteArray.size_extract]; omega
      rw [show ((partB s f : Nat) : Int).toNat = partB s f by omega, show ((partE s f n : Nat) : Int).toNat = partE s f n by omega]
      rw [if_pos (by omega), if_pos (by omega), if_pos (by omega), if_pos (by omega), if_pos (by omega), if_pos (by rw [ByteArray.size_append]; omega)]
      rw [if_pos (by omega), if_pos (by omega), if_pos (by omega), if_pos (by omega), if_pos (by omega), if_pos (by rw [ByteArray.size_append]; omega)]
      unfold val_kept.f cabinetryref01_fit.f
      rw [refLong_f]
      simp only [Option.bind_some]
      by_cases hz : 2048 < ((s.extract 0 (partB s f) ++ t) ++ s.extract (partE s f n) s.size).size
      · rw [if_pos (by omega), if_pos (decide_eq_true hz)]
        exact ⟨_, rfl, rfl⟩
      · rw [if_neg (by omega), if_neg (by rw [decide_eq_false hz]; decide)]
        exact ⟨_, rfl, rfl⟩
theorem law (s t : ByteArray) (a1 a2 : Int) (_ : s.size ≤ 140737488351232) (_ : t.size ≤ 140737488351232) (hf : -9223372036854775808 ≤ a1 ∧ a1 ≤ 9223372036854775807) (hn : -9223372036854775808 ≤ a2 ∧ a2 ≤ 9223372036854775807) :
    ∃ k, cabinetrylaw01_ValParts.f k s t a1 a2 = some true := by
  refine ⟨30000, ?_⟩
  unfold cabinetrylaw01_ValParts.f
  rw [known_ev 30000 (by decide), w64 (by omega) (by omega)]
  by_cases h : (s.size : Int) + (t.size : Int) > 20000
  · rw [if_pos h]; rfl
  · rw [if_neg h]
    obtain ⟨v, p1, p2⟩ := part_same s a1 a2 (by omega) hf hn 30000 (by decide)
    obtain ⟨u, q1, q2⟩ := stuff_same s t a1 a2 (by omega) (by omega) hf hn 30000 (by decide)
    obtain ⟨r, r1, r2⟩ := at_same t s (by omega) (by omega) 30000 (by decide)
    rw [p1, p2, q1, q2, r1, r2]
    simp
end Go.Proofs.YtplbjaandkdhjaaDoor.LValParts
namespace Go.Proofs.YtplbjaandkdhjaaDoor.valParts
open Go.ChangeShapes Go.WideShapes Go.ChangeAt Go.RowKit
open Go.ChangeMaps (open_string shut_string)
set_option linter.unusedVariables false
theorem own : ownKnob Tryd.prog.godebug = none := by kernel_rfl
set_option maxRecDepth 100000 in
theorem lifted (os : Os) (started : os.Started) (H : Type) (enc : TypeId × Value → H) :
    ReturnsInHanded {} Tryd.checked os 9 .any (fun w args => (Rows.valPartsSpec.pre enc Tryd.prog Tryd.f9 Rows.valPartsRow.domain false w args ∧ laidMetH Tryd.prog Rows.valPartsRow.laid w) ∧ sizedMet enc Tryd.prog Tryd.f9 (OpenSpec.ofChange Rows.valPartsSpec) false w args)
      (Rows.valPartsSpec.post enc Tryd.prog Tryd.f9 false true false false) := by
  refine L0.handed_and_shaped (C := Tryd.checked) (X := fun w _ => laidMetH Tryd.prog Rows.valPartsRow.laid w) (fun _ _ _ hh h => h.of_heap hh) own started (by kernel_rfl) Tryd.func9
    (ChangeSpec.witness_shaped (enc := enc) (C := Tryd.checked) (os := os) (X := fun w _ => laidMetH Tryd.prog Rows.valPartsRow.laid w) false (World.laidAll Tryd.prog os Rows.valPartsRow.laid) #[.agg #[.string ByteArray.empty, .string ByteArray.empty], .int .i64 0, .int .i64 0] 8 (World.laidAll_os _ _ _)
      (World.shaped_of_ZipB (by kernel_rfl) (by kernel_rfl)) (by kernel_rfl) (by kernel_rfl) (by kernel_rfl)
      (by rw [MakeChecks.laidMetH_plain _ _ _ (by kernel_rfl)]; exact laidMet_laidAll _ (by kernel_rfl) (by kernel_rfl))) ?_
  intro W base args ds gs before hval0 hW hcnd hsz0 hL hsh _
  have hsz : (DataW.weightsEach Tryd.prog (Tryd.f9.params.toList ++ Rows.valPartsSpec.plain.varTypes Tryd.prog) (ds ++ gs)).all (· ≤ reachBytes) = true := hsz0
  have hval : ∀ (j : Nat) t v, Tryd.f9.params[j]? = some t → args[j]? = some v → Value.okWide Tryd.prog W .any base t v := hval0
  have hW' := hW
  obtain ⟨p, q, hA0, hV, rfl, hfz, hnd⟩ := hW
  have hA : DataW.TrodAll enc Tryd.prog W 0 (fun _ => true) true Tryd.f9.params.toList args.toList ds p := hA0
  rw [Tryd.params9] at hA hval hsz
  obtain ⟨v0, vs0, d0, ds0, p0, q0, hargs, rfl, rfl, h0, r0⟩ := trodAll_cons hA
  obtain ⟨v1, vs1, d1, ds1, p1, q1, rfl, rfl, rfl, h1, r1⟩ := trodAll_cons r0
  obtain ⟨v2, vs2, d2, ds2, p2, q2, rfl, rfl, rfl, h2, r2⟩ := trodAll_cons r1
  obtain ⟨rfl, rfl, rfl⟩ := trodAll_nil r2
  obtain rfl : args = #[v0, v1, v2] := by cases args; simp_all
  obtain ⟨rfl, rfl⟩ := trodVars_none hV
  obtain ⟨a0_0, a0_1, rfl, rfl, rfl, w0_0, w0_1⟩ := L0.open_arr2_str Tryd.underlying41 Tryd.underlying9 (by kernel_rfl) (by kernel_rfl) (hval 0 41 v0 rfl rfl) h0
  have y0_0 : a0_0.size ≤ 140737488351232 := by
    have z := L0.sized_arr hsz (j := 0) (t := 41) (i := 0) rfl rfl rfl Tryd.underlying41
    rw [Array.length_toList] at z
    exact z
  have y0_1 : a0_1.size ≤ 140737488351232 := by
    have z := L0.sized_arr hsz (j := 0) (t := 41) (i := 1) rfl rfl rfl Tryd.underlying41
    rw [Array.length_toList] at z
    exact z
  obtain ⟨a1, rfl, rfl, rfl, w1⟩ := open_int Tryd.underlying3 (hval 1 3 v1 rfl rfl) h1
  obtain ⟨a2, rfl, rfl, rfl, w2⟩ := open_int Tryd.underlying3 (hval 2 3 v2 rfl rfl) h2
  clear hA0 hval0 hsz0 hsz
  obtain ⟨k, h⟩ := LValParts.law a0_0 a0_1 a1 a2 y0_0 y0_1 (bounds_i64 w1) (bounds_i64 w2)
  refine (PC.cabinetrylaw01_ValParts.calls k a0_0 a0_1 a1 a2 true W h ⟨rfl⟩ ⟨Tryd.laysM143.s1_3 W hsh⟩).mono fun e W' ⟨he, bel⟩ => ?_
  subst he
  exact ⟨_, rfl, _, _, _, [], _, [], hW', trodAll_mk1 (shut_bool Tryd.underlying4 _), (trodAll_cons_mk (L0.shut_arr2_str Tryd.underlying41 Tryd.underlying9 (by kernel_rfl) (by kernel_rfl) w0_0 w0_1) (trodAll_cons_mk (shut_int Tryd.underlying3 w1) (trodAll_cons_mk (shut_int Tryd.underlying3 w2) trodAll_mk0))), rfl, bel.frame _, fun h => by cases h⟩
theorem valParts_holds : Rows.ValPartsSaid :=
  OpenClaim.holds_of_wide 9 Tryd.f9 rfl rfl rfl rfl rfl rfl rfl ⟨rfl, rfl, rfl, rfl, rfl⟩ rfl rfl rfl rfl rfl (by kernel_rfl) Tryd.func9 (by kernel_rfl)
    (of_decide_eq_true (by kernel_rfl)) (by unfold Func.isWrapper; first | (rw [if_pos (by decide +kernel)]; kernel_rfl) | (rw [if_neg (by decide +kernel)]; exact ⟨rfl, rfl⟩))
    (fun os started H enc _ => lifted os started H enc)
end Go.Proofs.YtplbjaandkdhjaaDoor.valParts
namespace Go.Proofs.YtplbjaandkdhjaaDoor
theorem valParts_card : Rows.ValPartsCardSaid :=
  Claim7.holds_tied_plain_at .later [] [.data, .pinned] true (true, "b0e2575192d11b15c47babb91c45279908020743339f46d5cad88154cf757604") false
    valParts.valParts_holds (fun _ h => by cases h) (by kernel_rfl) (fun _ h => by cases h) valParts_row_tie rfl ⟨rfl, rfl⟩ (by kernel_rfl) rfl
    (fun f fn hf hfn => by
      obtain rfl : f = 9 := Option.some.inj ((show Tryd.prog.funcNamed "cabinetry/cabinetrylaw01.ValParts" = some 9 by kernel_rfl).symm.trans hf) |>.symm
      obtain rfl : fn = Tryd.f9 := (Option.some.inj (Tryd.func9.symm.trans hfn)).symm
      exact ⟨by kernel_rfl, fun j t ht => by
        rw [Tryd.params9] at ht
        have hm : t ∈ [41, 3, 3] := by simpa using Array.mem_of_getElem? ht
        have hall : ([41, 3, 3].all fun u => !Tryd.prog.wantsStandIn u) = true := by kernel_rfl
        exact (show Tryd.prog.wantsStandIn t = false by simpa using List.all_eq_true.1 hall t hm)⟩)
    (by kernel_rfl)
#print axioms valParts_card
end Go.Proofs.YtplbjaandkdhjaaDoor
