/-
  KeyPrefixes of package cabinetry/cabinetrylaw09: for every input the call returns true, and each argument reads afterwards as it read before. Conditions: the package-level variables that the row lists (of unicode/utf8) hold what the program's text lays, which the card ties; nothing else.
-/
-- Written by a program of this session (wip/merge.py): the texts of this claim, joined.
import Derived.Test.YtnkejhfbkgfedaaDoorRows
import Derived.Test.YtnkejhfbkgfedaaDoorCards
import Derived.Test.YtnkejhfbkgfedaaDoorTie
import Derived.WalkKit
import Derived.ProofKit
import Derived.OpenShut
import Derived.ShutString
import Derived.ChangeOld
import Derived.Below
import Derived.SizedLaws
import Derived.LaidMore
import Derived.Lay
import Derived.SevenTiedAt
import Derived.Stop.Joined
import Derived.Test.YtnkejhfbkgfedaaDoorMKeyPrefixes0
import Derived.Test.YtnkejhfbkgfedaaDoorMKeyPrefixes1
import Derived.Test.YtnkejhfbkgfedaaDoorMKeyPrefixes2
import Derived.Test.YtnkejhfbkgfedaaDoorMKeyPrefixes3
import Derived.Test.YtnkejhfbkgfedaaDoorMKeyPrefixes4
import Derived.Test.YtnkejhfbkgfedaaDoorMKeyPrefixes5
import Derived.Test.YtnkejhfbkgfedaaDoorMKeyPrefixes6
import Derived.Test.YtnkejhfbkgfedaaDoorMKeyPrefixes7
import Derived.Test.YtnkejhfbkgfedaaDoorMKeyPrefixes8
import Derived.Test.YtnkejhfbkgfedaaDoorMKeyPrefixes9
import Derived.Test.YtnkejhfbkgfedaaDoorMKeyPrefixes10
import Derived.Test.YtnkejhfbkgfedaaDoorMKeyPrefixes11
import Derived.Test.YtnkejhfbkgfedaaDoorMKeyPrefixes12
import Derived.Test.YtnkejhfbkgfedaaDoorMKeyPrefixes13
import Derived.Test.YtnkejhfbkgfedaaDoorMKeyPrefixes14
import Derived.Test.YtnkejhfbkgfedaaDoorMKeyPrefixes15
import Derived.Test.YtnkejhfbkgfedaaDoorMKeyPrefixes16
import Derived.Test.YtnkejhfbkgfedaaDoorMKeyPrefixes17
import Derived.Test.YtnkejhfbkgfedaaDoorMKeyPrefixes18
import Derived.Test.YtnkejhfbkgfedaaDoorMKeyPrefixes19
namespace Go.Proofs.YtnkejhfbkgfedaaDoor.PA
end Go.Proofs.YtnkejhfbkgfedaaDoor.PA
namespace Go.Proofs.YtnkejhfbkgfedaaDoor.PB
end Go.Proofs.YtnkejhfbkgfedaaDoor.PB
namespace Go.Proofs.YtnkejhfbkgfedaaDoor.PC
end Go.Proofs.YtnkejhfbkgfedaaDoor.PC
namespace Go.Proofs.YtnkejhfbkgfedaaDoor.H1
end Go.Proofs.YtnkejhfbkgfedaaDoor.H1
namespace Go.Proofs.YtnkejhfbkgfedaaDoor.L1
end Go.Proofs.YtnkejhfbkgfedaaDoor.L1
namespace Go.Proofs.YtnkejhfbkgfedaaDoor.PB
open Go.RowKit Go.Proofs.YtnkejhfbkgfedaaDoorW.PrintWords Go.Proofs.YtnkejhfbkgfedaaDoorW.PrintLast Go.Proofs.YtnkejhfbkgfedaaDoorW.PrintMore Go.Proofs.YtnkejhfbkgfedaaDoor.PA Go.Proofs.YtnkejhfbkgfedaaDoor.H1
attribute [local go_sem] max2_int min2_int max_two min_two max_three min_three max_four min_four   -- for this text's walks alone
set_option linter.unusedVariables false
set_option linter.unusedSimpArgs false
def cabinetrylaw09_KeyPrefixes.f (k : Nat) (a0 : ByteArray) (a1_0 : Int) (a1_1 : Int) (a1_2 : Int) : Option (Bool) := if (a0.size : Int) > 40000 then ((cabinetrylaw09_known.f k).bind fun t222 => (some t222)) else ((key_Prefix.f k a0 a1_0 a1_1 (a1_2 == 1)).bind fun bt223 => ((cabinetryref09_Prefix.f k a0 a1_0 a1_1 (a1_2 == 1)).bind fun bt225 => ((key_Behind.f k a0).bind fun bt227 => ((cabinetryref09_Behind.f k a0).bind fun bt229 => (if bt223.1.toList = bt225.1.toList then (if bt223.2 = bt225.2 then (if bt227.1.toList = bt229.1.toList then (if (bt227.2 == bt229.2) = true then ((cabinetrylaw09_known.f k).bind fun t231 => (some t231)) else (some false)) else (some false)) else (some false)) else (some false))))))
set_option maxHeartbeats 8000000 in
set_option maxRecDepth 100000 in
theorem cabinetrylaw09_KeyPrefixes.calls (k : Nat) (a0 : ByteArray) (a1_0 : Int) (a1_1 : Int) (a1_2 : Int) (r : Bool) (w : World) (h : cabinetrylaw09_KeyPrefixes.f k a0 a1_0 a1_1 a1_2 = some r) (hr_ : Aside0 (r = true)) (hm_ : Aside0 (Hm.HM w)) :
  Calls Tryd.prog 7 #[.string a0, .agg #[.int .i64 a1_0, .int .i64 a1_1, .int .i64 a1_2]] w fun e w' => e = .returned (.bool r) ∧ Below w.heap.size w w' := by
 have hu24 := Tryd.underlying24
 have HB := Aside0.mk (Below.refl w.heap.size w)
 have H : (if (a0.size : Int) > 40000 then ((cabinetrylaw09_known.f k).bind fun t222 => (some t222)) else ((key_Prefix.f k a0 a1_0 a1_1 (a1_2 == 1)).bind fun bt223 => ((cabinetryref09_Prefix.f k a0 a1_0 a1_1 (a1_2 == 1)).bind fun bt225 => ((key_Behind.f k a0).bind fun bt227 => ((cabinetryref09_Behind.f k a0).bind fun bt229 => (if bt223.1.toList = bt225.1.toList then (if bt223.2 = bt225.2 then (if bt227.1.toList = bt229.1.toList then (if (bt227.2 == bt229.2) = true then ((cabinetrylaw09_known.f k).bind fun t231 => (some t231)) else (some false)) else (some false)) else (some false)) else (some false))))))) = some r := h
 clear h
 by_cases c3 : (a0.size : Int) > 40000
 ·rw [if_pos c3] at H
  have c3b0 : decide (40000 < (a0.size : Int)) = true := decide_eq_true c3
  have c3b1 : decide (40000 < a0.size) = true := decide_eq_true (by omega)
  clear c3
  replace H := Option.bind_eq_some_iff.mp H
  obtain ⟨t222, A40, H⟩ := H
  replace H : (some t222) = some r := H
  have A4 := Aside0.mk A40
  clear A40
  obtain rfl := Option.some.inj H
  simp only [Option.some.injEq, Prod.mk.injEq] at H
  obtain ⟨rfl⟩ := H
  go_enter Tryd.func7, Tryd.ntmps7
  go_wp2_with (first | ((with_reducible refine gate_dst (N := 3) rfl ?_); refine box_event ?hg (N := 3) ?hd (cs := #[.int .i64 a1_0, .int .i64 a1_1, .int .i64 a1_2]) (t := 24) ?hr ?_; (case hd => rfl); (case hg => rfl); (case hr => first | (go_simp; done) | (go_simp; rfl)); intro gb221 hg w5 hbox hb; have n0_ := Aside0.mk (below_step (by repeat (first | (with_reducible first | exact HB.out | apply below_alloc | apply pw_below_drewN | apply below_drew1) | exact HB.out)) hb); have n1_ := Aside0.mk (hbox); have n2_ := Aside0.mk ((by rw [hg]; exact (below_size (by repeat (first | (with_reducible first | exact HB.out | apply below_alloc | apply pw_below_drewN | apply below_drew1) | exact HB.out))) : w.heap.size ≤ gb221)); have n3_ := Aside0.mk ((by rw [hg]; exact (below_size (by repeat (first | (with_reducible first | exact HB.out | apply below_alloc | apply pw_below_drewN | apply below_drew1) | exact HB.out))) : w.heap.size ≤ gb221)); clear HB; have HB := n0_; have BK221 := n1_; have GW221 := n2_; have GE221 := n3_; clear n0_ n1_ n2_ n3_; clear hb hbox hg) | ((with_reducible refine gate_callee (f := 15) rfl ?_); refine goesL_ (some 16) rfl rfl Tryd.func15 (by kernel_rfl) rfl #[] rfl (by (try simp only [List.map_toArray, List.map_cons, List.map_nil]); first | done | rfl | (simp only [List.length_drop, List.length_take]; rfl)) ?_; (with_reducible refine (cabinetrylaw09_known.calls k  t222 _ A4.out hr_ (Hm.keep hm_ (by repeat (first | (with_reducible first | exact HB.out | apply below_alloc | apply pw_below_drewN | apply below_drew1 | refine below_set ?_ GE221.out) | exact HB.out)))).mono ?_); rintro e w6 ⟨rfl, hb⟩; refine ⟨_, rfl, ?_⟩; have n0_ := Aside0.mk (blk_below (g := gb221) (o := .cells #[.int .i64 a1_0, .int .i64 a1_1, .int .i64 a1_2] 24 (0, 0)) (by (with_reducible repeat (first | refine blk_drewN ?_ _ | refine blk_drew ?_ | refine blk_alloc ?_ _)); exact BK221.out) hb); have n1_ := Aside0.mk (below_step (by repeat (first | (with_reducible first | exact HB.out | apply below_alloc | apply pw_below_drewN | apply below_drew1 | refine below_set ?_ GE221.out) | exact HB.out)) hb); clear BK221; clear HB; have BK221 := n0_; have HB := n1_; clear n0_ n1_; (try clear hb); (try clear hb2); (try clear hk); (try clear hi)))
  go_ret
  exact ⟨by first | rfl | (simp [errW_none, errW_some] <;> rfl) | (simp [*, errW_none, errW_some] <;> rfl), by repeat (first | (with_reducible first | exact HB.out | apply below_alloc | apply pw_below_drewN | apply below_drew1 | refine below_set ?_ GE221.out) | exact HB.out)⟩
 ·rw [if_neg c3] at H
  have c3b0 : decide (40000 < (a0.size : Int)) = false := decide_eq_false c3
  have c3b1 : decide (40000 < a0.size) = false := decide_eq_false (by omega)
  clear c3
  replace H := Option.bind_eq_some_iff.mp H
  obtain ⟨⟨t223, t224⟩, A70, H⟩ := H
  replace H : ((cabinetryref09_Prefix.f k a0 a1_0 a1_1 (a1_2 == 1)).bind fun bt225 => ((key_Behind.f k a0).bind fun bt227 => ((cabinetryref09_Behind.f k a0).bind fun bt229 => (if t223.toList = bt225.1.toList then (if t224 = bt225.2 then (if bt227.1.toList = bt229.1.toList then (if (bt227.2 == bt229.2) = true then ((cabinetrylaw09_known.f k).bind fun t231 => (some t231)) else (some false)) else (some false)) else (some false)) else (some false))))) = some r := H
  have A7 := Aside0.mk A70
  clear A70
  replace H := Option.bind_eq_some_iff.mp H
  obtain ⟨⟨t225, t226⟩, A80, H⟩ := H
  replace H : ((key_Behind.f k a0).bind fun bt227 => ((cabinetryref09_Behind.f k a0).bind fun bt229 => (if t223.toList = t225.toList then (if t224 = t226 then (if bt227.1.toList = bt229.1.toList then (if (bt227.2 == bt229.2) = true then ((cabinetrylaw09_known.f k).bind fun t231 => (some t231)) else (some false)) else (some false)) else (some false)) else (some false)))) = some r := H
  have A8 := Aside0.mk A80
  clear A80
  replace H := Option.bind_eq_some_iff.mp H
  obtain ⟨⟨t227, t228⟩, A90, H⟩ := H
  replace H : ((cabinetryref09_Behind.f k a0).bind fun bt229 => (if t223.toList = t225.toList then (if t224 = t226 then (if t227.toList = bt229.1.toList then (if (t228 == bt229.2) = true then ((cabinetrylaw09_known.f k).bind fun t231 => (some t231)) else (some false)) else (some false)) else (some false)) else (some false))) = some r := H
  have A9 := Aside0.mk A90
  clear A90
  replace H := Option.bind_eq_some_iff.mp H
  obtain ⟨⟨t229, t230⟩, A100, H⟩ := H
  replace H : (if t223.toList = t225.toList then (if t224 = t226 then (if t227.toList = t229.toList then (if (t228 == t230) = true then ((cabinetrylaw09_known.f k).bind fun t231 => (some t231)) else (some false)) else (some false)) else (some false)) else (some false)) = some r := H
  have A10 := Aside0.mk A100
  clear A100
  by_cases c11 : t223.toList = t225.toList
  ·rw [if_pos c11] at H
   have c11b0 : (t223.toList == t225.toList) = true := beq_iff_eq.mpr c11
   have c11b1 : (t223.toList != t225.toList) = false := bne_eq_false_iff_eq.mpr c11
   clear c11
   by_cases c12 : t224 = t226
   ·rw [if_pos c12] at H
    have c12b0 : (t224 == t226) = true := beq_iff_eq.mpr c12
    have c12b1 : (t224 != t226) = false := bne_eq_false_iff_eq.mpr c12
    clear c12
    by_cases c13 : t227.toList = t229.toList
    ·rw [if_pos c13] at H
     have c13b0 : (t227.toList == t229.toList) = true := beq_iff_eq.mpr c13
     have c13b1 : (t227.toList != t229.toList) = false := bne_eq_false_iff_eq.mpr c13
     clear c13
     by_cases c14 : (t228 == t230) = true
     ·rw [if_pos c14] at H
      have c14b0 : (t228 == t230) = true := c14
      (try (have c14b1 : decide (t228 = t230) = true := by simpa using c14))
      (try (have c14b2 : (t228 == t230) = true := by simpa using c14))
      clear c14
      replace H := Option.bind_eq_some_iff.mp H
      obtain ⟨t231, A150, H⟩ := H
      replace H : (some t231) = some r := H
      have A15 := Aside0.mk A150
      clear A150
      obtain rfl := Option.some.inj H
      simp only [Option.some.injEq, Prod.mk.injEq] at H
      obtain ⟨rfl⟩ := H
      go_enter Tryd.func7, Tryd.ntmps7
      go_wp2_with (first | ((with_reducible refine gate_dst (N := 3) rfl ?_); refine box_event ?hg (N := 3) ?hd (cs := #[.int .i64 a1_0, .int .i64 a1_1, .int .i64 a1_2]) (t := 24) ?hr ?_; (case hd => rfl); (case hg => rfl); (case hr => first | (go_simp; done) | (go_simp; rfl)); intro gb221 hg w16 hbox hb; have n0_ := Aside0.mk (below_step (by repeat (first | (with_reducible first | exact HB.out | apply below_alloc | apply pw_below_drewN | apply below_drew1) | exact HB.out)) hb); have n1_ := Aside0.mk (hbox); have n2_ := Aside0.mk ((by rw [hg]; exact (below_size (by repeat (first | (with_reducible first | exact HB.out | apply below_alloc | apply pw_below_drewN | apply below_drew1) | exact HB.out))) : w.heap.size ≤ gb221)); have n3_ := Aside0.mk ((by rw [hg]; exact (below_size (by repeat (first | (with_reducible first | exact HB.out | apply below_alloc | apply pw_below_drewN | apply below_drew1) | exact HB.out))) : w.heap.size ≤ gb221)); clear HB; have HB := n0_; have BK221 := n1_; have GW221 := n2_; have GE221 := n3_; clear n0_ n1_ n2_ n3_; clear hb hbox hg; have hcz17_0 : w16.cell? ⟨gb221, 0, none⟩ = some (.int .i64 a1_0) := (blk_cell BK221.out 0).trans rfl; have hcz17_1 : w16.cell? ⟨gb221, 1, none⟩ = some (.int .i64 a1_1) := (blk_cell BK221.out 1).trans rfl; have hcz17_2 : w16.cell? ⟨gb221, 2, none⟩ = some (.int .i64 a1_2) := (blk_cell BK221.out 2).trans rfl; have hfz17_0 := blk_frozen BK221.out 0; have hfz17_1 := blk_frozen BK221.out 1; have hfz17_2 := blk_frozen BK221.out 2) | ((with_reducible refine gate_callee (f := 32) rfl ?_); refine goesL_ (some 26) rfl rfl Tryd.func32 (by kernel_rfl) rfl #[.string a0, .int .i64 a1_0, .int .i64 a1_1, .bool (a1_2 == 1)] rfl (by (try simp only [List.map_toArray, List.map_cons, List.map_nil]); first | done | rfl | (simp only [List.length_drop, List.length_take]; rfl)) ?_; (with_reducible refine (key_Prefix.calls k a0 a1_0 a1_1 (a1_2 == 1) t223 t224 _ A7.out (Hm.keep hm_ (by repeat (first | (with_reducible first | exact HB.out | apply below_alloc | apply pw_below_drewN | apply below_drew1 | refine below_set ?_ GE221.out) | exact HB.out)))).mono ?_); rintro e w18 ⟨rfl, hb⟩; refine ⟨_, rfl, ?_⟩; have n0_ := Aside0.mk (blk_below (g := gb221) (o := .cells #[.int .i64 a1_0, .int .i64 a1_1, .int .i64 a1_2] 24 (0, 0)) (by (with_reducible repeat (first | refine blk_drewN ?_ _ | refine blk_drew ?_ | refine blk_alloc ?_ _)); exact BK221.out) hb); have n1_ := Aside0.mk (below_step (by repeat (first | (with_reducible first | exact HB.out | apply below_alloc | apply pw_below_drewN | apply below_drew1 | refine below_set ?_ GE221.out) | exact HB.out)) hb); clear BK221; clear HB; have BK221 := n0_; have HB := n1_; clear n0_ n1_; (try clear hb); (try clear hb2); (try clear hk); (try clear hi); have hcz19_0 : w18.cell? ⟨gb221, 0, none⟩ = some (.int .i64 a1_0) := (blk_cell BK221.out 0).trans rfl; have hcz19_1 : w18.cell? ⟨gb221, 1, none⟩ = some (.int .i64 a1_1) := (blk_cell BK221.out 1).trans rfl; have hcz19_2 : w18.cell? ⟨gb221, 2, none⟩ = some (.int .i64 a1_2) := (blk_cell BK221.out 2).trans rfl; have hfz19_0 := blk_frozen BK221.out 0; have hfz19_1 := blk_frozen BK221.out 1; have hfz19_2 := blk_frozen BK221.out 2) | ((with_reducible refine gate_callee (f := 33) rfl ?_); refine goesL_ (some 38) rfl rfl Tryd.func33 (by kernel_rfl) rfl #[.string a0, .int .i64 a1_0, .int .i64 a1_1, .bool (a1_2 == 1)] rfl (by (try simp only [List.map_toArray, List.map_cons, List.map_nil]); first | done | rfl | (simp only [List.length_drop, List.length_take]; rfl)) ?_; (with_reducible refine (cabinetryref09_Prefix.calls k a0 a1_0 a1_1 (a1_2 == 1) t225 t226 _ A8.out).mono ?_); rintro e w20 ⟨rfl, hb⟩; refine ⟨_, rfl, ?_⟩; have n0_ := Aside0.mk (blk_below (g := gb221) (o := .cells #[.int .i64 a1_0, .int .i64 a1_1, .int .i64 a1_2] 24 (0, 0)) (by (with_reducible repeat (first | refine blk_drewN ?_ _ | refine blk_drew ?_ | refine blk_alloc ?_ _)); exact BK221.out) hb); have n1_ := Aside0.mk (below_step (by repeat (first | (with_reducible first | exact HB.out | apply below_alloc | apply pw_below_drewN | apply below_drew1 | refine below_set ?_ GE221.out) | exact HB.out)) hb); clear BK221; clear HB; have BK221 := n0_; have HB := n1_; clear n0_ n1_; (try clear hb); (try clear hb2); (try clear hk); (try clear hi)) | ((with_reducible refine gate_callee (f := 34) rfl ?_); refine goesL_ (some 43) rfl rfl Tryd.func34 (by kernel_rfl) rfl #[.string a0] rfl (by (try simp only [List.map_toArray, List.map_cons, List.map_nil]); first | done | rfl | (simp only [List.length_drop, List.length_take]; rfl)) ?_; (with_reducible refine (key_Behind.calls k a0 t227 t228 _ A9.out).mono ?_); rintro e w21 ⟨rfl, hb⟩; refine ⟨_, rfl, ?_⟩; have n0_ := Aside0.mk (blk_below (g := gb221) (o := .cells #[.int .i64 a1_0, .int .i64 a1_1, .int .i64 a1_2] 24 (0, 0)) (by (with_reducible repeat (first | refine blk_drewN ?_ _ | refine blk_drew ?_ | refine blk_alloc ?_ _)); exact BK221.out) hb); have n1_ := Aside0.mk (below_step (by repeat (first | (with_reducible first | exact HB.out | apply below_alloc | apply pw_below_drewN | apply below_drew1 | refine below_set ?_ GE221.out) | exact HB.out)) hb); clear BK221; clear HB; have BK221 := n0_; have HB := n1_; clear n0_ n1_; (try clear hb); (try clear hb2); (try clear hk); (try clear hi)) | ((with_reducible refine gate_callee (f := 35) rfl ?_); refine goesL_ (some 48) rfl rfl Tryd.func35 (by kernel_rfl) rfl #[.string a0] rfl (by (try simp only [List.map_toArray, List.map_cons, List.map_nil]); first | done | rfl | (simp only [List.length_drop, List.length_take]; rfl)) ?_; (with_reducible refine (cabinetryref09_Behind.calls k a0 t229 t230 _ A10.out).mono ?_); rintro e w22 ⟨rfl, hb⟩; refine ⟨_, rfl, ?_⟩; have n0_ := Aside0.mk (blk_below (g := gb221) (o := .cells #[.int .i64 a1_0, .int .i64 a1_1, .int .i64 a1_2] 24 (0, 0)) (by (with_reducible repeat (first | refine blk_drewN ?_ _ | refine blk_drew ?_ | refine blk_alloc ?_ _)); exact BK221.out) hb); have n1_ := Aside0.mk (below_step (by repeat (first | (with_reducible first | exact HB.out | apply below_alloc | apply pw_below_drewN | apply below_drew1 | refine below_set ?_ GE221.out) | exact HB.out)) hb); clear BK221; clear HB; have BK221 := n0_; have HB := n1_; clear n0_ n1_; (try clear hb); (try clear hb2); (try clear hk); (try clear hi)) | (go_at_call 15; (with_reducible refine (cabinetrylaw09_known.calls k  t231 _ A15.out hr_ (Hm.keep hm_ (by repeat (first | (with_reducible first | exact HB.out | apply below_alloc | apply pw_below_drewN | apply below_drew1 | refine below_set ?_ GE221.out) | exact HB.out)))).mono ?_); rintro e w23 ⟨rfl, hb⟩; have n0_ := Aside0.mk (blk_below (g := gb221) (o := .cells #[.int .i64 a1_0, .int .i64 a1_1, .int .i64 a1_2] 24 (0, 0)) (by (with_reducible repeat (first | refine blk_drewN ?_ _ | refine blk_drew ?_ | refine blk_alloc ?_ _)); exact BK221.out) hb); have n1_ := Aside0.mk (below_step (by repeat (first | (with_reducible first | exact HB.out | apply below_alloc | apply pw_below_drewN | apply below_drew1 | refine below_set ?_ GE221.out) | exact HB.out)) hb); clear BK221; clear HB; have BK221 := n0_; have HB := n1_; clear n0_ n1_; (try clear hb); (try clear hb2); (try clear hk); (try clear hi)))
      go_ret
      exact ⟨by first | rfl | (simp [errW_none, errW_some] <;> rfl) | (simp [*, errW_none, errW_some] <;> rfl), by repeat (first | (with_reducible first | exact HB.out | apply below_alloc | apply pw_below_drewN | apply below_drew1 | refine below_set ?_ GE221.out) | exact HB.out)⟩
     ·rw [if_neg c14] at H
      have c14b0 : (t228 == t230) = false := by simpa using c14
      (try (have c14b1 : decide (t228 = t230) = false := by simpa using c14))
      (try (have c14b2 : (t228 == t230) = false := by simpa using c14))
      (try (have c14b3 : ¬ (t228 = t230) := by simpa using c14))
      clear c14
      obtain rfl := Option.some.inj H
      exact absurd hr_.out (by decide)
    ·rw [if_neg c13] at H
     have c13b0 : (t227.toList == t229.toList) = false := beq_eq_false_iff_ne.mpr c13
     have c13b1 : (t227.toList != t229.toList) = true := bne_iff_ne.mpr c13
     obtain rfl := Option.some.inj H
     exact absurd hr_.out (by decide)
   ·rw [if_neg c12] at H
    have c12b0 : (t224 == t226) = false := beq_eq_false_iff_ne.mpr c12
    have c12b1 : (t224 != t226) = true := bne_iff_ne.mpr c12
    obtain rfl := Option.some.inj H
    exact absurd hr_.out (by decide)
  ·rw [if_neg c11] at H
   have c11b0 : (t223.toList == t225.toList) = false := beq_eq_false_iff_ne.mpr c11
   have c11b1 : (t223.toList != t225.toList) = true := bne_iff_ne.mpr c11
   obtain rfl := Option.some.inj H
   exact absurd hr_.out (by decide)
end Go.Proofs.YtnkejhfbkgfedaaDoor.PB
namespace Go.Proofs.YtnkejhfbkgfedaaDoor.LKeyPrefixes
open Go.RowKit Go.Proofs.YtnkejhfbkgfedaaDoorW.PrintWords Go.Proofs.YtnkejhfbkgfedaaDoor.PA Go.Proofs.YtnkejhfbkgfedaaDoor.H1 Go.Proofs.YtnkejhfbkgfedaaDoor.PB Go.Proofs.YtnkejhfbkgfedaaDoor.L1
set_option linter.unusedVariables false
theorem law (a0 : ByteArray) (a1_0 a1_1 a1_2 : Int) (_ : a0.size ≤ 140737488351232) (_ : -9223372036854775808 ≤ a1_0 ∧ a1_0 ≤ 9223372036854775807) (_ : -9223372036854775808 ≤ a1_1 ∧ a1_1 ≤ 9223372036854775807) (_ : -9223372036854775808 ≤ a1_2 ∧ a1_2 ≤ 9223372036854775807) :
    ∃ k, cabinetrylaw09_KeyPrefixes.f k a0 a1_0 a1_1 a1_2 = some true := by
  refine ⟨50000, ?_⟩
  unfold cabinetrylaw09_KeyPrefixes.f
  rw [known_ev 50000 (by decide)]
  by_cases h : (a0.size : Int) > 40000
  · rw [if_pos h]; rfl
  · rw [if_neg h, key_Prefix_f 50000 (by decide), ref_Prefix_f 50000 (by decide), key_Behind_f 50000 a0 (by omega) (by omega), refBehind_f 50000 a0 (by omega) (by omega)]
    simp
end Go.Proofs.YtnkejhfbkgfedaaDoor.LKeyPrefixes
namespace Go.Proofs.YtnkejhfbkgfedaaDoor.keyPrefixes
open Go.ChangeShapes Go.WideShapes Go.ChangeAt Go.RowKit
open Go.ChangeMaps (open_string shut_string)
set_option linter.unusedVariables false
theorem own : ownKnob Tryd.prog.godebug = none := by kernel_rfl
set_option maxRecDepth 100000 in
theorem lifted (os : Os) (started : os.Started) (H : Type) (enc : TypeId × Value → H) :
    ReturnsInHanded {} Tryd.checked os 7 .any (fun w args => (Rows.keyPrefixesSpec.pre enc Tryd.prog Tryd.f7 Rows.keyPrefixesRow.domain false w args ∧ laidMetH Tryd.prog Rows.keyPrefixesRow.laid w) ∧ sizedMet enc Tryd.prog Tryd.f7 (OpenSpec.ofChange Rows.keyPrefixesSpec) false w args)
      (Rows.keyPrefixesSpec.post enc Tryd.prog Tryd.f7 false true false false) := by
  refine L0.handed_and_shaped (C := Tryd.checked) (X := fun w _ => laidMetH Tryd.prog Rows.keyPrefixesRow.laid w) (fun _ _ _ hh h => h.of_heap hh) own started (by kernel_rfl) Tryd.func7
    (ChangeSpec.witness_shaped (enc := enc) (C := Tryd.checked) (os := os) (X := fun w _ => laidMetH Tryd.prog Rows.keyPrefixesRow.laid w) false (World.laidAll Tryd.prog os Rows.keyPrefixesRow.laid) #[.string ByteArray.empty, .agg #[.int .i64 0, .int .i64 0, .int .i64 0]] 8 (World.laidAll_os _ _ _)
      (World.shaped_of_ZipB (by kernel_rfl) (by kernel_rfl)) (by kernel_rfl) (by kernel_rfl) (by kernel_rfl)
      (by rw [MakeChecks.laidMetH_plain _ _ _ (by kernel_rfl)]; exact laidMet_laidAll _ (by kernel_rfl) (by kernel_rfl))) ?_
  intro W base args ds gs before hval0 hW hcnd hsz0 hL hsh _
  have hsz : (DataW.weightsEach Tryd.prog (Tryd.f7.params.toList ++ Rows.keyPrefixesSpec.plain.varTypes Tryd.prog) (ds ++ gs)).all (· ≤ reachBytes) = true := hsz0
  have hval : ∀ (j : Nat) t v, Tryd.f7.params[j]? = some t → args[j]? = some v → Value.okWide Tryd.prog W .any base t v := hval0
  have hW' := hW
  obtain ⟨p, q, hA0, hV, rfl, hfz, hnd⟩ := hW
  have hA : DataW.TrodAll enc Tryd.prog W 0 (fun _ => true) true Tryd.f7.params.toList args.toList ds p := hA0
  rw [Tryd.params7] at hA hval hsz
  obtain ⟨v0, vs0, d0, ds0, p0, q0, hargs, rfl, rfl, h0, r0⟩ := trodAll_cons hA
  obtain ⟨v1, vs1, d1, ds1, p1, q1, rfl, rfl, rfl, h1, r1⟩ := trodAll_cons r0
  obtain ⟨rfl, rfl, rfl⟩ := trodAll_nil r1
  obtain rfl : args = #[v0, v1] := by cases args; simp_all
  obtain ⟨rfl, rfl⟩ := trodVars_none hV
  obtain ⟨a0, rfl, rfl, rfl, y0⟩ := open_string Tryd.underlying9 (hval 0 9 v0 rfl rfl) h0
  have w0 : a0.size ≤ 140737488351232 := by
    have z := sized_string hsz (j := 0) (t := 9) rfl rfl
    rw [Array.length_toList] at z
    exact z
  obtain ⟨a1_0, a1_1, a1_2, rfl, rfl, rfl, w1_0, w1_1, w1_2⟩ := L0.open_arr3_int Tryd.underlying24 Tryd.underlying3 (by kernel_rfl) (by kernel_rfl) (hval 1 24 v1 rfl rfl) h1
  clear hA0 hval0 hsz0 hsz
  obtain ⟨k, h⟩ := LKeyPrefixes.law a0 a1_0 a1_1 a1_2 w0 (bounds_i64 w1_0) (bounds_i64 w1_1) (bounds_i64 w1_2)
  refine (PB.cabinetrylaw09_KeyPrefixes.calls k a0 a1_0 a1_1 a1_2 true W h ⟨rfl⟩ ⟨Tryd.laysM143.s1_3 W hsh⟩).mono fun e W' ⟨he, bel⟩ => ?_
  subst he
  exact ⟨_, rfl, _, _, _, [], _, [], hW', trodAll_mk1 (shut_bool Tryd.underlying4 _), (trodAll_cons_mk (shut_string Tryd.underlying9 y0) (trodAll_cons_mk (L0.shut_arr3_int Tryd.underlying24 Tryd.underlying3 (by kernel_rfl) (by kernel_rfl) w1_0 w1_1 w1_2) trodAll_mk0)), rfl, bel.frame _, fun h => by cases h⟩
theorem keyPrefixes_holds : Rows.KeyPrefixesSaid :=
  OpenClaim.holds_of_wide 7 Tryd.f7 rfl rfl rfl rfl rfl rfl rfl ⟨rfl, rfl, rfl, rfl, rfl⟩ rfl rfl rfl rfl rfl (by kernel_rfl) Tryd.func7 (by kernel_rfl)
    (of_decide_eq_true (by kernel_rfl)) (by unfold Func.isWrapper; first | (rw [if_pos (by decide +kernel)]; kernel_rfl) | (rw [if_neg (by decide +kernel)]; exact ⟨rfl, rfl⟩))
    (fun os started H enc _ => lifted os started H enc)
end Go.Proofs.YtnkejhfbkgfedaaDoor.keyPrefixes
namespace Go.Proofs.YtnkejhfbkgfedaaDoor
theorem keyPrefixes_card : Rows.KeyPrefixesCardSaid :=
  Claim7.holds_tied_plain_at .later [] [.data, .pinned] true (true, "3ca090072f74d9576caed6164917b7ff82063396b7cf458c4b58db08244bc750") false
    keyPrefixes.keyPrefixes_holds (fun _ h => by cases h) (by kernel_rfl) (fun _ h => by cases h) keyPrefixes_row_tie rfl ⟨rfl, rfl⟩ (by kernel_rfl) rfl
    (fun f fn hf hfn => by
      obtain rfl : f = 7 := Option.some.inj ((show Tryd.prog.funcNamed "cabinetry/cabinetrylaw09.KeyPrefixes" = some 7 by kernel_rfl).symm.trans hf) |>.symm
      obtain rfl : fn = Tryd.f7 := (Option.some.inj (Tryd.func7.symm.trans hfn)).symm
      exact ⟨by kernel_rfl, fun j t ht => by
        rw [Tryd.params7] at ht
        have hm : t ∈ [9, 24] := by simpa using Array.mem_of_getElem? ht
        have hall : ([9, 24].all fun u => !Tryd.prog.wantsStandIn u) = true := by kernel_rfl
        exact (show Tryd.prog.wantsStandIn t = false by simpa using List.all_eq_true.1 hall t hm)⟩)
    (by kernel_rfl)
#print axioms keyPrefixes_card
end Go.Proofs.YtnkejhfbkgfedaaDoor
