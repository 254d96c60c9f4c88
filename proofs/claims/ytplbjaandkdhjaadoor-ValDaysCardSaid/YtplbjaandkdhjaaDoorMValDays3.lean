/-
  ValDays of package cabinetry/cabinetrylaw01: for every input the call returns true, and each argument reads afterwards as it read before. Conditions: the package-level variables that the row lists (of unicode/utf8) hold what the program's text lays, which the card ties; nothing else.
-/
-- Written by a program of this session (wip/merge.py): the texts of this claim, joined.
import Derived.KernelRfl
import Derived.Test.YtplbjaandkdhjaaDoorRows
import Derived.Test.YtplbjaandkdhjaaDoorCards
import Derived.Test.YtplbjaandkdhjaaDoorTie
import Derived.WalkKit
import Derived.ProofKit
import Derived.OpenShut
import Derived.ShutString
import Derived.ChangeOld
import Derived.Below
import Derived.SizedLaws
import Derived.LaidMore
import Derived.Lay
import Derived.SevenTiedAt
import Derived.Stop.Joined
import Derived.Test.YtplbjaandkdhjaaDoorMValDays2
namespace Go.Proofs.YtplbjaandkdhjaaDoor.PC
open Go.RowKit Go.Proofs.YtplbjaandkdhjaaDoorW.PrintWords Go.Proofs.YtplbjaandkdhjaaDoorW.PrintLast Go.Proofs.YtplbjaandkdhjaaDoorW.PrintMore Go.Proofs.YtplbjaandkdhjaaDoor.PA Go.Proofs.YtplbjaandkdhjaaDoor.H1 Go.Proofs.YtplbjaandkdhjaaDoor.PB
attribute [local go_sem] max2_int min2_int max_two min_two max_three min_three max_four min_four   -- for this text's walks alone
set_option linter.unusedVariables false
set_option linter.unusedSimpArgs false
def cabinetrylaw01_known.f (k : Nat)  : Option (Bool) := (cabinetryref01_Text.f (⟨#[97, 98, 32, 32]⟩ : ByteArray)).bind fun bt101 => ((cabinetryref01_Text.f (⟨#[99]⟩ : ByteArray)).bind fun bt104 => ((val_Do.f 1 bt101.1 bt101.2.1 bt101.2.2 bt104.1 bt104.2.1 bt104.2.2).bind fun bt107 => ((val_Days.f k 2024 1 31).bind fun bt113 => ((val_Months.f k bt113.1 1).bind fun bt115 => ((val_Split.f k bt115.1).bind fun bt117 => (if bt107.2.2.2.2 = 0 then (if bt107.2.2.2.1 = 0 then (if bt107.1 = 4 then (if bt107.2.2.1.toList = ([97, 98, 99, 32, 32] : List UInt8) then (if bt113.2 = 0 then (if bt115.2 = 0 then (if bt117.2.2.2 = 0 then (if bt117.1 = 2024 then (if bt117.2.1 = 2 then (some (bt117.2.2.1 == 29)) else (some false)) else (some false)) else (some false)) else (some false)) else (some false)) else (some false)) else (some false)) else (some false)) else (some false)))))))
theorem cabinetrylaw01_known.mono : ∀ k, LeO (cabinetrylaw01_known.f k ) (cabinetrylaw01_known.f (k + 1) ) := by
 intro  k
 unfold cabinetrylaw01_known.f
 repeat' first
   | (with_reducible exact val_Days.mono _ _ _ _)
   | (with_reducible exact val_Months.mono _ _ _)
   | (with_reducible exact val_Split.mono _ _)
   | (with_reducible exact LeO.refl _)
   | (with_reducible exact LeO.none _)
   | (with_reducible refine LeO.ite ?_ ?_)
   | (with_reducible refine LeO.bind ?_ (fun _ => ?_))
   | exact val_Days.mono _ _ _ _
   | exact val_Months.mono _ _ _
   | exact val_Split.mono _ _
   | exact LeO.none _
   | refine LeO.ite ?_ ?_
   | refine LeO.bind ?_ (fun _ => ?_)
set_option maxHeartbeats 8000000 in
set_option maxRecDepth 100000 in
theorem cabinetrylaw01_known.calls (k : Nat)  (r : Bool) (w : World) (h : cabinetrylaw01_known.f k  = some r) (hr_ : Aside0 (r = true)) :
  Calls Tryd.prog 16 #[] w fun e w' => e = .returned (.bool r) ∧ Below w.heap.size w w' := by
 have hu23 := Tryd.underlying23
 have HB := Aside0.mk (Below.refl w.heap.size w)
 have H : ((cabinetryref01_Text.f (⟨#[97, 98, 32, 32]⟩ : ByteArray)).bind fun bt101 => ((cabinetryref01_Text.f (⟨#[99]⟩ : ByteArray)).bind fun bt104 => ((val_Do.f 1 bt101.1 bt101.2.1 bt101.2.2 bt104.1 bt104.2.1 bt104.2.2).bind fun bt107 => ((val_Days.f k 2024 1 31).bind fun bt113 => ((val_Months.f k bt113.1 1).bind fun bt115 => ((val_Split.f k bt115.1).bind fun bt117 => (if bt107.2.2.2.2 = 0 then (if bt107.2.2.2.1 = 0 then (if bt107.1 = 4 then (if bt107.2.2.1.toList = ([97, 98, 99, 32, 32] : List UInt8) then (if bt113.2 = 0 then (if bt115.2 = 0 then (if bt117.2.2.2 = 0 then (if bt117.1 = 2024 then (if bt117.2.1 = 2 then (some (bt117.2.2.1 == 29)) else (some false)) else (some false)) else (some false)) else (some false)) else (some false)) else (some false)) else (some false)) else (some false)) else (some false)))))))) = some r := h
 clear h
 replace H := Option.bind_eq_some_iff.mp H
 obtain ⟨⟨t101, t102, t103⟩, A10, H⟩ := H
 replace H : ((cabinetryref01_Text.f (⟨#[99]⟩ : ByteArray)).bind fun bt104 => ((val_Do.f 1 t101 t102 t103 bt104.1 bt104.2.1 bt104.2.2).bind fun bt107 => ((val_Days.f k 2024 1 31).bind fun bt113 => ((val_Months.f k bt113.1 1).bind fun bt115 => ((val_Split.f k bt115.1).bind fun bt117 => (if bt107.2.2.2.2 = 0 then (if bt107.2.2.2.1 = 0 then (if bt107.1 = 4 then (if bt107.2.2.1.toList = ([97, 98, 99, 32, 32] : List UInt8) then (if bt113.2 = 0 then (if bt115.2 = 0 then (if bt117.2.2.2 = 0 then (if bt117.1 = 2024 then (if bt117.2.1 = 2 then (some (bt117.2.2.1 == 29)) else (some false)) else (some false)) else (some false)) else (some false)) else (some false)) else (some false)) else (some false)) else (some false)) else (some false))))))) = some r := H
 have A1 := Aside0.mk A10
 clear A10
 replace H := Option.bind_eq_some_iff.mp H
 obtain ⟨⟨t104, t105, t106⟩, A20, H⟩ := H
 replace H : ((val_Do.f 1 t101 t102 t103 t104 t105 t106).bind fun bt107 => ((val_Days.f k 2024 1 31).bind fun bt113 => ((val_Months.f k bt113.1 1).bind fun bt115 => ((val_Split.f k bt115.1).bind fun bt117 => (if bt107.2.2.2.2 = 0 then (if bt107.2.2.2.1 = 0 then (if bt107.1 = 4 then (if bt107.2.2.1.toList = ([97, 98, 99, 32, 32] : List UInt8) then (if bt113.2 = 0 then (if bt115.2 = 0 then (if bt117.2.2.2 = 0 then (if bt117.1 = 2024 then (if bt117.2.1 = 2 then (some (bt117.2.2.1 == 29)) else (some false)) else (some false)) else (some false)) else (some false)) else (some false)) else (some false)) else (some false)) else (some false)) else (some false)))))) = some r := H
 have A2 := Aside0.mk A20
 clear A20
 replace H := Option.bind_eq_some_iff.mp H
 obtain ⟨⟨t107, t108, t109, t110, t111⟩, A30, H⟩ := H
 replace H : ((val_Days.f k 2024 1 31).bind fun bt113 => ((val_Months.f k bt113.1 1).bind fun bt115 => ((val_Split.f k bt115.1).bind fun bt117 => (if t111 = 0 then (if t110 = 0 then (if t107 = 4 then (if t109.toList = ([97, 98, 99, 32, 32] : List UInt8) then (if bt113.2 = 0 then (if bt115.2 = 0 then (if bt117.2.2.2 = 0 then (if bt117.1 = 2024 then (if bt117.2.1 = 2 then (some (bt117.2.2.1 == 29)) else (some false)) else (some false)) else (some false)) else (some false)) else (some false)) else (some false)) else (some false)) else (some false)) else (some false))))) = some r := H
 have A3 := Aside0.mk A30
 clear A30
 replace H := Option.bind_eq_some_iff.mp H
 obtain ⟨⟨t113, t114⟩, A40, H⟩ := H
 replace H : ((val_Months.f k t113 1).bind fun bt115 => ((val_Split.f k bt115.1).bind fun bt117 => (if t111 = 0 then (if t110 = 0 then (if t107 = 4 then (if t109.toList = ([97, 98, 99, 32, 32] : List UInt8) then (if t114 = 0 then (if bt115.2 = 0 then (if bt117.2.2.2 = 0 then (if bt117.1 = 2024 then (if bt117.2.1 = 2 then (some (bt117.2.2.1 == 29)) else (some false)) else (some false)) else (some false)) else (some false)) else (some false)) else (some false)) else (some false)) else (some false)) else (some false)))) = some r := H
 have A4 := Aside0.mk A40
 clear A40
 replace H := Option.bind_eq_some_iff.mp H
 obtain ⟨⟨t115, t116⟩, A50, H⟩ := H
 replace H : ((val_Split.f k t115).bind fun bt117 => (if t111 = 0 then (if t110 = 0 then (if t107 = 4 then (if t109.toList = ([97, 98, 99, 32, 32] : List UInt8) then (if t114 = 0 then (if t116 = 0 then (if bt117.2.2.2 = 0 then (if bt117.1 = 2024 then (if bt117.2.1 = 2 then (some (bt117.2.2.1 == 29)) else (some false)) else (some false)) else (some false)) else (some false)) else (some false)) else (some false)) else (some false)) else (some false)) else (some false))) = some r := H
 have A5 := Aside0.mk A50
 clear A50
 replace H := Option.bind_eq_some_iff.mp H
 obtain ⟨⟨t117, t118, t119, t120⟩, A60, H⟩ := H
 replace H : (if t111 = 0 then (if t110 = 0 then (if t107 = 4 then (if t109.toList = ([97, 98, 99, 32, 32] : List UInt8) then (if t114 = 0 then (if t116 = 0 then (if t120 = 0 then (if t117 = 2024 then (if t118 = 2 then (some (t119 == 29)) else (some false)) else (some false)) else (some false)) else (some false)) else (some false)) else (some false)) else (some false)) else (some false)) else (some false)) = some r := H
 have A6 := Aside0.mk A60
 clear A60
 by_cases c7 : t111 = 0
 ·rw [if_pos c7] at H
  have c7b0 : (t111 == 0) = true := beq_iff_eq.mpr c7
  have c7b1 : (t111 != 0) = false := bne_eq_false_iff_eq.mpr c7
  clear c7
  by_cases c8 : t110 = 0
  ·rw [if_pos c8] at H
   have c8b0 : (t110 == 0) = true := beq_iff_eq.mpr c8
   have c8b1 : (t110 != 0) = false := bne_eq_false_iff_eq.mpr c8
   clear c8
   by_cases c9 : t107 = 4
   ·rw [if_pos c9] at H
    have c9b0 : (t107 == 4) = true := beq_iff_eq.mpr c9
    have c9b1 : (t107 != 4) = false := bne_eq_false_iff_eq.mpr c9
    clear c9
    by_cases c10 : t109.toList = ([97, 98, 99, 32, 32] : List UInt8)
    ·rw [if_pos c10] at H
     have c10b0 : (t109.toList == ([97, 98, 99, 32, 32] : List UInt8)) = true := beq_iff_eq.mpr c10
     have c10b1 : (t109.toList != ([97, 98, 99, 32, 32] : List UInt8)) = false := bne_eq_false_iff_eq.mpr c10
     clear c10
     by_cases c11 : t114 = 0
     ·rw [if_pos c11] at H
      have c11b0 : (t114 == 0) = true := beq_iff_eq.mpr c11
      have c11b1 : (t114 != 0) = false := bne_eq_false_iff_eq.mpr c11
      clear c11
      by_cases c12 : t116 = 0
      ·rw [if_pos c12] at H
       have c12b0 : (t116 == 0) = true := beq_iff_eq.mpr c12
       have c12b1 : (t116 != 0) = false := bne_eq_false_iff_eq.mpr c12
       clear c12
       by_cases c13 : t120 = 0
       ·rw [if_pos c13] at H
        have c13b0 : (t120 == 0) = true := beq_iff_eq.mpr c13
        have c13b1 : (t120 != 0) = false := bne_eq_false_iff_eq.mpr c13
        clear c13
        by_cases c14 : t117 = 2024
        ·rw [if_pos c14] at H
         have c14b0 : (t117 == 2024) = true := beq_iff_eq.mpr c14
         have c14b1 : (t117 != 2024) = false := bne_eq_false_iff_eq.mpr c14
         clear c14
         by_cases c15 : t118 = 2
         ·rw [if_pos c15] at H
          have c15b0 : (t118 == 2) = true := beq_iff_eq.mpr c15
          have c15b1 : (t118 != 2) = false := bne_eq_false_iff_eq.mpr c15
          clear c15
          obtain rfl := Option.some.inj H
          simp only [Option.some.injEq, Prod.mk.injEq] at H
          obtain ⟨rfl⟩ := H
          go_enter Tryd.func16, Tryd.ntmps16
          go_wp2_with (first | ((with_reducible refine gate_callee (f := 58) rfl ?_); refine goesL_ (some 13) rfl rfl Tryd.func58 (by kernel_rfl) rfl #[.string (⟨#[97, 98, 32, 32]⟩ : ByteArray)] rfl (by (try simp only [List.map_toArray, List.map_cons, List.map_nil]); first | done | rfl | (simp only [List.length_drop, List.length_take]; rfl)) ?_; (with_reducible refine (cabinetryref01_Text.calls (⟨#[97, 98, 32, 32]⟩ : ByteArray) t101 t102 t103 _ A1.out).mono ?_); rintro e w16 ⟨rfl, hb⟩; refine ⟨_, rfl, ?_⟩; have n0_ := Aside0.mk (below_step (by repeat (first | (with_reducible first | exact HB.out | apply below_alloc | apply pw_below_drewN | apply below_drew1) | exact HB.out)) hb); clear HB; have HB := n0_; clear n0_; (try clear hb); (try clear hb2); (try clear hk); (try clear hi)) | ((with_reducible refine gate_callee (f := 58) rfl ?_); refine goesL_ (some 14) rfl rfl Tryd.func58 (by kernel_rfl) rfl #[.string (⟨#[99]⟩ : ByteArray)] rfl (by (try simp only [List.map_toArray, List.map_cons, List.map_nil]); first | done | rfl | (simp only [List.length_drop, List.length_take]; rfl)) ?_; (with_reducible refine (cabinetryref01_Text.calls (⟨#[99]⟩ : ByteArray) t104 t105 t106 _ A2.out).mono ?_); rintro e w17 ⟨rfl, hb⟩; refine ⟨_, rfl, ?_⟩; have n0_ := Aside0.mk (below_step (by repeat (first | (with_reducible first | exact HB.out | apply below_alloc | apply pw_below_drewN | apply below_drew1) | exact HB.out)) hb); clear HB; have HB := n0_; clear n0_; (try clear hb); (try clear hb2); (try clear hk); (try clear hi)) | ((with_reducible refine gate_callee (f := 17) rfl ?_); refine goesL_ (some 15) rfl rfl Tryd.func17 (by kernel_rfl) rfl #[.int .i64 1, .agg #[.int .i64 t101, .int .i64 t102, .string t103], .agg #[.int .i64 t104, .int .i64 t105, .string t106]] rfl (by (try simp only [List.map_toArray, List.map_cons, List.map_nil]); first | done | rfl | (simp only [List.length_drop, List.length_take]; rfl)) ?_; (with_reducible refine (val_Do.calls 1 t101 t102 t103 t104 t105 t106 t107 t108 t109 t110 t111 _ A3.out).mono ?_); rintro e w18 ⟨rfl, hb⟩; refine ⟨_, rfl, ?_⟩; have n0_ := Aside0.mk (below_step (by repeat (first | (with_reducible first | exact HB.out | apply below_alloc | apply pw_below_drewN | apply below_drew1) | exact HB.out)) hb); clear HB; have HB := n0_; clear n0_; (try clear hb); (try clear hb2); (try clear hk); (try clear hi)) | ((with_reducible refine gate_dst (N := 1) rfl ?_); refine box_event ?hg (N := 1) ?hd (cs := #[.int .i64 0, .int .i64 0, .string (⟨#[]⟩ : ByteArray)]) (t := 23) ?hr ?_; (case hd => rfl); (case hg => rfl); (case hr => first | (go_simp; done) | (go_simp; rfl)); intro gb112 hg w19 hbox hb; have n0_ := Aside0.mk (below_step (by repeat (first | (with_reducible first | exact HB.out | apply below_alloc | apply pw_below_drewN | apply below_drew1) | exact HB.out)) hb); have n1_ := Aside0.mk (hbox); have n2_ := Aside0.mk ((by rw [hg]; exact (below_size (by repeat (first | (with_reducible first | exact HB.out | apply below_alloc | apply pw_below_drewN | apply below_drew1) | exact HB.out))) : w.heap.size ≤ gb112)); have n3_ := Aside0.mk ((by rw [hg]; exact (below_size (by repeat (first | (with_reducible first | exact HB.out | apply below_alloc | apply pw_below_drewN | apply below_drew1) | exact HB.out))) : w.heap.size ≤ gb112)); clear HB; have HB := n0_; have BK112 := n1_; have GW112 := n2_; have GE112 := n3_; clear n0_ n1_ n2_ n3_; clear hb hbox hg; have hcz20_0 : w19.cell? ⟨gb112, 0, none⟩ = some (.int .i64 0) := (blk_cell BK112.out 0).trans rfl; have hcz20_1 : w19.cell? ⟨gb112, 1, none⟩ = some (.int .i64 0) := (blk_cell BK112.out 1).trans rfl; have hcz20_2 : w19.cell? ⟨gb112, 2, none⟩ = some (.string (⟨#[]⟩ : ByteArray)) := (blk_cell BK112.out 2).trans rfl; have hfz20_0 := blk_frozen BK112.out 0; have hfz20_1 := blk_frozen BK112.out 1; have hfz20_2 := blk_frozen BK112.out 2) | ((with_reducible refine gate_callee (f := 22) rfl ?_); refine goesL_ (some 20) rfl rfl Tryd.func22 (by kernel_rfl) rfl #[.int .i64 2024, .int .i64 1, .int .i64 31] rfl (by (try simp only [List.map_toArray, List.map_cons, List.map_nil]); first | done | rfl | (simp only [List.length_drop, List.length_take]; rfl)) ?_; (with_reducible refine (val_Days.calls k 2024 1 31 t113 t114 _ A4.out).mono ?_); rintro e w21 ⟨rfl, hb⟩; refine ⟨_, rfl, ?_⟩; have n0_ := Aside0.mk (blk_below (g := gb112) (o := .cells #[.int .i64 t107, .int .i64 t108, .string t109] 23 (0, 0)) (by (with_reducible repeat (first | refine blk_drewN ?_ _ | refine blk_drew ?_ | refine blk_alloc ?_ _)); refine blk_put (cs := #[.int .i64 t107, .int .i64 t108, .string (⟨#[]⟩ : ByteArray)]) ?_ 2 _ rfl; (with_reducible repeat (first | refine blk_drewN ?_ _ | refine blk_drew ?_ | refine blk_alloc ?_ _)); refine blk_put (cs := #[.int .i64 t107, .int .i64 0, .string (⟨#[]⟩ : ByteArray)]) ?_ 1 _ rfl; (with_reducible repeat (first | refine blk_drewN ?_ _ | refine blk_drew ?_ | refine blk_alloc ?_ _)); refine blk_put (cs := #[.int .i64 0, .int .i64 0, .string (⟨#[]⟩ : ByteArray)]) ?_ 0 _ rfl; (with_reducible repeat (first | refine blk_drewN ?_ _ | refine blk_drew ?_ | refine blk_alloc ?_ _)); exact BK112.out) hb); have n1_ := Aside0.mk (below_step (by repeat (first | (with_reducible first | exact HB.out | apply below_alloc | apply pw_below_drewN | apply below_drew1 | refine below_set ?_ GE112.out) | exact HB.out)) hb); clear BK112; clear HB; have BK112 := n0_; have HB := n1_; clear n0_ n1_; (try clear hb); (try clear hb2); (try clear hk); (try clear hi)) | ((with_reducible refine gate_callee (f := 40) rfl ?_); refine goesL_ (some 25) rfl rfl Tryd.func40 (by kernel_rfl) rfl #[.int .i64 t113, .int .i64 1] rfl (by (try simp only [List.map_toArray, List.map_cons, List.map_nil]); first | done | rfl | (simp only [List.length_drop, List.length_take]; rfl)) ?_; (with_reducible refine (val_Months.calls k t113 1 t115 t116 _ A5.out).mono ?_); rintro e w22 ⟨rfl, hb⟩; refine ⟨_, rfl, ?_⟩; have n0_ := Aside0.mk (blk_below (g := gb112) (o := .cells #[.int .i64 t107, .int .i64 t108, .string t109] 23 (0, 0)) (by (with_reducible repeat (first | refine blk_drewN ?_ _ | refine blk_drew ?_ | refine blk_alloc ?_ _)); exact BK112.out) hb); have n1_ := Aside0.mk (below_step (by repeat (first | (with_reducible first | exact HB.out | apply below_alloc | apply pw_below_drewN | apply below_drew1 | refine below_set ?_ GE112.out) | exact HB.out)) hb); clear BK112; clear HB; have BK112 := n0_; have HB := n1_; clear n0_ n1_; (try clear hb); (try clear hb2); (try clear hk); (try clear hi)) | ((with_reducible refine gate_callee (f := 24) rfl ?_); refine goesL_ (some 30) rfl rfl Tryd.func24 (by kernel_rfl) rfl #[.int .i64 t115] rfl (by (try simp only [List.map_toArray, List.map_cons, List.map_nil]); first | done | rfl | (simp only [List.length_drop, List.length_take]; rfl)) ?_; (with_reducible refine (val_Split.calls k t115 t117 t118 t119 t120 _ A6.out).mono ?_); rintro e w23 ⟨rfl, hb⟩; refine ⟨_, rfl, ?_⟩; have n0_ := Aside0.mk (blk_below (g := gb112) (o := .cells #[.int .i64 t107, .int .i64 t108, .string t109] 23 (0, 0)) (by (with_reducible repeat (first | refine blk_drewN ?_ _ | refine blk_drew ?_ | refine blk_alloc ?_ _)); exact BK112.out) hb); have n1_ := Aside0.mk (below_step (by repeat (first | (with_reducible first | exact HB.out | apply below_alloc | apply pw_below_drewN | apply below_drew1 | refine below_set ?_ GE112.out) | exact HB.out)) hb); clear BK112; clear HB; have BK112 := n0_; have HB := n1_; clear n0_ n1_; (try clear hb); (try clear hb2); (try clear hk); (try clear hi); have hcz24_0 : w23.cell? ⟨gb112, 0, none⟩ = some (.int .i64 t107) := (blk_cell BK112.out 0).trans rfl; have hcz24_1 : w23.cell? ⟨gb112, 1, none⟩ = some (.int .i64 t108) := (blk_cell BK112.out 1).trans rfl; have hcz24_2 : w23.cell? ⟨gb112, 2, none⟩ = some (.string t109) := (blk_cell BK112.out 2).trans rfl; have hfz24_0 := blk_frozen BK112.out 0; have hfz24_1 := blk_frozen BK112.out 1; have hfz24_2 := blk_frozen BK112.out 2))
          go_ret
          exact ⟨by first | rfl | (simp [errW_none, errW_some] <;> rfl) | (simp [*, errW_none, errW_some] <;> rfl), by repeat (first | (with_reducible first | exact HB.out | apply below_alloc | apply pw_below_drewN | apply below_drew1 | refine below_set ?_ GE112.out) | exact HB.out)⟩
         ·rw [if_neg c15] at H
          have c15b0 : (t118 == 2) = false := beq_eq_false_iff_ne.mpr c15
          have c15b1 : (t118 != 2) = true := bne_iff_ne.mpr c15
          obtain rfl := Option.some.inj H
          exact absurd hr_.out (by decide)
        ·rw [if_neg c14] at H
         have c14b0 : (t117 == 2024) = false := beq_eq_false_iff_ne.mpr c14
         have c14b1 : (t117 != 2024) = true := bne_iff_ne.mpr c14
         obtain rfl := Option.some.inj H
         exact absurd hr_.out (by decide)
       ·rw [if_neg c13] at H
        have c13b0 : (t120 == 0) = false := beq_eq_false_iff_ne.mpr c13
        have c13b1 : (t120 != 0) = true := bne_iff_ne.mpr c13
        obtain rfl := Option.some.inj H
        exact absurd hr_.out (by decide)
      ·rw [if_neg c12] at H
       have c12b0 : (t116 == 0) = false := beq_eq_false_iff_ne.mpr c12
       have c12b1 : (t116 != 0) = true := bne_iff_ne.mpr c12
       obtain rfl := Option.some.inj H
       exact absurd hr_.out (by decide)
     ·rw [if_neg c11] at H
      have c11b0 : (t114 == 0) = false := beq_eq_false_iff_ne.mpr c11
      have c11b1 : (t114 != 0) = true := bne_iff_ne.mpr c11
      obtain rfl := Option.some.inj H
      exact absurd hr_.out (by decide)
    ·rw [if_neg c10] at H
     have c10b0 : (t109.toList == ([97, 98, 99, 32, 32] : List UInt8)) = false := beq_eq_false_iff_ne.mpr c10
     have c10b1 : (t109.toList != ([97, 98, 99, 32, 32] : List UInt8)) = true := bne_iff_ne.mpr c10
     obtain rfl := Option.some.inj H
     exact absurd hr_.out (by decide)
   ·rw [if_neg c9] at H
    have c9b0 : (t107 == 4) = false := beq_eq_false_iff_ne.mpr c9
    have c9b1 : (t107 != 4) = true := bne_iff_ne.mpr c9
    obtain rfl := Option.some.inj H
    exact absurd hr_.out (by decide)
  ·rw [if_neg c8] at H
   have c8b0 : (t110 == 0) = false := beq_eq_false_iff_ne.mpr c8
   have c8b1 : (t110 != 0) = true := bne_iff_ne.mpr c8
   obtain rfl := Option.some.inj H
   exact absurd hr_.out (by decide)
 ·rw [if_neg c7] at H
  have c7b0 : (t111 == 0) = false := beq_eq_false_iff_ne.mpr c7
  have c7b1 : (t111 != 0) = true := bne_iff_ne.mpr c7
  obtain rfl := Option.some.inj H
  exact absurd hr_.out (by decide)
end Go.Proofs.YtplbjaandkdhjaaDoor.PC
namespace Go.Proofs.YtplbjaandkdhjaaDoor.L1
open Go.RowKit Go.Proofs.YtplbjaandkdhjaaDoorW.PrintWords Go.Proofs.YtplbjaandkdhjaaDoor.PA Go.Proofs.YtplbjaandkdhjaaDoor.PB Go.Proofs.YtplbjaandkdhjaaDoor.PC Go.Proofs.YtplbjaandkdhjaaDoor.H1
set_option linter.unusedVariables false
set_option linter.unusedSimpArgs false
theorem known_at : cabinetrylaw01_known.f 40 = some true := by
  unfold cabinetrylaw01_known.f
  simp only [ByteArray.toList_eq]
  kernel_rfl
theorem known_ev (k : Nat) (h : 40 ≤ k) : cabinetrylaw01_known.f k = some true := at_rounds cabinetrylaw01_known.mono h known_at
end Go.Proofs.YtplbjaandkdhjaaDoor.L1
namespace Go.Proofs.YtplbjaandkdhjaaDoor.PA
open Go.RowKit Go.Proofs.YtplbjaandkdhjaaDoorW.PrintWords Go.Proofs.YtplbjaandkdhjaaDoorW.PrintLast Go.Proofs.YtplbjaandkdhjaaDoorW.PrintMore
attribute [local go_sem] max2_int min2_int max_two min_two max_three min_three max_four min_four   -- for this text's walks alone
set_option linter.unusedVariables false
set_option linter.unusedSimpArgs false
def cabinetryref01_length.f (a0 : Int) (a1 : Int) : Option (Int) := if a1 = 2 then ((cabinetryref01_leap.f a0).bind fun t361 => (if t361 = true then (some 29) else (some 28))) else (if a1 = 4 then (some 30) else (if a1 = 6 then (some 30) else (if a1 = 9 then (some 30) else (if a1 = 11 then (some 30) else (some 31)))))
set_option maxHeartbeats 8000000 in
set_option maxRecDepth 100000 in
theorem cabinetryref01_length.calls (a0 : Int) (a1 : Int) (r : Int) (w : World) (h : cabinetryref01_length.f a0 a1 = some r) :
  Calls Tryd.prog 71 #[.int .i64 a0, .int .i64 a1] w fun e w' => e = .returned (.int .i64 r) ∧ Drawn0 w w' := by
 have H : (if a1 = 2 then ((cabinetryref01_leap.f a0).bind fun t361 => (if t361 = true then (some 29) else (some 28))) else (if a1 = 4 then (some 30) else (if a1 = 6 then (some 30) else (if a1 = 9 then (some 30) else (if a1 = 11 then (some 30) else (some 31)))))) = some r := h
 clear h
 by_cases c3 : a1 = 2
 ·rw [if_pos c3] at H
  have c3b0 : (a1 == 2) = true := beq_iff_eq.mpr c3
  have c3b1 : (a1 != 2) = false := bne_eq_false_iff_eq.mpr c3
  clear c3
  replace H := Option.bind_eq_some_iff.mp H
  obtain ⟨t361, A40, H⟩ := H
  replace H : (if t361 = true then (some 29) else (some 28)) = some r := H
  have A4 := Aside0.mk A40
  clear A40
  by_cases c5 : t361 = true
  ·subst c5
   have H1 : (some 29) = some r := by rw [if_pos rfl] at H; exact H
   clear H
   have H := H1
   clear H1
   obtain rfl := Option.some.inj H
   simp only [Option.some.injEq, Prod.mk.injEq] at H
   obtain ⟨rfl⟩ := H
   go_enter Tryd.func71, Tryd.ntmps71
   go_wp2_with (first | ((with_reducible refine gate_callee (f := 112) rfl ?_); refine goesL_ (some 8) rfl rfl Tryd.func112 (by kernel_rfl) rfl #[.int .i64 a0] rfl (by (try simp only [List.map_toArray, List.map_cons, List.map_nil]); first | done | rfl | (simp only [List.length_drop, List.length_take]; rfl)) ?_; (with_reducible refine (cabinetryref01_leap.calls a0 true _ A4.out).mono ?_); rintro e w' ⟨rfl, ⟨nd, rfl⟩⟩; refine ⟨_, rfl, ?_⟩))
   go_ret
   exact ⟨by first | rfl | (simp; done) | (simp [*]; done), by repeat (first | exact Drawn0.refl _ | apply Drawn0.step)⟩
  ·replace c5 := Bool.eq_false_iff.mpr c5
   subst c5
   have H1 : (some 28) = some r := by rw [if_neg (show ¬ (false = true) by decide)] at H; exact H
   clear H
   have H := H1
   clear H1
   obtain rfl := Option.some.inj H
   simp only [Option.some.injEq, Prod.mk.injEq] at H
   obtain ⟨rfl⟩ := H
   go_enter Tryd.func71, Tryd.ntmps71
   go_wp2_with (first | ((with_reducible refine gate_callee (f := 112) rfl ?_); refine goesL_ (some 8) rfl rfl Tryd.func112 (by kernel_rfl) rfl #[.int .i64 a0] rfl (by (try simp only [List.map_toArray, List.map_cons, List.map_nil]); first | done | rfl | (simp only [List.length_drop, List.length_take]; rfl)) ?_; (with_reducible refine (cabinetryref01_leap.calls a0 false _ A4.out).mono ?_); rintro e w' ⟨rfl, ⟨nd, rfl⟩⟩; refine ⟨_, rfl, ?_⟩))
   go_ret
   exact ⟨by first | rfl | (simp; done) | (simp [*]; done), by repeat (first | exact Drawn0.refl _ | apply Drawn0.step)⟩
 ·rw [if_neg c3] at H
  have c3b0 : (a1 == 2) = false := beq_eq_false_iff_ne.mpr c3
  have c3b1 : (a1 != 2) = true := bne_iff_ne.mpr c3
  by_cases c6 : a1 = 4
  ·rw [if_pos c6] at H
   have c6b0 : (a1 == 4) = true := beq_iff_eq.mpr c6
   have c6b1 : (a1 != 4) = false := bne_eq_false_iff_eq.mpr c6
   clear c6
   obtain rfl := Option.some.inj H
   simp only [Option.some.injEq, Prod.mk.injEq] at H
   obtain ⟨rfl⟩ := H
   go_enter Tryd.func71, Tryd.ntmps71
   go_wp2
   go_ret
   exact ⟨by first | rfl | (simp; done) | (simp [*]; done), by repeat (first | exact Drawn0.refl _ | apply Drawn0.step)⟩
  ·rw [if_neg c6] at H
   have c6b0 : (a1 == 4) = false := beq_eq_false_iff_ne.mpr c6
   have c6b1 : (a1 != 4) = true := bne_iff_ne.mpr c6
   by_cases c7 : a1 = 6
   ·rw [if_pos c7] at H
    have c7b0 : (a1 == 6) = true := beq_iff_eq.mpr c7
    have c7b1 : (a1 != 6) = false := bne_eq_false_iff_eq.mpr c7
    clear c7
    obtain rfl := Option.some.inj H
    simp only [Option.some.injEq, Prod.mk.injEq] at H
    obtain ⟨rfl⟩ := H
    go_enter Tryd.func71, Tryd.ntmps71
    go_wp2
    go_ret
    exact ⟨by first | rfl | (simp; done) | (simp [*]; done), by repeat (first | exact Drawn0.refl _ | apply Drawn0.step)⟩
   ·rw [if_neg c7] at H
    have c7b0 : (a1 == 6) = false := beq_eq_false_iff_ne.mpr c7
    have c7b1 : (a1 != 6) = true := bne_iff_ne.mpr c7
    by_cases c8 : a1 = 9
    ·rw [if_pos c8] at H
     have c8b0 : (a1 == 9) = true := beq_iff_eq.mpr c8
     have c8b1 : (a1 != 9) = false := bne_eq_false_iff_eq.mpr c8
     clear c8
     obtain rfl := Option.some.inj H
     simp only [Option.some.injEq, Prod.mk.injEq] at H
     obtain ⟨rfl⟩ := H
     go_enter Tryd.func71, Tryd.ntmps71
     go_wp2
     go_ret
     exact ⟨by first | rfl | (simp; done) | (simp [*]; done), by repeat (first | exact Drawn0.refl _ | apply Drawn0.step)⟩
    ·rw [if_neg c8] at H
     have c8b0 : (a1 == 9) = false := beq_eq_false_iff_ne.mpr c8
     have c8b1 : (a1 != 9) = true := bne_iff_ne.mpr c8
     by_cases c9 : a1 = 11
     ·rw [if_pos c9] at H
      have c9b0 : (a1 == 11) = true := beq_iff_eq.mpr c9
      have c9b1 : (a1 != 11) = false := bne_eq_false_iff_eq.mpr c9
      clear c9
      obtain rfl := Option.some.inj H
      simp only [Option.some.injEq, Prod.mk.injEq] at H
      obtain ⟨rfl⟩ := H
      go_enter Tryd.func71, Tryd.ntmps71
      go_wp2
      go_ret
      exact ⟨by first | rfl | (simp; done) | (simp [*]; done), by repeat (first | exact Drawn0.refl _ | apply Drawn0.step)⟩
     ·rw [if_neg c9] at H
      have c9b0 : (a1 == 11) = false := beq_eq_false_iff_ne.mpr c9
      have c9b1 : (a1 != 11) = true := bne_iff_ne.mpr c9
      obtain rfl := Option.some.inj H
      simp only [Option.some.injEq, Prod.mk.injEq] at H
      obtain ⟨rfl⟩ := H
      go_enter Tryd.func71, Tryd.ntmps71
      go_wp2
      go_ret
      exact ⟨by first | rfl | (simp; done) | (simp [*]; done), by repeat (first | exact Drawn0.refl _ | apply Drawn0.step)⟩
end Go.Proofs.YtplbjaandkdhjaaDoor.PA
namespace Go.Proofs.YtplbjaandkdhjaaDoor.PA
open Go.RowKit Go.Proofs.YtplbjaandkdhjaaDoorW.PrintWords Go.Proofs.YtplbjaandkdhjaaDoorW.PrintLast Go.Proofs.YtplbjaandkdhjaaDoorW.PrintMore
attribute [local go_sem] max2_int min2_int max_two min_two max_three min_three max_four min_four   -- for this text's walks alone
set_option linter.unusedVariables false
set_option linter.unusedSimpArgs false
mutual
def cabinetryref01_Days.j0 : Nat → Int → Int → Int → Bool → Option (Int × Int)
 | 0, _, _, _, _ => none
 | k + 1, x0, x1, x2, x35 => if x35 = true then (some (0, 1)) else (cabinetryref01_Days.l0 k x0 x1 x2 1)
def cabinetryref01_Days.l0 : Nat → Int → Int → Int → Int → Option (Int × Int)
 | 0, _, _, _, _ => none
 | k + 1, x0, x1, x8, x9 => if x9 < x1 then ((cabinetryref01_length.f x0 x9).bind fun t363 => (cabinetryref01_Days.l0 k x0 x1 (wrap64 (x8 + t363)) (wrap64 (x9 + 1)))) else (some (wrap64 ((wrap64 ((wrap64 ((wrap64 (x8 + (wrap64 (365 * (wrap64 (x0 - 1)))))) + (wrap64 (Int.tdiv (wrap64 (x0 - 1)) 4)))) - (wrap64 (Int.tdiv (wrap64 (x0 - 1)) 100)))) + (wrap64 (Int.tdiv (wrap64 (x0 - 1)) 400))), 0))
end
def cabinetryref01_Days.f (k : Nat) (a0 : Int) (a1 : Int) (a2 : Int) : Option (Int × Int) := if a0 < 1 then (cabinetryref01_Days.j0 k a0 a1 a2 true) else (if a0 > 9999 then (cabinetryref01_Days.j0 k a0 a1 a2 true) else (if a1 < 1 then (cabinetryref01_Days.j0 k a0 a1 a2 true) else (if a1 > 12 then (cabinetryref01_Days.j0 k a0 a1 a2 true) else (if a2 < 1 then (cabinetryref01_Days.j0 k a0 a1 a2 true) else ((cabinetryref01_length.f a0 a1).bind fun t362 => (cabinetryref01_Days.j0 k a0 a1 a2 (decide (a2 > t362))))))))
set_option maxHeartbeats 8000000 in
set_option maxRecDepth 100000 in
theorem cabinetryref01_Days.calls (k : Nat) (a0 : Int) (a1 : Int) (a2 : Int) (r1 : Int) (r2 : Int) (w : World) (h : cabinetryref01_Days.f k a0 a1 a2 = some (r1, r2)) :
  Calls Tryd.prog 23 #[.int .i64 a0, .int .i64 a1, .int .i64 a2] w fun e w' => e = .returned (.tuple #[.int .i64 r1, .int .i64 r2]) ∧ Drawn0 w w' := by
 have H : (if a0 < 1 then (cabinetryref01_Days.j0 k a0 a1 a2 true) else (if a0 > 9999 then (cabinetryref01_Days.j0 k a0 a1 a2 true) else (if a1 < 1 then (cabinetryref01_Days.j0 k a0 a1 a2 true) else (if a1 > 12 then (cabinetryref01_Days.j0 k a0 a1 a2 true) else (if a2 < 1 then (cabinetryref01_Days.j0 k a0 a1 a2 true) else ((cabinetryref01_length.f a0 a1).bind fun t362 => (cabinetryref01_Days.j0 k a0 a1 a2 (decide (a2 > t362))))))))) = some (r1, r2) := h
 clear h
 have HC4 := Aside0.mk H
 clear H
 go_enter Tryd.func23, Tryd.ntmps23
 go_upto_region 1 with (fail)
 go_cut [35] (fun v35 wc => ∃ (kq : Nat) (x35_3 : Bool), v35 = .bool x35_3 ∧ Aside0 (cabinetryref01_Days.j0 kq a0 a1 a2 x35_3 = some (r1, r2)) ∧ Aside0 (kq ≤ k) ∧ Drawn0 w wc)
 case first =>
  have H := HC4.out
  clear HC4
  by_cases c5 : a0 < 1
  ·rw [if_pos c5] at H
   have c5b0 : decide (a0 < 1) = true := decide_eq_true c5
   clear c5
   (first | rw [c5b0] | (simp only [i64_w, i32_w]; rw [c5b0]) | skip)
   have H' := Aside0.mk H
   clear H
   go_wp2
   go_meet
   case rel => exact ⟨_, (true), (by first | rfl | (simp; done) | (simp [*]; done)), H', ⟨by first | omega | exact Nat.le_refl _⟩, by repeat (first | exact Drawn0.refl _ | apply Drawn0.step)⟩
  ·rw [if_neg c5] at H
   have c5b0 : decide (a0 < 1) = false := decide_eq_false c5
   clear c5
   (first | rw [c5b0] | (simp only [i64_w, i32_w]; rw [c5b0]) | skip)
   by_cases c6 : a0 > 9999
   ·rw [if_pos c6] at H
    have c6b0 : decide (9999 < a0) = true := decide_eq_true c6
    clear c6
    have H' := Aside0.mk H
    clear H
    go_wp2
    go_meet
    case rel => exact ⟨_, (true), (by first | rfl | (simp; done) | (simp [*]; done)), H', ⟨by first | omega | exact Nat.le_refl _⟩, by repeat (first | exact Drawn0.refl _ | apply Drawn0.step)⟩
   ·rw [if_neg c6] at H
    have c6b0 : decide (9999 < a0) = false := decide_eq_false c6
    clear c6
    by_cases c7 : a1 < 1
    ·rw [if_pos c7] at H
     have c7b0 : decide (a1 < 1) = true := decide_eq_true c7
     clear c7
     have H' := Aside0.mk H
     clear H
     go_wp2
     go_meet
     case rel => exact ⟨_, (true), (by first | rfl | (simp; done) | (simp [*]; done)), H', ⟨by first | omega | exact Nat.le_refl _⟩, by repeat (first | exact Drawn0.refl _ | apply Drawn0.step)⟩
    ·rw [if_neg c7] at H
     have c7b0 : decide (a1 < 1) = false := decide_eq_false c7
     clear c7
     by_cases c8 : a1 > 12
     ·rw [if_pos c8] at H
      have c8b0 : decide (12 < a1) = true := decide_eq_true c8
      clear c8
      have H' := Aside0.mk H
      clear H
      go_wp2
      go_meet
      case rel => exact ⟨_, (true), (by first | rfl | (simp; done) | (simp [*]; done)), H', ⟨by first | omega | exact Nat.le_refl _⟩, by repeat (first | exact Drawn0.refl _ | apply Drawn0.step)⟩
     ·rw [if_neg c8] at H
      have c8b0 : decide (12 < a1) = false := decide_eq_false c8
      clear c8
      by_cases c9 : a2 < 1
      ·rw [if_pos c9] at H
       have c9b0 : decide (a2 < 1) = true := decide_eq_true c9
       clear c9
       have H' := Aside0.mk H
       clear H
       go_wp2
       go_meet
       case rel => exact ⟨_, (true), (by first | rfl | (simp; done) | (simp [*]; done)), H', ⟨by first | omega | exact Nat.le_refl _⟩, by repeat (first | exact Drawn0.refl _ | apply Drawn0.step)⟩
      ·rw [if_neg c9] at H
       have c9b0 : decide (a2 < 1) = false := decide_eq_false c9
       clear c9
       replace H := Option.bind_eq_some_iff.mp H
       obtain ⟨t362, A100, H⟩ := H
       replace H : (cabinetryref01_Days.j0 k a0 a1 a2 (decide (a2 > t362))) = some (r1, r2) := H
       have A10 := Aside0.mk A100
       clear A100
       have H' := Aside0.mk H
       clear H
       go_wp2_with (first | (go_at_call 71; (with_reducible refine (cabinetryref01_length.calls a0 a1 t362 _ A10.out).mono ?_); rintro e w' ⟨rfl, ⟨nd, rfl⟩⟩))
       go_meet
       case rel => exact ⟨_, (decide (a2 > t362)), (by first | rfl | (simp; done) | (simp [*]; done)), H', ⟨by first | omega | exact Nat.le_refl _⟩, by repeat (first | exact Drawn0.refl _ | apply Drawn0.step)⟩
 case rest =>
  clear HC4
  try clear c2; try clear p2; try clear c5; try clear c5b0; try clear c6; try clear c6b0; try clear c7; try clear c7b0; try clear c8; try clear c8b0; try clear c9; try clear c9b0
  obtain ⟨kq, x35_3, rfl, HA, HJ3, ⟨mc3, rfl⟩⟩ := hcut
  cases kq with
  | zero => exact absurd HA.out (by simp [cabinetryref01_Days.j0])
  | succ kj3 =>
   have H := HA.out
   clear HA
   simp only [cabinetryref01_Days.j0] at H
   by_cases c11 : x35_3 = true
   ·subst c11
    have H1 : (some (0, 1)) = some (r1, r2) := by rw [if_pos rfl] at H; exact H
    clear H
    have H := H1
    clear H1
    simp only [Option.some.injEq, Prod.mk.injEq] at H
    obtain ⟨rfl, rfl⟩ := H
    go_wp2
    go_ret2
    exact ⟨by first | rfl | (simp; done) | (simp [*]; done), by repeat (first | exact Drawn0.refl _ | apply Drawn0.step)⟩
   ·replace c11 := Bool.eq_false_iff.mpr c11
    subst c11
    have H1 : (cabinetryref01_Days.l0 kj3 a0 a1 a2 1) = some (r1, r2) := by rw [if_neg (show ¬ (false = true) by decide)] at H; exact H
    clear H
    have H := H1
    clear H1
    have H' := Aside0.mk H
    clear H
    go_wp2
    go_loopg [8, 9] kj3 (fun kq v8 v9 w' => ∃ (x8_2 : Int) (x9_2 : Int), v8 = .int .i64 x8_2 ∧ v9 = .int .i64 x9_2 ∧ Aside0 (cabinetryref01_Days.l0 kq a0 a1 x8_2 x9_2 = some (r1, r2)) ∧ Aside0 (kq ≤ kj3) ∧ Drawn0 w w')
    case atStart => exact ⟨(a2), (1), (by first | rfl | (simp; done) | (simp [*]; done)), (by first | rfl | (simp; done) | (simp [*]; done)), H', ⟨Nat.le_refl _⟩, by repeat (first | exact Drawn0.refl _ | apply Drawn0.step)⟩
    case round =>
     clear H'
     try clear c1; try clear c2; try clear p2; try clear c3; try clear c5; try clear c5b0; try clear c6; try clear c6b0; try clear c7; try clear c7b0; try clear c8; try clear c8b0; try clear c9; try clear c9b0; try clear c11; try clear p2
     obtain ⟨x8_2, x9_2, rfl, rfl, HA, HK2, ⟨m2, rfl⟩⟩ := hrel
     cases gk with
     | zero => exact absurd HA.out (by simp [cabinetryref01_Days.l0])
     | succ k2 =>
      have H := HA.out
      clear HA
      simp only [cabinetryref01_Days.l0] at H
      by_cases c12 : x9_2 < a1
      ·rw [if_pos c12] at H
       have c12b0 : decide (x9_2 < a1) = true := decide_eq_true c12
       clear c12
       replace H := Option.bind_eq_some_iff.mp H
       obtain ⟨t363, A130, H⟩ := H
       replace H : (cabinetryref01_Days.l0 k2 a0 a1 (wrap64 (x8_2 + t363)) (wrap64 (x9_2 + 1))) = some (r1, r2) := H
       have A13 := Aside0.mk A130
       clear A130
       have H' := Aside0.mk H
       clear H
       go_wp2_with (first | ((with_reducible refine gate_callee (f := 71) rfl ?_); refine goesL_ (some 45) rfl rfl Tryd.func71 (by kernel_rfl) rfl #[.int .i64 a0, .int .i64 x9_2] rfl (by (try simp only [List.map_toArray, List.map_cons, List.map_nil]); first | done | rfl | (simp only [List.length_drop, List.length_take]; rfl)) ?_; (with_reducible refine (cabinetryref01_length.calls a0 x9_2 t363 _ A13.out).mono ?_); rintro e w' ⟨rfl, ⟨nd, rfl⟩⟩; refine ⟨_, rfl, ?_⟩))
       go_roundg k2
       case measure => have := HJ3.out; have := HK2.out; omega
       case rel => exact ⟨(wrap64 (x8_2 + t363)), (wrap64 (x9_2 + 1)), (by first | rfl | (simp; done) | (simp [*]; done)), (by first | rfl | (simp; done) | (simp [*]; done)), H', ⟨by have := HJ3.out; have := HK2.out; omega⟩, by repeat (first | exact Drawn0.refl _ | apply Drawn0.step)⟩
      ·rw [if_neg c12] at H
       have c12b0 : decide (x9_2 < a1) = false := decide_eq_false c12
       clear c12
       simp only [Option.some.injEq, Prod.mk.injEq] at H
       obtain ⟨rfl, rfl⟩ := H
       go_wp2
       go_ret2
       exact ⟨by first | rfl | (simp; done) | (simp [*]; done), by repeat (first | exact Drawn0.refl _ | apply Drawn0.step)⟩
end Go.Proofs.YtplbjaandkdhjaaDoor.PA
namespace Go.Proofs.YtplbjaandkdhjaaDoor.L1
open Go.RowKit Go.Proofs.YtplbjaandkdhjaaDoorW.PrintWords Go.Proofs.YtplbjaandkdhjaaDoor.PA Go.Proofs.YtplbjaandkdhjaaDoor.PB Go.Proofs.YtplbjaandkdhjaaDoor.H1
set_option linter.unusedVariables false
set_option linter.unusedSimpArgs false
def ydays (y : Int) : Int := 365 * (y - 1) + (y - 1) / 4 - (y - 1) / 100 + (y - 1) / 400
theorem leapB_iff {y : Int} (h : 0 ≤ y) : leapB y = true ↔ y % 4 = 0 ∧ (y % 100 ≠ 0 ∨ y % 400 = 0) := by
  unfold leapB
  rw [Int.tmod_eq_emod_of_nonneg h, Int.tmod_eq_emod_of_nonneg h, Int.tmod_eq_emod_of_nonneg h]
  simp
theorem ydays_succ {y : Int} (h : 1 ≤ y) : ydays (y + 1) = ydays y + (if leapB y = true then 366 else 365) := by
  unfold ydays
  by_cases hl : leapB y = true
  · rw [if_pos hl]; rw [leapB_iff (by omega)] at hl; omega
  · rw [if_neg hl]; rw [leapB_iff (by omega)] at hl; omega
theorem yearsDays_f {y : Int} (h0 : 1 ≤ y) (h1 : y ≤ 10001) : val_yearsDays.f y = some (ydays y) := by
  unfold val_yearsDays.f ydays
  have e : wrap64 (y - 1) = y - 1 := w64 (by omega) (by omega)
  rw [e, Int.tdiv_eq_ediv_of_nonneg (by omega), Int.tdiv_eq_ediv_of_nonneg (by omega), Int.tdiv_eq_ediv_of_nonneg (by omega)]
  rw [w64 (x := 365 * (y - 1)) (by omega) (by omega), w64 (x := (y - 1) / 4) (by omega) (by omega), w64 (x := (y - 1) / 100) (by omega) (by omega), w64 (x := (y - 1) / 400) (by omega) (by omega)]
  rw [w64 (x := 365 * (y - 1) + (y - 1) / 4) (by omega) (by omega), w64 (x := 365 * (y - 1) + (y - 1) / 4 - (y - 1) / 100) (by omega) (by omega), w64 (by omega) (by omega)]
theorem ydays_bd {y : Int} (h0 : 1 ≤ y) (h1 : y ≤ 10001) : 0 ≤ ydays y ∧ ydays y ≤ 3652425 := by unfold ydays; omega
theorem ydays_mono {a b : Int} (h0 : 1 ≤ a) (h : a ≤ b) : ydays a ≤ ydays b := by unfold ydays; omega
def cum (y : Int) : Nat → Int
  | 0 => 0
  | m + 1 => cum y m + mdays y ((m : Int) + 1)
theorem mdays_bd (y m : Int) : 28 ≤ mdays y m ∧ mdays y m ≤ 31 := by
  unfold mdays
  split
  · split <;> omega
  · split <;> omega
theorem cum_bd (y : Int) (m : Nat) : 28 * (m : Int) ≤ cum y m ∧ cum y m ≤ 31 * (m : Int) := by
  induction m with
  | zero => simp [cum]
  | succ m ih =>
    have := mdays_bd y ((m : Int) + 1)
    simp only [cum]
    omega
theorem cum_mono (y : Int) (a b : Nat) (h : a ≤ b) : cum y a ≤ cum y b := by
  induction b with
  | zero => obtain rfl : a = 0 := by omega
            exact Int.le_refl _
  | succ b ih =>
    by_cases e : a = b + 1
    · subst e; exact Int.le_refl _
    · have := ih (by omega)
      have := mdays_bd y ((b : Int) + 1)
      simp only [cum]
      omega
theorem cum12 {y : Int} : cum y 12 = if leapB y = true then 366 else 365 := by
  simp only [cum, mdays]
  by_cases hl : leapB y = true
  · simp [hl]
  · simp [hl]
def IsDate (n y m d : Int) : Prop := 1 ≤ y ∧ y ≤ 9999 ∧ 1 ≤ m ∧ m ≤ 12 ∧ 1 ≤ d ∧ d ≤ mdays y m ∧ n = ydays y + cum y (m - 1).toNat + d
theorem cum_succ' {y m : Int} (h : 1 ≤ m) : cum y m.toNat = cum y (m - 1).toNat + mdays y m := by
  obtain ⟨k, rfl⟩ : ∃ k : Nat, m = k + 1 := ⟨(m - 1).toNat, by omega⟩
  rw [show ((k : Int) + 1).toNat = k + 1 by omega, show ((k : Int) + 1 - 1).toNat = k by omega]
  rfl
theorem isDate_year {n y m d : Int} (h : IsDate n y m d) : ydays y < n ∧ n ≤ ydays (y + 1) := by
  obtain ⟨h1, h2, h3, h4, h5, h6, rfl⟩ := h
  have := cum_bd y (m - 1).toNat
  have c := cum_succ' (y := y) h3
  have c2 := cum_mono y m.toNat 12 (by omega)
  rw [cum12] at c2
  rw [ydays_succ h1]
  constructor
  · omega
  · omega
theorem isDate_one {n y m d y' m' d' : Int} (h : IsDate n y m d) (h' : IsDate n y' m' d') : y = y' ∧ m = m' ∧ d = d' := by
  have a := isDate_year h
  have b := isDate_year h'
  obtain ⟨h1, h2, h3, h4, h5, h6, e⟩ := h
  obtain ⟨g1, g2, g3, g4, g5, g6, e'⟩ := h'
  have hy : y = y' := by
    by_cases l : y < y'
    · have := ydays_mono (a := y + 1) (b := y') (by omega) (by omega); omega
    · by_cases l2 : y' < y
      · have := ydays_mono (a := y' + 1) (b := y) (by omega) (by omega); omega
      · omega
  subst hy
  have c := cum_succ' (y := y) h3
  have c' := cum_succ' (y := y) g3
  have hm : m = m' := by
    by_cases l : m < m'
    · have := cum_mono y m.toNat (m' - 1).toNat (by omega); omega
    · by_cases l2 : m' < m
      · have := cum_mono y m'.toNat (m - 1).toNat (by omega); omega
      · omega
  subst hm
  exact ⟨rfl, rfl, by omega⟩
theorem isDate_bd {n y m d : Int} (h : IsDate n y m d) : 1 ≤ n ∧ n ≤ 3652059 := by
  have a := isDate_year h
  have b := ydays_bd h.1 (by have := h.2.1; omega)
  have c := ydays_mono (a := y + 1) (b := 10000) (by have := h.1; omega) (by have := h.2.1; omega)
  have e : ydays 10000 = 3652059 := by decide
  omega
def validD (y m d : Int) : Prop := 1 ≤ y ∧ y ≤ 9999 ∧ 1 ≤ m ∧ m ≤ 12 ∧ 1 ≤ d ∧ d ≤ mdays y m
instance (y m d : Int) : Decidable (validD y m d) := by unfold validD; infer_instance
def daysV (y m d : Int) : Int × Int := if validD y m d then (ydays y + cum y (m - 1).toNat + d, 0) else (0, 1)
theorem monthDays_f {y m : Int} (h : 1 ≤ m) (h2 : m ≤ 12) : val_monthDays.f y m = some (mdays y m) := by
  unfold val_monthDays.f
  rw [if_pos ⟨h, h2⟩]
theorem days_l (y : Int) (M : Nat) (hM : M ≤ 11) (d : Nat) : ∀ (i : Nat) (x : Int) (k : Nat), d + i = M → d < k → 0 ≤ x → x + 31 * (d : Int) ≤ 10000000 → val_Days.l0 k y x (M : Int) (i : Int) = some (x + cum y M - cum y i, 0) := by
  induction d with
  | zero =>
    intro i x k hi hk h0 h1
    obtain rfl : i = M := by omega
    obtain ⟨k, rfl⟩ : ∃ m, k = m + 1 := ⟨k - 1, by omega⟩
    simp only [val_Days.l0]
    rw [if_neg (by omega), show x + cum y i - cum y i = x by omega]
  | succ d ih =>
    intro i x k hi hk h0 h1
    obtain ⟨k, rfl⟩ : ∃ m, k = m + 1 := ⟨k - 1, by omega⟩
    have e : wrap64 ((i : Int) + 1) = ((i + 1 : Nat) : Int) := by rw [w64 (by omega) (by omega)]; omega
    have mb := mdays_bd y ((i : Int) + 1)
    have c : cum y (i + 1) = cum y i + mdays y ((i : Int) + 1) := rfl
    have cM := cum_bd y M
    simp only [val_Days.l0]
    rw [if_pos (by omega), e, show ((i + 1 : Nat) : Int) = (i : Int) + 1 by omega, monthDays_f (by omega) (by omega)]
    simp only [Option.bind_some]
    rw [w64 (by omega) (by omega)]
    have := ih (i + 1) (x + mdays y ((i : Int) + 1)) k (by omega) (by omega) (by omega) (by omega)
    rw [show (((i + 1 : Nat)) : Int) = (i : Int) + 1 by omega] at this
    rw [this, c]
    congr 2
    omega
theorem days_f (y m d : Int) (k : Nat) (hk : 20 ≤ k) (h0 : -9223372036854775808 ≤ d) (h1 : d ≤ 9223372036854775807) : val_Days.f k y m d = some (daysV y m d) := by
  obtain ⟨k, rfl⟩ : ∃ m, k = m + 1 := ⟨k - 1, by omega⟩
  have no : ¬ validD y m d → daysV y m d = (0, 1) := fun h => by unfold daysV; rw [if_neg h]
  have j1 : val_Days.j0 (k + 1) y m d true = some (0, 1) := by simp [val_Days.j0]
  unfold val_Days.f
  by_cases a : y < 1
  · rw [if_pos a, j1, no (by unfold validD; omega)]
  rw [if_neg a]
  by_cases b : y > 9999
  · rw [if_pos b, j1, no (by unfold validD; omega)]
  rw [if_neg b]
  by_cases c : m < 1
  · rw [if_pos c, j1, no (by unfold validD; omega)]
  rw [if_neg c]
  by_cases e : m > 12
  · rw [if_pos e, j1, no (by unfold validD; omega)]
  rw [if_neg e]
  by_cases f : d < 1
  · rw [if_pos f, j1, no (by unfold validD; omega)]
  rw [if_neg f, monthDays_f (by omega) (by omega)]
  simp only [Option.bind_some]
  by_cases g : d > mdays y m
  · rw [decide_eq_true g, j1, no (by unfold validD; omega)]
  · have hv : validD y m d := by unfold validD; omega
    have yb := ydays_bd (y := y) (by omega) (by omega)
    have mb := mdays_bd y m
    obtain ⟨M, rfl⟩ : ∃ M : Nat, m = (M : Int) + 1 := ⟨(m - 1).toNat, by omega⟩
    rw [decide_eq_false g]
    simp only [val_Days.j0]
    rw [if_neg (by decide), yearsDays_f (by omega) (by omega)]
    simp only [Option.bind_some]
    rw [w64 (x := ydays y + d) (by omega) (by omega), w64 (x := (M : Int) + 1 - 1) (by omega) (by omega), show (M : Int) + 1 - 1 = (M : Int) by omega]
    have := days_l y M (by omega) M 0 (ydays y + d) k (by omega) (by omega) (by omega) (by omega)
    rw [show ((0 : Nat) : Int) = 0 from rfl] at this
    rw [this]
    unfold daysV
    rw [if_pos hv, show ((M : Int) + 1 - 1).toNat = M by omega]
    simp only [cum]
    congr 2
    omega
theorem refLeap_f {y : Int} (h : 0 ≤ y) : cabinetryref01_leap.f y = some (leapB y) := by
  unfold cabinetryref01_leap.f
  have e := leapB_iff h
  rw [Int.tmod_eq_emod_of_nonneg h, Int.tmod_eq_emod_of_nonneg h, Int.tmod_eq_emod_of_nonneg h]
  by_cases h4 : y % 4 = 0
  · rw [if_pos h4]
    by_cases h1 : y % 100 = 0
    · rw [if_pos h1]
      by_cases h4' : y % 400 = 0
      · rw [e.mpr ⟨h4, Or.inr h4'⟩]; simp [h4']
      · have : leapB y = false := by
          cases hb : leapB y
          · rfl
          · have := e.mp hb; omega
        rw [this]; simp [h4']
    · rw [if_neg h1, e.mpr ⟨h4, Or.inl h1⟩]
  · rw [if_neg h4]
    have : leapB y = false := by
      cases hb : leapB y
      · rfl
      · have := e.mp hb; omega
    have h5 : ¬ y % 400 = 0 := by omega
    rw [this]; simp [h5]
theorem refLength_f {y : Int} (h : 0 ≤ y) (m : Int) : cabinetryref01_length.f y m = some (mdays y m) := by
  unfold cabinetryref01_length.f mdays
  rw [refLeap_f h]
  simp only [Option.bind_some]
  by_cases h2 : m = 2
  · rw [if_pos h2, if_pos h2]; split <;> rfl
  · rw [if_neg h2, if_neg h2]
    by_cases h4 : m = 4
    · rw [if_pos h4, if_pos (Or.inl h4)]
    · rw [if_neg h4]
      by_cases h6 : m = 6
      · rw [if_pos h6, if_pos (by omega)]
      · rw [if_neg h6]
        by_cases h9 : m = 9
        · rw [if_pos h9, if_pos (by omega)]
        · rw [if_neg h9]
          by_cases h11 : m = 11
          · rw [if_pos h11, if_pos (by omega)]
          · rw [if_neg h11, if_neg (by omega)]
theorem refDays_l {y : Int} (hy : 1 ≤ y) (hy2 : y ≤ 9999) (M : Nat) (hM : M ≤ 11) (d : Nat) : ∀ (i : Nat) (x : Int) (k : Nat), d + i = M → d < k → 0 ≤ x → x + 31 * (d : Int) ≤ 10000 →
    cabinetryref01_Days.l0 k y ((M : Int) + 1) x ((i : Int) + 1) = some (x + cum y M - cum y i + ydays y, 0) := by
  induction d with
  | zero =>
    intro i x k hi hk h0 h1
    obtain rfl : i = M := by omega
    obtain ⟨k, rfl⟩ : ∃ m, k = m + 1 := ⟨k - 1, by omega⟩
    have e : wrap64 (y - 1) = y - 1 := w64 (by omega) (by omega)
    simp only [cabinetryref01_Days.l0]
    rw [if_neg (by omega), e, Int.tdiv_eq_ediv_of_nonneg (by omega), Int.tdiv_eq_ediv_of_nonneg (by omega), Int.tdiv_eq_ediv_of_nonneg (by omega)]
    rw [w64 (x := 365 * (y - 1)) (by omega) (by omega), w64 (x := (y - 1) / 4) (by omega) (by omega), w64 (x := (y - 1) / 100) (by omega) (by omega), w64 (x := (y - 1) / 400) (by omega) (by omega)]
    rw [w64 (x := x + 365 * (y - 1)) (by omega) (by omega), w64 (x := x + 365 * (y - 1) + (y - 1) / 4) (by omega) (by omega), w64 (x := x + 365 * (y - 1) + (y - 1) / 4 - (y - 1) / 100) (by omega) (by omega), w64 (by omega) (by omega)]
    unfold ydays
    congr 2
    omega
  | succ d ih =>
    intro i x k hi hk h0 h1
    obtain ⟨k, rfl⟩ : ∃ m, k = m + 1 := ⟨k - 1, by omega⟩
    have e : wrap64 ((i : Int) + 1 + 1) = ((i + 1 : Nat) : Int) + 1 := by rw [w64 (by omega) (by omega)]; omega
    have mb := mdays_bd y ((i : Int) + 1)
    have c : cum y (i + 1) = cum y i + mdays y ((i : Int) + 1) := rfl
    simp only [cabinetryref01_Days.l0]
    rw [if_pos (by omega), e, refLength_f (by omega)]
    simp only [Option.bind_some]
    rw [w64 (by omega) (by omega)]
    have := ih (i + 1) (x + mdays y ((i : Int) + 1)) k (by omega) (by omega) (by omega) (by omega)
    rw [this, c]
    congr 2
    omega
theorem refDays_f (y m d : Int) (k : Nat) (hk : 20 ≤ k) : cabinetryref01_Days.f k y m d = some (daysV y m d) := by
  obtain ⟨k, rfl⟩ : ∃ m, k = m + 1 := ⟨k - 1, by omega⟩
  have no : ¬ validD y m d → daysV y m d = (0, 1) := fun h => by unfold daysV; rw [if_neg h]
  have j1 : cabinetryref01_Days.j0 (k + 1) y m d true = some (0, 1) := by simp [cabinetryref01_Days.j0]
  unfold cabinetryref01_Days.f
  by_cases a : y < 1
  · rw [if_pos a, j1, no (by unfold validD; omega)]
  rw [if_neg a]
  by_cases b : y > 9999
  · rw [if_pos b, j1, no (by unfold validD; omega)]
  rw [if_neg b]
  by_cases c : m < 1
  · rw [if_pos c, j1, no (by unfold validD; omega)]
  rw [if_neg c]
  by_cases e : m > 12
  · rw [if_pos e, j1, no (by unfold validD; omega)]
  rw [if_neg e]
  by_cases f : d < 1
  · rw [if_pos f, j1, no (by unfold validD; omega)]
  rw [if_neg f, refLength_f (by omega)]
  simp only [Option.bind_some]
  by_cases g : d > mdays y m
  · rw [decide_eq_true g, j1, no (by unfold validD; omega)]
  · have hv : validD y m d := by unfold validD; omega
    have mb := mdays_bd y m
    obtain ⟨M, rfl⟩ : ∃ M : Nat, m = (M : Int) + 1 := ⟨(m - 1).toNat, by omega⟩
    rw [decide_eq_false g]
    simp only [cabinetryref01_Days.j0]
    rw [if_neg (by decide)]
    have := refDays_l (y := y) (by omega) (by omega) M (by omega) M 0 d k (by omega) (by omega) (by omega) (by omega)
    rw [show ((0 : Nat) : Int) + 1 = 1 from rfl] at this
    rw [this]
    unfold daysV
    rw [if_pos hv, show ((M : Int) + 1 - 1).toNat = M by omega]
    simp only [cum]
    congr 2
    omega
theorem split_m {n y : Int} (hy : 1 ≤ y) (hy2 : y ≤ 9999) (h1 : ydays y < n) (h2 : n ≤ ydays (y + 1)) (e : Nat) : ∀ (M : Nat) (k : Nat), e + M = 11 → e < k → cum y M < n - ydays y →
    ∃ m d, IsDate n y m d ∧ ∀ k, e < k → val_Split.l1 k y (n - ydays y - cum y M) ((M : Int) + 1) = some (y, m, d, 0) := by
  have yb := ydays_bd hy (by omega)
  have s := ydays_succ hy
  have lt : n - ydays y ≤ 366 := by split at s <;> omega
  have c12 := cum12 (y := y)
  induction e with
  | zero =>
    intro M k hM _ hc
    obtain rfl : M = 11 := by omega
    have c : cum y 12 = cum y 11 + mdays y 12 := rfl
    have cb := cum_bd y 11
    have le : n - ydays y - cum y 11 ≤ mdays y 12 := by
      rw [← c12] at s
      omega
    refine ⟨12, n - ydays y - cum y 11, ⟨hy, hy2, by decide, by decide, by omega, le, ?_⟩, fun k hk => ?_⟩
    · show n = ydays y + cum y 11 + (n - ydays y - cum y 11)
      omega
    · obtain ⟨k, rfl⟩ : ∃ m, k = m + 1 := ⟨k - 1, by omega⟩
      simp only [val_Split.l1]
      rw [show ((11 : Nat) : Int) + 1 = 12 from rfl, monthDays_f (by decide) (by decide)]
      simp only [Option.bind_some]
      rw [if_neg (by omega)]
  | succ e ih =>
    intro M k hM hk hc
    have cb := cum_bd y M
    have c : cum y (M + 1) = cum y M + mdays y ((M : Int) + 1) := rfl
    by_cases hd : n - ydays y - cum y M > mdays y ((M : Int) + 1)
    · obtain ⟨m, d, hD, hk2⟩ := ih (M + 1) (e + 1) (by omega) (by omega) (by omega)
      refine ⟨m, d, hD, fun k hk => ?_⟩
      obtain ⟨k, rfl⟩ : ∃ m, k = m + 1 := ⟨k - 1, by omega⟩
      have mb := mdays_bd y ((M : Int) + 1)
      simp only [val_Split.l1]
      rw [monthDays_f (by omega) (by omega)]
      simp only [Option.bind_some]
      rw [if_pos hd, w64 (by omega) (by omega), w64 (by omega) (by omega)]
      have := hk2 k (by omega)
      rw [c] at this
      rw [show n - ydays y - cum y M - mdays y ((M : Int) + 1) = n - ydays y - (cum y M + mdays y ((M : Int) + 1)) by omega, show (M : Int) + 1 + 1 = ((M + 1 : Nat) : Int) + 1 by omega]
      exact this
    · refine ⟨(M : Int) + 1, n - ydays y - cum y M, ⟨hy, hy2, by omega, by omega, by omega, by omega, ?_⟩, fun k hk => ?_⟩
      · rw [show ((M : Int) + 1 - 1).toNat = M by omega]; omega
      · obtain ⟨k, rfl⟩ : ∃ m, k = m + 1 := ⟨k - 1, by omega⟩
        simp only [val_Split.l1]
        rw [monthDays_f (by omega) (by omega)]
        simp only [Option.bind_some]
        rw [if_neg hd]
theorem split_y {n : Int} (hn : n ≤ 3652059) (e : Nat) : ∀ (y : Int), 1 ≤ y → y + e = 9999 → ydays y < n → ∃ y' m d, IsDate n y' m d ∧ ∀ k, e + 14 ≤ k → val_Split.l0 k n y = some (y', m, d, 0) := by
  induction e with
  | zero =>
    intro y h0 h1 h2
    obtain rfl : y = 9999 := by omega
    have e1 : ydays (9999 + 1) = 3652059 := by decide
    obtain ⟨m, d, hD, hk⟩ := split_m (n := n) (y := 9999) (by decide) (by decide) h2 (by omega) 11 0 12 rfl (by decide) (by simp only [cum]; omega)
    refine ⟨9999, m, d, hD, fun k hk2 => ?_⟩
    obtain ⟨k, rfl⟩ : ∃ m, k = m + 1 := ⟨k - 1, by omega⟩
    simp only [val_Split.l0]
    rw [show wrap64 (9999 + 1) = 9999 + 1 from w64 (by decide) (by decide), yearsDays_f (by decide) (by decide)]
    simp only [Option.bind_some]
    rw [if_neg (by omega), yearsDays_f (by decide) (by decide)]
    simp only [Option.bind_some]
    have yb := ydays_bd (y := 9999) (by decide) (by decide)
    rw [w64 (by omega) (by omega)]
    have := hk k (by omega)
    simp only [cum] at this
    rw [show n - ydays 9999 - 0 = n - ydays 9999 by omega] at this
    exact this
  | succ e ih =>
    intro y h0 h1 h2
    have yb := ydays_bd (y := y) (by omega) (by omega)
    by_cases hlt : ydays (y + 1) < n
    · obtain ⟨y', m, d, hD, hk⟩ := ih (y + 1) (by omega) (by omega) hlt
      refine ⟨y', m, d, hD, fun k hk2 => ?_⟩
      obtain ⟨k, rfl⟩ : ∃ m, k = m + 1 := ⟨k - 1, by omega⟩
      simp only [val_Split.l0]
      rw [w64 (by omega) (by omega), yearsDays_f (by omega) (by omega)]
      simp only [Option.bind_some]
      rw [if_pos hlt]
      exact hk k (by omega)
    · obtain ⟨m, d, hD, hk⟩ := split_m (n := n) (y := y) (by omega) (by omega) h2 (by omega) 11 0 12 rfl (by decide) (by simp only [cum]; omega)
      refine ⟨y, m, d, hD, fun k hk2 => ?_⟩
      obtain ⟨k, rfl⟩ : ∃ m, k = m + 1 := ⟨k - 1, by omega⟩
      simp only [val_Split.l0]
      rw [w64 (by omega) (by omega), yearsDays_f (by omega) (by omega)]
      simp only [Option.bind_some]
      rw [if_neg hlt, yearsDays_f (by omega) (by omega)]
      simp only [Option.bind_some]
      rw [w64 (by omega) (by omega)]
      have := hk k (by omega)
      simp only [cum] at this
      rw [show n - ydays y - 0 = n - ydays y by omega] at this
      exact this
theorem split_some {n : Int} (h0 : 1 ≤ n) (h1 : n ≤ 3652059) : ∃ y m d, IsDate n y m d ∧ ∀ k, 11000 ≤ k → val_Split.f k n = some (y, m, d, 0) := by
  have q0 : 0 ≤ n / 366 := by omega
  have q1 : n / 366 ≤ 9978 := by omega
  have hy : ydays (n / 366 + 1) < n := by
    unfold ydays
    omega
  obtain ⟨y, m, d, hD, hk⟩ := split_y h1 (9998 - (n / 366).toNat) (n / 366 + 1) (by omega) (by omega) hy
  refine ⟨y, m, d, hD, fun k hk2 => ?_⟩
  unfold val_Split.f
  rw [isDay_f]
  simp only [Option.bind_some]
  rw [if_pos (by simp; omega), if_neg (by omega), Int.tdiv_eq_ediv_of_nonneg (by omega), w64 (x := n / 366) (by omega) (by omega), w64 (by omega) (by omega)]
  exact hk k (by omega)
theorem split_zero (k : Nat) : val_Split.f k 0 = some (0, 0, 0, 0) := by
  unfold val_Split.f
  rw [isDay_f]
  simp
theorem split_no {n : Int} (h : ¬ (0 ≤ n ∧ n ≤ 3652059)) (k : Nat) : val_Split.f k n = some (0, 0, 0, 1) := by
  unfold val_Split.f
  rw [isDay_f]
  simp only [Option.bind_some]
  rw [if_neg (by simp only [decide_eq_true_eq]; exact h)]
theorem split_is {n y m d : Int} (h : IsDate n y m d) (k : Nat) (hk : 11000 ≤ k) : val_Split.f k n = some (y, m, d, 0) := by
  have b := isDate_bd h
  obtain ⟨y', m', d', h', e⟩ := split_some b.1 b.2
  obtain ⟨rfl, rfl, rfl⟩ := isDate_one h h'
  exact e k hk
end Go.Proofs.YtplbjaandkdhjaaDoor.L1
namespace Go.Proofs.YtplbjaandkdhjaaDoor.PA
open Go.RowKit Go.Proofs.YtplbjaandkdhjaaDoorW.PrintWords Go.Proofs.YtplbjaandkdhjaaDoorW.PrintLast Go.Proofs.YtplbjaandkdhjaaDoorW.PrintMore
attribute [local go_sem] max2_int min2_int max_two min_two max_three min_three max_four min_four   -- for this text's walks alone
set_option linter.unusedVariables false
set_option linter.unusedSimpArgs false
def val_decimal.f : Nat → Int → Option (ByteArray)
 | 0, _ => none
 | k + 1, a0 => if a0 < 0 then ((val_decimal.f k (wrap64 (-a0))).bind fun t418 => (if 1 + t418.size ≤ 9223372036854775807 then (some ((⟨#[45]⟩ : ByteArray) ++ t418)) else (none))) else (if a0 < 10 then (if 0 ≤ a0 then (if a0 ≤ (wrap64 (a0 + 1)) then (if (wrap64 (a0 + 1)) ≤ 10 then (some ((⟨#[48, 49, 50, 51, 52, 53, 54, 55, 56, 57]⟩ : ByteArray).extract (a0 : Int).toNat ((wrap64 (a0 + 1)) : Int).toNat)) else (none)) else (none)) else (none)) else ((val_decimal.f k (wrap64 (Int.tdiv a0 10))).bind fun t419 => (if 0 ≤ (Int.tmod a0 10) then (if (Int.tmod a0 10) ≤ (wrap64 ((Int.tmod a0 10) + 1)) then (if (wrap64 ((Int.tmod a0 10) + 1)) ≤ 10 then (if t419.size + ((⟨#[48, 49, 50, 51, 52, 53, 54, 55, 56, 57]⟩ : ByteArray).extract ((Int.tmod a0 10) : Int).toNat ((wrap64 ((Int.tmod a0 10) + 1)) : Int).toNat).size ≤ 9223372036854775807 then (some (t419 ++ ((⟨#[48, 49, 50, 51, 52, 53, 54, 55, 56, 57]⟩ : ByteArray).extract ((Int.tmod a0 10) : Int).toNat ((wrap64 ((Int.tmod a0 10) + 1)) : Int).toNat))) else (none)) else (none)) else (none)) else (none))))
theorem val_decimal.mono_l : ∀ k, (∀ y0, LeO (val_decimal.f k y0) (val_decimal.f (k + 1) y0))
 | 0 => fun _ r h => by simp [val_decimal.f] at h
 | k + 1 => by
  have ih0 := val_decimal.mono_l k
  ·intro y0
   unfold val_decimal.f
   repeat' first
   | (with_reducible exact ih0 _)
   | (with_reducible exact LeO.refl _)
   | (with_reducible exact LeO.none _)
   | (with_reducible refine LeO.ite ?_ ?_)
   | (with_reducible refine LeO.bind ?_ (fun _ => ?_))
   | exact ih0 _
   | exact LeO.none _
   | refine LeO.ite ?_ ?_
   | refine LeO.bind ?_ (fun _ => ?_)
theorem val_decimal.mono : ∀ a0 k, LeO (val_decimal.f k a0) (val_decimal.f (k + 1) a0) := by
 intro a0 k
 have ih0 := val_decimal.mono_l k
 exact ih0 a0
def val_decimal.T6 : Bool × List (List Nat × List Nat) := (true, [([], []), ([0], [0]), ([1], [1]), ([], []), ([], []), ([4], [4]), ([], []), ([6], [6]), ([7], [7]), ([3, 5, 8], [3, 5, 8]), ([2, 9], [2, 9]), ([10, 2, 0, 1, 2, 3, 4, 5, 6, 7, 8, 9, 10], [10])])
def val_decimal.B6 : List Nat := [0, 1, 3, 0, 0, 16, 0, 64, 192, 504, 1023, 2047]
theorem val_decimal.tab6 : rtab .any (opsOf Tryd.f90 6) = val_decimal.T6 := by kernel_rfl
theorem val_decimal.bits6 : waitsOk val_decimal.T6.2 val_decimal.B6 = true := by kernel_rfl
set_option maxHeartbeats 8000000 in
set_option maxRecDepth 100000 in
theorem val_decimal.calls (k : Nat) : ∀ (a0 : Int) (r : ByteArray) (w : World) (h : val_decimal.f k a0 = some r),
  Calls Tryd.prog 90 #[.int .i64 a0] w fun e w' => e = .returned (.string r) ∧ Below w.heap.size w w' := by
 induction k using Nat.strongRecOn with
 | _ k ih =>
 intro a0 r w h
 cases k with
 | zero => exact absurd h (by simp [val_decimal.f])
 | succ k =>
 simp only [val_decimal.f] at h
 have HB := Aside0.mk (Below.refl w.heap.size w)
 have H : (if a0 < 0 then ((val_decimal.f k (wrap64 (-a0))).bind fun t418 => (if 1 + t418.size ≤ 9223372036854775807 then (some ((⟨#[45]⟩ : ByteArray) ++ t418)) else (none))) else (if a0 < 10 then (if 0 ≤ a0 then (if a0 ≤ (wrap64 (a0 + 1)) then (if (wrap64 (a0 + 1)) ≤ 10 then (some ((⟨#[48, 49, 50, 51, 52, 53, 54, 55, 56, 57]⟩ : ByteArray).extract (a0 : Int).toNat ((wrap64 (a0 + 1)) : Int).toNat)) else (none)) else (none)) else (none)) else ((val_decimal.f k (wrap64 (Int.tdiv a0 10))).bind fun t419 => (if 0 ≤ (Int.tmod a0 10) then (if (Int.tmod a0 10) ≤ (wrap64 ((Int.tmod a0 10) + 1)) then (if (wrap64 ((Int.tmod a0 10) + 1)) ≤ 10 then (if t419.size + ((⟨#[48, 49, 50, 51, 52, 53, 54, 55, 56, 57]⟩ : ByteArray).extract ((Int.tmod a0 10) : Int).toNat ((wrap64 ((Int.tmod a0 10) + 1)) : Int).toNat).size ≤ 9223372036854775807 then (some (t419 ++ ((⟨#[48, 49, 50, 51, 52, 53, 54, 55, 56, 57]⟩ : ByteArray).extract ((Int.tmod a0 10) : Int).toNat ((wrap64 ((Int.tmod a0 10) + 1)) : Int).toNat))) else (none)) else (none)) else (none)) else (none))))) = some r := h
 clear h
 by_cases c2 : a0 < 0
 ·rw [if_pos c2] at H
  have c2b0 : decide (a0 < 0) = true := decide_eq_true c2
  clear c2
  replace H := Option.bind_eq_some_iff.mp H
  obtain ⟨t418, A30, H⟩ := H
  replace H : (if 1 + t418.size ≤ 9223372036854775807 then (some ((⟨#[45]⟩ : ByteArray) ++ t418)) else (none)) = some r := H
  have A3 := Aside0.mk A30
  clear A30
  by_cases c4 : 1 + t418.size ≤ 9223372036854775807
  ·rw [if_pos c4] at H
   have c4b0 := eq_true c4
   have c4b1 : decide (1 + t418.size ≤ 9223372036854775807) = true := decide_eq_true c4
   try have c4b2 : (9223372036854775807 < 1 + t418.size) = False := eq_false (Nat.not_lt.2 c4)
   obtain rfl := Option.some.inj H
   simp only [Option.some.injEq, Prod.mk.injEq] at H
   obtain ⟨rfl⟩ := H
   go_enter Tryd.func90, Tryd.ntmps90
   go_wp2_with (first | ((with_reducible refine gate_callee (f := 90) rfl ?_); refine goesL_ (some 8) rfl rfl Tryd.func90 (by kernel_rfl) rfl #[.int .i64 (wrap64 (-a0))] rfl (by (try simp only [List.map_toArray, List.map_cons, List.map_nil]); first | done | rfl | (simp only [List.length_drop, List.length_take]; rfl)) ?_; (with_reducible refine (ih k (by omega) (wrap64 (-a0)) t418 _ A3.out).mono ?_); rintro e w5 ⟨rfl, hb⟩; refine ⟨_, rfl, ?_⟩; have n0_ := Aside0.mk (below_step (by repeat (first | (with_reducible first | exact HB.out | apply below_alloc | apply pw_below_drewN | apply below_drew1) | exact HB.out)) hb); clear HB; have HB := n0_; clear n0_; (try clear hb); (try clear hb2); (try clear hk); (try clear hi)))
   go_ret
   exact ⟨by first | rfl | (simp [errW_none, errW_some] <;> rfl) | (simp [*, errW_none, errW_some] <;> rfl), by repeat (first | (with_reducible first | exact HB.out | apply below_alloc | apply pw_below_drewN | apply below_drew1) | exact HB.out)⟩
  ·rw [if_neg c4] at H
   exact absurd H (by simp)
 ·rw [if_neg c2] at H
  have c2b0 : decide (a0 < 0) = false := decide_eq_false c2
  clear c2
  by_cases c6 : a0 < 10
  ·rw [if_pos c6] at H
   have c6b0 : decide (a0 < 10) = true := decide_eq_true c6
   clear c6
   by_cases c7 : 0 ≤ a0
   ·rw [if_pos c7] at H
    have c7b0 := eq_true c7
    have c7b1 : decide (0 ≤ a0) = true := decide_eq_true c7
    clear c7
    by_cases c8 : a0 ≤ (wrap64 (a0 + 1))
    ·rw [if_pos c8] at H
     have c8b0 := eq_true c8
     have c8b1 : decide (a0 ≤ (wrap64 (a0 + 1))) = true := decide_eq_true c8
     by_cases c9 : (wrap64 (a0 + 1)) ≤ 10
     ·rw [if_pos c9] at H
      have c9b0 := eq_true c9
      have c9b1 : decide ((wrap64 (a0 + 1)) ≤ 10) = true := decide_eq_true c9
      obtain rfl := Option.some.inj H
      simp only [Option.some.injEq, Prod.mk.injEq] at H
      obtain ⟨rfl⟩ := H
      go_enter Tryd.func90, Tryd.ntmps90
      go_wp2
      go_ret
      exact ⟨by first | rfl | (simp [errW_none, errW_some] <;> rfl) | (simp [*, errW_none, errW_some] <;> rfl), by repeat (first | (with_reducible first | exact HB.out | apply below_alloc | apply pw_below_drewN | apply below_drew1) | exact HB.out)⟩
     ·rw [if_neg c9] at H
      exact absurd H (by simp)
    ·rw [if_neg c8] at H
     exact absurd H (by simp)
   ·rw [if_neg c7] at H
    exact absurd H (by simp)
  ·rw [if_neg c6] at H
   have c6b0 : decide (a0 < 10) = false := decide_eq_false c6
   clear c6
   replace H := Option.bind_eq_some_iff.mp H
   obtain ⟨t419, A100, H⟩ := H
   replace H : (if 0 ≤ (Int.tmod a0 10) then (if (Int.tmod a0 10) ≤ (wrap64 ((Int.tmod a0 10) + 1)) then (if (wrap64 ((Int.tmod a0 10) + 1)) ≤ 10 then (if t419.size + ((⟨#[48, 49, 50, 51, 52, 53, 54, 55, 56, 57]⟩ : ByteArray).extract ((Int.tmod a0 10) : Int).toNat ((wrap64 ((Int.tmod a0 10) + 1)) : Int).toNat).size ≤ 9223372036854775807 then (some (t419 ++ ((⟨#[48, 49, 50, 51, 52, 53, 54, 55, 56, 57]⟩ : ByteArray).extract ((Int.tmod a0 10) : Int).toNat ((wrap64 ((Int.tmod a0 10) + 1)) : Int).toNat))) else (none)) else (none)) else (none)) else (none)) = some r := H
   have A10 := Aside0.mk A100
   clear A100
   obtain ⟨ji11, hji11⟩ : ∃ j_ : Int, (Int.tmod a0 10) = j_ := ⟨_, rfl⟩
   replace H : (if 0 ≤ (ji11) then (if (ji11) ≤ (wrap64 ((ji11) + 1)) then (if (wrap64 ((ji11) + 1)) ≤ 10 then (if t419.size + ((⟨#[48, 49, 50, 51, 52, 53, 54, 55, 56, 57]⟩ : ByteArray).extract ((ji11) : Int).toNat ((wrap64 ((ji11) + 1)) : Int).toNat).size ≤ 9223372036854775807 then (some (t419 ++ ((⟨#[48, 49, 50, 51, 52, 53, 54, 55, 56, 57]⟩ : ByteArray).extract ((ji11) : Int).toNat ((wrap64 ((ji11) + 1)) : Int).toNat))) else (none)) else (none)) else (none)) else (none)) = some r := by first | (rw [hji11] at H; exact H) | (simp only [hji11] at H ⊢; exact H)
   (try rw [hji11] at A10)
   by_cases c12 : 0 ≤ (ji11)
   ·rw [if_pos c12] at H
    have c12b0 := eq_true c12
    have c12b1 : decide (0 ≤ (ji11)) = true := decide_eq_true c12
    clear c12
    by_cases c13 : (ji11) ≤ (wrap64 ((ji11) + 1))
    ·rw [if_pos c13] at H
     have c13b0 := eq_true c13
     have c13b1 : decide ((ji11) ≤ (wrap64 ((ji11) + 1))) = true := decide_eq_true c13
     by_cases c14 : (wrap64 ((ji11) + 1)) ≤ 10
     ·rw [if_pos c14] at H
      have c14b0 := eq_true c14
      have c14b1 : decide ((wrap64 ((ji11) + 1)) ≤ 10) = true := decide_eq_true c14
      by_cases c15 : t419.size + ((⟨#[48, 49, 50, 51, 52, 53, 54, 55, 56, 57]⟩ : ByteArray).extract ((ji11) : Int).toNat ((wrap64 ((ji11) + 1)) : Int).toNat).size ≤ 9223372036854775807
      ·rw [if_pos c15] at H
       have c15b0 := eq_true c15
       have c15b1 : decide (t419.size + ((⟨#[48, 49, 50, 51, 52, 53, 54, 55, 56, 57]⟩ : ByteArray).extract ((ji11) : Int).toNat ((wrap64 ((ji11) + 1)) : Int).toNat).size ≤ 9223372036854775807) = true := decide_eq_true c15
       try have c15b2 : (9223372036854775807 < t419.size + ((⟨#[48, 49, 50, 51, 52, 53, 54, 55, 56, 57]⟩ : ByteArray).extract ((ji11) : Int).toNat ((wrap64 ((ji11) + 1)) : Int).toNat).size) = False := eq_false (Nat.not_lt.2 c15)
       try have c15b3 : (9223372036854775807 < t419.size + ((wrap64 ((ji11) + 1)).toNat - ji11.toNat)) = False := eq_false (by have z := c15; simp only [eq_iff_iff, iff_true, iff_false, Nat.not_lt] at *; simp only [ByteArray.size_append, ByteArray.size_extract] at z; have zl0 : (⟨#[48, 49, 50, 51, 52, 53, 54, 55, 56, 57]⟩ : ByteArray).size = 10 := rfl; rw [zl0] at z; omega)
       obtain rfl := Option.some.inj H
       simp only [Option.some.injEq, Prod.mk.injEq] at H
       obtain ⟨rfl⟩ := H
       go_enter Tryd.func90, Tryd.ntmps90
       try go_wp2
       have n0_ := Aside0.mk (below_drew1 HB.out)
       clear HB
       have HB := n0_
       clear n0_
       refine start_ (n := 12) (S := fun w' => True) (ds := []) #[false, false, false, false, false, false, false, false, false, false, false, false] (by kernel_rfl) rfl rfl trivial (fun hHeld => ?_); refine with_tabW val_decimal.tab6 val_decimal.bits6 (fun HT_ HW_ => ?_)
       generalize w.drew = w16 at HB hHeld ⊢
       refine pure_ (i := 0) (N := some 17) (v := ?_) (a' := ?_) #[true, false, false, false, false, false, false, false, false, false, false, false] rfl rfl (any_of HT_.out (by kernel_rfl)) (fun _ _ _ h => h) (Or.inl ⟨by rfl, ?_⟩) ?_ ?_
       rotate_left
       ·intro w'
        go_simp
        with_reducible rfl
       rotate_left
       ·simp only [Act.put, List.setIfInBounds_toArray, List.set_cons_zero, List.set_cons_succ, i64_w, i32_w]
        rfl
       refine pure_ (i := 1) (N := some 18) (v := ?_) (a' := ?_) #[true, true, false, false, false, false, false, false, false, false, false, false] rfl rfl (any_of HT_.out (by kernel_rfl)) (fun _ _ _ h => h) (Or.inl ⟨by rfl, ?_⟩) ?_ ?_
       rotate_left
       ·intro w'
        go_simp
        with_reducible rfl
       rotate_left
       ·simp only [Act.put, List.setIfInBounds_toArray, List.set_cons_zero, List.set_cons_succ, i64_w, i32_w]
        rfl
       refine pure_ (i := 3) (N := some 20) (v := ?_) (a' := ?_) #[true, true, false, true, false, false, false, false, false, false, false, false] rfl rfl (any_of HT_.out (by kernel_rfl)) (fun _ _ _ h => h) (Or.inl ⟨by rfl, ?_⟩) ?_ ?_
       rotate_left
       ·intro w'
        go_simp
        with_reducible rfl
       rotate_left
       ·simp only [Act.put, List.setIfInBounds_toArray, List.set_cons_zero, List.set_cons_succ, i64_w, i32_w]
        rfl
       refine pure_ (i := 4) (N := some 21) (v := ?_) (a' := ?_) #[true, true, false, true, true, false, false, false, false, false, false, false] rfl rfl (any_of HT_.out (by kernel_rfl)) (fun _ _ _ h => h) (Or.inl ⟨by rfl, ?_⟩) ?_ ?_
       rotate_left
       ·intro w'
        go_simp
        with_reducible rfl
       rotate_left
       ·simp only [Act.put, List.setIfInBounds_toArray, List.set_cons_zero, List.set_cons_succ, i64_w, i32_w]
        rfl
       refine pure_ (i := 5) (N := some 22) (v := ?_) (a' := ?_) #[true, true, false, true, true, true, false, false, false, false, false, false] rfl rfl (any_of HT_.out (by kernel_rfl)) (fun _ _ _ h => h) (Or.inl ⟨by rfl, ?_⟩) ?_ ?_
       rotate_left
       ·intro w'
        go_simp
        with_reducible rfl
       rotate_left
       ·simp only [Act.put, List.setIfInBounds_toArray, List.set_cons_zero, List.set_cons_succ, i64_w, i32_w]
        rfl
       refine pure_ (i := 6) (N := some 23) (v := ?_) (a' := ?_) #[true, true, false, true, true, true, true, false, false, false, false, false] rfl rfl (any_of HT_.out (by kernel_rfl)) (fun _ _ _ h => h) (Or.inl ⟨by rfl, ?_⟩) ?_ ?_
       rotate_left
       ·intro w'
        go_simp
        with_reducible rfl
       rotate_left
       ·simp only [Act.put, List.setIfInBounds_toArray, List.set_cons_zero, List.set_cons_succ, i64_w, i32_w]
        rfl
       refine pure_ (i := 7) (N := some 24) (v := ?_) (a' := ?_) #[true, true, false, true, true, true, true, true, false, false, false, false] rfl rfl (any_of HT_.out (by kernel_rfl)) (fun _ _ _ h => h) (Or.inl ⟨by rfl, ?_⟩) ?_ ?_
       rotate_left
       ·intro w'
        go_simp
        with_reducible rfl
       rotate_left
       ·simp only [Act.put, List.setIfInBounds_toArray, List.set_cons_zero, List.set_cons_succ, i64_w, i32_w]
        rfl
       refine pure_ (i := 8) (N := some 25) (v := ?_) (a' := ?_) #[true, true, false, true, true, true, true, true, true, false, false, false] rfl rfl (any_of HT_.out (by kernel_rfl)) (fun _ _ _ h => h) (Or.inl ⟨by rfl, ?_⟩) ?_ ?_
       rotate_left
       ·intro w'
        go_simp
        with_reducible rfl
       rotate_left
       ·simp only [Act.put, List.setIfInBounds_toArray, List.set_cons_zero, List.set_cons_succ, i64_w, i32_w]
        rfl
       refine pure_ (i := 9) (N := some 26) (v := ?_) (a' := ?_) #[true, true, false, true, true, true, true, true, true, true, false, false] rfl rfl (any_of HT_.out (by kernel_rfl)) (fun _ _ _ h => h) (Or.inl ⟨by rfl, ?_⟩) ?_ ?_
       rotate_left
       ·intro w'
        go_simp
        with_reducible rfl
       rotate_left
       ·simp only [Act.put, List.setIfInBounds_toArray, List.set_cons_zero, List.set_cons_succ, i64_w, i32_w]
        rfl
       refine one_ (i := 2) (N := some 19) #[true, true, true, true, true, true, true, true, true, true, false, false] rfl rfl (one_of HT_.out (by kernel_rfl)) (by decide) (fun K hK => ?_)
       refine goes_ Tryd.func90 (by kernel_rfl) rfl #[.int .i64 (wrap64 (Int.tdiv a0 10))] (by rfl) rfl rfl (by (try simp only [List.map_toArray, List.map_cons, List.map_nil]); first | done | rfl | (simp only [List.length_drop, List.length_take]; rfl)) ?_
       with_reducible refine (ih k (by omega) (wrap64 (Int.tdiv a0 10)) t419 _ A10.out).mono ?_
       rintro e w17 ⟨rfl, hb⟩
       refine ⟨_, rfl, ?_⟩
       have n0_ := Aside0.mk (below_step (by repeat (first | (with_reducible first | exact HB.out | apply below_alloc | apply pw_below_drewN | apply below_drew1) | exact HB.out)) hb)
       clear HB
       have HB := n0_
       clear n0_
       (try clear hb)
       (try clear hb2)
       (try clear hk)
       (try clear hi)
       refine hK.out _ _ trivial (fun hHeld => ?_)
       clear hK K
       refine norm_ (a' := ?_) ?_ ?_
       rotate_left
       ·show Act.put _ (some 19) _ = _
        simp only [Act.put, List.setIfInBounds_toArray, List.set_cons_zero, List.set_cons_succ, i64_w, i32_w]
        rfl
       refine pure_ (i := 10) (N := some 27) (v := ?_) (a' := ?_) #[true, true, true, true, true, true, true, true, true, true, true, false] rfl rfl (any_of HT_.out (by kernel_rfl)) (fun _ _ _ h => h) (Or.inl ⟨by rfl, ?_⟩) ?_ ?_
       rotate_left
       ·intro w'
        go_simp
        with_reducible rfl
       rotate_left
       ·simp only [Act.put, List.setIfInBounds_toArray, List.set_cons_zero, List.set_cons_succ, i64_w, i32_w]
        rfl
       refine pure_ (i := 11) (N := some 2) (v := ?_) (a' := ?_) #[true, true, true, true, true, true, true, true, true, true, true, true] rfl rfl (any_of HT_.out (by kernel_rfl)) (fun _ _ _ h => h) (Or.inl ⟨by rfl, ?_⟩) ?_ ?_
       rotate_left
       ·intro w'
        go_simp
        with_reducible rfl
       rotate_left
       ·simp only [Act.put, List.setIfInBounds_toArray, List.set_cons_zero, List.set_cons_succ, i64_w, i32_w]
        rfl
       refine done_ (done_of HT_.out (by kernel_rfl)) ?_
       try go_wp2
       go_ret
       exact ⟨by first | rfl | (simp [errW_none, errW_some] <;> rfl) | (simp only [← hji11]; first | rfl | (simp [errW_none, errW_some] <;> rfl)) | (simp [*, errW_none, errW_some] <;> rfl), by repeat (first | (with_reducible first | exact HB.out | apply below_alloc | apply pw_below_drewN | apply below_drew1) | exact HB.out)⟩
      ·rw [if_neg c15] at H
       exact absurd H (by simp)
     ·rw [if_neg c14] at H
      exact absurd H (by simp)
    ·rw [if_neg c13] at H
     exact absurd H (by simp)
   ·rw [if_neg c12] at H
    exact absurd H (by simp)
end Go.Proofs.YtplbjaandkdhjaaDoor.PA
namespace Go.Proofs.YtplbjaandkdhjaaDoor.PA
open Go.RowKit Go.Proofs.YtplbjaandkdhjaaDoorW.PrintWords Go.Proofs.YtplbjaandkdhjaaDoorW.PrintLast Go.Proofs.YtplbjaandkdhjaaDoorW.PrintMore
attribute [local go_sem] max2_int min2_int max_two min_two max_three min_three max_four min_four   -- for this text's walks alone
set_option linter.unusedVariables false
set_option linter.unusedSimpArgs false
def cabinetryref01_Written.f : Nat → Int → Option (ByteArray)
 | 0, _ => none
 | k + 1, a0 => if a0 < 0 then (if a0 = (-9223372036854775808) then (some (⟨#[45, 57, 50, 50, 51, 51, 55, 50, 48, 51, 54, 56, 53, 52, 55, 55, 53, 56, 48, 56]⟩ : ByteArray)) else ((cabinetryref01_Written.f k (wrap64 (-a0))).bind fun t422 => (if 1 + t422.size ≤ 9223372036854775807 then (some ((⟨#[45]⟩ : ByteArray) ++ t422)) else (none)))) else (if a0 < 10 then (if 0 ≤ a0 then (if a0 ≤ (wrap64 (a0 + 1)) then (if (wrap64 (a0 + 1)) ≤ 10 then (some ((⟨#[48, 49, 50, 51, 52, 53, 54, 55, 56, 57]⟩ : ByteArray).extract (a0 : Int).toNat ((wrap64 (a0 + 1)) : Int).toNat)) else (none)) else (none)) else (none)) else ((cabinetryref01_Written.f k (wrap64 (Int.tdiv a0 10))).bind fun t423 => ((cabinetryref01_Written.f k (Int.tmod a0 10)).bind fun t424 => (if t423.size + t424.size ≤ 9223372036854775807 then (some (t423 ++ t424)) else (none)))))
theorem cabinetryref01_Written.mono_l : ∀ k, (∀ y0, LeO (cabinetryref01_Written.f k y0) (cabinetryref01_Written.f (k + 1) y0))
 | 0 => fun _ r h => by simp [cabinetryref01_Written.f] at h
 | k + 1 => by
  have ih0 := cabinetryref01_Written.mono_l k
  ·intro y0
   unfold cabinetryref01_Written.f
   repeat' first
   | (with_reducible exact ih0 _)
   | (with_reducible exact LeO.refl _)
   | (with_reducible exact LeO.none _)
   | (with_reducible refine LeO.ite ?_ ?_)
   | (with_reducible refine LeO.bind ?_ (fun _ => ?_))
   | exact ih0 _
   | exact LeO.none _
   | refine LeO.ite ?_ ?_
   | refine LeO.bind ?_ (fun _ => ?_)
theorem cabinetryref01_Written.mono : ∀ a0 k, LeO (cabinetryref01_Written.f k a0) (cabinetryref01_Written.f (k + 1) a0) := by
 intro a0 k
 have ih0 := cabinetryref01_Written.mono_l k
 exact ih0 a0
set_option maxHeartbeats 8000000 in
set_option maxRecDepth 100000 in
theorem cabinetryref01_Written.calls (k : Nat) : ∀ (a0 : Int) (r : ByteArray) (w : World) (h : cabinetryref01_Written.f k a0 = some r),
  Calls Tryd.prog 96 #[.int .i64 a0] w fun e w' => e = .returned (.string r) ∧ Drawn0 w w' := by
 induction k using Nat.strongRecOn with
 | _ k ih =>
 intro a0 r w h
 cases k with
 | zero => exact absurd h (by simp [cabinetryref01_Written.f])
 | succ k =>
 simp only [cabinetryref01_Written.f] at h
 have H : (if a0 < 0 then (if a0 = (-9223372036854775808) then (some (⟨#[45, 57, 50, 50, 51, 51, 55, 50, 48, 51, 54, 56, 53, 52, 55, 55, 53, 56, 48, 56]⟩ : ByteArray)) else ((cabinetryref01_Written.f k (wrap64 (-a0))).bind fun t422 => (if 1 + t422.size ≤ 9223372036854775807 then (some ((⟨#[45]⟩ : ByteArray) ++ t422)) else (none)))) else (if a0 < 10 then (if 0 ≤ a0 then (if a0 ≤ (wrap64 (a0 + 1)) then (if (wrap64 (a0 + 1)) ≤ 10 then (some ((⟨#[48, 49, 50, 51, 52, 53, 54, 55, 56, 57]⟩ : ByteArray).extract (a0 : Int).toNat ((wrap64 (a0 + 1)) : Int).toNat)) else (none)) else (none)) else (none)) else ((cabinetryref01_Written.f k (wrap64 (Int.tdiv a0 10))).bind fun t423 => ((cabinetryref01_Written.f k (Int.tmod a0 10)).bind fun t424 => (if t423.size + t424.size ≤ 9223372036854775807 then (some (t423 ++ t424)) else (none)))))) = some r := h
 clear h
 by_cases c2 : a0 < 0
 ·rw [if_pos c2] at H
  have c2b0 : decide (a0 < 0) = true := decide_eq_true c2
  clear c2
  by_cases c3 : a0 = (-9223372036854775808)
  ·rw [if_pos c3] at H
   have c3b0 : (a0 == (-9223372036854775808)) = true := beq_iff_eq.mpr c3
   have c3b1 : (a0 != (-9223372036854775808)) = false := bne_eq_false_iff_eq.mpr c3
   clear c3
   obtain rfl := Option.some.inj H
   simp only [Option.some.injEq, Prod.mk.injEq] at H
   obtain ⟨rfl⟩ := H
   go_enter Tryd.func96, Tryd.ntmps96
   go_wp2
   go_ret
   exact ⟨by first | rfl | (simp; done) | (simp [*]; done), by repeat (first | exact Drawn0.refl _ | apply Drawn0.step)⟩
  ·rw [if_neg c3] at H
   have c3b0 : (a0 == (-9223372036854775808)) = false := beq_eq_false_iff_ne.mpr c3
   have c3b1 : (a0 != (-9223372036854775808)) = true := bne_iff_ne.mpr c3
   replace H := Option.bind_eq_some_iff.mp H
   obtain ⟨t422, A40, H⟩ := H
   replace H : (if 1 + t422.size ≤ 9223372036854775807 then (some ((⟨#[45]⟩ : ByteArray) ++ t422)) else (none)) = some r := H
   have A4 := Aside0.mk A40
   clear A40
   by_cases c5 : 1 + t422.size ≤ 9223372036854775807
   ·rw [if_pos c5] at H
    have c5b0 := eq_true c5
    have c5b1 : decide (1 + t422.size ≤ 9223372036854775807) = true := decide_eq_true c5
    try have c5b2 : (9223372036854775807 < 1 + t422.size) = False := eq_false (Nat.not_lt.2 c5)
    obtain rfl := Option.some.inj H
    simp only [Option.some.injEq, Prod.mk.injEq] at H
    obtain ⟨rfl⟩ := H
    go_enter Tryd.func96, Tryd.ntmps96
    go_wp2_with (first | ((with_reducible refine gate_callee (f := 96) rfl ?_); refine goesL_ (some 9) rfl rfl Tryd.func96 (by kernel_rfl) rfl #[.int .i64 (wrap64 (-a0))] rfl (by (try simp only [List.map_toArray, List.map_cons, List.map_nil]); first | done | rfl | (simp only [List.length_drop, List.length_take]; rfl)) ?_; (with_reducible refine (ih k (by omega) (wrap64 (-a0)) t422 _ A4.out).mono ?_); rintro e w' ⟨rfl, ⟨nd, rfl⟩⟩; refine ⟨_, rfl, ?_⟩))
    go_ret
    exact ⟨by first | rfl | (simp; done) | (simp [*]; done), by repeat (first | exact Drawn0.refl _ | apply Drawn0.step)⟩
   ·rw [if_neg c5] at H
    exact absurd H (by simp)
 ·rw [if_neg c2] at H
  have c2b0 : decide (a0 < 0) = false := decide_eq_false c2
  clear c2
  by_cases c6 : a0 < 10
  ·rw [if_pos c6] at H
   have c6b0 : decide (a0 < 10) = true := decide_eq_true c6
   clear c6
   by_cases c7 : 0 ≤ a0
   ·rw [if_pos c7] at H
    have c7b0 := eq_true c7
    have c7b1 : decide (0 ≤ a0) = true := decide_eq_true c7
    clear c7
    by_cases c8 : a0 ≤ (wrap64 (a0 + 1))
    ·rw [if_pos c8] at H
     have c8b0 := eq_true c8
     have c8b1 : decide (a0 ≤ (wrap64 (a0 + 1))) = true := decide_eq_true c8
     by_cases c9 : (wrap64 (a0 + 1)) ≤ 10
     ·rw [if_pos c9] at H
      have c9b0 := eq_true c9
      have c9b1 : decide ((wrap64 (a0 + 1)) ≤ 10) = true := decide_eq_true c9
      obtain rfl := Option.some.inj H
      simp only [Option.some.injEq, Prod.mk.injEq] at H
      obtain ⟨rfl⟩ := H
      go_enter Tryd.func96, Tryd.ntmps96
      go_wp2
      go_ret
      exact ⟨by first | rfl | (simp; done) | (simp [*]; done), by repeat (first | exact Drawn0.refl _ | apply Drawn0.step)⟩
     ·rw [if_neg c9] at H
      exact absurd H (by simp)
    ·rw [if_neg c8] at H
     exact absurd H (by simp)
   ·rw [if_neg c7] at H
    exact absurd H (by simp)
  ·rw [if_neg c6] at H
   have c6b0 : decide (a0 < 10) = false := decide_eq_false c6
   clear c6
   replace H := Option.bind_eq_some_iff.mp H
   obtain ⟨t423, A100, H⟩ := H
   replace H : ((cabinetryref01_Written.f k (Int.tmod a0 10)).bind fun t424 => (if t423.size + t424.size ≤ 9223372036854775807 then (some (t423 ++ t424)) else (none))) = some r := H
   have A10 := Aside0.mk A100
   clear A100
   replace H := Option.bind_eq_some_iff.mp H
   obtain ⟨t424, A110, H⟩ := H
   replace H : (if t423.size + t424.size ≤ 9223372036854775807 then (some (t423 ++ t424)) else (none)) = some r := H
   have A11 := Aside0.mk A110
   clear A110
   by_cases c12 : t423.size + t424.size ≤ 9223372036854775807
   ·rw [if_pos c12] at H
    have c12b0 := eq_true c12
    have c12b1 : decide (t423.size + t424.size ≤ 9223372036854775807) = true := decide_eq_true c12
    try have c12b2 : (9223372036854775807 < t423.size + t424.size) = False := eq_false (Nat.not_lt.2 c12)
    obtain rfl := Option.some.inj H
    simp only [Option.some.injEq, Prod.mk.injEq] at H
    obtain ⟨rfl⟩ := H
    go_enter Tryd.func96, Tryd.ntmps96
    go_wp2_with (first | ((with_reducible refine gate_callee (f := 96) rfl ?_); refine goesL_ (some 19) rfl rfl Tryd.func96 (by kernel_rfl) rfl #[.int .i64 (wrap64 (Int.tdiv a0 10))] rfl (by (try simp only [List.map_toArray, List.map_cons, List.map_nil]); first | done | rfl | (simp only [List.length_drop, List.length_take]; rfl)) ?_; (with_reducible refine (ih k (by omega) (wrap64 (Int.tdiv a0 10)) t423 _ A10.out).mono ?_); rintro e w' ⟨rfl, ⟨nd, rfl⟩⟩; refine ⟨_, rfl, ?_⟩) | ((with_reducible refine gate_callee (f := 96) rfl ?_); refine goesL_ (some 22) rfl rfl Tryd.func96 (by kernel_rfl) rfl #[.int .i64 (Int.tmod a0 10)] rfl (by (try simp only [List.map_toArray, List.map_cons, List.map_nil]); first | done | rfl | (simp only [List.length_drop, List.length_take]; rfl)) ?_; (with_reducible refine (ih k (by omega) (Int.tmod a0 10) t424 _ A11.out).mono ?_); rintro e w' ⟨rfl, ⟨nd, rfl⟩⟩; refine ⟨_, rfl, ?_⟩))
    go_ret
    exact ⟨by first | rfl | (simp; done) | (simp [*]; done), by repeat (first | exact Drawn0.refl _ | apply Drawn0.step)⟩
   ·rw [if_neg c12] at H
    exact absurd H (by simp)
end Go.Proofs.YtplbjaandkdhjaaDoor.PA
namespace Go.Proofs.YtplbjaandkdhjaaDoor.PA
open Go.RowKit Go.Proofs.YtplbjaandkdhjaaDoorW.PrintWords Go.Proofs.YtplbjaandkdhjaaDoorW.PrintLast Go.Proofs.YtplbjaandkdhjaaDoorW.PrintMore
attribute [local go_sem] max2_int min2_int max_two min_two max_three min_three max_four min_four   -- for this text's walks alone
set_option linter.unusedVariables false
set_option linter.unusedSimpArgs false
mutual
def cabinetryref01_Split.j0 : Nat → Int → Bool → Option (Int × Int × Int × Int)
 | 0, _, _ => none
 | k + 1, x0, x19 => if x19 = true then (some (0, 0, 0, 1)) else (if x0 = 0 then (some (0, 0, 0, 0)) else (cabinetryref01_Split.l0 k x0 1 9999))
def cabinetryref01_Split.l0 : Nat → Int → Int → Int → Option (Int × Int × Int × Int)
 | 0, _, _, _ => none
 | k + 1, x0, x6, x7 => if x6 < x7 then ((cabinetryref01_Days.f k (wrap64 (Int.tdiv (wrap64 ((wrap64 (x6 + x7)) + 1)) 2)) 1 1).bind fun bt411 => (if bt411.1 ≤ x0 then (cabinetryref01_Split.l0 k x0 (wrap64 (Int.tdiv (wrap64 ((wrap64 (x6 + x7)) + 1)) 2)) x7) else (cabinetryref01_Split.l0 k x0 x6 (wrap64 ((wrap64 (Int.tdiv (wrap64 ((wrap64 (x6 + x7)) + 1)) 2)) - 1))))) else ((cabinetryref01_Days.f k x6 12 1).bind fun bt413 => (cabinetryref01_Split.l1 k x0 x6 12 bt413.1))
def cabinetryref01_Split.l1 : Nat → Int → Int → Int → Int → Option (Int × Int × Int × Int)
 | 0, _, _, _, _ => none
 | k + 1, x0, x6, x11, x12 => if x12 > x0 then ((cabinetryref01_Days.f k x6 (wrap64 (x11 - 1)) 1).bind fun bt415 => (cabinetryref01_Split.l1 k x0 x6 (wrap64 (x11 - 1)) bt415.1)) else (some (x6, x11, wrap64 ((wrap64 (x0 - x12)) + 1), 0))
end
def cabinetryref01_Split.f (k : Nat) (a0 : Int) : Option (Int × Int × Int × Int) := if a0 < 0 then (cabinetryref01_Split.j0 k a0 true) else (cabinetryref01_Split.j0 k a0 (decide (a0 > 3652059)))
set_option maxHeartbeats 8000000 in
set_option maxRecDepth 100000 in
theorem cabinetryref01_Split.calls (k : Nat) (a0 : Int) (r1 : Int) (r2 : Int) (r3 : Int) (r4 : Int) (w : World) (h : cabinetryref01_Split.f k a0 = some (r1, r2, r3, r4)) :
  Calls Tryd.prog 35 #[.int .i64 a0] w fun e w' => e = .returned (.tuple #[.int .i64 r1, .int .i64 r2, .int .i64 r3, .int .i64 r4]) ∧ Drawn0 w w' := by
 have H : (if a0 < 0 then (cabinetryref01_Split.j0 k a0 true) else (cabinetryref01_Split.j0 k a0 (decide (a0 > 3652059)))) = some (r1, r2, r3, r4) := h
 clear h
 have HC2 := Aside0.mk H
 clear H
 go_enter Tryd.func35, Tryd.ntmps35
 go_upto_region 1 with (fail)
 go_cut [19] (fun v19 wc => ∃ (kq : Nat) (x19_1 : Bool), v19 = .bool x19_1 ∧ Aside0 (cabinetryref01_Split.j0 kq a0 x19_1 = some (r1, r2, r3, r4)) ∧ Aside0 (kq ≤ k) ∧ Drawn0 w wc)
 case first =>
  have H := HC2.out
  clear HC2
  by_cases c3 : a0 < 0
  ·rw [if_pos c3] at H
   have c3b0 : decide (a0 < 0) = true := decide_eq_true c3
   clear c3
   (first | rw [c3b0] | (simp only [i64_w, i32_w]; rw [c3b0]) | skip)
   have H' := Aside0.mk H
   clear H
   go_wp2
   go_meet
   case rel => exact ⟨_, (true), (by first | rfl | (simp; done) | (simp [*]; done)), H', ⟨by first | omega | exact Nat.le_refl _⟩, by repeat (first | exact Drawn0.refl _ | apply Drawn0.step)⟩
  ·rw [if_neg c3] at H
   have c3b0 : decide (a0 < 0) = false := decide_eq_false c3
   clear c3
   (first | rw [c3b0] | (simp only [i64_w, i32_w]; rw [c3b0]) | skip)
   have H' := Aside0.mk H
   clear H
   go_wp2
   go_meet
   case rel => exact ⟨_, (decide (a0 > 3652059)), (by first | rfl | (simp; done) | (simp [*]; done)), H', ⟨by first | omega | exact Nat.le_refl _⟩, by repeat (first | exact Drawn0.refl _ | apply Drawn0.step)⟩
 case rest =>
  clear HC2
  try clear p2; try clear c3; try clear c3b0
  obtain ⟨kq, x19_1, rfl, HA, HJ1, ⟨mc1, rfl⟩⟩ := hcut
  cases kq with
  | zero => exact absurd HA.out (by simp [cabinetryref01_Split.j0])
  | succ kj1 =>
   have H := HA.out
   clear HA
   simp only [cabinetryref01_Split.j0] at H
   by_cases c4 : x19_1 = true
   ·subst c4
    have H1 : (some (0, 0, 0, 1)) = some (r1, r2, r3, r4) := by rw [if_pos rfl] at H; exact H
    clear H
    have H := H1
    clear H1
    simp only [Option.some.injEq, Prod.mk.injEq] at H
    obtain ⟨rfl, rfl, rfl, rfl⟩ := H
    go_wp2
    refine bodyPost_ret (results_list (rs := [.tmp 2, .tmp 3, .tmp 4, .tmp 5]) rfl (by simp) (.tmp (.tmp (.tmp (.tmp .nil))))) rfl ?_
    exact ⟨by first | rfl | (simp; done) | (simp [*]; done), by repeat (first | exact Drawn0.refl _ | apply Drawn0.step)⟩
   ·replace c4 := Bool.eq_false_iff.mpr c4
    subst c4
    have H1 : (if a0 = 0 then (some (0, 0, 0, 0)) else (cabinetryref01_Split.l0 kj1 a0 1 9999)) = some (r1, r2, r3, r4) := by rw [if_neg (show ¬ (false = true) by decide)] at H; exact H
    clear H
    have H := H1
    clear H1
    by_cases c5 : a0 = 0
    ·rw [if_pos c5] at H
     have c5b0 : (a0 == 0) = true := beq_iff_eq.mpr c5
     have c5b1 : (a0 != 0) = false := bne_eq_false_iff_eq.mpr c5
     clear c5
     simp only [Option.some.injEq, Prod.mk.injEq] at H
     obtain ⟨rfl, rfl, rfl, rfl⟩ := H
     go_wp2
     refine bodyPost_ret (results_list (rs := [.tmp 2, .tmp 3, .tmp 4, .tmp 5]) rfl (by simp) (.tmp (.tmp (.tmp (.tmp .nil))))) rfl ?_
     exact ⟨by first | rfl | (simp; done) | (simp [*]; done), by repeat (first | exact Drawn0.refl _ | apply Drawn0.step)⟩
    ·rw [if_neg c5] at H
     have c5b0 : (a0 == 0) = false := beq_eq_false_iff_ne.mpr c5
     have c5b1 : (a0 != 0) = true := bne_iff_ne.mpr c5
     have H' := Aside0.mk H
     clear H
     go_wp2
     go_loopg [6, 7] kj1 (fun kq v6 v7 w' => ∃ (x6_2 : Int) (x7_2 : Int), v6 = .int .i64 x6_2 ∧ v7 = .int .i64 x7_2 ∧ Aside0 (cabinetryref01_Split.l0 kq a0 x6_2 x7_2 = some (r1, r2, r3, r4)) ∧ Aside0 (kq ≤ kj1) ∧ Drawn0 w w')
     case atStart => exact ⟨(1), (9999), (by first | rfl | (simp; done) | (simp [*]; done)), (by first | rfl | (simp; done) | (simp [*]; done)), H', ⟨Nat.le_refl _⟩, by repeat (first | exact Drawn0.refl _ | apply Drawn0.step)⟩
     case round =>
      clear H'
      try clear c1; try clear p2; try clear c3; try clear c3b0; try clear c4; try clear c5; try clear c5b0; try clear c5b1; try clear p2
      obtain ⟨x6_2, x7_2, rfl, rfl, HA, HK2, ⟨m2, rfl⟩⟩ := hrel
      cases gk with
      | zero => exact absurd HA.out (by simp [cabinetryref01_Split.l0])
      | succ k2 =>
       have H := HA.out
       clear HA
       simp only [cabinetryref01_Split.l0] at H
       by_cases c6 : x6_2 < x7_2
       ·rw [if_pos c6] at H
        have c6b0 : decide (x6_2 < x7_2) = true := decide_eq_true c6
        clear c6
        replace H := Option.bind_eq_some_iff.mp H
        obtain ⟨⟨t411, t412⟩, A70, H⟩ := H
        replace H : (if t411 ≤ a0 then (cabinetryref01_Split.l0 k2 a0 (wrap64 (Int.tdiv (wrap64 ((wrap64 (x6_2 + x7_2)) + 1)) 2)) x7_2) else (cabinetryref01_Split.l0 k2 a0 x6_2 (wrap64 ((wrap64 (Int.tdiv (wrap64 ((wrap64 (x6_2 + x7_2)) + 1)) 2)) - 1)))) = some (r1, r2, r3, r4) := H
        have A7 := Aside0.mk A70
        clear A70
        by_cases c8 : t411 ≤ a0
        ·rw [if_pos c8] at H
         have c8b0 : decide (t411 ≤ a0) = true := decide_eq_true c8
         clear c8
         have H' := Aside0.mk H
         clear H
         go_wp2_with (first | ((with_reducible refine gate_callee (f := 23) rfl ?_); refine goesL_ (some 32) rfl rfl Tryd.func23 (by kernel_rfl) rfl #[.int .i64 (wrap64 (Int.tdiv (wrap64 ((wrap64 (x6_2 + x7_2)) + 1)) 2)), .int .i64 1, .int .i64 1] rfl (by (try simp only [List.map_toArray, List.map_cons, List.map_nil]); first | done | rfl | (simp only [List.length_drop, List.length_take]; rfl)) ?_; (with_reducible refine (cabinetryref01_Days.calls k2 (wrap64 (Int.tdiv (wrap64 ((wrap64 (x6_2 + x7_2)) + 1)) 2)) 1 1 t411 t412 _ A7.out).mono ?_); rintro e w' ⟨rfl, ⟨nd, rfl⟩⟩; refine ⟨_, rfl, ?_⟩))
         go_roundg k2
         case measure => have := HJ1.out; have := HK2.out; omega
         case rel => exact ⟨(wrap64 (Int.tdiv (wrap64 ((wrap64 (x6_2 + x7_2)) + 1)) 2)), (x7_2), (by first | rfl | (simp; done) | (simp [*]; done)), (by first | rfl | (simp; done) | (simp [*]; done)), H', ⟨by have := HJ1.out; have := HK2.out; omega⟩, by repeat (first | exact Drawn0.refl _ | apply Drawn0.step)⟩
        ·rw [if_neg c8] at H
         have c8b0 : decide (t411 ≤ a0) = false := decide_eq_false c8
         clear c8
         have H' := Aside0.mk H
         clear H
         go_wp2_with (first | ((with_reducible refine gate_callee (f := 23) rfl ?_); refine goesL_ (some 32) rfl rfl Tryd.func23 (by kernel_rfl) rfl #[.int .i64 (wrap64 (Int.tdiv (wrap64 ((wrap64 (x6_2 + x7_2)) + 1)) 2)), .int .i64 1, .int .i64 1] rfl (by (try simp only [List.map_toArray, List.map_cons, List.map_nil]); first | done | rfl | (simp only [List.length_drop, List.length_take]; rfl)) ?_; (with_reducible refine (cabinetryref01_Days.calls k2 (wrap64 (Int.tdiv (wrap64 ((wrap64 (x6_2 + x7_2)) + 1)) 2)) 1 1 t411 t412 _ A7.out).mono ?_); rintro e w' ⟨rfl, ⟨nd, rfl⟩⟩; refine ⟨_, rfl, ?_⟩))
         go_roundg k2
         case measure => have := HJ1.out; have := HK2.out; omega
         case rel => exact ⟨(x6_2), (wrap64 ((wrap64 (Int.tdiv (wrap64 ((wrap64 (x6_2 + x7_2)) + 1)) 2)) - 1)), (by first | rfl | (simp; done) | (simp [*]; done)), (by first | rfl | (simp; done) | (simp [*]; done)), H', ⟨by have := HJ1.out; have := HK2.out; omega⟩, by repeat (first | exact Drawn0.refl _ | apply Drawn0.step)⟩
       ·rw [if_neg c6] at H
        have c6b0 : decide (x6_2 < x7_2) = false := decide_eq_false c6
        clear c6
        replace H := Option.bind_eq_some_iff.mp H
        obtain ⟨⟨t413, t414⟩, A90, H⟩ := H
        replace H : (cabinetryref01_Split.l1 k2 a0 x6_2 12 t413) = some (r1, r2, r3, r4) := H
        have A9 := Aside0.mk A90
        clear A90
        have H' := Aside0.mk H
        clear H
        go_wp2_with (first | ((with_reducible refine gate_callee (f := 23) rfl ?_); refine goesL_ (some 44) rfl rfl Tryd.func23 (by kernel_rfl) rfl #[.int .i64 x6_2, .int .i64 12, .int .i64 1] rfl (by (try simp only [List.map_toArray, List.map_cons, List.map_nil]); first | done | rfl | (simp only [List.length_drop, List.length_take]; rfl)) ?_; (with_reducible refine (cabinetryref01_Days.calls k2 x6_2 12 1 t413 t414 _ A9.out).mono ?_); rintro e w' ⟨rfl, ⟨nd, rfl⟩⟩; refine ⟨_, rfl, ?_⟩))
        go_loopg [11, 12] k2 (fun kq v11 v12 w' => ∃ (x11_3 : Int) (x12_3 : Int), v11 = .int .i64 x11_3 ∧ v12 = .int .i64 x12_3 ∧ Aside0 (cabinetryref01_Split.l1 kq a0 x6_2 x11_3 x12_3 = some (r1, r2, r3, r4)) ∧ Aside0 (kq ≤ k2) ∧ Drawn0 w w')
        case atStart => exact ⟨(12), (t413), (by first | rfl | (simp; done) | (simp [*]; done)), (by first | rfl | (simp; done) | (simp [*]; done)), H', ⟨Nat.le_refl _⟩, by repeat (first | exact Drawn0.refl _ | apply Drawn0.step)⟩
        case round =>
         clear H'
         try clear c1; try clear c2; try clear p2; try clear c3; try clear c3b0; try clear c4; try clear c5; try clear c5b0; try clear c5b1; try clear c6; try clear c6b0; try clear p6; try clear c8; try clear c8b0; try clear p2
         obtain ⟨x11_3, x12_3, rfl, rfl, HA, HK3, ⟨m3, rfl⟩⟩ := hrel
         cases gk with
         | zero => exact absurd HA.out (by simp [cabinetryref01_Split.l1])
         | succ k3 =>
          have H := HA.out
          clear HA
          simp only [cabinetryref01_Split.l1] at H
          by_cases c10 : x12_3 > a0
          ·rw [if_pos c10] at H
           have c10b0 : decide (a0 < x12_3) = true := decide_eq_true c10
           clear c10
           replace H := Option.bind_eq_some_iff.mp H
           obtain ⟨⟨t415, t416⟩, A110, H⟩ := H
           replace H : (cabinetryref01_Split.l1 k3 a0 x6_2 (wrap64 (x11_3 - 1)) t415) = some (r1, r2, r3, r4) := H
           have A11 := Aside0.mk A110
           clear A110
           have H' := Aside0.mk H
           clear H
           go_wp2_with (first | ((with_reducible refine gate_callee (f := 23) rfl ?_); refine goesL_ (some 55) rfl rfl Tryd.func23 (by kernel_rfl) rfl #[.int .i64 x6_2, .int .i64 (wrap64 (x11_3 - 1)), .int .i64 1] rfl (by (try simp only [List.map_toArray, List.map_cons, List.map_nil]); first | done | rfl | (simp only [List.length_drop, List.length_take]; rfl)) ?_; (with_reducible refine (cabinetryref01_Days.calls k3 x6_2 (wrap64 (x11_3 - 1)) 1 t415 t416 _ A11.out).mono ?_); rintro e w' ⟨rfl, ⟨nd, rfl⟩⟩; refine ⟨_, rfl, ?_⟩))
           go_roundg k3
           case measure => have := HJ1.out; have := HK2.out; have := HK3.out; omega
           case rel => exact ⟨(wrap64 (x11_3 - 1)), (t415), (by first | rfl | (simp; done) | (simp [*]; done)), (by first | rfl | (simp; done) | (simp [*]; done)), H', ⟨by have := HJ1.out; have := HK2.out; have := HK3.out; omega⟩, by repeat (first | exact Drawn0.refl _ | apply Drawn0.step)⟩
          ·rw [if_neg c10] at H
           have c10b0 : decide (a0 < x12_3) = false := decide_eq_false c10
           clear c10
           simp only [Option.some.injEq, Prod.mk.injEq] at H
           obtain ⟨rfl, rfl, rfl, rfl⟩ := H
           go_wp2
           refine bodyPost_ret (results_list (rs := [.tmp 2, .tmp 3, .tmp 4, .tmp 5]) rfl (by simp) (.tmp (.tmp (.tmp (.tmp .nil))))) rfl ?_
           exact ⟨by first | rfl | (simp; done) | (simp [*]; done), by repeat (first | exact Drawn0.refl _ | apply Drawn0.step)⟩
end Go.Proofs.YtplbjaandkdhjaaDoor.PA
namespace Go.Proofs.YtplbjaandkdhjaaDoor.PA
open Go.RowKit Go.Proofs.YtplbjaandkdhjaaDoorW.PrintWords Go.Proofs.YtplbjaandkdhjaaDoorW.PrintLast Go.Proofs.YtplbjaandkdhjaaDoorW.PrintMore
attribute [local go_sem] max2_int min2_int max_two min_two max_three min_three max_four min_four   -- for this text's walks alone
set_option linter.unusedVariables false
set_option linter.unusedSimpArgs false
def cabinetryref01_Padded.l0 : Nat → Int → ByteArray → Option (ByteArray)
 | 0, _, _ => none
 | k + 1, x1, x5 => if (x5.size : Int) < x1 then (if 1 + x5.size ≤ 9223372036854775807 then (cabinetryref01_Padded.l0 k x1 ((⟨#[48]⟩ : ByteArray) ++ x5)) else (none)) else (some x5)
def cabinetryref01_Padded.f (k : Nat) (a0 : Int) (a1 : Int) : Option (ByteArray) := (cabinetryref01_Written.f k a0).bind fun t425 => (cabinetryref01_Padded.l0 k a1 t425)
set_option maxHeartbeats 8000000 in
set_option maxRecDepth 100000 in
theorem cabinetryref01_Padded.calls (k : Nat) (a0 : Int) (a1 : Int) (r : ByteArray) (w : World) (h : cabinetryref01_Padded.f k a0 a1 = some r) :
  Calls Tryd.prog 89 #[.int .i64 a0, .int .i64 a1] w fun e w' => e = .returned (.string r) ∧ Drawn0 w w' := by
 have H : ((cabinetryref01_Written.f k a0).bind fun t425 => (cabinetryref01_Padded.l0 k a1 t425)) = some r := h
 clear h
 replace H := Option.bind_eq_some_iff.mp H
 obtain ⟨t425, A30, H⟩ := H
 replace H : (cabinetryref01_Padded.l0 k a1 t425) = some r := H
 have A3 := Aside0.mk A30
 clear A30
 have H' := Aside0.mk H
 clear H
 go_enter Tryd.func89, Tryd.ntmps89
 go_wp2_with (first | ((with_reducible refine gate_callee (f := 96) rfl ?_); refine goesL_ (some 7) rfl rfl Tryd.func96 (by kernel_rfl) rfl #[.int .i64 a0] rfl (by (try simp only [List.map_toArray, List.map_cons, List.map_nil]); first | done | rfl | (simp only [List.length_drop, List.length_take]; rfl)) ?_; (with_reducible refine (cabinetryref01_Written.calls k a0 t425 _ A3.out).mono ?_); rintro e w' ⟨rfl, ⟨nd, rfl⟩⟩; refine ⟨_, rfl, ?_⟩))
 go_loopg [5] k (fun kq v5 w' => ∃ (x5_1 : ByteArray), v5 = .string x5_1 ∧ Aside0 (cabinetryref01_Padded.l0 kq a1 x5_1 = some r) ∧ Aside0 (kq ≤ k) ∧ Drawn0 w w')
 case atStart => exact ⟨(t425), (by first | rfl | (simp; done) | (simp [*]; done)), H', ⟨Nat.le_refl _⟩, by repeat (first | exact Drawn0.refl _ | apply Drawn0.step)⟩
 case round =>
  clear H'
  try clear p2
  obtain ⟨x5_1, rfl, HA, HK1, ⟨m1, rfl⟩⟩ := hrel
  cases gk with
  | zero => exact absurd HA.out (by simp [cabinetryref01_Padded.l0])
  | succ k1 =>
   have H := HA.out
   clear HA
   simp only [cabinetryref01_Padded.l0] at H
   by_cases c4 : (x5_1.size : Int) < a1
   ·rw [if_pos c4] at H
    have c4b0 : decide ((x5_1.size : Int) < a1) = true := decide_eq_true c4
    clear c4
    by_cases c5 : 1 + x5_1.size ≤ 9223372036854775807
    ·rw [if_pos c5] at H
     have c5b0 := eq_true c5
     have c5b1 : decide (1 + x5_1.size ≤ 9223372036854775807) = true := decide_eq_true c5
     try have c5b2 : (9223372036854775807 < 1 + x5_1.size) = False := eq_false (Nat.not_lt.2 c5)
     have H' := Aside0.mk H
     clear H
     go_wp2
     go_roundg k1
     case measure => have := HK1.out; omega
     case rel => exact ⟨((⟨#[48]⟩ : ByteArray) ++ x5_1), (by first | rfl | (simp; done) | (simp [*]; done)), H', ⟨by have := HK1.out; omega⟩, by repeat (first | exact Drawn0.refl _ | apply Drawn0.step)⟩
    ·rw [if_neg c5] at H
     exact absurd H (by simp)
   ·rw [if_neg c4] at H
    have c4b0 : decide ((x5_1.size : Int) < a1) = false := decide_eq_false c4
    clear c4
    obtain rfl := Option.some.inj H
    simp only [Option.some.injEq, Prod.mk.injEq] at H
    obtain ⟨rfl⟩ := H
    go_wp2
    go_ret
    exact ⟨by first | rfl | (simp; done) | (simp [*]; done), by repeat (first | exact Drawn0.refl _ | apply Drawn0.step)⟩
def cabinetryref01_Stamp.f (k : Nat) (a0 : Int) : Option (ByteArray × Int) := (cabinetryref01_Split.f k a0).bind fun bt426 => (if bt426.2.2.2 = 0 then (if a0 = 0 then (some ((⟨#[32, 32, 32, 32, 32, 32, 32, 32]⟩ : ByteArray), 0)) else ((cabinetryref01_Padded.f k bt426.1 4).bind fun t430 => ((cabinetryref01_Padded.f k bt426.2.1 2).bind fun t431 => (if t430.size + t431.size ≤ 9223372036854775807 then ((cabinetryref01_Padded.f k bt426.2.2.1 2).bind fun t432 => (if (t430 ++ t431).size + t432.size ≤ 9223372036854775807 then (some ((t430 ++ t431) ++ t432, 0)) else (none))) else (none))))) else (some ((⟨#[]⟩ : ByteArray), bt426.2.2.2)))
set_option maxHeartbeats 8000000 in
set_option maxRecDepth 100000 in
theorem cabinetryref01_Stamp.calls (k : Nat) (a0 : Int) (r1 : ByteArray) (r2 : Int) (w : World) (h : cabinetryref01_Stamp.f k a0 = some (r1, r2)) :
  Calls Tryd.prog 39 #[.int .i64 a0] w fun e w' => e = .returned (.tuple #[.string r1, .int .i64 r2]) ∧ Drawn0 w w' := by
 have H : ((cabinetryref01_Split.f k a0).bind fun bt426 => (if bt426.2.2.2 = 0 then (if a0 = 0 then (some ((⟨#[32, 32, 32, 32, 32, 32, 32, 32]⟩ : ByteArray), 0)) else ((cabinetryref01_Padded.f k bt426.1 4).bind fun t430 => ((cabinetryref01_Padded.f k bt426.2.1 2).bind fun t431 => (if t430.size + t431.size ≤ 9223372036854775807 then ((cabinetryref01_Padded.f k bt426.2.2.1 2).bind fun t432 => (if (t430 ++ t431).size + t432.size ≤ 9223372036854775807 then (some ((t430 ++ t431) ++ t432, 0)) else (none))) else (none))))) else (some ((⟨#[]⟩ : ByteArray), bt426.2.2.2)))) = some (r1, r2) := h
 clear h
 replace H := Option.bind_eq_some_iff.mp H
 obtain ⟨⟨t426, t427, t428, t429⟩, A20, H⟩ := H
 replace H : (if t429 = 0 then (if a0 = 0 then (some ((⟨#[32, 32, 32, 32, 32, 32, 32, 32]⟩ : ByteArray), 0)) else ((cabinetryref01_Padded.f k t426 4).bind fun t430 => ((cabinetryref01_Padded.f k t427 2).bind fun t431 => (if t430.size + t431.size ≤ 9223372036854775807 then ((cabinetryref01_Padded.f k t428 2).bind fun t432 => (if (t430 ++ t431).size + t432.size ≤ 9223372036854775807 then (some ((t430 ++ t431) ++ t432, 0)) else (none))) else (none))))) else (some ((⟨#[]⟩ : ByteArray), t429))) = some (r1, r2) := H
 have A2 := Aside0.mk A20
 clear A20
 by_cases c3 : t429 = 0
 ·rw [if_pos c3] at H
  have c3b0 : (t429 == 0) = true := beq_iff_eq.mpr c3
  have c3b1 : (t429 != 0) = false := bne_eq_false_iff_eq.mpr c3
  clear c3
  by_cases c4 : a0 = 0
  ·rw [if_pos c4] at H
   have c4b0 : (a0 == 0) = true := beq_iff_eq.mpr c4
   have c4b1 : (a0 != 0) = false := bne_eq_false_iff_eq.mpr c4
   clear c4
   simp only [Option.some.injEq, Prod.mk.injEq] at H
   obtain ⟨rfl, rfl⟩ := H
   go_enter Tryd.func39, Tryd.ntmps39
   go_wp2_with (first | ((with_reducible refine gate_callee (f := 35) rfl ?_); refine goesL_ (some 10) rfl rfl Tryd.func35 (by kernel_rfl) rfl #[.int .i64 a0] rfl (by (try simp only [List.map_toArray, List.map_cons, List.map_nil]); first | done | rfl | (simp only [List.length_drop, List.length_take]; rfl)) ?_; (with_reducible refine (cabinetryref01_Split.calls k a0 t426 t427 t428 t429 _ A2.out).mono ?_); rintro e w' ⟨rfl, ⟨nd, rfl⟩⟩; refine ⟨_, rfl, ?_⟩))
   go_ret2
   exact ⟨by first | rfl | (simp; done) | (simp [*]; done), by repeat (first | exact Drawn0.refl _ | apply Drawn0.step)⟩
  ·rw [if_neg c4] at H
   have c4b0 : (a0 == 0) = false := beq_eq_false_iff_ne.mpr c4
   have c4b1 : (a0 != 0) = true := bne_iff_ne.mpr c4
   replace H := Option.bind_eq_some_iff.mp H
   obtain ⟨t430, A50, H⟩ := H
   replace H : ((cabinetryref01_Padded.f k t427 2).bind fun t431 => (if t430.size + t431.size ≤ 9223372036854775807 then ((cabinetryref01_Padded.f k t428 2).bind fun t432 => (if (t430 ++ t431).size + t432.size ≤ 9223372036854775807 then (some ((t430 ++ t431) ++ t432, 0)) else (none))) else (none))) = some (r1, r2) := H
   have A5 := Aside0.mk A50
   clear A50
   replace H := Option.bind_eq_some_iff.mp H
   obtain ⟨t431, A60, H⟩ := H
   replace H : (if t430.size + t431.size ≤ 9223372036854775807 then ((cabinetryref01_Padded.f k t428 2).bind fun t432 => (if (t430 ++ t431).size + t432.size ≤ 9223372036854775807 then (some ((t430 ++ t431) ++ t432, 0)) else (none))) else (none)) = some (r1, r2) := H
   have A6 := Aside0.mk A60
   clear A60
   by_cases c7 : t430.size + t431.size ≤ 9223372036854775807
   ·rw [if_pos c7] at H
    have c7b0 := eq_true c7
    have c7b1 : decide (t430.size + t431.size ≤ 9223372036854775807) = true := decide_eq_true c7
    try have c7b2 : (9223372036854775807 < t430.size + t431.size) = False := eq_false (Nat.not_lt.2 c7)
    replace H := Option.bind_eq_some_iff.mp H
    obtain ⟨t432, A80, H⟩ := H
    replace H : (if (t430 ++ t431).size + t432.size ≤ 9223372036854775807 then (some ((t430 ++ t431) ++ t432, 0)) else (none)) = some (r1, r2) := H
    have A8 := Aside0.mk A80
    clear A80
    by_cases c9 : (t430 ++ t431).size + t432.size ≤ 9223372036854775807
    ·rw [if_pos c9] at H
     have c9b0 := eq_true c9
     have c9b1 : decide ((t430 ++ t431).size + t432.size ≤ 9223372036854775807) = true := decide_eq_true c9
     try have c9b2 : (9223372036854775807 < (t430 ++ t431).size + t432.size) = False := eq_false (Nat.not_lt.2 c9)
     try have c9b3 : (9223372036854775807 < t430.size + t431.size + t432.size) = False := eq_false (by have z := c9; simp only [eq_iff_iff, iff_true, iff_false, Nat.not_lt] at *; simp only [ByteArray.size_append, ByteArray.size_extract] at z; omega)
     simp only [Option.some.injEq, Prod.mk.injEq] at H
     obtain ⟨rfl, rfl⟩ := H
     go_enter Tryd.func39, Tryd.ntmps39
     go_wp2_with (first | ((with_reducible refine gate_callee (f := 35) rfl ?_); refine goesL_ (some 10) rfl rfl Tryd.func35 (by kernel_rfl) rfl #[.int .i64 a0] rfl (by (try simp only [List.map_toArray, List.map_cons, List.map_nil]); first | done | rfl | (simp only [List.length_drop, List.length_take]; rfl)) ?_; (with_reducible refine (cabinetryref01_Split.calls k a0 t426 t427 t428 t429 _ A2.out).mono ?_); rintro e w' ⟨rfl, ⟨nd, rfl⟩⟩; refine ⟨_, rfl, ?_⟩) | ((with_reducible refine gate_callee (f := 89) rfl ?_); refine goesL_ (some 21) rfl rfl Tryd.func89 (by kernel_rfl) rfl #[.int .i64 t426, .int .i64 4] rfl (by (try simp only [List.map_toArray, List.map_cons, List.map_nil]); first | done | rfl | (simp only [List.length_drop, List.length_take]; rfl)) ?_; (with_reducible refine (cabinetryref01_Padded.calls k t426 4 t430 _ A5.out).mono ?_); rintro e w' ⟨rfl, ⟨nd, rfl⟩⟩; refine ⟨_, rfl, ?_⟩) | ((with_reducible refine gate_callee (f := 89) rfl ?_); refine goesL_ (some 23) rfl rfl Tryd.func89 (by kernel_rfl) rfl #[.int .i64 t427, .int .i64 2] rfl (by (try simp only [List.map_toArray, List.map_cons, List.map_nil]); first | done | rfl | (simp only [List.length_drop, List.length_take]; rfl)) ?_; (with_reducible refine (cabinetryref01_Padded.calls k t427 2 t431 _ A6.out).mono ?_); rintro e w' ⟨rfl, ⟨nd, rfl⟩⟩; refine ⟨_, rfl, ?_⟩) | ((with_reducible refine gate_callee (f := 89) rfl ?_); refine goesL_ (some 26) rfl rfl Tryd.func89 (by kernel_rfl) rfl #[.int .i64 t428, .int .i64 2] rfl (by (try simp only [List.map_toArray, List.map_cons, List.map_nil]); first | done | rfl | (simp only [List.length_drop, List.length_take]; rfl)) ?_; (with_reducible refine (cabinetryref01_Padded.calls k t428 2 t432 _ A8.out).mono ?_); rintro e w' ⟨rfl, ⟨nd, rfl⟩⟩; refine ⟨_, rfl, ?_⟩))
     go_ret2
     exact ⟨by first | rfl | (simp; done) | (simp [*]; done), by repeat (first | exact Drawn0.refl _ | apply Drawn0.step)⟩
    ·rw [if_neg c9] at H
     exact absurd H (by simp)
   ·rw [if_neg c7] at H
    exact absurd H (by simp)
 ·rw [if_neg c3] at H
  have c3b0 : (t429 == 0) = false := beq_eq_false_iff_ne.mpr c3
  have c3b1 : (t429 != 0) = true := bne_iff_ne.mpr c3
  simp only [Option.some.injEq, Prod.mk.injEq] at H
  obtain ⟨rfl, rfl⟩ := H
  go_enter Tryd.func39, Tryd.ntmps39
  go_wp2_with (first | ((with_reducible refine gate_callee (f := 35) rfl ?_); refine goesL_ (some 10) rfl rfl Tryd.func35 (by kernel_rfl) rfl #[.int .i64 a0] rfl (by (try simp only [List.map_toArray, List.map_cons, List.map_nil]); first | done | rfl | (simp only [List.length_drop, List.length_take]; rfl)) ?_; (with_reducible refine (cabinetryref01_Split.calls k a0 t426 t427 t428 t429 _ A2.out).mono ?_); rintro e w' ⟨rfl, ⟨nd, rfl⟩⟩; refine ⟨_, rfl, ?_⟩))
  go_ret2
  exact ⟨by first | rfl | (simp; done) | (simp [*]; done), by repeat (first | exact Drawn0.refl _ | apply Drawn0.step)⟩
end Go.Proofs.YtplbjaandkdhjaaDoor.PA
namespace Go.Proofs.YtplbjaandkdhjaaDoor.PB
open Go.RowKit Go.Proofs.YtplbjaandkdhjaaDoorW.PrintWords Go.Proofs.YtplbjaandkdhjaaDoorW.PrintLast Go.Proofs.YtplbjaandkdhjaaDoorW.PrintMore Go.Proofs.YtplbjaandkdhjaaDoor.PA Go.Proofs.YtplbjaandkdhjaaDoor.H1
attribute [local go_sem] max2_int min2_int max_two min_two max_three min_three max_four min_four   -- for this text's walks alone
set_option linter.unusedVariables false
set_option linter.unusedSimpArgs false
def val_padded.f (k : Nat) (a0 : Int) (a1 : Int) : Option (ByteArray) := (val_decimal.f k a0).bind fun t186 => ((strings_Repeat.f (⟨#[48]⟩ : ByteArray) (wrap64 (a1 - (t186.size : Int)))).bind fun t187 => (if t187.size + t186.size ≤ 9223372036854775807 then (some (t187 ++ t186)) else (none)))
set_option maxHeartbeats 8000000 in
set_option maxRecDepth 100000 in
theorem val_padded.calls (k : Nat) (a0 : Int) (a1 : Int) (r : ByteArray) (w : World) (h : val_padded.f k a0 a1 = some r) :
  Calls Tryd.prog 121 #[.int .i64 a0, .int .i64 a1] w fun e w' => e = .returned (.string r) ∧ Below w.heap.size w w' := by
 have HB := Aside0.mk (Below.refl w.heap.size w)
 have H : ((val_decimal.f k a0).bind fun t186 => ((strings_Repeat.f (⟨#[48]⟩ : ByteArray) (wrap64 (a1 - (t186.size : Int)))).bind fun t187 => (if t187.size + t186.size ≤ 9223372036854775807 then (some (t187 ++ t186)) else (none)))) = some r := h
 clear h
 replace H := Option.bind_eq_some_iff.mp H
 obtain ⟨t186, A30, H⟩ := H
 replace H : ((strings_Repeat.f (⟨#[48]⟩ : ByteArray) (wrap64 (a1 - (t186.size : Int)))).bind fun t187 => (if t187.size + t186.size ≤ 9223372036854775807 then (some (t187 ++ t186)) else (none))) = some r := H
 have A3 := Aside0.mk A30
 clear A30
 replace H := Option.bind_eq_some_iff.mp H
 obtain ⟨t187, A40, H⟩ := H
 replace H : (if t187.size + t186.size ≤ 9223372036854775807 then (some (t187 ++ t186)) else (none)) = some r := H
 have A4 := Aside0.mk A40
 clear A40
 by_cases c5 : t187.size + t186.size ≤ 9223372036854775807
 ·rw [if_pos c5] at H
  have c5b0 := eq_true c5
  have c5b1 : decide (t187.size + t186.size ≤ 9223372036854775807) = true := decide_eq_true c5
  try have c5b2 : (9223372036854775807 < t187.size + t186.size) = False := eq_false (Nat.not_lt.2 c5)
  obtain rfl := Option.some.inj H
  simp only [Option.some.injEq, Prod.mk.injEq] at H
  obtain ⟨rfl⟩ := H
  go_enter Tryd.func121, Tryd.ntmps121
  go_wp2_with (first | ((with_reducible refine gate_callee (f := 90) rfl ?_); refine goesL_ (some 7) rfl rfl Tryd.func90 (by kernel_rfl) rfl #[.int .i64 a0] rfl (by (try simp only [List.map_toArray, List.map_cons, List.map_nil]); first | done | rfl | (simp only [List.length_drop, List.length_take]; rfl)) ?_; (with_reducible refine (val_decimal.calls k a0 t186 _ A3.out).mono ?_); rintro e w6 ⟨rfl, hb⟩; refine ⟨_, rfl, ?_⟩; have n0_ := Aside0.mk (below_step (by repeat (first | (with_reducible first | exact HB.out | apply below_alloc | apply pw_below_drewN | apply below_drew1) | exact HB.out)) hb); clear HB; have HB := n0_; clear n0_; (try clear hb); (try clear hb2); (try clear hk); (try clear hi)) | ((with_reducible refine gate_callee (f := 95) rfl ?_); refine goesL_ (some 12) rfl rfl Tryd.func95 (by kernel_rfl) rfl #[.string (⟨#[48]⟩ : ByteArray), .int .i64 (wrap64 (a1 - (t186.size : Int)))] rfl (by (try simp only [List.map_toArray, List.map_cons, List.map_nil]); first | done | rfl | (simp only [List.length_drop, List.length_take]; rfl)) ?_; (with_reducible refine (strings_Repeat.calls (⟨#[48]⟩ : ByteArray) (wrap64 (a1 - (t186.size : Int))) t187 _ A4.out).mono ?_); rintro e w7 ⟨rfl, hb⟩; refine ⟨_, rfl, ?_⟩; have n0_ := Aside0.mk (below_step (by repeat (first | (with_reducible first | exact HB.out | apply below_alloc | apply pw_below_drewN | apply below_drew1) | exact HB.out)) hb); clear HB; have HB := n0_; clear n0_; (try clear hb); (try clear hb2); (try clear hk); (try clear hi)))
  go_ret
  exact ⟨by first | rfl | (simp [errW_none, errW_some] <;> rfl) | (simp [*, errW_none, errW_some] <;> rfl), by repeat (first | (with_reducible first | exact HB.out | apply below_alloc | apply pw_below_drewN | apply below_drew1) | exact HB.out)⟩
 ·rw [if_neg c5] at H
  exact absurd H (by simp)
def val_stamp.f (k : Nat) (a0 : Int) : Option (ByteArray) := (val_Split.f k a0).bind fun bt188 => ((val_padded.f k bt188.1 4).bind fun t192 => ((val_padded.f k bt188.2.1 2).bind fun t193 => (if t192.size + t193.size ≤ 9223372036854775807 then ((val_padded.f k bt188.2.2.1 2).bind fun t194 => (if (t192 ++ t193).size + t194.size ≤ 9223372036854775807 then (some ((t192 ++ t193) ++ t194)) else (none))) else (none))))
set_option maxHeartbeats 8000000 in
set_option maxRecDepth 100000 in
theorem val_stamp.calls (k : Nat) (a0 : Int) (r : ByteArray) (w : World) (h : val_stamp.f k a0 = some r) :
  Calls Tryd.prog 88 #[.int .i64 a0] w fun e w' => e = .returned (.string r) ∧ Below w.heap.size w w' := by
 have HB := Aside0.mk (Below.refl w.heap.size w)
 have H : ((val_Split.f k a0).bind fun bt188 => ((val_padded.f k bt188.1 4).bind fun t192 => ((val_padded.f k bt188.2.1 2).bind fun t193 => (if t192.size + t193.size ≤ 9223372036854775807 then ((val_padded.f k bt188.2.2.1 2).bind fun t194 => (if (t192 ++ t193).size + t194.size ≤ 9223372036854775807 then (some ((t192 ++ t193) ++ t194)) else (none))) else (none))))) = some r := h
 clear h
 replace H := Option.bind_eq_some_iff.mp H
 obtain ⟨⟨t188, t189, t190, t191⟩, A20, H⟩ := H
 replace H : ((val_padded.f k t188 4).bind fun t192 => ((val_padded.f k t189 2).bind fun t193 => (if t192.size + t193.size ≤ 9223372036854775807 then ((val_padded.f k t190 2).bind fun t194 => (if (t192 ++ t193).size + t194.size ≤ 9223372036854775807 then (some ((t192 ++ t193) ++ t194)) else (none))) else (none)))) = some r := H
 have A2 := Aside0.mk A20
 clear A20
 replace H := Option.bind_eq_some_iff.mp H
 obtain ⟨t192, A30, H⟩ := H
 replace H : ((val_padded.f k t189 2).bind fun t193 => (if t192.size + t193.size ≤ 9223372036854775807 then ((val_padded.f k t190 2).bind fun t194 => (if (t192 ++ t193).size + t194.size ≤ 9223372036854775807 then (some ((t192 ++ t193) ++ t194)) else (none))) else (none))) = some r := H
 have A3 := Aside0.mk A30
 clear A30
 replace H := Option.bind_eq_some_iff.mp H
 obtain ⟨t193, A40, H⟩ := H
 replace H : (if t192.size + t193.size ≤ 9223372036854775807 then ((val_padded.f k t190 2).bind fun t194 => (if (t192 ++ t193).size + t194.size ≤ 9223372036854775807 then (some ((t192 ++ t193) ++ t194)) else (none))) else (none)) = some r := H
 have A4 := Aside0.mk A40
 clear A40
 by_cases c5 : t192.size + t193.size ≤ 9223372036854775807
 ·rw [if_pos c5] at H
  have c5b0 := eq_true c5
  have c5b1 : decide (t192.size + t193.size ≤ 9223372036854775807) = true := decide_eq_true c5
  try have c5b2 : (9223372036854775807 < t192.size + t193.size) = False := eq_false (Nat.not_lt.2 c5)
  replace H := Option.bind_eq_some_iff.mp H
  obtain ⟨t194, A60, H⟩ := H
  replace H : (if (t192 ++ t193).size + t194.size ≤ 9223372036854775807 then (some ((t192 ++ t193) ++ t194)) else (none)) = some r := H
  have A6 := Aside0.mk A60
  clear A60
  by_cases c7 : (t192 ++ t193).size + t194.size ≤ 9223372036854775807
  ·rw [if_pos c7] at H
   have c7b0 := eq_true c7
   have c7b1 : decide ((t192 ++ t193).size + t194.size ≤ 9223372036854775807) = true := decide_eq_true c7
   try have c7b2 : (9223372036854775807 < (t192 ++ t193).size + t194.size) = False := eq_false (Nat.not_lt.2 c7)
   try have c7b3 : (9223372036854775807 < t192.size + t193.size + t194.size) = False := eq_false (by have z := c7; simp only [eq_iff_iff, iff_true, iff_false, Nat.not_lt] at *; simp only [ByteArray.size_append, ByteArray.size_extract] at z; omega)
   obtain rfl := Option.some.inj H
   simp only [Option.some.injEq, Prod.mk.injEq] at H
   obtain ⟨rfl⟩ := H
   go_enter Tryd.func88, Tryd.ntmps88
   go_wp2_with (first | ((with_reducible refine gate_callee (f := 24) rfl ?_); refine goesL_ (some 9) rfl rfl Tryd.func24 (by kernel_rfl) rfl #[.int .i64 a0] rfl (by (try simp only [List.map_toArray, List.map_cons, List.map_nil]); first | done | rfl | (simp only [List.length_drop, List.length_take]; rfl)) ?_; (with_reducible refine (val_Split.calls k a0 t188 t189 t190 t191 _ A2.out).mono ?_); rintro e w8 ⟨rfl, hb⟩; refine ⟨_, rfl, ?_⟩; have n0_ := Aside0.mk (below_step (by repeat (first | (with_reducible first | exact HB.out | apply below_alloc | apply pw_below_drewN | apply below_drew1) | exact HB.out)) hb); clear HB; have HB := n0_; clear n0_; (try clear hb); (try clear hb2); (try clear hk); (try clear hi)) | ((with_reducible refine gate_callee (f := 121) rfl ?_); refine goesL_ (some 15) rfl rfl Tryd.func121 (by kernel_rfl) rfl #[.int .i64 t188, .int .i64 4] rfl (by (try simp only [List.map_toArray, List.map_cons, List.map_nil]); first | done | rfl | (simp only [List.length_drop, List.length_take]; rfl)) ?_; (with_reducible refine (val_padded.calls k t188 4 t192 _ A3.out).mono ?_); rintro e w9 ⟨rfl, hb⟩; refine ⟨_, rfl, ?_⟩; have n0_ := Aside0.mk (below_step (by repeat (first | (with_reducible first | exact HB.out | apply below_alloc | apply pw_below_drewN | apply below_drew1) | exact HB.out)) hb); clear HB; have HB := n0_; clear n0_; (try clear hb); (try clear hb2); (try clear hk); (try clear hi)) | ((with_reducible refine gate_callee (f := 121) rfl ?_); refine goesL_ (some 17) rfl rfl Tryd.func121 (by kernel_rfl) rfl #[.int .i64 t189, .int .i64 2] rfl (by (try simp only [List.map_toArray, List.map_cons, List.map_nil]); first | done | rfl | (simp only [List.length_drop, List.length_take]; rfl)) ?_; (with_reducible refine (val_padded.calls k t189 2 t193 _ A4.out).mono ?_); rintro e w10 ⟨rfl, hb⟩; refine ⟨_, rfl, ?_⟩; have n0_ := Aside0.mk (below_step (by repeat (first | (with_reducible first | exact HB.out | apply below_alloc | apply pw_below_drewN | apply below_drew1) | exact HB.out)) hb); clear HB; have HB := n0_; clear n0_; (try clear hb); (try clear hb2); (try clear hk); (try clear hi)) | ((with_reducible refine gate_callee (f := 121) rfl ?_); refine goesL_ (some 20) rfl rfl Tryd.func121 (by kernel_rfl) rfl #[.int .i64 t190, .int .i64 2] rfl (by (try simp only [List.map_toArray, List.map_cons, List.map_nil]); first | done | rfl | (simp only [List.length_drop, List.length_take]; rfl)) ?_; (with_reducible refine (val_padded.calls k t190 2 t194 _ A6.out).mono ?_); rintro e w11 ⟨rfl, hb⟩; refine ⟨_, rfl, ?_⟩; have n0_ := Aside0.mk (below_step (by repeat (first | (with_reducible first | exact HB.out | apply below_alloc | apply pw_below_drewN | apply below_drew1) | exact HB.out)) hb); clear HB; have HB := n0_; clear n0_; (try clear hb); (try clear hb2); (try clear hk); (try clear hi)))
   go_ret
   exact ⟨by first | rfl | (simp [errW_none, errW_some] <;> rfl) | (simp [*, errW_none, errW_some] <;> rfl), by repeat (first | (with_reducible first | exact HB.out | apply below_alloc | apply pw_below_drewN | apply below_drew1) | exact HB.out)⟩
  ·rw [if_neg c7] at H
   exact absurd H (by simp)
 ·rw [if_neg c5] at H
  exact absurd H (by simp)
def val_Stamp.f (k : Nat) (a0 : Int) : Option (ByteArray × Int) := (val_isDay.f a0).bind fun t195 => (if t195 = true then (if a0 = 0 then (some ((⟨#[32, 32, 32, 32, 32, 32, 32, 32]⟩ : ByteArray), 0)) else ((val_stamp.f k a0).bind fun t196 => (some (t196, 0)))) else (some ((⟨#[]⟩ : ByteArray), 1)))
set_option maxHeartbeats 8000000 in
set_option maxRecDepth 100000 in
theorem val_Stamp.calls (k : Nat) (a0 : Int) (r1 : ByteArray) (r2 : Int) (w : World) (h : val_Stamp.f k a0 = some (r1, r2)) :
  Calls Tryd.prog 38 #[.int .i64 a0] w fun e w' => e = .returned (.tuple #[.string r1, .int .i64 r2]) ∧ Below w.heap.size w w' := by
 have HB := Aside0.mk (Below.refl w.heap.size w)
 have H : ((val_isDay.f a0).bind fun t195 => (if t195 = true then (if a0 = 0 then (some ((⟨#[32, 32, 32, 32, 32, 32, 32, 32]⟩ : ByteArray), 0)) else ((val_stamp.f k a0).bind fun t196 => (some (t196, 0)))) else (some ((⟨#[]⟩ : ByteArray), 1)))) = some (r1, r2) := h
 clear h
 replace H := Option.bind_eq_some_iff.mp H
 obtain ⟨t195, A20, H⟩ := H
 replace H : (if t195 = true then (if a0 = 0 then (some ((⟨#[32, 32, 32, 32, 32, 32, 32, 32]⟩ : ByteArray), 0)) else ((val_stamp.f k a0).bind fun t196 => (some (t196, 0)))) else (some ((⟨#[]⟩ : ByteArray), 1))) = some (r1, r2) := H
 have A2 := Aside0.mk A20
 clear A20
 by_cases c3 : t195 = true
 ·subst c3
  have H1 : (if a0 = 0 then (some ((⟨#[32, 32, 32, 32, 32, 32, 32, 32]⟩ : ByteArray), 0)) else ((val_stamp.f k a0).bind fun t196 => (some (t196, 0)))) = some (r1, r2) := by rw [if_pos rfl] at H; exact H
  clear H
  have H := H1
  clear H1
  by_cases c4 : a0 = 0
  ·rw [if_pos c4] at H
   have c4b0 : (a0 == 0) = true := beq_iff_eq.mpr c4
   have c4b1 : (a0 != 0) = false := bne_eq_false_iff_eq.mpr c4
   clear c4
   simp only [Option.some.injEq, Prod.mk.injEq] at H
   obtain ⟨rfl, rfl⟩ := H
   go_enter Tryd.func38, Tryd.ntmps38
   go_wp2_with (first | ((with_reducible refine gate_callee (f := 72) rfl ?_); refine goesL_ (some 5) rfl rfl Tryd.func72 (by kernel_rfl) rfl #[.int .i64 a0] rfl (by (try simp only [List.map_toArray, List.map_cons, List.map_nil]); first | done | rfl | (simp only [List.length_drop, List.length_take]; rfl)) ?_; (with_reducible refine (val_isDay.calls a0 true _ A2.out).mono ?_); rintro e w' ⟨rfl, ⟨nd, rfl⟩⟩; refine ⟨_, rfl, ?_⟩))
   go_ret2
   exact ⟨by first | rfl | (simp [errW_none, errW_some] <;> rfl) | (simp [*, errW_none, errW_some] <;> rfl), by repeat (first | (with_reducible first | exact HB.out | apply below_alloc | apply pw_below_drewN | apply below_drew1) | exact HB.out)⟩
  ·rw [if_neg c4] at H
   have c4b0 : (a0 == 0) = false := beq_eq_false_iff_ne.mpr c4
   have c4b1 : (a0 != 0) = true := bne_iff_ne.mpr c4
   replace H := Option.bind_eq_some_iff.mp H
   obtain ⟨t196, A50, H⟩ := H
   replace H : (some (t196, 0)) = some (r1, r2) := H
   have A5 := Aside0.mk A50
   clear A50
   simp only [Option.some.injEq, Prod.mk.injEq] at H
   obtain ⟨rfl, rfl⟩ := H
   go_enter Tryd.func38, Tryd.ntmps38
   go_wp2_with (first | ((with_reducible refine gate_callee (f := 72) rfl ?_); refine goesL_ (some 5) rfl rfl Tryd.func72 (by kernel_rfl) rfl #[.int .i64 a0] rfl (by (try simp only [List.map_toArray, List.map_cons, List.map_nil]); first | done | rfl | (simp only [List.length_drop, List.length_take]; rfl)) ?_; (with_reducible refine (val_isDay.calls a0 true _ A2.out).mono ?_); rintro e w' ⟨rfl, ⟨nd, rfl⟩⟩; refine ⟨_, rfl, ?_⟩) | ((with_reducible refine gate_callee (f := 88) rfl ?_); refine goesL_ (some 10) rfl rfl Tryd.func88 (by kernel_rfl) rfl #[.int .i64 a0] rfl (by (try simp only [List.map_toArray, List.map_cons, List.map_nil]); first | done | rfl | (simp only [List.length_drop, List.length_take]; rfl)) ?_; (with_reducible refine (val_stamp.calls k a0 t196 _ A5.out).mono ?_); rintro e w6 ⟨rfl, hb⟩; refine ⟨_, rfl, ?_⟩; have n0_ := Aside0.mk (below_step (by repeat (first | (with_reducible first | exact HB.out | apply below_alloc | apply pw_below_drewN | apply below_drew1) | exact HB.out)) hb); clear HB; have HB := n0_; clear n0_; (try clear hb); (try clear hb2); (try clear hk); (try clear hi)))
   go_ret2
   exact ⟨by first | rfl | (simp [errW_none, errW_some] <;> rfl) | (simp [*, errW_none, errW_some] <;> rfl), by repeat (first | (with_reducible first | exact HB.out | apply below_alloc | apply pw_below_drewN | apply below_drew1) | exact HB.out)⟩
 ·replace c3 := Bool.eq_false_iff.mpr c3
  subst c3
  have H1 : (some ((⟨#[]⟩ : ByteArray), 1)) = some (r1, r2) := by rw [if_neg (show ¬ (false = true) by decide)] at H; exact H
  clear H
  have H := H1
  clear H1
  simp only [Option.some.injEq, Prod.mk.injEq] at H
  obtain ⟨rfl, rfl⟩ := H
  go_enter Tryd.func38, Tryd.ntmps38
  go_wp2_with (first | ((with_reducible refine gate_callee (f := 72) rfl ?_); refine goesL_ (some 5) rfl rfl Tryd.func72 (by kernel_rfl) rfl #[.int .i64 a0] rfl (by (try simp only [List.map_toArray, List.map_cons, List.map_nil]); first | done | rfl | (simp only [List.length_drop, List.length_take]; rfl)) ?_; (with_reducible refine (val_isDay.calls a0 false _ A2.out).mono ?_); rintro e w' ⟨rfl, ⟨nd, rfl⟩⟩; refine ⟨_, rfl, ?_⟩))
  go_ret2
  exact ⟨by first | rfl | (simp [errW_none, errW_some] <;> rfl) | (simp [*, errW_none, errW_some] <;> rfl), by repeat (first | (with_reducible first | exact HB.out | apply below_alloc | apply pw_below_drewN | apply below_drew1) | exact HB.out)⟩
end Go.Proofs.YtplbjaandkdhjaaDoor.PB
namespace Go.Proofs.YtplbjaandkdhjaaDoor.L1
open Go.RowKit Go.Proofs.YtplbjaandkdhjaaDoorW.PrintWords Go.Proofs.YtplbjaandkdhjaaDoor.PA Go.Proofs.YtplbjaandkdhjaaDoor.PB Go.Proofs.YtplbjaandkdhjaaDoor.H1
def digs (n : Nat) : List UInt8 := if h : n < 10 then [UInt8.ofNat (48 + n)] else digs (n / 10) ++ [UInt8.ofNat (48 + n % 10)]
termination_by n
decreasing_by omega
theorem digs_small {n : Nat} (h : n < 10) : digs n = [UInt8.ofNat (48 + n)] := by rw [digs, dif_pos h]
theorem digs_big {n : Nat} (h : ¬ n < 10) : digs n = digs (n / 10) ++ [UInt8.ofNat (48 + n % 10)] := by rw [digs, dif_neg h]
theorem digs_len (k : Nat) : ∀ n, n < 10 ^ k → 1 ≤ k → 1 ≤ (digs n).length ∧ (digs n).length ≤ k := by
  induction k with
  | zero => intro n _ h; omega
  | succ k ih =>
    intro n h _
    by_cases hs : n < 10
    · rw [digs_small hs]; simp
    · rw [digs_big hs, List.length_append, List.length_singleton]
      have hk : 1 ≤ k := by
        rcases Nat.eq_zero_or_pos k with rfl | h'
        · simp at h; omega
        · exact h'
      have := ih (n / 10) (by rw [Nat.pow_succ] at h; omega) hk
      omega
theorem ten_cut (d : Nat) (h : d < 10) : (⟨#[48, 49, 50, 51, 52, 53, 54, 55, 56, 57]⟩ : ByteArray).extract d (d + 1) = ⟨[UInt8.ofNat (48 + d)].toArray⟩ := by
  apply ba_ext
  rw [Lib.extract_data]
  match d, h with
  | 0, _ => rfl
  | 1, _ => rfl
  | 2, _ => rfl
  | 3, _ => rfl
  | 4, _ => rfl
  | 5, _ => rfl
  | 6, _ => rfl
  | 7, _ => rfl
  | 8, _ => rfl
  | 9, _ => rfl
theorem ba_app (a b : List UInt8) : (⟨a.toArray⟩ : ByteArray) ++ ⟨b.toArray⟩ = ⟨(a ++ b).toArray⟩ := ba_ext (by simp)
theorem ten_at (x : Int) (n : Nat) (hx : x = n) (h : n < 10) : (if 0 ≤ x then (if x ≤ wrap64 (x + 1) then (if wrap64 (x + 1) ≤ 10 then some ((⟨#[48, 49, 50, 51, 52, 53, 54, 55, 56, 57]⟩ : ByteArray).extract x.toNat (wrap64 (x + 1)).toNat) else none) else none) else none) = some ⟨[UInt8.ofNat (48 + n)].toArray⟩ := by
  subst hx
  rw [w64 (by omega) (by omega), if_pos (by omega), if_pos (by omega), if_pos (by omega), show ((n : Int)).toNat = n by omega, show ((n : Int) + 1).toNat = n + 1 by omega, ten_cut n h]
theorem ten_app (t : List UInt8) (x : Int) (n : Nat) (hx : x = n) (h : n < 10) (ht : t.length ≤ 100) : (if 0 ≤ x then (if x ≤ wrap64 (x + 1) then (if wrap64 (x + 1) ≤ 10 then (if (⟨t.toArray⟩ : ByteArray).size + ((⟨#[48, 49, 50, 51, 52, 53, 54, 55, 56, 57]⟩ : ByteArray).extract x.toNat (wrap64 (x + 1)).toNat).size ≤ 9223372036854775807 then some ((⟨t.toArray⟩ : ByteArray) ++ (⟨#[48, 49, 50, 51, 52, 53, 54, 55, 56, 57]⟩ : ByteArray).extract x.toNat (wrap64 (x + 1)).toNat) else none) else none) else none) else none) = some ⟨(t ++ [UInt8.ofNat (48 + n)]).toArray⟩ := by
  subst hx
  have e : wrap64 ((n : Int) + 1) = (n : Int) + 1 := w64 (by omega) (by omega)
  have c : (⟨#[48, 49, 50, 51, 52, 53, 54, 55, 56, 57]⟩ : ByteArray).extract ((n : Int)).toNat (wrap64 ((n : Int) + 1)).toNat = ⟨[UInt8.ofNat (48 + n)].toArray⟩ := by
    rw [e, show ((n : Int)).toNat = n by omega, show ((n : Int) + 1).toNat = n + 1 by omega, ten_cut n h]
  rw [c, e, ba_size, ba_size, ba_app, List.length_singleton, if_pos (by omega), if_pos (by omega), if_pos (by omega), if_pos (by omega)]
theorem decimal_nat (k : Nat) : ∀ n : Nat, n < 10 ^ k → 1 ≤ k → k ≤ 18 → val_decimal.f k (n : Int) = some ⟨(digs n).toArray⟩ := by
  induction k with
  | zero => intro n _ h; omega
  | succ k ih =>
    intro n h _ hk
    unfold val_decimal.f
    rw [if_neg (by omega)]
    by_cases hs : n < 10
    · rw [if_pos (by omega), digs_small hs]
      exact ten_at n n rfl hs
    · rw [if_neg (by omega), digs_big hs]
      have hk1 : 1 ≤ k := by
        rcases Nat.eq_zero_or_pos k with rfl | h'
        · simp at h; omega
        · exact h'
      have hb : n < 10 ^ 18 := Nat.lt_of_lt_of_le h (Nat.pow_le_pow_right (by omega) hk)
      rw [show (10 : Nat) ^ 18 = 1000000000000000000 by decide] at hb
      have hb' : (n : Int) < 1000000000000000000 := by omega
      have hq : n / 10 < 10 ^ k := by rw [Nat.pow_succ] at h; omega
      have e1 : Int.tdiv (n : Int) 10 = ((n / 10 : Nat) : Int) := by rw [Int.tdiv_eq_ediv_of_nonneg (by omega)]; omega
      have e2 : Int.tmod (n : Int) 10 = ((n % 10 : Nat) : Int) := by rw [Int.tmod_eq_emod_of_nonneg (by omega)]; omega
      rw [e1, e2, w64 (x := ((n / 10 : Nat) : Int)) (by omega) (by omega), ih (n / 10) hq hk1 (by omega), Option.bind_some]
      have hl := (digs_len k (n / 10) hq hk1).2
      exact ten_app _ _ (n % 10) rfl (Nat.mod_lt _ (by omega)) (by omega)
theorem written_nat (k : Nat) : ∀ n : Nat, n < 10 ^ k → 1 ≤ k → k ≤ 18 → cabinetryref01_Written.f k (n : Int) = some ⟨(digs n).toArray⟩ := by
  induction k with
  | zero => intro n _ h; omega
  | succ k ih =>
    intro n h _ hk
    unfold cabinetryref01_Written.f
    rw [if_neg (by omega)]
    by_cases hs : n < 10
    · rw [if_pos (by omega), digs_small hs]
      exact ten_at n n rfl hs
    · rw [if_neg (by omega), digs_big hs]
      have hk1 : 1 ≤ k := by
        rcases Nat.eq_zero_or_pos k with rfl | h'
        · simp at h; omega
        · exact h'
      have hb : n < 10 ^ 18 := Nat.lt_of_lt_of_le h (Nat.pow_le_pow_right (by omega) hk)
      rw [show (10 : Nat) ^ 18 = 1000000000000000000 by decide] at hb
      have hb' : (n : Int) < 1000000000000000000 := by omega
      have hq : n / 10 < 10 ^ k := by rw [Nat.pow_succ] at h; omega
      have hm : n % 10 < 10 := Nat.mod_lt _ (by omega)
      have hm2 : n % 10 < 10 ^ k := Nat.lt_of_lt_of_le hm (by have := Nat.pow_le_pow_right (n := 10) (by omega) hk1; omega)
      have e1 : Int.tdiv (n : Int) 10 = ((n / 10 : Nat) : Int) := by rw [Int.tdiv_eq_ediv_of_nonneg (by omega)]; omega
      have e2 : Int.tmod (n : Int) 10 = ((n % 10 : Nat) : Int) := by rw [Int.tmod_eq_emod_of_nonneg (by omega)]; omega
      rw [e1, e2, w64 (x := ((n / 10 : Nat) : Int)) (by omega) (by omega), ih (n / 10) hq hk1 (by omega), ih (n % 10) hm2 hk1 (by omega)]
      simp only [Option.bind_some]
      have hl := (digs_len k (n / 10) hq hk1).2
      rw [digs_small hm, if_pos (by rw [ba_size, ba_size, List.length_singleton]; omega), ba_app]
def decS (n : Int) : List UInt8 := if n < 0 then 45 :: digs (-n).toNat else digs n.toNat
theorem decimal_f {n : Int} (h : -1000000000000000 ≤ n ∧ n ≤ 1000000000000000) : val_decimal.f 17 n = some ⟨(decS n).toArray⟩ := by
  unfold decS
  by_cases hn : n < 0
  · rw [if_pos hn]
    unfold val_decimal.f
    rw [if_pos hn, w64 (by omega) (by omega)]
    have e : -n = (((-n).toNat : Nat) : Int) := by omega
    have hb : (-n).toNat < 10 ^ 16 := by omega
    have d := decimal_nat 16 (-n).toNat hb (by omega) (by omega)
    rw [← e] at d
    rw [d]
    simp only [Option.bind_some]
    have hl := (digs_len 16 _ hb (by omega)).2
    rw [if_pos (by rw [ba_size]; omega), show (⟨#[45]⟩ : ByteArray) = ⟨[45].toArray⟩ from rfl, ba_app]
    rfl
  · rw [if_neg hn]
    have e : n = ((n.toNat : Nat) : Int) := by omega
    have d := decimal_nat 17 n.toNat (by omega) (by omega) (by omega)
    rw [← e] at d
    exact d
theorem written_f {n : Int} (h : -1000000000000000 ≤ n ∧ n ≤ 1000000000000000) : cabinetryref01_Written.f 17 n = some ⟨(decS n).toArray⟩ := by
  unfold decS
  by_cases hn : n < 0
  · rw [if_pos hn]
    unfold cabinetryref01_Written.f
    rw [if_pos hn, if_neg (by omega), w64 (by omega) (by omega)]
    have e : -n = (((-n).toNat : Nat) : Int) := by omega
    have hb : (-n).toNat < 10 ^ 16 := by omega
    have d := written_nat 16 (-n).toNat hb (by omega) (by omega)
    rw [← e] at d
    rw [d]
    simp only [Option.bind_some]
    have hl := (digs_len 16 _ hb (by omega)).2
    rw [if_pos (by rw [ba_size]; omega), show (⟨#[45]⟩ : ByteArray) = ⟨[45].toArray⟩ from rfl, ba_app]
    rfl
  · rw [if_neg hn]
    have e : n = ((n.toNat : Nat) : Int) := by omega
    have d := written_nat 17 n.toNat (by omega) (by omega) (by omega)
    rw [← e] at d
    exact d
theorem decimal_ge {n : Int} (h : -1000000000000000 ≤ n ∧ n ≤ 1000000000000000) {k : Nat} (hk : 17 ≤ k) : val_decimal.f k n = some ⟨(decS n).toArray⟩ :=
  at_rounds (g := fun k => val_decimal.f k n) (fun k => val_decimal.mono n k) hk (decimal_f h)
theorem written_ge {n : Int} (h : -1000000000000000 ≤ n ∧ n ≤ 1000000000000000) {k : Nat} (hk : 17 ≤ k) : cabinetryref01_Written.f k n = some ⟨(decS n).toArray⟩ :=
  at_rounds (g := fun k => cabinetryref01_Written.f k n) (fun k => cabinetryref01_Written.mono n k) hk (written_f h)
theorem repeat_one (c : UInt8) (n : Nat) : Lib.repeatL [c] n = List.replicate n c := by
  induction n with
  | zero => rfl
  | succ n ih => rw [Lib.repeatL, ih, List.replicate_succ]; rfl
theorem repeat_f (c : UInt8) (n : Int) (h0 : 0 ≤ n) (h1 : n ≤ 100000) : strings_Repeat.f (⟨#[c]⟩ : ByteArray) n = some ⟨(List.replicate n.toNat c).toArray⟩ := by
  unfold strings_Repeat.f
  have e : (⟨#[c]⟩ : ByteArray).size = 1 := rfl
  rw [if_pos ⟨h0, by omega, by rw [e]; omega⟩, show (⟨#[c]⟩ : ByteArray).data.toList = [c] from rfl, repeat_one]
def padS (n w : Nat) : List UInt8 := List.replicate (w - (digs n).length) 48 ++ digs n
theorem padded_f {n w : Nat} (hn : n < 10 ^ w) (hw : 1 ≤ w) (hw2 : w ≤ 10) {k : Nat} (hk : 17 ≤ k) : val_padded.f k (n : Int) (w : Int) = some ⟨(padS n w).toArray⟩ := by
  have hl := (digs_len w n hn hw).2
  have hb : n < 10 ^ 10 := Nat.lt_of_lt_of_le hn (Nat.pow_le_pow_right (by omega) hw2)
  rw [show (10 : Nat) ^ 10 = 10000000000 by decide] at hb
  have hb' : (n : Int) < 10000000000 := by omega
  unfold val_padded.f padS
  rw [decimal_ge (by omega) hk]
  unfold decS
  rw [if_neg (by omega), show ((n : Int)).toNat = n by omega]
  simp only [Option.bind_some]
  rw [ba_size, w64 (by omega) (by omega), repeat_f 48 _ (by omega) (by omega)]
  simp only [Option.bind_some]
  rw [if_pos (by rw [ba_size, List.length_replicate]; omega), ba_app, show ((w : Int) - ((digs n).length : Int)).toNat = w - (digs n).length by omega]
theorem refPadded_l (w : Nat) (hw : w ≤ 10) (d : Nat) : ∀ (l : List UInt8) (k : Nat), l.length + d = w → d < k → cabinetryref01_Padded.l0 k (w : Int) ⟨l.toArray⟩ = some ⟨(List.replicate d 48 ++ l).toArray⟩ := by
  induction d with
  | zero =>
    intro l k hl hk
    obtain ⟨k, rfl⟩ : ∃ m, k = m + 1 := ⟨k - 1, by omega⟩
    simp only [cabinetryref01_Padded.l0]
    rw [if_neg (by rw [ba_size]; omega)]
    rfl
  | succ d ih =>
    intro l k hl hk
    obtain ⟨k, rfl⟩ : ∃ m, k = m + 1 := ⟨k - 1, by omega⟩
    simp only [cabinetryref01_Padded.l0]
    rw [if_pos (by rw [ba_size]; omega), if_pos (by rw [ba_size]; omega), show (⟨#[48]⟩ : ByteArray) = ⟨[48].toArray⟩ from rfl, ba_app, ih ([48] ++ l) k (by rw [List.length_append, List.length_singleton]; omega) (by omega)]
    rw [← List.append_assoc, List.replicate_succ']
theorem refPadded_f {n w : Nat} (hn : n < 10 ^ w) (hw : 1 ≤ w) (hw2 : w ≤ 10) {k : Nat} (hk : 17 ≤ k) : cabinetryref01_Padded.f k (n : Int) (w : Int) = some ⟨(padS n w).toArray⟩ := by
  have hl := (digs_len w n hn hw).2
  have hb : n < 10 ^ 10 := Nat.lt_of_lt_of_le hn (Nat.pow_le_pow_right (by omega) hw2)
  rw [show (10 : Nat) ^ 10 = 10000000000 by decide] at hb
  have hb' : (n : Int) < 10000000000 := by omega
  unfold cabinetryref01_Padded.f padS
  rw [written_ge (by omega) hk]
  unfold decS
  rw [if_neg (by omega), show ((n : Int)).toNat = n by omega]
  simp only [Option.bind_some]
  exact refPadded_l w hw2 (w - (digs n).length) (digs n) k (by omega) (by omega)
end Go.Proofs.YtplbjaandkdhjaaDoor.L1
namespace Go.Proofs.YtplbjaandkdhjaaDoor.PA
open Go.RowKit Go.Proofs.YtplbjaandkdhjaaDoorW.PrintWords Go.Proofs.YtplbjaandkdhjaaDoorW.PrintLast Go.Proofs.YtplbjaandkdhjaaDoorW.PrintMore
attribute [local go_sem] max2_int min2_int max_two min_two max_three min_three max_four min_four   -- for this text's walks alone
set_option linter.unusedVariables false
set_option linter.unusedSimpArgs false
def val_Weekday.f (a0 : Int) : Option (Int × Int) := (val_isDay.f a0).bind fun t417 => (if t417 = true then (if a0 = 0 then (some (0, 0)) else (some (wrap64 ((Int.tmod a0 7) + 1), 0))) else (some (0, 1)))
set_option maxHeartbeats 8000000 in
set_option maxRecDepth 100000 in
theorem val_Weekday.calls (a0 : Int) (r1 : Int) (r2 : Int) (w : World) (h : val_Weekday.f a0 = some (r1, r2)) :
  Calls Tryd.prog 36 #[.int .i64 a0] w fun e w' => e = .returned (.tuple #[.int .i64 r1, .int .i64 r2]) ∧ Drawn0 w w' := by
 have H : ((val_isDay.f a0).bind fun t417 => (if t417 = true then (if a0 = 0 then (some (0, 0)) else (some (wrap64 ((Int.tmod a0 7) + 1), 0))) else (some (0, 1)))) = some (r1, r2) := h
 clear h
 replace H := Option.bind_eq_some_iff.mp H
 obtain ⟨t417, A20, H⟩ := H
 replace H : (if t417 = true then (if a0 = 0 then (some (0, 0)) else (some (wrap64 ((Int.tmod a0 7) + 1), 0))) else (some (0, 1))) = some (r1, r2) := H
 have A2 := Aside0.mk A20
 clear A20
 by_cases c3 : t417 = true
 ·subst c3
  have H1 : (if a0 = 0 then (some (0, 0)) else (some (wrap64 ((Int.tmod a0 7) + 1), 0))) = some (r1, r2) := by rw [if_pos rfl] at H; exact H
  clear H
  have H := H1
  clear H1
  by_cases c4 : a0 = 0
  ·rw [if_pos c4] at H
   have c4b0 : (a0 == 0) = true := beq_iff_eq.mpr c4
   have c4b1 : (a0 != 0) = false := bne_eq_false_iff_eq.mpr c4
   clear c4
   simp only [Option.some.injEq, Prod.mk.injEq] at H
   obtain ⟨rfl, rfl⟩ := H
   go_enter Tryd.func36, Tryd.ntmps36
   go_wp2_with (first | ((with_reducible refine gate_callee (f := 72) rfl ?_); refine goesL_ (some 5) rfl rfl Tryd.func72 (by kernel_rfl) rfl #[.int .i64 a0] rfl (by (try simp only [List.map_toArray, List.map_cons, List.map_nil]); first | done | rfl | (simp only [List.length_drop, List.length_take]; rfl)) ?_; (with_reducible refine (val_isDay.calls a0 true _ A2.out).mono ?_); rintro e w' ⟨rfl, ⟨nd, rfl⟩⟩; refine ⟨_, rfl, ?_⟩))
   go_ret2
   exact ⟨by first | rfl | (simp; done) | (simp [*]; done), by repeat (first | exact Drawn0.refl _ | apply Drawn0.step)⟩
  ·rw [if_neg c4] at H
   have c4b0 : (a0 == 0) = false := beq_eq_false_iff_ne.mpr c4
   have c4b1 : (a0 != 0) = true := bne_iff_ne.mpr c4
   simp only [Option.some.injEq, Prod.mk.injEq] at H
   obtain ⟨rfl, rfl⟩ := H
   go_enter Tryd.func36, Tryd.ntmps36
   go_wp2_with (first | ((with_reducible refine gate_callee (f := 72) rfl ?_); refine goesL_ (some 5) rfl rfl Tryd.func72 (by kernel_rfl) rfl #[.int .i64 a0] rfl (by (try simp only [List.map_toArray, List.map_cons, List.map_nil]); first | done | rfl | (simp only [List.length_drop, List.length_take]; rfl)) ?_; (with_reducible refine (val_isDay.calls a0 true _ A2.out).mono ?_); rintro e w' ⟨rfl, ⟨nd, rfl⟩⟩; refine ⟨_, rfl, ?_⟩))
   go_ret2
   exact ⟨by first | rfl | (simp; done) | (simp [*]; done), by repeat (first | exact Drawn0.refl _ | apply Drawn0.step)⟩
 ·replace c3 := Bool.eq_false_iff.mpr c3
  subst c3
  have H1 : (some (0, 1)) = some (r1, r2) := by rw [if_neg (show ¬ (false = true) by decide)] at H; exact H
  clear H
  have H := H1
  clear H1
  simp only [Option.some.injEq, Prod.mk.injEq] at H
  obtain ⟨rfl, rfl⟩ := H
  go_enter Tryd.func36, Tryd.ntmps36
  go_wp2_with (first | ((with_reducible refine gate_callee (f := 72) rfl ?_); refine goesL_ (some 5) rfl rfl Tryd.func72 (by kernel_rfl) rfl #[.int .i64 a0] rfl (by (try simp only [List.map_toArray, List.map_cons, List.map_nil]); first | done | rfl | (simp only [List.length_drop, List.length_take]; rfl)) ?_; (with_reducible refine (val_isDay.calls a0 false _ A2.out).mono ?_); rintro e w' ⟨rfl, ⟨nd, rfl⟩⟩; refine ⟨_, rfl, ?_⟩))
  go_ret2
  exact ⟨by first | rfl | (simp; done) | (simp [*]; done), by repeat (first | exact Drawn0.refl _ | apply Drawn0.step)⟩
def cabinetryref01_Weekday.j0 : Nat → Int → Bool → Option (Int × Int)
 | 0, _, _ => none
 | k + 1, x0, x9 => if x9 = true then (some (0, 1)) else (if x0 = 0 then (some (0, 0)) else (some (wrap64 ((Int.tmod x0 7) + 1), 0)))
def cabinetryref01_Weekday.f (k : Nat) (a0 : Int) : Option (Int × Int) := if a0 < 0 then (cabinetryref01_Weekday.j0 k a0 true) else (cabinetryref01_Weekday.j0 k a0 (decide (a0 > 3652059)))
set_option maxHeartbeats 8000000 in
set_option maxRecDepth 100000 in
theorem cabinetryref01_Weekday.calls (k : Nat) (a0 : Int) (r1 : Int) (r2 : Int) (w : World) (h : cabinetryref01_Weekday.f k a0 = some (r1, r2)) :
  Calls Tryd.prog 37 #[.int .i64 a0] w fun e w' => e = .returned (.tuple #[.int .i64 r1, .int .i64 r2]) ∧ Drawn0 w w' := by
 have H : (if a0 < 0 then (cabinetryref01_Weekday.j0 k a0 true) else (cabinetryref01_Weekday.j0 k a0 (decide (a0 > 3652059)))) = some (r1, r2) := h
 clear h
 have HC2 := Aside0.mk H
 clear H
 go_enter Tryd.func37, Tryd.ntmps37
 go_upto_region 1 with (fail)
 go_cut [9] (fun v9 wc => ∃ (kq : Nat) (x9_1 : Bool), v9 = .bool x9_1 ∧ Aside0 (cabinetryref01_Weekday.j0 kq a0 x9_1 = some (r1, r2)) ∧ Aside0 (kq ≤ k) ∧ Drawn0 w wc)
 case first =>
  have H := HC2.out
  clear HC2
  by_cases c3 : a0 < 0
  ·rw [if_pos c3] at H
   have c3b0 : decide (a0 < 0) = true := decide_eq_true c3
   clear c3
   (first | rw [c3b0] | (simp only [i64_w, i32_w]; rw [c3b0]) | skip)
   have H' := Aside0.mk H
   clear H
   go_wp2
   go_meet
   case rel => exact ⟨_, (true), (by first | rfl | (simp; done) | (simp [*]; done)), H', ⟨by first | omega | exact Nat.le_refl _⟩, by repeat (first | exact Drawn0.refl _ | apply Drawn0.step)⟩
  ·rw [if_neg c3] at H
   have c3b0 : decide (a0 < 0) = false := decide_eq_false c3
   clear c3
   (first | rw [c3b0] | (simp only [i64_w, i32_w]; rw [c3b0]) | skip)
   have H' := Aside0.mk H
   clear H
   go_wp2
   go_meet
   case rel => exact ⟨_, (decide (a0 > 3652059)), (by first | rfl | (simp; done) | (simp [*]; done)), H', ⟨by first | omega | exact Nat.le_refl _⟩, by repeat (first | exact Drawn0.refl _ | apply Drawn0.step)⟩
 case rest =>
  clear HC2
  try clear p2; try clear c3; try clear c3b0
  obtain ⟨kq, x9_1, rfl, HA, HJ1, ⟨mc1, rfl⟩⟩ := hcut
  cases kq with
  | zero => exact absurd HA.out (by simp [cabinetryref01_Weekday.j0])
  | succ kj1 =>
   have H := HA.out
   clear HA
   simp only [cabinetryref01_Weekday.j0] at H
   by_cases c4 : x9_1 = true
   ·subst c4
    have H1 : (some (0, 1)) = some (r1, r2) := by rw [if_pos rfl] at H; exact H
    clear H
    have H := H1
    clear H1
    simp only [Option.some.injEq, Prod.mk.injEq] at H
    obtain ⟨rfl, rfl⟩ := H
    go_wp2
    go_ret2
    exact ⟨by first | rfl | (simp; done) | (simp [*]; done), by repeat (first | exact Drawn0.refl _ | apply Drawn0.step)⟩
   ·replace c4 := Bool.eq_false_iff.mpr c4
    subst c4
    have H1 : (if a0 = 0 then (some (0, 0)) else (some (wrap64 ((Int.tmod a0 7) + 1), 0))) = some (r1, r2) := by rw [if_neg (show ¬ (false = true) by decide)] at H; exact H
    clear H
    have H := H1
    clear H1
    by_cases c5 : a0 = 0
    ·rw [if_pos c5] at H
     have c5b0 : (a0 == 0) = true := beq_iff_eq.mpr c5
     have c5b1 : (a0 != 0) = false := bne_eq_false_iff_eq.mpr c5
     clear c5
     simp only [Option.some.injEq, Prod.mk.injEq] at H
     obtain ⟨rfl, rfl⟩ := H
     go_wp2
     go_ret2
     exact ⟨by first | rfl | (simp; done) | (simp [*]; done), by repeat (first | exact Drawn0.refl _ | apply Drawn0.step)⟩
    ·rw [if_neg c5] at H
     have c5b0 : (a0 == 0) = false := beq_eq_false_iff_ne.mpr c5
     have c5b1 : (a0 != 0) = true := bne_iff_ne.mpr c5
     simp only [Option.some.injEq, Prod.mk.injEq] at H
     obtain ⟨rfl, rfl⟩ := H
     go_wp2
     go_ret2
     exact ⟨by first | rfl | (simp; done) | (simp [*]; done), by repeat (first | exact Drawn0.refl _ | apply Drawn0.step)⟩
end Go.Proofs.YtplbjaandkdhjaaDoor.PA
namespace Go.Proofs.YtplbjaandkdhjaaDoor.PA
open Go.RowKit Go.Proofs.YtplbjaandkdhjaaDoorW.PrintWords Go.Proofs.YtplbjaandkdhjaaDoorW.PrintLast Go.Proofs.YtplbjaandkdhjaaDoorW.PrintMore
attribute [local go_sem] max2_int min2_int max_two min_two max_three min_three max_four min_four   -- for this text's walks alone
set_option linter.unusedVariables false
set_option linter.unusedSimpArgs false
mutual
def cabinetryref01_Months.j0 : Nat → Int → Int → Int → Int → Bool → Option (Int × Int)
 | 0, _, _, _, _, _ => none
 | k + 1, x1, x6, x7, x8, x28 => if x28 = true then (some (0, 1)) else (if (wrap64 ((wrap64 ((wrap64 ((wrap64 (12 * x6)) + x7)) - 1)) + x1)) < 12 then (cabinetryref01_Months.j1 k x8 (wrap64 ((wrap64 ((wrap64 ((wrap64 (12 * x6)) + x7)) - 1)) + x1)) true) else (cabinetryref01_Months.j1 k x8 (wrap64 ((wrap64 ((wrap64 ((wrap64 (12 * x6)) + x7)) - 1)) + x1)) (decide ((wrap64 ((wrap64 ((wrap64 ((wrap64 (12 * x6)) + x7)) - 1)) + x1)) ≥ 120000))))
def cabinetryref01_Months.j1 : Nat → Int → Int → Bool → Option (Int × Int)
 | 0, _, _, _ => none
 | k + 1, x8, x10, x41 => if x41 = true then (some (0, 1)) else ((cabinetryref01_length.f (wrap64 (Int.tdiv x10 12)) (wrap64 ((Int.tmod x10 12) + 1))).bind fun t437 => ((cabinetryref01_Days.f k (wrap64 (Int.tdiv x10 12)) (wrap64 ((Int.tmod x10 12) + 1)) (mn x8 t437)).bind fun bt438 => (some (bt438.1, bt438.2))))
end
def cabinetryref01_Months.f (k : Nat) (a0 : Int) (a1 : Int) : Option (Int × Int) := (cabinetryref01_Split.f k a0).bind fun bt433 => (if bt433.2.2.2 = 0 then (if a0 = 0 then (some (0, 0)) else (if a1 < (-200000) then (cabinetryref01_Months.j0 k a1 bt433.1 bt433.2.1 bt433.2.2.1 true) else (cabinetryref01_Months.j0 k a1 bt433.1 bt433.2.1 bt433.2.2.1 (decide (a1 > 200000))))) else (some (0, bt433.2.2.2)))
set_option maxHeartbeats 8000000 in
set_option maxRecDepth 100000 in
theorem cabinetryref01_Months.calls (k : Nat) (a0 : Int) (a1 : Int) (r1 : Int) (r2 : Int) (w : World) (h : cabinetryref01_Months.f k a0 a1 = some (r1, r2)) :
  Calls Tryd.prog 41 #[.int .i64 a0, .int .i64 a1] w fun e w' => e = .returned (.tuple #[.int .i64 r1, .int .i64 r2]) ∧ Below w.heap.size w w' := by
 have HB := Aside0.mk (Below.refl w.heap.size w)
 have H : ((cabinetryref01_Split.f k a0).bind fun bt433 => (if bt433.2.2.2 = 0 then (if a0 = 0 then (some (0, 0)) else (if a1 < (-200000) then (cabinetryref01_Months.j0 k a1 bt433.1 bt433.2.1 bt433.2.2.1 true) else (cabinetryref01_Months.j0 k a1 bt433.1 bt433.2.1 bt433.2.2.1 (decide (a1 > 200000))))) else (some (0, bt433.2.2.2)))) = some (r1, r2) := h
 clear h
 replace H := Option.bind_eq_some_iff.mp H
 obtain ⟨⟨t433, t434, t435, t436⟩, A30, H⟩ := H
 replace H : (if t436 = 0 then (if a0 = 0 then (some (0, 0)) else (if a1 < (-200000) then (cabinetryref01_Months.j0 k a1 t433 t434 t435 true) else (cabinetryref01_Months.j0 k a1 t433 t434 t435 (decide (a1 > 200000))))) else (some (0, t436))) = some (r1, r2) := H
 have A3 := Aside0.mk A30
 clear A30
 by_cases c4 : t436 = 0
 ·rw [if_pos c4] at H
  have c4b0 : (t436 == 0) = true := beq_iff_eq.mpr c4
  have c4b1 : (t436 != 0) = false := bne_eq_false_iff_eq.mpr c4
  clear c4
  by_cases c5 : a0 = 0
  ·rw [if_pos c5] at H
   have c5b0 : (a0 == 0) = true := beq_iff_eq.mpr c5
   have c5b1 : (a0 != 0) = false := bne_eq_false_iff_eq.mpr c5
   clear c5
   simp only [Option.some.injEq, Prod.mk.injEq] at H
   obtain ⟨rfl, rfl⟩ := H
   go_enter Tryd.func41, Tryd.ntmps41
   go_wp2_with (first | ((with_reducible refine gate_callee (f := 35) rfl ?_); refine goesL_ (some 13) rfl rfl Tryd.func35 (by kernel_rfl) rfl #[.int .i64 a0] rfl (by (try simp only [List.map_toArray, List.map_cons, List.map_nil]); first | done | rfl | (simp only [List.length_drop, List.length_take]; rfl)) ?_; (with_reducible refine (cabinetryref01_Split.calls k a0 t433 t434 t435 t436 _ A3.out).mono ?_); rintro e w' ⟨rfl, ⟨nd, rfl⟩⟩; refine ⟨_, rfl, ?_⟩))
   go_ret2
   exact ⟨by first | rfl | (simp [errW_none, errW_some] <;> rfl) | (simp [*, errW_none, errW_some] <;> rfl), by repeat (first | (with_reducible first | exact HB.out | apply below_alloc | apply pw_below_drewN | apply below_drew1) | exact HB.out)⟩
  ·rw [if_neg c5] at H
   have c5b0 : (a0 == 0) = false := beq_eq_false_iff_ne.mpr c5
   have c5b1 : (a0 != 0) = true := bne_iff_ne.mpr c5
   have HC6 := Aside0.mk H
   clear H
   go_enter Tryd.func41, Tryd.ntmps41
   go_upto_region 6 with (first | ((with_reducible refine gate_callee (f := 35) rfl ?_); refine goesL_ (some 13) rfl rfl Tryd.func35 (by kernel_rfl) rfl #[.int .i64 a0] rfl (by (try simp only [List.map_toArray, List.map_cons, List.map_nil]); first | done | rfl | (simp only [List.length_drop, List.length_take]; rfl)) ?_; (with_reducible refine (cabinetryref01_Split.calls k a0 t433 t434 t435 t436 _ A3.out).mono ?_); rintro e w' ⟨rfl, ⟨nd, rfl⟩⟩; refine ⟨_, rfl, ?_⟩))
   (try simp only [Act.put, List.setIfInBounds_toArray, List.set_cons_zero, List.set_cons_succ])
   go_cut [28] (fun v28 wc => ∃ (kq : Nat) (x28_5 : Bool), v28 = .bool x28_5 ∧ Aside0 (cabinetryref01_Months.j0 kq a1 t433 t434 t435 x28_5 = some (r1, r2)) ∧ Aside0 (kq ≤ k) ∧ Aside0 (Below w.heap.size w wc))
   case first =>
    have H := HC6.out
    clear HC6
    by_cases c7 : a1 < (-200000)
    ·rw [if_pos c7] at H
     have c7b0 : decide (a1 < (-200000)) = true := decide_eq_true c7
     clear c7
     (first | rw [c7b0] | (simp only [i64_w, i32_w]; rw [c7b0]) | skip)
     have H' := Aside0.mk H
     clear H
     go_wp2
     go_meet
     case rel => exact ⟨_, (true), (by first | rfl | (simp; done) | (simp [*]; done)), H', ⟨by first | omega | exact Nat.le_refl _⟩, ⟨by repeat (first | (with_reducible first | exact HB.out | apply below_alloc | apply pw_below_drewN | apply below_drew1) | exact HB.out)⟩⟩
    ·rw [if_neg c7] at H
     have c7b0 : decide (a1 < (-200000)) = false := decide_eq_false c7
     clear c7
     (first | rw [c7b0] | (simp only [i64_w, i32_w]; rw [c7b0]) | skip)
     have H' := Aside0.mk H
     clear H
     go_wp2
     go_meet
     case rel => exact ⟨_, (decide (a1 > 200000)), (by first | rfl | (simp; done) | (simp [*]; done)), H', ⟨by first | omega | exact Nat.le_refl _⟩, ⟨by repeat (first | (with_reducible first | exact HB.out | apply below_alloc | apply pw_below_drewN | apply below_drew1) | exact HB.out)⟩⟩
   case rest =>
    clear HC6
    try clear p2; try clear c3; try clear c4; try clear c4b0; try clear c4b1; try clear c5; try clear c5b0; try clear c5b1; try clear c7; try clear c7b0
    obtain ⟨kq, x28_5, rfl, HA, HJ5, HB⟩ := hcut
    cases kq with
    | zero => exact absurd HA.out (by simp [cabinetryref01_Months.j0])
    | succ kj5 =>
     have H := HA.out
     clear HA
     simp only [cabinetryref01_Months.j0] at H
     by_cases c8 : x28_5 = true
     ·subst c8
      have H1 : (some (0, 1)) = some (r1, r2) := by rw [if_pos rfl] at H; exact H
      clear H
      have H := H1
      clear H1
      simp only [Option.some.injEq, Prod.mk.injEq] at H
      obtain ⟨rfl, rfl⟩ := H
      go_wp2
      go_ret2
      exact ⟨by first | rfl | (simp [errW_none, errW_some] <;> rfl) | (simp [*, errW_none, errW_some] <;> rfl), by repeat (first | (with_reducible first | exact HB.out | apply below_alloc | apply pw_below_drewN | apply below_drew1) | exact HB.out)⟩
     ·replace c8 := Bool.eq_false_iff.mpr c8
      subst c8
      have H1 : (if (wrap64 ((wrap64 ((wrap64 ((wrap64 (12 * t433)) + t434)) - 1)) + a1)) < 12 then (cabinetryref01_Months.j1 kj5 t435 (wrap64 ((wrap64 ((wrap64 ((wrap64 (12 * t433)) + t434)) - 1)) + a1)) true) else (cabinetryref01_Months.j1 kj5 t435 (wrap64 ((wrap64 ((wrap64 ((wrap64 (12 * t433)) + t434)) - 1)) + a1)) (decide ((wrap64 ((wrap64 ((wrap64 ((wrap64 (12 * t433)) + t434)) - 1)) + a1)) ≥ 120000)))) = some (r1, r2) := by rw [if_neg (show ¬ (false = true) by decide)] at H; exact H
      clear H
      have H := H1
      clear H1
      have HC9 := Aside0.mk H
      clear H
      go_upto_region 9 with (fail)
      go_cut [41] (fun v41 wc => ∃ (kq : Nat) (x41_8 : Bool), v41 = .bool x41_8 ∧ Aside0 (cabinetryref01_Months.j1 kq t435 (wrap64 ((wrap64 ((wrap64 ((wrap64 (12 * t433)) + t434)) - 1)) + a1)) x41_8 = some (r1, r2)) ∧ Aside0 (kq ≤ kj5) ∧ Aside0 (Below w.heap.size w wc))
      case first =>
       have H := HC9.out
       clear HC9
       by_cases c10 : (wrap64 ((wrap64 ((wrap64 ((wrap64 (12 * t433)) + t434)) - 1)) + a1)) < 12
       ·rw [if_pos c10] at H
        have c10b0 : decide ((wrap64 ((wrap64 ((wrap64 ((wrap64 (12 * t433)) + t434)) - 1)) + a1)) < 12) = true := decide_eq_true c10
        clear c10
        (first | rw [c10b0] | (simp only [i64_w, i32_w]; rw [c10b0]) | skip)
        have H' := Aside0.mk H
        clear H
        go_wp2
        go_meet
        case rel => exact ⟨_, (true), (by first | rfl | (simp; done) | (simp [*]; done)), H', ⟨by have := HJ5.out; first | omega | exact Nat.le_refl _⟩, ⟨by repeat (first | (with_reducible first | exact HB.out | apply below_alloc | apply pw_below_drewN | apply below_drew1) | exact HB.out)⟩⟩
       ·rw [if_neg c10] at H
        have c10b0 : decide ((wrap64 ((wrap64 ((wrap64 ((wrap64 (12 * t433)) + t434)) - 1)) + a1)) < 12) = false := decide_eq_false c10
        clear c10
        (first | rw [c10b0] | (simp only [i64_w, i32_w]; rw [c10b0]) | skip)
        have H' := Aside0.mk H
        clear H
        go_wp2
        go_meet
        case rel => exact ⟨_, (decide ((wrap64 ((wrap64 ((wrap64 ((wrap64 (12 * t433)) + t434)) - 1)) + a1)) ≥ 120000)), (by first | rfl | (simp; done) | (simp [*]; done)), H', ⟨by have := HJ5.out; first | omega | exact Nat.le_refl _⟩, ⟨by repeat (first | (with_reducible first | exact HB.out | apply below_alloc | apply pw_below_drewN | apply below_drew1) | exact HB.out)⟩⟩
      case rest =>
       clear HC9
       try clear c1; try clear p2; try clear c3; try clear c4; try clear c4b0; try clear c4b1; try clear c5; try clear c5b0; try clear c5b1; try clear p6; try clear c7; try clear c7b0; try clear c8; try clear c10; try clear c10b0; try clear p2
       obtain ⟨kq, x41_8, rfl, HA, HJ8, HB⟩ := hcut
       cases kq with
       | zero => exact absurd HA.out (by simp [cabinetryref01_Months.j1])
       | succ kj8 =>
        have H := HA.out
        clear HA
        simp only [cabinetryref01_Months.j1] at H
        by_cases c11 : x41_8 = true
        ·subst c11
         have H1 : (some (0, 1)) = some (r1, r2) := by rw [if_pos rfl] at H; exact H
         clear H
         have H := H1
         clear H1
         simp only [Option.some.injEq, Prod.mk.injEq] at H
         obtain ⟨rfl, rfl⟩ := H
         go_wp2
         go_ret2
         exact ⟨by first | rfl | (simp [errW_none, errW_some] <;> rfl) | (simp [*, errW_none, errW_some] <;> rfl), by repeat (first | (with_reducible first | exact HB.out | apply below_alloc | apply pw_below_drewN | apply below_drew1) | exact HB.out)⟩
        ·replace c11 := Bool.eq_false_iff.mpr c11
         subst c11
         have H1 : ((cabinetryref01_length.f (wrap64 (Int.tdiv (wrap64 ((wrap64 ((wrap64 ((wrap64 (12 * t433)) + t434)) - 1)) + a1)) 12)) (wrap64 ((Int.tmod (wrap64 ((wrap64 ((wrap64 ((wrap64 (12 * t433)) + t434)) - 1)) + a1)) 12) + 1))).bind fun t437 => ((cabinetryref01_Days.f kj8 (wrap64 (Int.tdiv (wrap64 ((wrap64 ((wrap64 ((wrap64 (12 * t433)) + t434)) - 1)) + a1)) 12)) (wrap64 ((Int.tmod (wrap64 ((wrap64 ((wrap64 ((wrap64 (12 * t433)) + t434)) - 1)) + a1)) 12) + 1)) (mn t435 t437)).bind fun bt438 => (some (bt438.1, bt438.2)))) = some (r1, r2) := by rw [if_neg (show ¬ (false = true) by decide)] at H; exact H
         clear H
         have H := H1
         clear H1
         replace H := Option.bind_eq_some_iff.mp H
         obtain ⟨t437, A120, H⟩ := H
         replace H : ((cabinetryref01_Days.f kj8 (wrap64 (Int.tdiv (wrap64 ((wrap64 ((wrap64 ((wrap64 (12 * t433)) + t434)) - 1)) + a1)) 12)) (wrap64 ((Int.tmod (wrap64 ((wrap64 ((wrap64 ((wrap64 (12 * t433)) + t434)) - 1)) + a1)) 12) + 1)) (mn t435 t437)).bind fun bt438 => (some (bt438.1, bt438.2))) = some (r1, r2) := H
         have A12 := Aside0.mk A120
         clear A120
         obtain ⟨ji13, hji13⟩ : ∃ j_ : Int, (mn t435 t437) = j_ := ⟨_, rfl⟩
         replace H : ((cabinetryref01_Days.f kj8 (wrap64 (Int.tdiv (wrap64 ((wrap64 ((wrap64 ((wrap64 (12 * t433)) + t434)) - 1)) + a1)) 12)) (wrap64 ((Int.tmod (wrap64 ((wrap64 ((wrap64 ((wrap64 (12 * t433)) + t434)) - 1)) + a1)) 12) + 1)) (ji13)).bind fun bt438 => (some (bt438.1, bt438.2))) = some (r1, r2) := by first | (rw [hji13] at H; exact H) | (simp only [hji13] at H ⊢; exact H)
         (try rw [hji13] at A12)
         have hji13_ : (if t437 < t435 then t437 else t435) = ji13 := hji13
         replace H := Option.bind_eq_some_iff.mp H
         obtain ⟨⟨t438, t439⟩, A140, H⟩ := H
         replace H : (some (t438, t439)) = some (r1, r2) := H
         have A14 := Aside0.mk A140
         clear A140
         simp only [Option.some.injEq, Prod.mk.injEq] at H
         obtain ⟨rfl, rfl⟩ := H
         go_wp2_with (first | ((with_reducible refine gate_callee (f := 71) rfl ?_); refine goesL_ (some 52) rfl rfl Tryd.func71 (by kernel_rfl) rfl #[.int .i64 (wrap64 (Int.tdiv (wrap64 ((wrap64 ((wrap64 ((wrap64 (12 * t433)) + t434)) - 1)) + a1)) 12)), .int .i64 (wrap64 ((Int.tmod (wrap64 ((wrap64 ((wrap64 ((wrap64 (12 * t433)) + t434)) - 1)) + a1)) 12) + 1))] rfl (by (try simp only [List.map_toArray, List.map_cons, List.map_nil]); first | done | rfl | (simp only [List.length_drop, List.length_take]; rfl)) ?_; (with_reducible refine (cabinetryref01_length.calls (wrap64 (Int.tdiv (wrap64 ((wrap64 ((wrap64 ((wrap64 (12 * t433)) + t434)) - 1)) + a1)) 12)) (wrap64 ((Int.tmod (wrap64 ((wrap64 ((wrap64 ((wrap64 (12 * t433)) + t434)) - 1)) + a1)) 12) + 1)) t437 _ A12.out).mono ?_); rintro e w' ⟨rfl, ⟨nd, rfl⟩⟩; refine ⟨_, rfl, ?_⟩) | ((with_reducible refine gate_callee (f := 23) rfl ?_); refine goesL_ (some 54) rfl rfl Tryd.func23 (by kernel_rfl) rfl #[.int .i64 (wrap64 (Int.tdiv (wrap64 ((wrap64 ((wrap64 ((wrap64 (12 * t433)) + t434)) - 1)) + a1)) 12)), .int .i64 (wrap64 ((Int.tmod (wrap64 ((wrap64 ((wrap64 ((wrap64 (12 * t433)) + t434)) - 1)) + a1)) 12) + 1)), .int .i64 ji13] rfl (by (try simp only [List.map_toArray, List.map_cons, List.map_nil]); first | done | (simp only [hji13]; rfl) | rfl | (simp only [List.length_drop, List.length_take]; rfl)) ?_; (with_reducible refine (cabinetryref01_Days.calls kj8 (wrap64 (Int.tdiv (wrap64 ((wrap64 ((wrap64 ((wrap64 (12 * t433)) + t434)) - 1)) + a1)) 12)) (wrap64 ((Int.tmod (wrap64 ((wrap64 ((wrap64 ((wrap64 (12 * t433)) + t434)) - 1)) + a1)) 12) + 1)) ji13 t438 t439 _ A14.out).mono ?_); rintro e w' ⟨rfl, ⟨nd, rfl⟩⟩; refine ⟨_, rfl, ?_⟩))
         go_ret2
         exact ⟨by first | rfl | (simp [errW_none, errW_some] <;> rfl) | (simp only [← hji13]; first | rfl | (simp [errW_none, errW_some] <;> rfl)) | (simp [*, errW_none, errW_some] <;> rfl), by repeat (first | (with_reducible first | exact HB.out | apply below_alloc | apply pw_below_drewN | apply below_drew1) | exact HB.out)⟩
 ·rw [if_neg c4] at H
  have c4b0 : (t436 == 0) = false := beq_eq_false_iff_ne.mpr c4
  have c4b1 : (t436 != 0) = true := bne_iff_ne.mpr c4
  simp only [Option.some.injEq, Prod.mk.injEq] at H
  obtain ⟨rfl, rfl⟩ := H
  go_enter Tryd.func41, Tryd.ntmps41
  go_wp2_with (first | ((with_reducible refine gate_callee (f := 35) rfl ?_); refine goesL_ (some 13) rfl rfl Tryd.func35 (by kernel_rfl) rfl #[.int .i64 a0] rfl (by (try simp only [List.map_toArray, List.map_cons, List.map_nil]); first | done | rfl | (simp only [List.length_drop, List.length_take]; rfl)) ?_; (with_reducible refine (cabinetryref01_Split.calls k a0 t433 t434 t435 t436 _ A3.out).mono ?_); rintro e w' ⟨rfl, ⟨nd, rfl⟩⟩; refine ⟨_, rfl, ?_⟩))
  go_ret2
  exact ⟨by first | rfl | (simp [errW_none, errW_some] <;> rfl) | (simp [*, errW_none, errW_some] <;> rfl), by repeat (first | (with_reducible first | exact HB.out | apply below_alloc | apply pw_below_drewN | apply below_drew1) | exact HB.out)⟩
end Go.Proofs.YtplbjaandkdhjaaDoor.PA
namespace Go.Proofs.YtplbjaandkdhjaaDoor.L1
open Go.RowKit Go.Proofs.YtplbjaandkdhjaaDoorW.PrintWords Go.Proofs.YtplbjaandkdhjaaDoor.PA Go.Proofs.YtplbjaandkdhjaaDoor.PB Go.Proofs.YtplbjaandkdhjaaDoor.H1
theorem daysV_ok {y m d : Int} (h : validD y m d) : daysV y m d = (ydays y + cum y (m - 1).toNat + d, 0) := by unfold daysV; rw [if_pos h]
theorem validD_first {y m : Int} (h0 : 1 ≤ y) (h1 : y ≤ 9999) (h2 : 1 ≤ m) (h3 : m ≤ 12) : validD y m 1 := ⟨h0, h1, h2, h3, by omega, by have := mdays_bd y m; omega⟩
theorem refSplit_m {n y m d : Int} (h : IsDate n y m d) (e : Nat) : ∀ (M : Nat) (k : Nat), (m - 1).toNat + e = M → M ≤ 11 → e + 30 ≤ k →
    cabinetryref01_Split.l1 k n y ((M : Int) + 1) (ydays y + cum y M + 1) = some (y, m, d, 0) := by
  obtain ⟨h1, h2, h3, h4, h5, h6, rfl⟩ := h
  have yb := ydays_bd h1 (by omega)
  have mb := mdays_bd y m
  induction e with
  | zero =>
    intro M k hM hM2 hk
    obtain ⟨k, rfl⟩ : ∃ q, k = q + 1 := ⟨k - 1, by omega⟩
    obtain rfl : (m - 1).toNat = M := by omega
    have cb := cum_bd y (m - 1).toNat
    simp only [cabinetryref01_Split.l1]
    rw [if_neg (by omega), w64 (x := ydays y + cum y (m - 1).toNat + d - (ydays y + cum y (m - 1).toNat + 1)) (by omega) (by omega), w64 (by omega) (by omega)]
    have e1 : ((m - 1).toNat : Int) + 1 = m := by omega
    have e2 : ydays y + cum y (m - 1).toNat + d - (ydays y + cum y (m - 1).toNat + 1) + 1 = d := by omega
    rw [e1, e2]
  | succ e ih =>
    intro M k hM hM2 hk
    obtain ⟨k, rfl⟩ : ∃ q, k = q + 1 := ⟨k - 1, by omega⟩
    obtain ⟨M, rfl⟩ : ∃ q, M = q + 1 := ⟨M - 1, by omega⟩
    have cs := cum_succ' (y := y) h3
    have cm := cum_mono y m.toNat (M + 1) (by omega)
    have cb := cum_bd y (M + 1)
    simp only [cabinetryref01_Split.l1]
    have e1 : ((M + 1 : Nat) : Int) + 1 - 1 = (M : Int) + 1 := by omega
    rw [if_pos (by omega), e1, w64 (by omega) (by omega), refDays_f _ _ _ k (by omega), Option.bind_some, daysV_ok (validD_first h1 h2 (by omega) (by omega))]
    have e2 : ((M : Int) + 1 - 1).toNat = M := by omega
    rw [e2]
    exact ih M k (by omega) (by omega) (by omega)
theorem refSplit_y {n y m d : Int} (h : IsDate n y m d) (e : Nat) : ∀ (lo hi : Int) (k : Nat), 1 ≤ lo → hi ≤ 9999 → lo ≤ y → y ≤ hi → (hi - lo).toNat ≤ e → e + 60 ≤ k →
    cabinetryref01_Split.l0 k n lo hi = some (y, m, d, 0) := by
  have hy := isDate_year h
  induction e with
  | zero =>
    intro lo hi k h0 h1 h2 h3 he hk
    obtain ⟨k, rfl⟩ : ∃ q, k = q + 1 := ⟨k - 1, by omega⟩
    obtain rfl : lo = y := by omega
    simp only [cabinetryref01_Split.l0]
    rw [if_neg (by omega), refDays_f _ _ _ k (by omega), Option.bind_some, daysV_ok (validD_first h0 (by omega) (by omega) (by omega))]
    exact refSplit_m h (11 - (m - 1).toNat) 11 k (by have := h.2.2.1; have := h.2.2.2.1; omega) (by omega) (by omega)
  | succ e ih =>
    intro lo hi k h0 h1 h2 h3 he hk
    obtain ⟨k, rfl⟩ : ∃ q, k = q + 1 := ⟨k - 1, by omega⟩
    by_cases hl : lo < hi
    · simp only [cabinetryref01_Split.l0]
      have e1 : wrap64 (wrap64 (lo + hi) + 1) = lo + hi + 1 := by rw [w64 (x := lo + hi) (by omega) (by omega), w64 (by omega) (by omega)]
      have e2 : wrap64 (Int.tdiv (lo + hi + 1) 2) = (lo + hi + 1) / 2 := by rw [Int.tdiv_eq_ediv_of_nonneg (by omega), w64 (by omega) (by omega)]
      rw [if_pos hl, e1, e2, refDays_f _ _ _ k (by omega), Option.bind_some, daysV_ok (validD_first (by omega) (by omega) (by omega) (by omega))]
      simp only [show ((1 : Int) - 1).toNat = 0 from rfl, cum]
      by_cases hm : (lo + hi + 1) / 2 ≤ y
      · have := ydays_mono (a := (lo + hi + 1) / 2) (b := y) (by omega) hm
        rw [if_pos (by omega)]
        exact ih _ _ k (by omega) h1 hm h3 (by omega) (by omega)
      · have := ydays_mono (a := y + 1) (b := (lo + hi + 1) / 2) (by omega) (by omega)
        rw [if_neg (by omega), w64 (by omega) (by omega)]
        exact ih _ _ k h0 (by omega) h2 (by omega) (by omega) (by omega)
    · obtain rfl : lo = y := by omega
      simp only [cabinetryref01_Split.l0]
      rw [if_neg (by omega), refDays_f _ _ _ k (by omega), Option.bind_some, daysV_ok (validD_first h0 (by omega) (by omega) (by omega))]
      exact refSplit_m h (11 - (m - 1).toNat) 11 k (by have := h.2.2.1; have := h.2.2.2.1; omega) (by omega) (by omega)
theorem refSplit_is {n y m d : Int} (h : IsDate n y m d) (k : Nat) (hk : 11000 ≤ k) : cabinetryref01_Split.f k n = some (y, m, d, 0) := by
  have b := isDate_bd h
  obtain ⟨k, rfl⟩ : ∃ q, k = q + 1 := ⟨k - 1, by omega⟩
  unfold cabinetryref01_Split.f
  rw [if_neg (by omega), decide_eq_false (by omega)]
  simp only [cabinetryref01_Split.j0]
  rw [if_neg (by decide), if_neg (by omega)]
  exact refSplit_y h 9998 1 9999 k (by omega) (by omega) h.1 h.2.1 (by omega) (by omega)
theorem refSplit_zero (k : Nat) (hk : 1 ≤ k) : cabinetryref01_Split.f k 0 = some (0, 0, 0, 0) := by
  obtain ⟨k, rfl⟩ : ∃ q, k = q + 1 := ⟨k - 1, by omega⟩
  unfold cabinetryref01_Split.f
  rw [if_neg (by omega), decide_eq_false (by omega)]
  simp [cabinetryref01_Split.j0]
theorem refSplit_no {n : Int} (h : ¬ (0 ≤ n ∧ n ≤ 3652059)) (k : Nat) (hk : 1 ≤ k) : cabinetryref01_Split.f k n = some (0, 0, 0, 1) := by
  obtain ⟨k, rfl⟩ : ∃ q, k = q + 1 := ⟨k - 1, by omega⟩
  unfold cabinetryref01_Split.f
  by_cases h0 : n < 0
  · rw [if_pos h0]; simp [cabinetryref01_Split.j0]
  · rw [if_neg h0, decide_eq_true (by omega)]; simp [cabinetryref01_Split.j0]
theorem day_ways (n : Int) : (¬ (0 ≤ n ∧ n ≤ 3652059)) ∨ n = 0 ∨ ∃ y m d, IsDate n y m d := by
  by_cases h : 0 ≤ n ∧ n ≤ 3652059
  · by_cases h0 : n = 0
    · exact .inr (.inl h0)
    · obtain ⟨y, m, d, hd, _⟩ := split_some (n := n) (by omega) (by omega)
      exact .inr (.inr ⟨y, m, d, hd⟩)
  · exact .inl h
def weekV (n : Int) : Int × Int := if 0 ≤ n ∧ n ≤ 3652059 then (if n = 0 then (0, 0) else (wrap64 (Int.tmod n 7 + 1), 0)) else (0, 1)
theorem weekday_f (n : Int) : val_Weekday.f n = some (weekV n) := by
  unfold val_Weekday.f weekV
  rw [isDay_f, Option.bind_some]
  by_cases h : 0 ≤ n ∧ n ≤ 3652059
  · rw [decide_eq_true h, if_pos rfl, if_pos h]
    split <;> rfl
  · rw [decide_eq_false h, if_neg (by decide), if_neg h]
theorem refWeekday_f (n : Int) (k : Nat) (hk : 1 ≤ k) : cabinetryref01_Weekday.f k n = some (weekV n) := by
  obtain ⟨k, rfl⟩ : ∃ q, k = q + 1 := ⟨k - 1, by omega⟩
  unfold cabinetryref01_Weekday.f weekV
  by_cases h0 : n < 0
  · rw [if_pos h0, if_neg (by omega)]; simp [cabinetryref01_Weekday.j0]
  · rw [if_neg h0]
    by_cases h1 : n > 3652059
    · rw [decide_eq_true h1, if_neg (by omega)]; simp [cabinetryref01_Weekday.j0]
    · rw [decide_eq_false h1, if_pos (by omega)]
      simp only [cabinetryref01_Weekday.j0]
      rw [if_neg (by decide)]
      split <;> rfl
def stampL (y m d : Int) : List UInt8 := padS y.toNat 4 ++ padS m.toNat 2 ++ padS d.toNat 2
theorem padS_len {n w : Nat} (hn : n < 10 ^ w) (hw : 1 ≤ w) : (padS n w).length = w := by
  have hl := (digs_len w n hn hw).2
  unfold padS
  rw [List.length_append, List.length_replicate]
  omega
theorem date_pads {n y m d : Int} (h : IsDate n y m d) {k : Nat} (hk : 17 ≤ k) :
    (val_padded.f k y 4 = some ⟨(padS y.toNat 4).toArray⟩ ∧ val_padded.f k m 2 = some ⟨(padS m.toNat 2).toArray⟩ ∧ val_padded.f k d 2 = some ⟨(padS d.toNat 2).toArray⟩) ∧
    (cabinetryref01_Padded.f k y 4 = some ⟨(padS y.toNat 4).toArray⟩ ∧ cabinetryref01_Padded.f k m 2 = some ⟨(padS m.toNat 2).toArray⟩ ∧ cabinetryref01_Padded.f k d 2 = some ⟨(padS d.toNat 2).toArray⟩) ∧
    (padS y.toNat 4).length = 4 ∧ (padS m.toNat 2).length = 2 ∧ (padS d.toNat 2).length = 2 := by
  obtain ⟨h1, h2, h3, h4, h5, h6, _⟩ := h
  have mb := mdays_bd y m
  have ey : y = ((y.toNat : Nat) : Int) := by omega
  have em : m = ((m.toNat : Nat) : Int) := by omega
  have ed : d = ((d.toNat : Nat) : Int) := by omega
  have by' : y.toNat < 10 ^ 4 := by omega
  have bm : m.toNat < 10 ^ 2 := by omega
  have bd : d.toNat < 10 ^ 2 := by omega
  have p1 := padded_f by' (by omega) (by omega) hk
  have p2 := padded_f bm (by omega) (by omega) hk
  have p3 := padded_f bd (by omega) (by omega) hk
  have q1 := refPadded_f by' (by omega) (by omega) hk
  have q2 := refPadded_f bm (by omega) (by omega) hk
  have q3 := refPadded_f bd (by omega) (by omega) hk
  rw [← ey] at p1 q1
  rw [← em] at p2 q2
  rw [← ed] at p3 q3
  exact ⟨⟨p1, p2, p3⟩, ⟨q1, q2, q3⟩, padS_len by' (by omega), padS_len bm (by omega), padS_len bd (by omega)⟩
theorem stamp_is {n y m d : Int} (h : IsDate n y m d) (k : Nat) (hk : 11000 ≤ k) : val_Stamp.f k n = some (⟨(stampL y m d).toArray⟩, 0) := by
  have b := isDate_bd h
  obtain ⟨⟨p1, p2, p3⟩, _, l1, l2, l3⟩ := date_pads h (k := k) (by omega)
  unfold val_Stamp.f val_stamp.f stampL
  rw [isDay_f, Option.bind_some, decide_eq_true (by omega), if_pos rfl, if_neg (by omega), split_is h k hk, Option.bind_some, p1, Option.bind_some, p2, Option.bind_some, if_pos (by rw [ba_size, ba_size]; omega), p3, Option.bind_some, ba_app, if_pos (by rw [ba_size, ba_size, List.length_append]; omega), ba_app, Option.bind_some]
theorem refStamp_is {n y m d : Int} (h : IsDate n y m d) (k : Nat) (hk : 11000 ≤ k) : cabinetryref01_Stamp.f k n = some (⟨(stampL y m d).toArray⟩, 0) := by
  have b := isDate_bd h
  obtain ⟨_, ⟨p1, p2, p3⟩, l1, l2, l3⟩ := date_pads h (k := k) (by omega)
  unfold cabinetryref01_Stamp.f stampL
  rw [refSplit_is h k hk, Option.bind_some, if_pos rfl, if_neg (by omega), p1, Option.bind_some, p2, Option.bind_some, if_pos (by rw [ba_size, ba_size]; omega), p3, Option.bind_some, ba_app, if_pos (by rw [ba_size, ba_size, List.length_append]; omega), ba_app]
theorem stamp_zero (k : Nat) : val_Stamp.f k 0 = some (⟨#[32, 32, 32, 32, 32, 32, 32, 32]⟩, 0) := by
  unfold val_Stamp.f
  rw [isDay_f, Option.bind_some]
  rfl
theorem refStamp_zero (k : Nat) (hk : 1 ≤ k) : cabinetryref01_Stamp.f k 0 = some (⟨#[32, 32, 32, 32, 32, 32, 32, 32]⟩, 0) := by
  unfold cabinetryref01_Stamp.f
  rw [refSplit_zero k hk, Option.bind_some]
  rfl
theorem stamp_no {n : Int} (h : ¬ (0 ≤ n ∧ n ≤ 3652059)) (k : Nat) : val_Stamp.f k n = some (⟨#[]⟩, 1) := by
  unfold val_Stamp.f
  rw [isDay_f, Option.bind_some, decide_eq_false h, if_neg (by decide)]
theorem refStamp_no {n : Int} (h : ¬ (0 ≤ n ∧ n ≤ 3652059)) (k : Nat) (hk : 1 ≤ k) : cabinetryref01_Stamp.f k n = some (⟨#[]⟩, 1) := by
  unfold cabinetryref01_Stamp.f
  rw [refSplit_no h k hk, Option.bind_some]
  rfl
def monthsV (y m d n : Int) : Int × Int :=
  if n < -200000 ∨ n > 200000 then (0, 1) else
  if 12 * y + m - 1 + n < 12 ∨ 12 * y + m - 1 + n ≥ 120000 then (0, 1) else
    daysV ((12 * y + m - 1 + n) / 12) ((12 * y + m - 1 + n) % 12 + 1) (mn d (mdays ((12 * y + m - 1 + n) / 12) ((12 * y + m - 1 + n) % 12 + 1)))
theorem months_is {n y m d : Int} (h : IsDate n y m d) (x : Int) (k : Nat) (hk : 11000 ≤ k) : val_Months.f k n x = some (monthsV y m d x) := by
  have b := isDate_bd h
  have hs := split_is h k hk
  obtain ⟨h1, h2, h3, h4, h5, h6, _⟩ := h
  have mb := mdays_bd y m
  obtain ⟨k, rfl⟩ : ∃ q, k = q + 1 + 1 + 1 := ⟨k - 3, by omega⟩
  unfold val_Months.f monthsV
  rw [hs, Option.bind_some, if_pos rfl, show (n == 0) = false from beq_eq_false_iff_ne.mpr (by omega)]
  simp only [val_Months.j0]
  rw [if_neg (by decide)]
  by_cases c1 : x < -200000
  · rw [if_pos c1, if_pos (Or.inl c1)]; simp [val_Months.j1]
  rw [if_neg c1]
  by_cases c2 : x > 200000
  · rw [decide_eq_true c2, if_pos (Or.inr c2)]; simp [val_Months.j1]
  rw [decide_eq_false c2, if_neg (by omega)]
  have ek : wrap64 (wrap64 (wrap64 (wrap64 (12 * y) + m) - 1) + x) = 12 * y + m - 1 + x := by
    rw [w64 (x := 12 * y) (by omega) (by omega), w64 (x := 12 * y + m) (by omega) (by omega), w64 (x := 12 * y + m - 1) (by omega) (by omega), w64 (by omega) (by omega)]
  have hq : 12 * y + m - 1 + x ≤ 400000 := by omega
  simp only [val_Months.j1, ek]
  rw [if_neg (by decide)]
  generalize 12 * y + m - 1 + x = q at *
  by_cases c3 : q < 12
  · rw [if_pos c3, if_pos (Or.inl c3)]; simp [val_Months.j2]
  have e1 : Int.tdiv q 12 = q / 12 := Int.tdiv_eq_ediv_of_nonneg (by omega)
  have e2 : Int.tmod q 12 = q % 12 := Int.tmod_eq_emod_of_nonneg (by omega)
  rw [if_neg c3, e1, e2]
  by_cases c4 : q ≥ 120000
  · have : wrap64 (q / 12) > 9999 := by rw [w64 (by omega) (by omega)]; omega
    rw [decide_eq_true this, if_pos (Or.inr c4)]; simp [val_Months.j2]
  · rw [w64 (x := q / 12) (by omega) (by omega), w64 (x := q % 12 + 1) (by omega) (by omega), decide_eq_false (by omega), if_neg (by omega)]
    simp only [val_Months.j2]
    have hd := mdays_bd (q / 12) (q % 12 + 1)
    have hmn : -9223372036854775808 ≤ mn d (mdays (q / 12) (q % 12 + 1)) ∧ mn d (mdays (q / 12) (q % 12 + 1)) ≤ 9223372036854775807 := by unfold mn; split <;> omega
    rw [if_neg (by decide), monthDays_f (by omega) (by omega), Option.bind_some, days_f _ _ _ k (by omega) hmn.1 hmn.2, Option.bind_some]
theorem refMonths_is {n y m d : Int} (h : IsDate n y m d) (x : Int) (k : Nat) (hk : 11000 ≤ k) : cabinetryref01_Months.f k n x = some (monthsV y m d x) := by
  have b := isDate_bd h
  have hs := refSplit_is h k hk
  obtain ⟨h1, h2, h3, h4, h5, h6, _⟩ := h
  have mb := mdays_bd y m
  obtain ⟨k, rfl⟩ : ∃ q, k = q + 1 + 1 := ⟨k - 2, by omega⟩
  unfold cabinetryref01_Months.f monthsV
  rw [hs, Option.bind_some, if_pos rfl, if_neg (by omega)]
  by_cases c1 : x < -200000
  · rw [if_pos c1, if_pos (Or.inl c1)]; simp [cabinetryref01_Months.j0]
  rw [if_neg c1]
  by_cases c2 : x > 200000
  · rw [decide_eq_true c2, if_pos (Or.inr c2)]; simp [cabinetryref01_Months.j0]
  rw [decide_eq_false c2, if_neg (by omega)]
  have ek : wrap64 (wrap64 (wrap64 (wrap64 (12 * y) + m) - 1) + x) = 12 * y + m - 1 + x := by
    rw [w64 (x := 12 * y) (by omega) (by omega), w64 (x := 12 * y + m) (by omega) (by omega), w64 (x := 12 * y + m - 1) (by omega) (by omega), w64 (by omega) (by omega)]
  simp only [cabinetryref01_Months.j0, ek]
  rw [if_neg (by decide)]
  generalize 12 * y + m - 1 + x = q at *
  by_cases c3 : q < 12
  · rw [if_pos c3, if_pos (Or.inl c3)]; simp [cabinetryref01_Months.j1]
  rw [if_neg c3]
  by_cases c4 : q ≥ 120000
  · rw [decide_eq_true c4, if_pos (Or.inr c4)]; simp [cabinetryref01_Months.j1]
  · rw [decide_eq_false c4, if_neg (by omega)]
    have e1 : Int.tdiv q 12 = q / 12 := Int.tdiv_eq_ediv_of_nonneg (by omega)
    have e2 : Int.tmod q 12 = q % 12 := Int.tmod_eq_emod_of_nonneg (by omega)
    simp only [cabinetryref01_Months.j1]
    rw [if_neg (by decide), e1, e2, w64 (x := q / 12) (by omega) (by omega), w64 (x := q % 12 + 1) (by omega) (by omega), refLength_f (by omega), Option.bind_some, refDays_f _ _ _ k (by omega), Option.bind_some]
theorem months_no {n : Int} (x : Int) (k : Nat) (hk : 2 ≤ k) (y m d e : Int) (hs : val_Split.f k n = some (y, m, d, e)) (h : e ≠ 0 ∨ n = 0) : val_Months.f k n x = some (0, e) := by
  obtain ⟨k, rfl⟩ : ∃ q, k = q + 1 := ⟨k - 1, by omega⟩
  unfold val_Months.f
  rw [hs, Option.bind_some]
  simp only [val_Months.j0]
  by_cases he : e = 0
  · have : n = 0 := h.resolve_left (fun g => g he)
    rw [if_pos he, beq_iff_eq.mpr this, if_pos rfl]
  · rw [if_neg he]
    simp only [if_true]
theorem refMonths_no {n : Int} (x : Int) (k : Nat) (y m d e : Int) (hs : cabinetryref01_Split.f k n = some (y, m, d, e)) (h : e ≠ 0 ∨ n = 0) : cabinetryref01_Months.f k n x = some (0, e) := by
  unfold cabinetryref01_Months.f
  rw [hs, Option.bind_some]
  by_cases he : e = 0
  · have : n = 0 := h.resolve_left (fun g => g he)
    rw [if_pos he, if_pos this, he]
  · rw [if_neg he]
end Go.Proofs.YtplbjaandkdhjaaDoor.L1
namespace Go.Proofs.YtplbjaandkdhjaaDoor.PC
open Go.RowKit Go.Proofs.YtplbjaandkdhjaaDoorW.PrintWords Go.Proofs.YtplbjaandkdhjaaDoorW.PrintLast Go.Proofs.YtplbjaandkdhjaaDoorW.PrintMore Go.Proofs.YtplbjaandkdhjaaDoor.PA Go.Proofs.YtplbjaandkdhjaaDoor.H1 Go.Proofs.YtplbjaandkdhjaaDoor.PB
attribute [local go_sem] max2_int min2_int max_two min_two max_three min_three max_four min_four   -- for this text's walks alone
set_option linter.unusedVariables false
set_option linter.unusedSimpArgs false
def cabinetrylaw01_ValDays.f (k : Nat) (a0 : Int) (a1 : Int) : Option (Bool) := (val_Split.f k a0).bind fun bt217 => ((cabinetryref01_Split.f k a0).bind fun bt221 => ((val_Weekday.f a0).bind fun bt225 => ((cabinetryref01_Weekday.f k a0).bind fun bt227 => ((val_Stamp.f k a0).bind fun bt229 => ((cabinetryref01_Stamp.f k a0).bind fun bt231 => ((val_Months.f k a0 a1).bind fun bt233 => ((cabinetryref01_Months.f k a0 a1).bind fun bt235 => (if bt217.1 = bt221.1 then (if bt217.2.1 = bt221.2.1 then (if bt217.2.2.1 = bt221.2.2.1 then (if bt217.2.2.2 = bt221.2.2.2 then (if bt225.1 = bt227.1 then (if bt225.2 = bt227.2 then (if bt229.1.toList = bt231.1.toList then (if bt229.2 = bt231.2 then (if bt233.1 = bt235.1 then (if bt233.2 = bt235.2 then ((cabinetrylaw01_known.f k).bind fun t237 => (some t237)) else (some false)) else (some false)) else (some false)) else (some false)) else (some false)) else (some false)) else (some false)) else (some false)) else (some false)) else (some false)))))))))
set_option maxHeartbeats 8000000 in
set_option maxRecDepth 100000 in
theorem cabinetrylaw01_ValDays.calls (k : Nat) (a0 : Int) (a1 : Int) (r : Bool) (w : World) (h : cabinetrylaw01_ValDays.f k a0 a1 = some r) (hr_ : Aside0 (r = true)) :
  Calls Tryd.prog 10 #[.int .i64 a0, .int .i64 a1] w fun e w' => e = .returned (.bool r) ∧ Below w.heap.size w w' := by
 have HB := Aside0.mk (Below.refl w.heap.size w)
 have H : ((val_Split.f k a0).bind fun bt217 => ((cabinetryref01_Split.f k a0).bind fun bt221 => ((val_Weekday.f a0).bind fun bt225 => ((cabinetryref01_Weekday.f k a0).bind fun bt227 => ((val_Stamp.f k a0).bind fun bt229 => ((cabinetryref01_Stamp.f k a0).bind fun bt231 => ((val_Months.f k a0 a1).bind fun bt233 => ((cabinetryref01_Months.f k a0 a1).bind fun bt235 => (if bt217.1 = bt221.1 then (if bt217.2.1 = bt221.2.1 then (if bt217.2.2.1 = bt221.2.2.1 then (if bt217.2.2.2 = bt221.2.2.2 then (if bt225.1 = bt227.1 then (if bt225.2 = bt227.2 then (if bt229.1.toList = bt231.1.toList then (if bt229.2 = bt231.2 then (if bt233.1 = bt235.1 then (if bt233.2 = bt235.2 then ((cabinetrylaw01_known.f k).bind fun t237 => (some t237)) else (some false)) else (some false)) else (some false)) else (some false)) else (some false)) else (some false)) else (some false)) else (some false)) else (some false)) else (some false)))))))))) = some r := h
 clear h
 replace H := Option.bind_eq_some_iff.mp H
 obtain ⟨⟨t217, t218, t219, t220⟩, A30, H⟩ := H
 replace H : ((cabinetryref01_Split.f k a0).bind fun bt221 => ((val_Weekday.f a0).bind fun bt225 => ((cabinetryref01_Weekday.f k a0).bind fun bt227 => ((val_Stamp.f k a0).bind fun bt229 => ((cabinetryref01_Stamp.f k a0).bind fun bt231 => ((val_Months.f k a0 a1).bind fun bt233 => ((cabinetryref01_Months.f k a0 a1).bind fun bt235 => (if t217 = bt221.1 then (if t218 = bt221.2.1 then (if t219 = bt221.2.2.1 then (if t220 = bt221.2.2.2 then (if bt225.1 = bt227.1 then (if bt225.2 = bt227.2 then (if bt229.1.toList = bt231.1.toList then (if bt229.2 = bt231.2 then (if bt233.1 = bt235.1 then (if bt233.2 = bt235.2 then ((cabinetrylaw01_known.f k).bind fun t237 => (some t237)) else (some false)) else (some false)) else (some false)) else (some false)) else (some false)) else (some false)) else (some false)) else (some false)) else (some false)) else (some false))))))))) = some r := H
 have A3 := Aside0.mk A30
 clear A30
 replace H := Option.bind_eq_some_iff.mp H
 obtain ⟨⟨t221, t222, t223, t224⟩, A40, H⟩ := H
 replace H : ((val_Weekday.f a0).bind fun bt225 => ((cabinetryref01_Weekday.f k a0).bind fun bt227 => ((val_Stamp.f k a0).bind fun bt229 => ((cabinetryref01_Stamp.f k a0).bind fun bt231 => ((val_Months.f k a0 a1).bind fun bt233 => ((cabinetryref01_Months.f k a0 a1).bind fun bt235 => (if t217 = t221 then (if t218 = t222 then (if t219 = t223 then (if t220 = t224 then (if bt225.1 = bt227.1 then (if bt225.2 = bt227.2 then (if bt229.1.toList = bt231.1.toList then (if bt229.2 = bt231.2 then (if bt233.1 = bt235.1 then (if bt233.2 = bt235.2 then ((cabinetrylaw01_known.f k).bind fun t237 => (some t237)) else (some false)) else (some false)) else (some false)) else (some false)) else (some false)) else (some false)) else (some false)) else (some false)) else (some false)) else (some false)))))))) = some r := H
 have A4 := Aside0.mk A40
 clear A40
 replace H := Option.bind_eq_some_iff.mp H
 obtain ⟨⟨t225, t226⟩, A50, H⟩ := H
 replace H : ((cabinetryref01_Weekday.f k a0).bind fun bt227 => ((val_Stamp.f k a0).bind fun bt229 => ((cabinetryref01_Stamp.f k a0).bind fun bt231 => ((val_Months.f k a0 a1).bind fun bt233 => ((cabinetryref01_Months.f k a0 a1).bind fun bt235 => (if t217 = t221 then (if t218 = t222 then (if t219 = t223 then (if t220 = t224 then (if t225 = bt227.1 then (if t226 = bt227.2 then (if bt229.1.toList = bt231.1.toList then (if bt229.2 = bt231.2 then (if bt233.1 = bt235.1 then (if bt233.2 = bt235.2 then ((cabinetrylaw01_known.f k).bind fun t237 => (some t237)) else (some false)) else (some false)) else (some false)) else (some false)) else (some false)) else (some false)) else (some false)) else (some false)) else (some false)) else (some false))))))) = some r := H
 have A5 := Aside0.mk A50
 clear A50
 replace H := Option.bind_eq_some_iff.mp H
 obtain ⟨⟨t227, t228⟩, A60, H⟩ := H
 replace H : ((val_Stamp.f k a0).bind fun bt229 => ((cabinetryref01_Stamp.f k a0).bind fun bt231 => ((val_Months.f k a0 a1).bind fun bt233 => ((cabinetryref01_Months.f k a0 a1).bind fun bt235 => (if t217 = t221 then (if t218 = t222 then (if t219 = t223 then (if t220 = t224 then (if t225 = t227 then (if t226 = t228 then (if bt229.1.toList = bt231.1.toList then (if bt229.2 = bt231.2 then (if bt233.1 = bt235.1 then (if bt233.2 = bt235.2 then ((cabinetrylaw01_known.f k).bind fun t237 => (some t237)) else (some false)) else (some false)) else (some false)) else (some false)) else (some false)) else (some false)) else (some false)) else (some false)) else (some false)) else (some false)))))) = some r := H
 have A6 := Aside0.mk A60
 clear A60
 replace H := Option.bind_eq_some_iff.mp H
 obtain ⟨⟨t229, t230⟩, A70, H⟩ := H
 replace H : ((cabinetryref01_Stamp.f k a0).bind fun bt231 => ((val_Months.f k a0 a1).bind fun bt233 => ((cabinetryref01_Months.f k a0 a1).bind fun bt235 => (if t217 = t221 then (if t218 = t222 then (if t219 = t223 then (if t220 = t224 then (if t225 = t227 then (if t226 = t228 then (if t229.toList = bt231.1.toList then (if t230 = bt231.2 then (if bt233.1 = bt235.1 then (if bt233.2 = bt235.2 then ((cabinetrylaw01_known.f k).bind fun t237 => (some t237)) else (some false)) else (some false)) else (some false)) else (some false)) else (some false)) else (some false)) else (some false)) else (some false)) else (some false)) else (some false))))) = some r := H
 have A7 := Aside0.mk A70
 clear A70
 replace H := Option.bind_eq_some_iff.mp H
 obtain ⟨⟨t231, t232⟩, A80, H⟩ := H
 replace H : ((val_Months.f k a0 a1).bind fun bt233 => ((cabinetryref01_Months.f k a0 a1).bind fun bt235 => (if t217 = t221 then (if t218 = t222 then (if t219 = t223 then (if t220 = t224 then (if t225 = t227 then (if t226 = t228 then (if t229.toList = t231.toList then (if t230 = t232 then (if bt233.1 = bt235.1 then (if bt233.2 = bt235.2 then ((cabinetrylaw01_known.f k).bind fun t237 => (some t237)) else (some false)) else (some false)) else (some false)) else (some false)) else (some false)) else (some false)) else (some false)) else (some false)) else (some false)) else (some false)))) = some r := H
 have A8 := Aside0.mk A80
 clear A80
 replace H := Option.bind_eq_some_iff.mp H
 obtain ⟨⟨t233, t234⟩, A90, H⟩ := H
 replace H : ((cabinetryref01_Months.f k a0 a1).bind fun bt235 => (if t217 = t221 then (if t218 = t222 then (if t219 = t223 then (if t220 = t224 then (if t225 = t227 then (if t226 = t228 then (if t229.toList = t231.toList then (if t230 = t232 then (if t233 = bt235.1 then (if t234 = bt235.2 then ((cabinetrylaw01_known.f k).bind fun t237 => (some t237)) else (some false)) else (some false)) else (some false)) else (some false)) else (some false)) else (some false)) else (some false)) else (some false)) else (some false)) else (some false))) = some r := H
 have A9 := Aside0.mk A90
 clear A90
 replace H := Option.bind_eq_some_iff.mp H
 obtain ⟨⟨t235, t236⟩, A100, H⟩ := H
 replace H : (if t217 = t221 then (if t218 = t222 then (if t219 = t223 then (if t220 = t224 then (if t225 = t227 then (if t226 = t228 then (if t229.toList = t231.toList then (if t230 = t232 then (if t233 = t235 then (if t234 = t236 then ((cabinetrylaw01_known.f k).bind fun t237 => (some t237)) else (some false)) else (some false)) else (some false)) else (some false)) else (some false)) else (some false)) else (some false)) else (some false)) else (some false)) else (some false)) = some r := H
 have A10 := Aside0.mk A100
 clear A100
 by_cases c11 : t217 = t221
 ·rw [if_pos c11] at H
  have c11b0 : (t217 == t221) = true := beq_iff_eq.mpr c11
  have c11b1 : (t217 != t221) = false := bne_eq_false_iff_eq.mpr c11
  clear c11
  by_cases c12 : t218 = t222
  ·rw [if_pos c12] at H
   have c12b0 : (t218 == t222) = true := beq_iff_eq.mpr c12
   have c12b1 : (t218 != t222) = false := bne_eq_false_iff_eq.mpr c12
   clear c12
   by_cases c13 : t219 = t223
   ·rw [if_pos c13] at H
    have c13b0 : (t219 == t223) = true := beq_iff_eq.mpr c13
    have c13b1 : (t219 != t223) = false := bne_eq_false_iff_eq.mpr c13
    clear c13
    by_cases c14 : t220 = t224
    ·rw [if_pos c14] at H
     have c14b0 : (t220 == t224) = true := beq_iff_eq.mpr c14
     have c14b1 : (t220 != t224) = false := bne_eq_false_iff_eq.mpr c14
     clear c14
     by_cases c15 : t225 = t227
     ·rw [if_pos c15] at H
      have c15b0 : (t225 == t227) = true := beq_iff_eq.mpr c15
      have c15b1 : (t225 != t227) = false := bne_eq_false_iff_eq.mpr c15
      clear c15
      by_cases c16 : t226 = t228
      ·rw [if_pos c16] at H
       have c16b0 : (t226 == t228) = true := beq_iff_eq.mpr c16
       have c16b1 : (t226 != t228) = false := bne_eq_false_iff_eq.mpr c16
       clear c16
       by_cases c17 : t229.toList = t231.toList
       ·rw [if_pos c17] at H
        have c17b0 : (t229.toList == t231.toList) = true := beq_iff_eq.mpr c17
        have c17b1 : (t229.toList != t231.toList) = false := bne_eq_false_iff_eq.mpr c17
        clear c17
        by_cases c18 : t230 = t232
        ·rw [if_pos c18] at H
         have c18b0 : (t230 == t232) = true := beq_iff_eq.mpr c18
         have c18b1 : (t230 != t232) = false := bne_eq_false_iff_eq.mpr c18
         clear c18
         by_cases c19 : t233 = t235
         ·rw [if_pos c19] at H
          have c19b0 : (t233 == t235) = true := beq_iff_eq.mpr c19
          have c19b1 : (t233 != t235) = false := bne_eq_false_iff_eq.mpr c19
          clear c19
          by_cases c20 : t234 = t236
          ·rw [if_pos c20] at H
           have c20b0 : (t234 == t236) = true := beq_iff_eq.mpr c20
           have c20b1 : (t234 != t236) = false := bne_eq_false_iff_eq.mpr c20
           clear c20
           replace H := Option.bind_eq_some_iff.mp H
           obtain ⟨t237, A210, H⟩ := H
           replace H : (some t237) = some r := H
           have A21 := Aside0.mk A210
           clear A210
           obtain rfl := Option.some.inj H
           simp only [Option.some.injEq, Prod.mk.injEq] at H
           obtain ⟨rfl⟩ := H
           go_enter Tryd.func10, Tryd.ntmps10
           go_wp2_with (first | ((with_reducible refine gate_callee (f := 24) rfl ?_); refine goesL_ (some 27) rfl rfl Tryd.func24 (by kernel_rfl) rfl #[.int .i64 a0] rfl (by (try simp only [List.map_toArray, List.map_cons, List.map_nil]); first | done | rfl | (simp only [List.length_drop, List.length_take]; rfl)) ?_; (with_reducible refine (val_Split.calls k a0 t217 t218 t219 t220 _ A3.out).mono ?_); rintro e w22 ⟨rfl, hb⟩; refine ⟨_, rfl, ?_⟩; have n0_ := Aside0.mk (below_step (by repeat (first | (with_reducible first | exact HB.out | apply below_alloc | apply pw_below_drewN | apply below_drew1) | exact HB.out)) hb); clear HB; have HB := n0_; clear n0_; (try clear hb); (try clear hb2); (try clear hk); (try clear hi)) | ((with_reducible refine gate_callee (f := 35) rfl ?_); refine goesL_ (some 34) rfl rfl Tryd.func35 (by kernel_rfl) rfl #[.int .i64 a0] rfl (by (try simp only [List.map_toArray, List.map_cons, List.map_nil]); first | done | rfl | (simp only [List.length_drop, List.length_take]; rfl)) ?_; (with_reducible refine (cabinetryref01_Split.calls k a0 t221 t222 t223 t224 _ A4.out).mono ?_); rintro e w' ⟨rfl, ⟨nd, rfl⟩⟩; refine ⟨_, rfl, ?_⟩) | ((with_reducible refine gate_callee (f := 36) rfl ?_); refine goesL_ (some 41) rfl rfl Tryd.func36 (by kernel_rfl) rfl #[.int .i64 a0] rfl (by (try simp only [List.map_toArray, List.map_cons, List.map_nil]); first | done | rfl | (simp only [List.length_drop, List.length_take]; rfl)) ?_; (with_reducible refine (val_Weekday.calls a0 t225 t226 _ A5.out).mono ?_); rintro e w' ⟨rfl, ⟨nd, rfl⟩⟩; refine ⟨_, rfl, ?_⟩) | ((with_reducible refine gate_callee (f := 37) rfl ?_); refine goesL_ (some 46) rfl rfl Tryd.func37 (by kernel_rfl) rfl #[.int .i64 a0] rfl (by (try simp only [List.map_toArray, List.map_cons, List.map_nil]); first | done | rfl | (simp only [List.length_drop, List.length_take]; rfl)) ?_; (with_reducible refine (cabinetryref01_Weekday.calls k a0 t227 t228 _ A6.out).mono ?_); rintro e w' ⟨rfl, ⟨nd, rfl⟩⟩; refine ⟨_, rfl, ?_⟩) | ((with_reducible refine gate_callee (f := 38) rfl ?_); refine goesL_ (some 51) rfl rfl Tryd.func38 (by kernel_rfl) rfl #[.int .i64 a0] rfl (by (try simp only [List.map_toArray, List.map_cons, List.map_nil]); first | done | rfl | (simp only [List.length_drop, List.length_take]; rfl)) ?_; (with_reducible refine (val_Stamp.calls k a0 t229 t230 _ A7.out).mono ?_); rintro e w23 ⟨rfl, hb⟩; refine ⟨_, rfl, ?_⟩; have n0_ := Aside0.mk (below_step (by repeat (first | (with_reducible first | exact HB.out | apply below_alloc | apply pw_below_drewN | apply below_drew1) | exact HB.out)) hb); clear HB; have HB := n0_; clear n0_; (try clear hb); (try clear hb2); (try clear hk); (try clear hi)) | ((with_reducible refine gate_callee (f := 39) rfl ?_); refine goesL_ (some 56) rfl rfl Tryd.func39 (by kernel_rfl) rfl #[.int .i64 a0] rfl (by (try simp only [List.map_toArray, List.map_cons, List.map_nil]); first | done | rfl | (simp only [List.length_drop, List.length_take]; rfl)) ?_; (with_reducible refine (cabinetryref01_Stamp.calls k a0 t231 t232 _ A8.out).mono ?_); rintro e w' ⟨rfl, ⟨nd, rfl⟩⟩; refine ⟨_, rfl, ?_⟩) | ((with_reducible refine gate_callee (f := 40) rfl ?_); refine goesL_ (some 62) rfl rfl Tryd.func40 (by kernel_rfl) rfl #[.int .i64 a0, .int .i64 a1] rfl (by (try simp only [List.map_toArray, List.map_cons, List.map_nil]); first | done | rfl | (simp only [List.length_drop, List.length_take]; rfl)) ?_; (with_reducible refine (val_Months.calls k a0 a1 t233 t234 _ A9.out).mono ?_); rintro e w24 ⟨rfl, hb⟩; refine ⟨_, rfl, ?_⟩; have n0_ := Aside0.mk (below_step (by repeat (first | (with_reducible first | exact HB.out | apply below_alloc | apply pw_below_drewN | apply below_drew1) | exact HB.out)) hb); clear HB; have HB := n0_; clear n0_; (try clear hb); (try clear hb2); (try clear hk); (try clear hi)) | ((with_reducible refine gate_callee (f := 41) rfl ?_); refine goesL_ (some 68) rfl rfl Tryd.func41 (by kernel_rfl) rfl #[.int .i64 a0, .int .i64 a1] rfl (by (try simp only [List.map_toArray, List.map_cons, List.map_nil]); first | done | rfl | (simp only [List.length_drop, List.length_take]; rfl)) ?_; (with_reducible refine (cabinetryref01_Months.calls k a0 a1 t235 t236 _ A10.out).mono ?_); rintro e w25 ⟨rfl, hb⟩; refine ⟨_, rfl, ?_⟩; have n0_ := Aside0.mk (below_step (by repeat (first | (with_reducible first | exact HB.out | apply below_alloc | apply pw_below_drewN | apply below_drew1) | exact HB.out)) hb); clear HB; have HB := n0_; clear n0_; (try clear hb); (try clear hb2); (try clear hk); (try clear hi)) | (go_at_call 16; (with_reducible refine (cabinetrylaw01_known.calls k  t237 _ A21.out hr_).mono ?_); rintro e w26 ⟨rfl, hb⟩; have n0_ := Aside0.mk (below_step (by repeat (first | (with_reducible first | exact HB.out | apply below_alloc | apply pw_below_drewN | apply below_drew1) | exact HB.out)) hb); clear HB; have HB := n0_; clear n0_; (try clear hb); (try clear hb2); (try clear hk); (try clear hi)))
           go_ret
           exact ⟨by first | rfl | (simp [errW_none, errW_some] <;> rfl) | (simp [*, errW_none, errW_some] <;> rfl), by repeat (first | (with_reducible first | exact HB.out | apply below_alloc | apply pw_below_drewN | apply below_drew1) | exact HB.out)⟩
          ·rw [if_neg c20] at H
           have c20b0 : (t234 == t236) = false := beq_eq_false_iff_ne.mpr c20
           have c20b1 : (t234 != t236) = true := bne_iff_ne.mpr c20
           obtain rfl := Option.some.inj H
           exact absurd hr_.out (by decide)
         ·rw [if_neg c19] at H
          have c19b0 : (t233 == t235) = false := beq_eq_false_iff_ne.mpr c19
          have c19b1 : (t233 != t235) = true := bne_iff_ne.mpr c19
          obtain rfl := Option.some.inj H
          exact absurd hr_.out (by decide)
        ·rw [if_neg c18] at H
         have c18b0 : (t230 == t232) = false := beq_eq_false_iff_ne.mpr c18
         have c18b1 : (t230 != t232) = true := bne_iff_ne.mpr c18
         obtain rfl := Option.some.inj H
         exact absurd hr_.out (by decide)
       ·rw [if_neg c17] at H
        have c17b0 : (t229.toList == t231.toList) = false := beq_eq_false_iff_ne.mpr c17
        have c17b1 : (t229.toList != t231.toList) = true := bne_iff_ne.mpr c17
        obtain rfl := Option.some.inj H
        exact absurd hr_.out (by decide)
      ·rw [if_neg c16] at H
       have c16b0 : (t226 == t228) = false := beq_eq_false_iff_ne.mpr c16
       have c16b1 : (t226 != t228) = true := bne_iff_ne.mpr c16
       obtain rfl := Option.some.inj H
       exact absurd hr_.out (by decide)
     ·rw [if_neg c15] at H
      have c15b0 : (t225 == t227) = false := beq_eq_false_iff_ne.mpr c15
      have c15b1 : (t225 != t227) = true := bne_iff_ne.mpr c15
      obtain rfl := Option.some.inj H
      exact absurd hr_.out (by decide)
    ·rw [if_neg c14] at H
     have c14b0 : (t220 == t224) = false := beq_eq_false_iff_ne.mpr c14
     have c14b1 : (t220 != t224) = true := bne_iff_ne.mpr c14
     obtain rfl := Option.some.inj H
     exact absurd hr_.out (by decide)
   ·rw [if_neg c13] at H
    have c13b0 : (t219 == t223) = false := beq_eq_false_iff_ne.mpr c13
    have c13b1 : (t219 != t223) = true := bne_iff_ne.mpr c13
    obtain rfl := Option.some.inj H
    exact absurd hr_.out (by decide)
  ·rw [if_neg c12] at H
   have c12b0 : (t218 == t222) = false := beq_eq_false_iff_ne.mpr c12
   have c12b1 : (t218 != t222) = true := bne_iff_ne.mpr c12
   obtain rfl := Option.some.inj H
   exact absurd hr_.out (by decide)
 ·rw [if_neg c11] at H
  have c11b0 : (t217 == t221) = false := beq_eq_false_iff_ne.mpr c11
  have c11b1 : (t217 != t221) = true := bne_iff_ne.mpr c11
  obtain rfl := Option.some.inj H
  exact absurd hr_.out (by decide)
end Go.Proofs.YtplbjaandkdhjaaDoor.PC
namespace Go.Proofs.YtplbjaandkdhjaaDoor.LValDays
open Go.RowKit Go.Proofs.YtplbjaandkdhjaaDoorW.PrintWords Go.Proofs.YtplbjaandkdhjaaDoor.PA Go.Proofs.YtplbjaandkdhjaaDoor.PB Go.Proofs.YtplbjaandkdhjaaDoor.PC Go.Proofs.YtplbjaandkdhjaaDoor.H1 Go.Proofs.YtplbjaandkdhjaaDoor.L1
set_option linter.unusedVariables false
theorem law (a0 a1 : Int) (h0 : -9223372036854775808 ≤ a0 ∧ a0 ≤ 9223372036854775807) (h1 : -9223372036854775808 ≤ a1 ∧ a1 ≤ 9223372036854775807) :
    ∃ k, cabinetrylaw01_ValDays.f k a0 a1 = some true := by
  refine ⟨12000, ?_⟩
  unfold cabinetrylaw01_ValDays.f
  rw [weekday_f, refWeekday_f a0 12000 (by decide), known_ev 12000 (by decide)]
  rcases day_ways a0 with h | h | ⟨y, m, d, h⟩
  · have s1 := split_no h 12000
    have s2 := refSplit_no h 12000 (by decide)
    rw [months_no a1 12000 (by decide) _ _ _ _ s1 (.inl (by decide)), refMonths_no a1 12000 _ _ _ _ s2 (.inl (by decide)), s1, s2, stamp_no h, refStamp_no h 12000 (by decide)]
    simp only [Option.bind_some, if_true]
  · subst h
    have s1 := split_zero 12000
    have s2 := refSplit_zero 12000 (by decide)
    rw [months_no a1 12000 (by decide) _ _ _ _ s1 (.inr rfl), refMonths_no a1 12000 _ _ _ _ s2 (.inr rfl), s1, s2, stamp_zero, refStamp_zero 12000 (by decide)]
    simp only [Option.bind_some, if_true]
  · rw [split_is h 12000 (by decide), refSplit_is h 12000 (by decide), stamp_is h 12000 (by decide), refStamp_is h 12000 (by decide), months_is h a1 12000 (by decide), refMonths_is h a1 12000 (by decide)]
    simp only [Option.bind_some, if_true]
end Go.Proofs.YtplbjaandkdhjaaDoor.LValDays
namespace Go.Proofs.YtplbjaandkdhjaaDoor.valDays
open Go.ChangeShapes Go.WideShapes Go.ChangeAt Go.RowKit
open Go.ChangeMaps (open_string shut_string)
set_option linter.unusedVariables false
theorem own : ownKnob Tryd.prog.godebug = none := by kernel_rfl
set_option maxRecDepth 100000 in
theorem lifted (os : Os) (started : os.Started) (H : Type) (enc : TypeId × Value → H) :
    ReturnsInHanded {} Tryd.checked os 10 .any (fun w args => (Rows.valDaysSpec.pre enc Tryd.prog Tryd.f10 Rows.valDaysRow.domain false w args ∧ laidMetH Tryd.prog Rows.valDaysRow.laid w) ∧ sizedMet enc Tryd.prog Tryd.f10 (OpenSpec.ofChange Rows.valDaysSpec) false w args)
      (Rows.valDaysSpec.post enc Tryd.prog Tryd.f10 false true false false) := by
  refine returnsInHanded_of_change_and (C := Tryd.checked) (X := fun w _ => laidMetH Tryd.prog Rows.valDaysRow.laid w) (fun _ _ _ hh h => h.of_heap hh) own started (by kernel_rfl) Tryd.func10
    (ChangeSpec.witness_shaped (enc := enc) (C := Tryd.checked) (os := os) (X := fun w _ => laidMetH Tryd.prog Rows.valDaysRow.laid w) false (World.laidAll Tryd.prog os Rows.valDaysRow.laid) #[.int .i64 0, .int .i64 0] 8 (World.laidAll_os _ _ _)
      (World.shaped_of_ZipB (by kernel_rfl) (by kernel_rfl)) (by kernel_rfl) (by kernel_rfl) (by kernel_rfl)
      (by rw [MakeChecks.laidMetH_plain _ _ _ (by kernel_rfl)]; exact laidMet_laidAll _ (by kernel_rfl) (by kernel_rfl))) ?_
  intro W base args ds gs before hval0 hW hcnd hsz0 hL _
  have hsz : (DataW.weightsEach Tryd.prog (Tryd.f10.params.toList ++ Rows.valDaysSpec.plain.varTypes Tryd.prog) (ds ++ gs)).all (· ≤ reachBytes) = true := hsz0
  have hval : ∀ (j : Nat) t v, Tryd.f10.params[j]? = some t → args[j]? = some v → Value.okWide Tryd.prog W .any base t v := hval0
  have hW' := hW
  obtain ⟨p, q, hA0, hV, rfl, hfz, hnd⟩ := hW
  have hA : DataW.TrodAll enc Tryd.prog W 0 (fun _ => true) true Tryd.f10.params.toList args.toList ds p := hA0
  rw [Tryd.params10] at hA hval hsz
  obtain ⟨v0, vs0, d0, ds0, p0, q0, hargs, rfl, rfl, h0, r0⟩ := trodAll_cons hA
  obtain ⟨v1, vs1, d1, ds1, p1, q1, rfl, rfl, rfl, h1, r1⟩ := trodAll_cons r0
  obtain ⟨rfl, rfl, rfl⟩ := trodAll_nil r1
  obtain rfl : args = #[v0, v1] := by cases args; simp_all
  obtain ⟨rfl, rfl⟩ := trodVars_none hV
  obtain ⟨a0, rfl, rfl, rfl, w0⟩ := open_int Tryd.underlying3 (hval 0 3 v0 rfl rfl) h0
  obtain ⟨a1, rfl, rfl, rfl, w1⟩ := open_int Tryd.underlying3 (hval 1 3 v1 rfl rfl) h1
  clear hA0 hval0 hsz0 hsz
  obtain ⟨k, h⟩ := LValDays.law a0 a1 (bounds_i64 w0) (bounds_i64 w1)
  refine (PC.cabinetrylaw01_ValDays.calls k a0 a1 true W h ⟨rfl⟩).mono fun e W' ⟨he, bel⟩ => ?_
  subst he
  exact ⟨_, rfl, _, _, _, [], _, [], hW', trodAll_mk1 (shut_bool Tryd.underlying4 _), (trodAll_cons_mk (shut_int Tryd.underlying3 w0) (trodAll_cons_mk (shut_int Tryd.underlying3 w1) trodAll_mk0)), rfl, bel.frame _, fun h => by cases h⟩
theorem valDays_holds : Rows.ValDaysSaid :=
  OpenClaim.holds_of_wide 10 Tryd.f10 rfl rfl rfl rfl rfl rfl rfl ⟨rfl, rfl, rfl, rfl, rfl⟩ rfl rfl rfl rfl rfl (by kernel_rfl) Tryd.func10 (by kernel_rfl)
    (of_decide_eq_true (by kernel_rfl)) (by unfold Func.isWrapper; first | (rw [if_pos (by decide +kernel)]; kernel_rfl) | (rw [if_neg (by decide +kernel)]; exact ⟨rfl, rfl⟩))
    (fun os started H enc _ => lifted os started H enc)
end Go.Proofs.YtplbjaandkdhjaaDoor.valDays
namespace Go.Proofs.YtplbjaandkdhjaaDoor
theorem valDays_card : Rows.ValDaysCardSaid :=
  Claim7.holds_tied_plain_at .later [] [.data, .pinned] true (true, "b0e2575192d11b15c47babb91c45279908020743339f46d5cad88154cf757604") false
    valDays.valDays_holds (fun _ h => by cases h) (by kernel_rfl) (fun _ h => by cases h) valDays_row_tie rfl ⟨rfl, rfl⟩ (by kernel_rfl) rfl
    (fun f fn hf hfn => by
      obtain rfl : f = 10 := Option.some.inj ((show Tryd.prog.funcNamed "cabinetry/cabinetrylaw01.ValDays" = some 10 by kernel_rfl).symm.trans hf) |>.symm
      obtain rfl : fn = Tryd.f10 := (Option.some.inj (Tryd.func10.symm.trans hfn)).symm
      exact ⟨by kernel_rfl, fun j t ht => by
        rw [Tryd.params10] at ht
        have hm : t ∈ [3, 3] := by simpa using Array.mem_of_getElem? ht
        have hall : ([3, 3].all fun u => !Tryd.prog.wantsStandIn u) = true := by kernel_rfl
        exact (show Tryd.prog.wantsStandIn t = false by simpa using List.all_eq_true.1 hall t hm)⟩)
    (by kernel_rfl)
#print axioms valDays_card
end Go.Proofs.YtplbjaandkdhjaaDoor
