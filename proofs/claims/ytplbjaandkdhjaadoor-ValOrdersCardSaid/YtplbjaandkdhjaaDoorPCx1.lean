-- thin
-- Written by a program of this session (wip/stage.sh) out of the translation: functions as Lean functions, and walks.
import Derived.Test.YtplbjaandkdhjaaDoorH4
import Derived.Test.YtplbjaandkdhjaaDoorPAx0
import Derived.Test.YtplbjaandkdhjaaDoorPAx10
import Derived.Test.YtplbjaandkdhjaaDoorPBx4
import Derived.Test.YtplbjaandkdhjaaDoorPBx5
import Derived.Test.YtplbjaandkdhjaaDoorPBx6
import Derived.Test.YtplbjaandkdhjaaDoorPCx0
namespace Go.Proofs.YtplbjaandkdhjaaDoor.PC
open Go.RowKit Go.Proofs.YtplbjaandkdhjaaDoorW.PrintWords Go.Proofs.YtplbjaandkdhjaaDoorW.PrintLast Go.Proofs.YtplbjaandkdhjaaDoorW.PrintMore Go.Proofs.YtplbjaandkdhjaaDoor.PA Go.Proofs.YtplbjaandkdhjaaDoor.H1 Go.Proofs.YtplbjaandkdhjaaDoor.PB
attribute [local go_sem] max2_int min2_int max_two min_two max_three min_three max_four min_four   -- for this text's walks alone
set_option linter.unusedVariables false
set_option linter.unusedSimpArgs false

/-! ### cabinetrylaw01_known: function 16 -/
def cabinetrylaw01_known.f (k : Nat)  : Option (Bool) := (cabinetryref01_Text.f (⟨#[97, 98, 32, 32]⟩ : ByteArray)).bind fun bt101 => ((cabinetryref01_Text.f (⟨#[99]⟩ : ByteArray)).bind fun bt104 => ((val_Do.f 1 bt101.1 bt101.2.1 bt101.2.2 bt104.1 bt104.2.1 bt104.2.2).bind fun bt107 => ((val_Days.f k 2024 1 31).bind fun bt113 => ((val_Months.f k bt113.1 1).bind fun bt115 => ((val_Split.f k bt115.1).bind fun bt117 => (if bt107.2.2.2.2 = 0 then (if bt107.2.2.2.1 = 0 then (if bt107.1 = 4 then (if bt107.2.2.1.toList = ([97, 98, 99, 32, 32] : List UInt8) then (if bt113.2 = 0 then (if bt115.2 = 0 then (if bt117.2.2.2 = 0 then (if bt117.1 = 2024 then (if bt117.2.1 = 2 then (some (bt117.2.2.1 == 29)) else (some false)) else (some false)) else (some false)) else (some false)) else (some false)) else (some false)) else (some false)) else (some false)) else (some false)))))))
theorem cabinetrylaw01_known.mono : ∀ k, LeO (cabinetrylaw01_known.f k ) (cabinetrylaw01_known.f (k + 1) ) := by
 intro  k
 unfold cabinetrylaw01_known.f
 repeat' first
   | (with_reducible exact val_Days.mono _ _ _ _)
   | (with_reducible exact val_Months.mono _ _ _)
   | (with_reducible exact val_Split.mono _ _)
   | (with_reducible exact LeO.refl _)
   | (with_reducible exact LeO.none _)
   | (with_reducible refine LeO.ite ?_ ?_)
   | (with_reducible refine LeO.bind ?_ (fun _ => ?_))
   | exact val_Days.mono _ _ _ _
   | exact val_Months.mono _ _ _
   | exact val_Split.mono _ _
   | exact LeO.none _
   | refine LeO.ite ?_ ?_
   | refine LeO.bind ?_ (fun _ => ?_)
set_option maxHeartbeats 8000000 in
set_option maxRecDepth 100000 in
theorem cabinetrylaw01_known.calls (k : Nat)  (r : Bool) (w : World) (h : cabinetrylaw01_known.f k  = some r) (hr_ : Aside0 (r = true)) :
  Calls Tryd.prog 16 #[] w fun e w' => e = .returned (.bool r) ∧ Below w.heap.size w w' := by
 have hu23 := Tryd.underlying23
 have HB := Aside0.mk (Below.refl w.heap.size w)
 have H : ((cabinetryref01_Text.f (⟨#[97, 98, 32, 32]⟩ : ByteArray)).bind fun bt101 => ((cabinetryref01_Text.f (⟨#[99]⟩ : ByteArray)).bind fun bt104 => ((val_Do.f 1 bt101.1 bt101.2.1 bt101.2.2 bt104.1 bt104.2.1 bt104.2.2).bind fun bt107 => ((val_Days.f k 2024 1 31).bind fun bt113 => ((val_Months.f k bt113.1 1).bind fun bt115 => ((val_Split.f k bt115.1).bind fun bt117 => (if bt107.2.2.2.2 = 0 then (if bt107.2.2.2.1 = 0 then (if bt107.1 = 4 then (if bt107.2.2.1.toList = ([97, 98, 99, 32, 32] : List UInt8) then (if bt113.2 = 0 then (if bt115.2 = 0 then (if bt117.2.2.2 = 0 then (if bt117.1 = 2024 then (if bt117.2.1 = 2 then (some (bt117.2.2.1 == 29)) else (some false)) else (some false)) else (some false)) else (some false)) else (some false)) else (some false)) else (some false)) else (some false)) else (some false)))))))) = some r := h
 clear h
 replace H := Option.bind_eq_some_iff.mp H
 obtain ⟨⟨t101, t102, t103⟩, A10, H⟩ := H
 replace H : ((cabinetryref01_Text.f (⟨#[99]⟩ : ByteArray)).bind fun bt104 => ((val_Do.f 1 t101 t102 t103 bt104.1 bt104.2.1 bt104.2.2).bind fun bt107 => ((val_Days.f k 2024 1 31).bind fun bt113 => ((val_Months.f k bt113.1 1).bind fun bt115 => ((val_Split.f k bt115.1).bind fun bt117 => (if bt107.2.2.2.2 = 0 then (if bt107.2.2.2.1 = 0 then (if bt107.1 = 4 then (if bt107.2.2.1.toList = ([97, 98, 99, 32, 32] : List UInt8) then (if bt113.2 = 0 then (if bt115.2 = 0 then (if bt117.2.2.2 = 0 then (if bt117.1 = 2024 then (if bt117.2.1 = 2 then (some (bt117.2.2.1 == 29)) else (some false)) else (some false)) else (some false)) else (some false)) else (some false)) else (some false)) else (some false)) else (some false)) else (some false))))))) = some r := H
 have A1 := Aside0.mk A10
 clear A10
 replace H := Option.bind_eq_some_iff.mp H
 obtain ⟨⟨t104, t105, t106⟩, A20, H⟩ := H
 replace H : ((val_Do.f 1 t101 t102 t103 t104 t105 t106).bind fun bt107 => ((val_Days.f k 2024 1 31).bind fun bt113 => ((val_Months.f k bt113.1 1).bind fun bt115 => ((val_Split.f k bt115.1).bind fun bt117 => (if bt107.2.2.2.2 = 0 then (if bt107.2.2.2.1 = 0 then (if bt107.1 = 4 then (if bt107.2.2.1.toList = ([97, 98, 99, 32, 32] : List UInt8) then (if bt113.2 = 0 then (if bt115.2 = 0 then (if bt117.2.2.2 = 0 then (if bt117.1 = 2024 then (if bt117.2.1 = 2 then (some (bt117.2.2.1 == 29)) else (some false)) else (some false)) else (some false)) else (some false)) else (some false)) else (some false)) else (some false)) else (some false)) else (some false)))))) = some r := H
 have A2 := Aside0.mk A20
 clear A20
 replace H := Option.bind_eq_some_iff.mp H
 obtain ⟨⟨t107, t108, t109, t110, t111⟩, A30, H⟩ := H
 replace H : ((val_Days.f k 2024 1 31).bind fun bt113 => ((val_Months.f k bt113.1 1).bind fun bt115 => ((val_Split.f k bt115.1).bind fun bt117 => (if t111 = 0 then (if t110 = 0 then (if t107 = 4 then (if t109.toList = ([97, 98, 99, 32, 32] : List UInt8) then (if bt113.2 = 0 then (if bt115.2 = 0 then (if bt117.2.2.2 = 0 then (if bt117.1 = 2024 then (if bt117.2.1 = 2 then (some (bt117.2.2.1 == 29)) else (some false)) else (some false)) else (some false)) else (some false)) else (some false)) else (some false)) else (some false)) else (some false)) else (some false))))) = some r := H
 have A3 := Aside0.mk A30
 clear A30
 replace H := Option.bind_eq_some_iff.mp H
 obtain ⟨⟨t113, t114⟩, A40, H⟩ := H
 replace H : ((val_Months.f k t113 1).bind fun bt115 => ((val_Split.f k bt115.1).bind fun bt117 => (if t111 = 0 then (if t110 = 0 then (if t107 = 4 then (if t109.toList = ([97, 98, 99, 32, 32] : List UInt8) then (if t114 = 0 then (if bt115.2 = 0 then (if bt117.2.2.2 = 0 then (if bt117.1 = 2024 then (if bt117.2.1 = 2 then (some (bt117.2.2.1 == 29)) else (some false)) else (some false)) else (some false)) else (some false)) else (some false)) else (some false)) else (some false)) else (some false)) else (some false)))) = some r := H
 have A4 := Aside0.mk A40
 clear A40
 replace H := Option.bind_eq_some_iff.mp H
 obtain ⟨⟨t115, t116⟩, A50, H⟩ := H
 replace H : ((val_Split.f k t115).bind fun bt117 => (if t111 = 0 then (if t110 = 0 then (if t107 = 4 then (if t109.toList = ([97, 98, 99, 32, 32] : List UInt8) then (if t114 = 0 then (if t116 = 0 then (if bt117.2.2.2 = 0 then (if bt117.1 = 2024 then (if bt117.2.1 = 2 then (some (bt117.2.2.1 == 29)) else (some false)) else (some false)) else (some false)) else (some false)) else (some false)) else (some false)) else (some false)) else (some false)) else (some false))) = some r := H
 have A5 := Aside0.mk A50
 clear A50
 replace H := Option.bind_eq_some_iff.mp H
 obtain ⟨⟨t117, t118, t119, t120⟩, A60, H⟩ := H
 replace H : (if t111 = 0 then (if t110 = 0 then (if t107 = 4 then (if t109.toList = ([97, 98, 99, 32, 32] : List UInt8) then (if t114 = 0 then (if t116 = 0 then (if t120 = 0 then (if t117 = 2024 then (if t118 = 2 then (some (t119 == 29)) else (some false)) else (some false)) else (some false)) else (some false)) else (some false)) else (some false)) else (some false)) else (some false)) else (some false)) = some r := H
 have A6 := Aside0.mk A60
 clear A60
 by_cases c7 : t111 = 0
 ·rw [if_pos c7] at H
  have c7b0 : (t111 == 0) = true := beq_iff_eq.mpr c7
  have c7b1 : (t111 != 0) = false := bne_eq_false_iff_eq.mpr c7
  clear c7
  by_cases c8 : t110 = 0
  ·rw [if_pos c8] at H
   have c8b0 : (t110 == 0) = true := beq_iff_eq.mpr c8
   have c8b1 : (t110 != 0) = false := bne_eq_false_iff_eq.mpr c8
   clear c8
   by_cases c9 : t107 = 4
   ·rw [if_pos c9] at H
    have c9b0 : (t107 == 4) = true := beq_iff_eq.mpr c9
    have c9b1 : (t107 != 4) = false := bne_eq_false_iff_eq.mpr c9
    clear c9
    by_cases c10 : t109.toList = ([97, 98, 99, 32, 32] : List UInt8)
    ·rw [if_pos c10] at H
     have c10b0 : (t109.toList == ([97, 98, 99, 32, 32] : List UInt8)) = true := beq_iff_eq.mpr c10
     have c10b1 : (t109.toList != ([97, 98, 99, 32, 32] : List UInt8)) = false := bne_eq_false_iff_eq.mpr c10
     clear c10
     by_cases c11 : t114 = 0
     ·rw [if_pos c11] at H
      have c11b0 : (t114 == 0) = true := beq_iff_eq.mpr c11
      have c11b1 : (t114 != 0) = false := bne_eq_false_iff_eq.mpr c11
      clear c11
      by_cases c12 : t116 = 0
      ·rw [if_pos c12] at H
       have c12b0 : (t116 == 0) = true := beq_iff_eq.mpr c12
       have c12b1 : (t116 != 0) = false := bne_eq_false_iff_eq.mpr c12
       clear c12
       by_cases c13 : t120 = 0
       ·rw [if_pos c13] at H
        have c13b0 : (t120 == 0) = true := beq_iff_eq.mpr c13
        have c13b1 : (t120 != 0) = false := bne_eq_false_iff_eq.mpr c13
        clear c13
        by_cases c14 : t117 = 2024
        ·rw [if_pos c14] at H
         have c14b0 : (t117 == 2024) = true := beq_iff_eq.mpr c14
         have c14b1 : (t117 != 2024) = false := bne_eq_false_iff_eq.mpr c14
         clear c14
         by_cases c15 : t118 = 2
         ·rw [if_pos c15] at H
          have c15b0 : (t118 == 2) = true := beq_iff_eq.mpr c15
          have c15b1 : (t118 != 2) = false := bne_eq_false_iff_eq.mpr c15
          clear c15
          obtain rfl := Option.some.inj H
          simp only [Option.some.injEq, Prod.mk.injEq] at H
          obtain ⟨rfl⟩ := H
          go_enter Tryd.func16, Tryd.ntmps16
          go_wp2_with (first | ((with_reducible refine gate_callee (f := 58) rfl ?_); refine goesL_ (some 13) rfl rfl Tryd.func58 (by kernel_rfl) rfl #[.string (⟨#[97, 98, 32, 32]⟩ : ByteArray)] rfl (by (try simp only [List.map_toArray, List.map_cons, List.map_nil]); first | done | rfl | (simp only [List.length_drop, List.length_take]; rfl)) ?_; (with_reducible refine (cabinetryref01_Text.calls (⟨#[97, 98, 32, 32]⟩ : ByteArray) t101 t102 t103 _ A1.out).mono ?_); rintro e w16 ⟨rfl, hb⟩; refine ⟨_, rfl, ?_⟩; have n0_ := Aside0.mk (below_step (by repeat (first | (with_reducible first | exact HB.out | apply below_alloc | apply pw_below_drewN | apply below_drew1) | exact HB.out)) hb); clear HB; have HB := n0_; clear n0_; (try clear hb); (try clear hb2); (try clear hk); (try clear hi)) | ((with_reducible refine gate_callee (f := 58) rfl ?_); refine goesL_ (some 14) rfl rfl Tryd.func58 (by kernel_rfl) rfl #[.string (⟨#[99]⟩ : ByteArray)] rfl (by (try simp only [List.map_toArray, List.map_cons, List.map_nil]); first | done | rfl | (simp only [List.length_drop, List.length_take]; rfl)) ?_; (with_reducible refine (cabinetryref01_Text.calls (⟨#[99]⟩ : ByteArray) t104 t105 t106 _ A2.out).mono ?_); rintro e w17 ⟨rfl, hb⟩; refine ⟨_, rfl, ?_⟩; have n0_ := Aside0.mk (below_step (by repeat (first | (with_reducible first | exact HB.out | apply below_alloc | apply pw_below_drewN | apply below_drew1) | exact HB.out)) hb); clear HB; have HB := n0_; clear n0_; (try clear hb); (try clear hb2); (try clear hk); (try clear hi)) | ((with_reducible refine gate_callee (f := 17) rfl ?_); refine goesL_ (some 15) rfl rfl Tryd.func17 (by kernel_rfl) rfl #[.int .i64 1, .agg #[.int .i64 t101, .int .i64 t102, .string t103], .agg #[.int .i64 t104, .int .i64 t105, .string t106]] rfl (by (try simp only [List.map_toArray, List.map_cons, List.map_nil]); first | done | rfl | (simp only [List.length_drop, List.length_take]; rfl)) ?_; (with_reducible refine (val_Do.calls 1 t101 t102 t103 t104 t105 t106 t107 t108 t109 t110 t111 _ A3.out).mono ?_); rintro e w18 ⟨rfl, hb⟩; refine ⟨_, rfl, ?_⟩; have n0_ := Aside0.mk (below_step (by repeat (first | (with_reducible first | exact HB.out | apply below_alloc | apply pw_below_drewN | apply below_drew1) | exact HB.out)) hb); clear HB; have HB := n0_; clear n0_; (try clear hb); (try clear hb2); (try clear hk); (try clear hi)) | ((with_reducible refine gate_dst (N := 1) rfl ?_); refine box_event ?hg (N := 1) ?hd (cs := #[.int .i64 0, .int .i64 0, .string (⟨#[]⟩ : ByteArray)]) (t := 23) ?hr ?_; (case hd => rfl); (case hg => rfl); (case hr => first | (go_simp; done) | (go_simp; rfl)); intro gb112 hg w19 hbox hb; have n0_ := Aside0.mk (below_step (by repeat (first | (with_reducible first | exact HB.out | apply below_alloc | apply pw_below_drewN | apply below_drew1) | exact HB.out)) hb); have n1_ := Aside0.mk (hbox); have n2_ := Aside0.mk ((by rw [hg]; exact (below_size (by repeat (first | (with_reducible first | exact HB.out | apply below_alloc | apply pw_below_drewN | apply below_drew1) | exact HB.out))) : w.heap.size ≤ gb112)); have n3_ := Aside0.mk ((by rw [hg]; exact (below_size (by repeat (first | (with_reducible first | exact HB.out | apply below_alloc | apply pw_below_drewN | apply below_drew1) | exact HB.out))) : w.heap.size ≤ gb112)); clear HB; have HB := n0_; have BK112 := n1_; have GW112 := n2_; have GE112 := n3_; clear n0_ n1_ n2_ n3_; clear hb hbox hg; have hcz20_0 : w19.cell? ⟨gb112, 0, none⟩ = some (.int .i64 0) := (blk_cell BK112.out 0).trans rfl; have hcz20_1 : w19.cell? ⟨gb112, 1, none⟩ = some (.int .i64 0) := (blk_cell BK112.out 1).trans rfl; have hcz20_2 : w19.cell? ⟨gb112, 2, none⟩ = some (.string (⟨#[]⟩ : ByteArray)) := (blk_cell BK112.out 2).trans rfl; have hfz20_0 := blk_frozen BK112.out 0; have hfz20_1 := blk_frozen BK112.out 1; have hfz20_2 := blk_frozen BK112.out 2) | ((with_reducible refine gate_callee (f := 22) rfl ?_); refine goesL_ (some 20) rfl rfl Tryd.func22 (by kernel_rfl) rfl #[.int .i64 2024, .int .i64 1, .int .i64 31] rfl (by (try simp only [List.map_toArray, List.map_cons, List.map_nil]); first | done | rfl | (simp only [List.length_drop, List.length_take]; rfl)) ?_; (with_reducible refine (val_Days.calls k 2024 1 31 t113 t114 _ A4.out).mono ?_); rintro e w21 ⟨rfl, hb⟩; refine ⟨_, rfl, ?_⟩; have n0_ := Aside0.mk (blk_below (g := gb112) (o := .cells #[.int .i64 t107, .int .i64 t108, .string t109] 23 (0, 0)) (by (with_reducible repeat (first | refine blk_drewN ?_ _ | refine blk_drew ?_ | refine blk_alloc ?_ _)); refine blk_put (cs := #[.int .i64 t107, .int .i64 t108, .string (⟨#[]⟩ : ByteArray)]) ?_ 2 _ rfl; (with_reducible repeat (first | refine blk_drewN ?_ _ | refine blk_drew ?_ | refine blk_alloc ?_ _)); refine blk_put (cs := #[.int .i64 t107, .int .i64 0, .string (⟨#[]⟩ : ByteArray)]) ?_ 1 _ rfl; (with_reducible repeat (first | refine blk_drewN ?_ _ | refine blk_drew ?_ | refine blk_alloc ?_ _)); refine blk_put (cs := #[.int .i64 0, .int .i64 0, .string (⟨#[]⟩ : ByteArray)]) ?_ 0 _ rfl; (with_reducible repeat (first | refine blk_drewN ?_ _ | refine blk_drew ?_ | refine blk_alloc ?_ _)); exact BK112.out) hb); have n1_ := Aside0.mk (below_step (by repeat (first | (with_reducible first | exact HB.out | apply below_alloc | apply pw_below_drewN | apply below_drew1 | refine below_set ?_ GE112.out) | exact HB.out)) hb); clear BK112; clear HB; have BK112 := n0_; have HB := n1_; clear n0_ n1_; (try clear hb); (try clear hb2); (try clear hk); (try clear hi)) | ((with_reducible refine gate_callee (f := 40) rfl ?_); refine goesL_ (some 25) rfl rfl Tryd.func40 (by kernel_rfl) rfl #[.int .i64 t113, .int .i64 1] rfl (by (try simp only [List.map_toArray, List.map_cons, List.map_nil]); first | done | rfl | (simp only [List.length_drop, List.length_take]; rfl)) ?_; (with_reducible refine (val_Months.calls k t113 1 t115 t116 _ A5.out).mono ?_); rintro e w22 ⟨rfl, hb⟩; refine ⟨_, rfl, ?_⟩; have n0_ := Aside0.mk (blk_below (g := gb112) (o := .cells #[.int .i64 t107, .int .i64 t108, .string t109] 23 (0, 0)) (by (with_reducible repeat (first | refine blk_drewN ?_ _ | refine blk_drew ?_ | refine blk_alloc ?_ _)); exact BK112.out) hb); have n1_ := Aside0.mk (below_step (by repeat (first | (with_reducible first | exact HB.out | apply below_alloc | apply pw_below_drewN | apply below_drew1 | refine below_set ?_ GE112.out) | exact HB.out)) hb); clear BK112; clear HB; have BK112 := n0_; have HB := n1_; clear n0_ n1_; (try clear hb); (try clear hb2); (try clear hk); (try clear hi)) | ((with_reducible refine gate_callee (f := 24) rfl ?_); refine goesL_ (some 30) rfl rfl Tryd.func24 (by kernel_rfl) rfl #[.int .i64 t115] rfl (by (try simp only [List.map_toArray, List.map_cons, List.map_nil]); first | done | rfl | (simp only [List.length_drop, List.length_take]; rfl)) ?_; (with_reducible refine (val_Split.calls k t115 t117 t118 t119 t120 _ A6.out).mono ?_); rintro e w23 ⟨rfl, hb⟩; refine ⟨_, rfl, ?_⟩; have n0_ := Aside0.mk (blk_below (g := gb112) (o := .cells #[.int .i64 t107, .int .i64 t108, .string t109] 23 (0, 0)) (by (with_reducible repeat (first | refine blk_drewN ?_ _ | refine blk_drew ?_ | refine blk_alloc ?_ _)); exact BK112.out) hb); have n1_ := Aside0.mk (below_step (by repeat (first | (with_reducible first | exact HB.out | apply below_alloc | apply pw_below_drewN | apply below_drew1 | refine below_set ?_ GE112.out) | exact HB.out)) hb); clear BK112; clear HB; have BK112 := n0_; have HB := n1_; clear n0_ n1_; (try clear hb); (try clear hb2); (try clear hk); (try clear hi); have hcz24_0 : w23.cell? ⟨gb112, 0, none⟩ = some (.int .i64 t107) := (blk_cell BK112.out 0).trans rfl; have hcz24_1 : w23.cell? ⟨gb112, 1, none⟩ = some (.int .i64 t108) := (blk_cell BK112.out 1).trans rfl; have hcz24_2 : w23.cell? ⟨gb112, 2, none⟩ = some (.string t109) := (blk_cell BK112.out 2).trans rfl; have hfz24_0 := blk_frozen BK112.out 0; have hfz24_1 := blk_frozen BK112.out 1; have hfz24_2 := blk_frozen BK112.out 2))
          go_ret
          exact ⟨by first | rfl | (simp [errW_none, errW_some] <;> rfl) | (simp [*, errW_none, errW_some] <;> rfl), by repeat (first | (with_reducible first | exact HB.out | apply below_alloc | apply pw_below_drewN | apply below_drew1 | refine below_set ?_ GE112.out) | exact HB.out)⟩
         ·rw [if_neg c15] at H
          have c15b0 : (t118 == 2) = false := beq_eq_false_iff_ne.mpr c15
          have c15b1 : (t118 != 2) = true := bne_iff_ne.mpr c15
          obtain rfl := Option.some.inj H
          exact absurd hr_.out (by decide)
        ·rw [if_neg c14] at H
         have c14b0 : (t117 == 2024) = false := beq_eq_false_iff_ne.mpr c14
         have c14b1 : (t117 != 2024) = true := bne_iff_ne.mpr c14
         obtain rfl := Option.some.inj H
         exact absurd hr_.out (by decide)
       ·rw [if_neg c13] at H
        have c13b0 : (t120 == 0) = false := beq_eq_false_iff_ne.mpr c13
        have c13b1 : (t120 != 0) = true := bne_iff_ne.mpr c13
        obtain rfl := Option.some.inj H
        exact absurd hr_.out (by decide)
      ·rw [if_neg c12] at H
       have c12b0 : (t116 == 0) = false := beq_eq_false_iff_ne.mpr c12
       have c12b1 : (t116 != 0) = true := bne_iff_ne.mpr c12
       obtain rfl := Option.some.inj H
       exact absurd hr_.out (by decide)
     ·rw [if_neg c11] at H
      have c11b0 : (t114 == 0) = false := beq_eq_false_iff_ne.mpr c11
      have c11b1 : (t114 != 0) = true := bne_iff_ne.mpr c11
      obtain rfl := Option.some.inj H
      exact absurd hr_.out (by decide)
    ·rw [if_neg c10] at H
     have c10b0 : (t109.toList == ([97, 98, 99, 32, 32] : List UInt8)) = false := beq_eq_false_iff_ne.mpr c10
     have c10b1 : (t109.toList != ([97, 98, 99, 32, 32] : List UInt8)) = true := bne_iff_ne.mpr c10
     obtain rfl := Option.some.inj H
     exact absurd hr_.out (by decide)
   ·rw [if_neg c9] at H
    have c9b0 : (t107 == 4) = false := beq_eq_false_iff_ne.mpr c9
    have c9b1 : (t107 != 4) = true := bne_iff_ne.mpr c9
    obtain rfl := Option.some.inj H
    exact absurd hr_.out (by decide)
  ·rw [if_neg c8] at H
   have c8b0 : (t110 == 0) = false := beq_eq_false_iff_ne.mpr c8
   have c8b1 : (t110 != 0) = true := bne_iff_ne.mpr c8
   obtain rfl := Option.some.inj H
   exact absurd hr_.out (by decide)
 ·rw [if_neg c7] at H
  have c7b0 : (t111 == 0) = false := beq_eq_false_iff_ne.mpr c7
  have c7b1 : (t111 != 0) = true := bne_iff_ne.mpr c7
  obtain rfl := Option.some.inj H
  exact absurd hr_.out (by decide)

end Go.Proofs.YtplbjaandkdhjaaDoor.PC
