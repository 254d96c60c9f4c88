-- Written by a program of this session (wip/merge.py): the texts of this claim, joined.
import Derived.Test.YtnkejhfbkgfedaaDoorMKeyRanges1
import Derived.Test.YtnkejhfbkgfedaaDoorMKeyRanges2
import Derived.Test.YtnkejhfbkgfedaaDoorMKeyRanges3
import Derived.Test.YtnkejhfbkgfedaaDoorMKeyRanges4
import Derived.Test.YtnkejhfbkgfedaaDoorMKeyRanges9
import Derived.Test.YtnkejhfbkgfedaaDoorMKeyRanges10
import Derived.Test.YtnkejhfbkgfedaaDoorMKeyRanges11
import Derived.Test.YtnkejhfbkgfedaaDoorMKeyRanges17
import Derived.Test.YtnkejhfbkgfedaaDoorMKeyRanges21
import Derived.Test.YtnkejhfbkgfedaaDoorMKeyRanges23
namespace Go.Proofs.YtnkejhfbkgfedaaDoor.PA
end Go.Proofs.YtnkejhfbkgfedaaDoor.PA
namespace Go.Proofs.YtnkejhfbkgfedaaDoor.PB
end Go.Proofs.YtnkejhfbkgfedaaDoor.PB
namespace Go.Proofs.YtnkejhfbkgfedaaDoor.PC
end Go.Proofs.YtnkejhfbkgfedaaDoor.PC
namespace Go.Proofs.YtnkejhfbkgfedaaDoor.H1
end Go.Proofs.YtnkejhfbkgfedaaDoor.H1
namespace Go.Proofs.YtnkejhfbkgfedaaDoor.L1
end Go.Proofs.YtnkejhfbkgfedaaDoor.L1
namespace Go.Proofs.YtnkejhfbkgfedaaDoor.PA
open Go.RowKit Go.Proofs.YtnkejhfbkgfedaaDoorW.PrintWords Go.Proofs.YtnkejhfbkgfedaaDoorW.PrintLast Go.Proofs.YtnkejhfbkgfedaaDoorW.PrintMore
attribute [local go_sem] max2_int min2_int max_two min_two max_three min_three max_four min_four   -- for this text's walks alone
set_option linter.unusedVariables false
set_option linter.unusedSimpArgs false
mutual
def key_bounds.j0 : Nat → ByteArray → Bool → Int → Int → ByteArray → ByteArray → ByteArray → ByteArray → Bool → Int → Int → ByteArray → Option (ByteArray × ByteArray)
 | 0, _, _, _, _, _, _, _, _, _, _, _, _ => none
 | k + 1, x0, x2, x3, x4, x12, x13, x15, x16, x18, x287000, x287001, x287002 => if x18 = true then (if x0.toList = ([61] : List UInt8) then (key_bounds.j1 k x0 x2 x3 x4 x12 x13 x15 x16 x18 false x287000 x287001 x287002) else (key_bounds.j1 k x0 x2 x3 x4 x12 x13 x15 x16 x18 (x0.toList != ([61, 61] : List UInt8)) x287000 x287001 x287002)) else (key_bounds.j1 k x0 x2 x3 x4 x12 x13 x15 x16 x18 false x287000 x287001 x287002)
def key_bounds.j1 : Nat → ByteArray → Bool → Int → Int → ByteArray → ByteArray → ByteArray → ByteArray → Bool → Bool → Int → Int → ByteArray → Option (ByteArray × ByteArray)
 | 0, _, _, _, _, _, _, _, _, _, _, _, _, _ => none
 | k + 1, x0, x2, x3, x4, x12, x13, x15, x16, x18, x59, x287000, x287001, x287002 => if x59 = true then (if x4 = 0 then ((key_weights.f k x287002 x3 x4).bind fun t295 => (if x12.size + t295.size ≤ 9223372036854775807 then ((key_Behind.f k (x12 ++ t295)).bind fun bt296 => (if bt296.1.toList = ([] : List UInt8) then (key_bounds.j2 k x0 x2 x3 x4 x12 x13 (x12 ++ t295) x13 x18 x287000 x287001 x287002) else (if (Op.bytesLess x13.toList bt296.1.toList) = true then (key_bounds.j2 k x0 x2 x3 x4 x12 x13 (x12 ++ t295) x13 x18 x287000 x287001 x287002) else (key_bounds.j2 k x0 x2 x3 x4 x12 x13 (x12 ++ t295) bt296.1 x18 x287000 x287001 x287002)))) else (none))) else (some (x12, x13))) else (key_bounds.j2 k x0 x2 x3 x4 x12 x13 x15 x16 x18 x287000 x287001 x287002)
def key_bounds.j2 : Nat → ByteArray → Bool → Int → Int → ByteArray → ByteArray → ByteArray → ByteArray → Bool → Int → Int → ByteArray → Option (ByteArray × ByteArray)
 | 0, _, _, _, _, _, _, _, _, _, _, _, _ => none
 | k + 1, x0, x2, x3, x4, x12, x13, x15, x16, x18, x287000, x287001, x287002 => if x0.toList = ([60] : List UInt8) then (if x18 = true then (some (x12, x16)) else (some (x12, x15))) else (if x0.toList = ([60, 61] : List UInt8) then (some (x12, x16)) else (if x0.toList = ([62] : List UInt8) then (if x18 = true then (some (x15, x13)) else (some (x16, x13))) else (if x0.toList = ([62, 61] : List UInt8) then (some (x15, x13)) else (if x0.toList = ([61] : List UInt8) then (if x287000 = 4 then ((key_near.f k x287002 x2 x3 x4).bind fun bt298 => (some (bt298.1, bt298.2))) else (some (x15, x16))) else (some (x15, x16))))))
end
def key_bounds.f (k : Nat) (a0 : ByteArray) (a1_0 : Int) (a1_1 : Int) (a1_2 : ByteArray) (a2 : Bool) (a3 : Int) (a4 : Int) : Option (ByteArray × ByteArray) := (some (([(a1_0) % 256] : List Int) : List Int)).bind fun y287 => ((key_Behind.f k (strOfNums y287)).bind fun bt290 => ((key_plain.f k a1_0 a1_1 a1_2 a3 a4).bind fun t292 => ((key_Behind.f k t292).bind fun bt293 => (if a1_0 = 4 then (if a4 = 0 then (key_bounds.j0 k a0 a2 a3 a4 (strOfNums y287) bt290.1 t292 bt293.1 (decide ((a1_2.size : Int) ≥ 48)) a1_0 a1_1 a1_2) else (key_bounds.j0 k a0 a2 a3 a4 (strOfNums y287) bt290.1 t292 bt293.1 true a1_0 a1_1 a1_2)) else (key_bounds.j0 k a0 a2 a3 a4 (strOfNums y287) bt290.1 t292 bt293.1 false a1_0 a1_1 a1_2)))))
set_option maxHeartbeats 8000000 in
set_option maxRecDepth 100000 in
theorem key_bounds.calls (k : Nat) (a0 : ByteArray) (a1_0 : Int) (a1_1 : Int) (a1_2 : ByteArray) (a2 : Bool) (a3 : Int) (a4 : Int) (r1 : ByteArray) (r2 : ByteArray) (w : World) (h : key_bounds.f k a0 a1_0 a1_1 a1_2 a2 a3 a4 = some (r1, r2)) (hm_ : Aside0 (Hm.HM w)) :
  Calls Tryd.prog 59 #[.string a0, .agg #[.int .i64 a1_0, .int .i64 a1_1, .string a1_2], .bool a2, .int .i64 a3, .int .i64 a4] w fun e w' => e = .returned (.tuple #[.string r1, .string r2]) ∧ Below w.heap.size w w' := by
 have hu23 := Tryd.underlying23
 have HB := Aside0.mk (Below.refl w.heap.size w)
 have H : ((some (([(a1_0) % 256] : List Int) : List Int)).bind fun y287 => ((key_Behind.f k (strOfNums y287)).bind fun bt290 => ((key_plain.f k a1_0 a1_1 a1_2 a3 a4).bind fun t292 => ((key_Behind.f k t292).bind fun bt293 => (if a1_0 = 4 then (if a4 = 0 then (key_bounds.j0 k a0 a2 a3 a4 (strOfNums y287) bt290.1 t292 bt293.1 (decide ((a1_2.size : Int) ≥ 48)) a1_0 a1_1 a1_2) else (key_bounds.j0 k a0 a2 a3 a4 (strOfNums y287) bt290.1 t292 bt293.1 true a1_0 a1_1 a1_2)) else (key_bounds.j0 k a0 a2 a3 a4 (strOfNums y287) bt290.1 t292 bt293.1 false a1_0 a1_1 a1_2)))))) = some (r1, r2) := h
 clear h
 obtain ⟨y287, hy287⟩ : ∃ y_ : List Int, y_ = (([(a1_0) % 256] : List Int)) := ⟨_, rfl⟩
 replace H : ((key_Behind.f k (strOfNums y287)).bind fun bt290 => ((key_plain.f k a1_0 a1_1 a1_2 a3 a4).bind fun t292 => ((key_Behind.f k t292).bind fun bt293 => (if a1_0 = 4 then (if a4 = 0 then (key_bounds.j0 k a0 a2 a3 a4 (strOfNums y287) bt290.1 t292 bt293.1 (decide ((a1_2.size : Int) ≥ 48)) a1_0 a1_1 a1_2) else (key_bounds.j0 k a0 a2 a3 a4 (strOfNums y287) bt290.1 t292 bt293.1 true a1_0 a1_1 a1_2)) else (key_bounds.j0 k a0 a2 a3 a4 (strOfNums y287) bt290.1 t292 bt293.1 false a1_0 a1_1 a1_2))))) = some (r1, r2) := by first | (rw [hy287]; with_reducible exact H) | (have H2_ := (Option.bind_some _ _).symm.trans H; rw [hy287]; with_reducible exact H2_) | (have H2_ := (Option.bind_some _ _).symm.trans H; with_reducible exact H2_) | with_reducible exact H | (rw [hy287]; exact H) | exact H
 have Ny287 := Aside0.mk hy287
 clear hy287
 replace H := Option.bind_eq_some_iff.mp H
 obtain ⟨⟨t290, t291⟩, A60, H⟩ := H
 replace H : ((key_plain.f k a1_0 a1_1 a1_2 a3 a4).bind fun t292 => ((key_Behind.f k t292).bind fun bt293 => (if a1_0 = 4 then (if a4 = 0 then (key_bounds.j0 k a0 a2 a3 a4 (strOfNums y287) t290 t292 bt293.1 (decide ((a1_2.size : Int) ≥ 48)) a1_0 a1_1 a1_2) else (key_bounds.j0 k a0 a2 a3 a4 (strOfNums y287) t290 t292 bt293.1 true a1_0 a1_1 a1_2)) else (key_bounds.j0 k a0 a2 a3 a4 (strOfNums y287) t290 t292 bt293.1 false a1_0 a1_1 a1_2)))) = some (r1, r2) := H
 have A6 := Aside0.mk A60
 clear A60
 replace H := Option.bind_eq_some_iff.mp H
 obtain ⟨t292, A70, H⟩ := H
 replace H : ((key_Behind.f k t292).bind fun bt293 => (if a1_0 = 4 then (if a4 = 0 then (key_bounds.j0 k a0 a2 a3 a4 (strOfNums y287) t290 t292 bt293.1 (decide ((a1_2.size : Int) ≥ 48)) a1_0 a1_1 a1_2) else (key_bounds.j0 k a0 a2 a3 a4 (strOfNums y287) t290 t292 bt293.1 true a1_0 a1_1 a1_2)) else (key_bounds.j0 k a0 a2 a3 a4 (strOfNums y287) t290 t292 bt293.1 false a1_0 a1_1 a1_2))) = some (r1, r2) := H
 have A7 := Aside0.mk A70
 clear A70
 replace H := Option.bind_eq_some_iff.mp H
 obtain ⟨⟨t293, t294⟩, A80, H⟩ := H
 replace H : (if a1_0 = 4 then (if a4 = 0 then (key_bounds.j0 k a0 a2 a3 a4 (strOfNums y287) t290 t292 t293 (decide ((a1_2.size : Int) ≥ 48)) a1_0 a1_1 a1_2) else (key_bounds.j0 k a0 a2 a3 a4 (strOfNums y287) t290 t292 t293 true a1_0 a1_1 a1_2)) else (key_bounds.j0 k a0 a2 a3 a4 (strOfNums y287) t290 t292 t293 false a1_0 a1_1 a1_2)) = some (r1, r2) := H
 have A8 := Aside0.mk A80
 clear A80
 have HC9 := Aside0.mk H
 clear H
 go_enter Tryd.func59, Tryd.ntmps59
 go_upto_region 5 with (first | ((with_reducible refine gate_dst (N := 6) rfl ?_); (try (refine gate_guard (by rfl) ?_; dsimp only)); refine box_event ?hg (N := 6) ?hd (cs := #[.int .i64 a1_0, .int .i64 a1_1, .string a1_2]) (t := 23) ?hr ?_; (case hd => rfl); (case hg => rfl); (case hr => first | (go_simp; done) | (go_simp; rfl)); intro gb286 hg w10 hbox hb; have n0_ := Aside0.mk (below_step (by repeat (first | (with_reducible first | exact HB.out | apply below_alloc | apply pw_below_drewN | apply below_drew1) | exact HB.out)) hb); have n1_ := Aside0.mk (hbox); have n2_ := Aside0.mk ((by rw [hg]; exact (below_size (by repeat (first | (with_reducible first | exact HB.out | apply below_alloc | apply pw_below_drewN | apply below_drew1) | exact HB.out))) : w.heap.size ≤ gb286)); have n3_ := Aside0.mk ((by rw [hg]; exact (below_size (by repeat (first | (with_reducible first | exact HB.out | apply below_alloc | apply pw_below_drewN | apply below_drew1) | exact HB.out))) : w.heap.size ≤ gb286)); clear HB; have HB := n0_; have BK286 := n1_; have GW286 := n2_; have GE286 := n3_; clear n0_ n1_ n2_ n3_; clear hb hbox hg; have hcz11_0 : w10.cell? ⟨gb286, 0, none⟩ = some (.int .i64 a1_0) := (blk_cell BK286.out 0).trans rfl; have hcz11_1 : w10.cell? ⟨gb286, 1, none⟩ = some (.int .i64 a1_1) := (blk_cell BK286.out 1).trans rfl; have hcz11_2 : w10.cell? ⟨gb286, 2, none⟩ = some (.string a1_2) := (blk_cell BK286.out 2).trans rfl; have hfz11_0 := blk_frozen BK286.out 0; have hfz11_1 := blk_frozen BK286.out 1; have hfz11_2 := blk_frozen BK286.out 2) | ((with_reducible refine gate_dst (N := 22) rfl ?_); (try (refine gate_guard (by rfl) ?_; dsimp only)); refine Kd.R_lit (Kd.int .u8) _ 5 ?hg (N := 22) ?hd (xs := ([(a1_0) % 256] : List Int)) (inner := [.int .u8 ((a1_0) % 256)]) (ok := fun _ => True) (okp := fun _ => True) ?hr ?hp (fun _ hk => hk) trivial (Below.refl _ _) (Nat.le_refl _) (by simp) ?_; (case hd => rfl); (case hg => rfl); (case hr => first | (go_simp; done) | (go_simp; rfl)); (case hp => exact (Reps.one (show Kd.M (Kd.int .u8) _ _ _ ((a1_0) % 256) [.int .u8 ((a1_0) % 256)] from rfl) (Reps.none _ _))); intro v288 w12 ho13 hb hg_ hnew_; clear hg_ hnew_; (first | rw [← Ny287.out] at ho13 | (simp only [Int.reduceToNat] at ho13; rw [← Ny287.out] at ho13)); have n0_ := Aside0.mk (Kd.R_lower ho13 (below_size (by repeat (first | (with_reducible first | exact HB.out | apply below_alloc | apply pw_below_drewN | apply below_drew1 | refine below_set ?_ GE286.out) | exact HB.out)))); have n1_ := Aside0.mk (blk_below (g := gb286) (o := .cells #[.int .i64 a1_0, .int .i64 a1_1, .string a1_2] 23 (0, 0)) (by (with_reducible repeat (first | refine blk_drewN ?_ _ | refine blk_drew ?_ | refine blk_alloc ?_ _)); exact BK286.out) hb); have n2_ := Aside0.mk (below_step (by repeat (first | (with_reducible first | exact HB.out | apply below_alloc | apply pw_below_drewN | apply below_drew1 | refine below_set ?_ GE286.out) | exact HB.out)) hb); clear BK286; clear HB; have HO289 := n0_; have BK286 := n1_; have HB := n2_; clear n0_ n1_ n2_; clear hb ho13; have hcv14 := own_string (P := Tryd.prog) Tryd.underlying62 Tryd.underlying5 Tryd.underlying9 (Kd.own_of_R HO289.out)) | ((with_reducible refine gate_callee (f := 34) rfl ?_); refine goesL_ (some 26) rfl rfl Tryd.func34 (by kernel_rfl) rfl #[.string (strOfNums y287)] rfl (by (try simp only [List.map_toArray, List.map_cons, List.map_nil]); first | done | rfl | (simp only [List.length_drop, List.length_take]; rfl)) ?_; (with_reducible refine (key_Behind.calls k (strOfNums y287) t290 t291 _ A6.out).mono ?_); rintro e w15 ⟨rfl, hb⟩; refine ⟨_, rfl, ?_⟩; have n0_ := Aside0.mk (Kd.R_below (by (with_reducible repeat (first | apply Kd.R_alloc | apply Kd.R_drewN | apply Kd.R_drew)); exact HO289.out) hb); have n1_ := Aside0.mk (blk_below (g := gb286) (o := .cells #[.int .i64 a1_0, .int .i64 a1_1, .string a1_2] 23 (0, 0)) (by (with_reducible repeat (first | refine blk_drewN ?_ _ | refine blk_drew ?_ | refine blk_alloc ?_ _)); exact BK286.out) hb); have n2_ := Aside0.mk (below_step (by repeat (first | (with_reducible first | exact HB.out | apply below_alloc | apply pw_below_drewN | apply below_drew1 | refine below_set ?_ GE286.out) | exact HB.out)) hb); clear HO289; clear BK286; clear HB; have HO289 := n0_; have BK286 := n1_; have HB := n2_; clear n0_ n1_ n2_; (try clear hb); (try clear hb2); (try clear hk); (try clear hi); have hcz16_0 : w15.cell? ⟨gb286, 0, none⟩ = some (.int .i64 a1_0) := (blk_cell BK286.out 0).trans rfl; have hcz16_1 : w15.cell? ⟨gb286, 1, none⟩ = some (.int .i64 a1_1) := (blk_cell BK286.out 1).trans rfl; have hcz16_2 : w15.cell? ⟨gb286, 2, none⟩ = some (.string a1_2) := (blk_cell BK286.out 2).trans rfl; have hfz16_0 := blk_frozen BK286.out 0; have hfz16_1 := blk_frozen BK286.out 1; have hfz16_2 := blk_frozen BK286.out 2) | ((with_reducible refine gate_callee (f := 54) rfl ?_); refine goesL_ (some 32) rfl rfl Tryd.func54 (by kernel_rfl) rfl #[.agg #[.int .i64 a1_0, .int .i64 a1_1, .string a1_2], .int .i64 a3, .int .i64 a4] rfl (by (try simp only [List.map_toArray, List.map_cons, List.map_nil]); first | done | rfl | (simp only [List.length_drop, List.length_take]; rfl)) ?_; (with_reducible refine (key_plain.calls k a1_0 a1_1 a1_2 a3 a4 t292 _ A7.out (Hm.keep hm_ (by repeat (first | (with_reducible first | exact HB.out | apply below_alloc | apply pw_below_drewN | apply below_drew1 | refine below_set ?_ GE286.out) | exact HB.out)))).mono ?_); rintro e w17 ⟨rfl, hb⟩; refine ⟨_, rfl, ?_⟩; have n0_ := Aside0.mk (Kd.R_below (by (with_reducible repeat (first | apply Kd.R_alloc | apply Kd.R_drewN | apply Kd.R_drew)); exact HO289.out) hb); have n1_ := Aside0.mk (blk_below (g := gb286) (o := .cells #[.int .i64 a1_0, .int .i64 a1_1, .string a1_2] 23 (0, 0)) (by (with_reducible repeat (first | refine blk_drewN ?_ _ | refine blk_drew ?_ | refine blk_alloc ?_ _)); exact BK286.out) hb); have n2_ := Aside0.mk (below_step (by repeat (first | (with_reducible first | exact HB.out | apply below_alloc | apply pw_below_drewN | apply below_drew1 | refine below_set ?_ GE286.out) | exact HB.out)) hb); clear HO289; clear BK286; clear HB; have HO289 := n0_; have BK286 := n1_; have HB := n2_; clear n0_ n1_ n2_; (try clear hb); (try clear hb2); (try clear hk); (try clear hi)) | ((with_reducible refine gate_callee (f := 34) rfl ?_); refine goesL_ (some 35) rfl rfl Tryd.func34 (by kernel_rfl) rfl #[.string t292] rfl (by (try simp only [List.map_toArray, List.map_cons, List.map_nil]); first | done | rfl | (simp only [List.length_drop, List.length_take]; rfl)) ?_; (with_reducible refine (key_Behind.calls k t292 t293 t294 _ A8.out).mono ?_); rintro e w18 ⟨rfl, hb⟩; refine ⟨_, rfl, ?_⟩; have n0_ := Aside0.mk (Kd.R_below (by (with_reducible repeat (first | apply Kd.R_alloc | apply Kd.R_drewN | apply Kd.R_drew)); exact HO289.out) hb); have n1_ := Aside0.mk (blk_below (g := gb286) (o := .cells #[.int .i64 a1_0, .int .i64 a1_1, .string a1_2] 23 (0, 0)) (by (with_reducible repeat (first | refine blk_drewN ?_ _ | refine blk_drew ?_ | refine blk_alloc ?_ _)); exact BK286.out) hb); have n2_ := Aside0.mk (below_step (by repeat (first | (with_reducible first | exact HB.out | apply below_alloc | apply pw_below_drewN | apply below_drew1 | refine below_set ?_ GE286.out) | exact HB.out)) hb); clear HO289; clear BK286; clear HB; have HO289 := n0_; have BK286 := n1_; have HB := n2_; clear n0_ n1_ n2_; (try clear hb); (try clear hb2); (try clear hk); (try clear hi)))
 (try simp only [Act.put, List.setIfInBounds_toArray, List.set_cons_zero, List.set_cons_succ])
 go_cut [18] (fun v18 wc => ∃ (kq : Nat) (x18_8 : Bool), v18 = .bool x18_8 ∧ Aside0 (key_bounds.j0 kq a0 a2 a3 a4 (strOfNums y287) t290 t292 t293 x18_8 a1_0 a1_1 a1_2 = some (r1, r2)) ∧ Aside0 (kq ≤ k) ∧ Aside0 (wc.heap[gb286]? = some (.cells #[.int .i64 a1_0, .int .i64 a1_1, .string a1_2] 23 (0, 0))) ∧ Aside0 (Below w.heap.size w wc))
 case first =>
  have H := HC9.out
  clear HC9
  by_cases c19 : a1_0 = 4
  ·rw [if_pos c19] at H
   have c19b0 : (a1_0 == 4) = true := beq_iff_eq.mpr c19
   have c19b1 : (a1_0 != 4) = false := bne_eq_false_iff_eq.mpr c19
   clear c19
   (first | rw [c19b0] | (simp only [i64_w, i32_w]; rw [c19b0]) | skip)
   by_cases c20 : a4 = 0
   ·rw [if_pos c20] at H
    have c20b0 : (a4 == 0) = true := beq_iff_eq.mpr c20
    have c20b1 : (a4 != 0) = false := bne_eq_false_iff_eq.mpr c20
    clear c20
    have H' := Aside0.mk H
    clear H
    have hcz21_0 : w18.cell? ⟨gb286, 0, none⟩ = some (.int .i64 a1_0) := (blk_cell BK286.out 0).trans rfl
    have hcz21_1 : w18.cell? ⟨gb286, 1, none⟩ = some (.int .i64 a1_1) := (blk_cell BK286.out 1).trans rfl
    have hcz21_2 : w18.cell? ⟨gb286, 2, none⟩ = some (.string a1_2) := (blk_cell BK286.out 2).trans rfl
    have hfz21_0 := blk_frozen BK286.out 0
    have hfz21_1 := blk_frozen BK286.out 1
    have hfz21_2 := blk_frozen BK286.out 2
    go_wp2
    go_meet
    case rel => exact ⟨_, (decide ((a1_2.size : Int) ≥ 48)), (by first | rfl | (simp; done) | (simp [*]; done)), H', ⟨by first | omega | exact Nat.le_refl _⟩, ⟨by (with_reducible repeat (first | refine blk_drewN ?_ _ | refine blk_drew ?_ | refine blk_alloc ?_ _)); exact BK286.out⟩, ⟨by repeat (first | (with_reducible first | exact HB.out | apply below_alloc | apply pw_below_drewN | apply below_drew1 | refine below_set ?_ GE286.out) | exact HB.out)⟩⟩
   ·rw [if_neg c20] at H
    have c20b0 : (a4 == 0) = false := beq_eq_false_iff_ne.mpr c20
    have c20b1 : (a4 != 0) = true := bne_iff_ne.mpr c20
    have H' := Aside0.mk H
    clear H
    have hcz22_0 : w18.cell? ⟨gb286, 0, none⟩ = some (.int .i64 a1_0) := (blk_cell BK286.out 0).trans rfl
    have hcz22_1 : w18.cell? ⟨gb286, 1, none⟩ = some (.int .i64 a1_1) := (blk_cell BK286.out 1).trans rfl
    have hcz22_2 : w18.cell? ⟨gb286, 2, none⟩ = some (.string a1_2) := (blk_cell BK286.out 2).trans rfl
    have hfz22_0 := blk_frozen BK286.out 0
    have hfz22_1 := blk_frozen BK286.out 1
    have hfz22_2 := blk_frozen BK286.out 2
    go_wp2
    go_meet
    case rel => exact ⟨_, (true), (by first | rfl | (simp; done) | (simp [*]; done)), H', ⟨by first | omega | exact Nat.le_refl _⟩, ⟨by (with_reducible repeat (first | refine blk_drewN ?_ _ | refine blk_drew ?_ | refine blk_alloc ?_ _)); exact BK286.out⟩, ⟨by repeat (first | (with_reducible first | exact HB.out | apply below_alloc | apply pw_below_drewN | apply below_drew1 | refine below_set ?_ GE286.out) | exact HB.out)⟩⟩
  ·rw [if_neg c19] at H
   have c19b0 : (a1_0 == 4) = false := beq_eq_false_iff_ne.mpr c19
   have c19b1 : (a1_0 != 4) = true := bne_iff_ne.mpr c19
   (first | rw [c19b0] | (simp only [i64_w, i32_w]; rw [c19b0]) | skip)
   have H' := Aside0.mk H
   clear H
   have hcz23_0 : w18.cell? ⟨gb286, 0, none⟩ = some (.int .i64 a1_0) := (blk_cell BK286.out 0).trans rfl
   have hcz23_1 : w18.cell? ⟨gb286, 1, none⟩ = some (.int .i64 a1_1) := (blk_cell BK286.out 1).trans rfl
   have hcz23_2 : w18.cell? ⟨gb286, 2, none⟩ = some (.string a1_2) := (blk_cell BK286.out 2).trans rfl
   have hfz23_0 := blk_frozen BK286.out 0
   have hfz23_1 := blk_frozen BK286.out 1
   have hfz23_2 := blk_frozen BK286.out 2
   go_wp2
   go_meet
   case rel => exact ⟨_, (false), (by first | rfl | (simp; done) | (simp [*]; done)), H', ⟨by first | omega | exact Nat.le_refl _⟩, ⟨by (with_reducible repeat (first | refine blk_drewN ?_ _ | refine blk_drew ?_ | refine blk_alloc ?_ _)); exact BK286.out⟩, ⟨by repeat (first | (with_reducible first | exact HB.out | apply below_alloc | apply pw_below_drewN | apply below_drew1 | refine below_set ?_ GE286.out) | exact HB.out)⟩⟩
 case rest =>
  clear HC9
  try clear c1; try clear hcv1; try clear c2; try clear p2; try clear c3; try clear c5; try clear hcv14; try clear c19; try clear c19b0; try clear c19b1; try clear c20; try clear c20b0; try clear c20b1; try clear hcz11_0; try clear hcz11_1; try clear hcz11_2; try clear hcz16_0; try clear hcz16_1; try clear hcz16_2; try clear hcz21_0; try clear hcz21_1; try clear hcz21_2; try clear hcz22_0; try clear hcz22_1; try clear hcz22_2; try clear hcz23_0; try clear hcz23_1; try clear hcz23_2; try clear hfz11_0; try clear hfz11_1; try clear hfz11_2; try clear hfz16_0; try clear hfz16_1; try clear hfz16_2; try clear hfz21_0; try clear hfz21_1; try clear hfz21_2; try clear hfz22_0; try clear hfz22_1; try clear hfz22_2; try clear hfz23_0; try clear hfz23_1; try clear hfz23_2
  obtain ⟨kq, x18_8, rfl, HA, HJ8, BK286, HB⟩ := hcut
  cases kq with
  | zero => exact absurd HA.out (by simp [key_bounds.j0])
  | succ kj8 =>
   have H := HA.out
   clear HA
   simp only [key_bounds.j0] at H
   have HC24 := Aside0.mk H
   clear H
   go_upto_region 6 with (fail)
   go_cut [59] (fun v59 wc => ∃ (kq : Nat) (x59_23 : Bool), v59 = .bool x59_23 ∧ Aside0 (key_bounds.j1 kq a0 a2 a3 a4 (strOfNums y287) t290 t292 t293 x18_8 x59_23 a1_0 a1_1 a1_2 = some (r1, r2)) ∧ Aside0 (kq ≤ kj8) ∧ Aside0 (wc.heap[gb286]? = some (.cells #[.int .i64 a1_0, .int .i64 a1_1, .string a1_2] 23 (0, 0))) ∧ Aside0 (Below w.heap.size w wc))
   case first =>
    have H := HC24.out
    clear HC24
    by_cases c25 : x18_8 = true
    ·subst c25
     have H1 : (if a0.toList = ([61] : List UInt8) then (key_bounds.j1 kj8 a0 a2 a3 a4 (strOfNums y287) t290 t292 t293 true false a1_0 a1_1 a1_2) else (key_bounds.j1 kj8 a0 a2 a3 a4 (strOfNums y287) t290 t292 t293 true (a0.toList != ([61, 61] : List UInt8)) a1_0 a1_1 a1_2)) = some (r1, r2) := by rw [if_pos rfl] at H; exact H
     clear H
     have H := H1
     clear H1
     by_cases c26 : a0.toList = ([61] : List UInt8)
     ·rw [if_pos c26] at H
      have c26b0 : (a0.toList == ([61] : List UInt8)) = true := beq_iff_eq.mpr c26
      have c26b1 : (a0.toList != ([61] : List UInt8)) = false := bne_eq_false_iff_eq.mpr c26
      clear c26
      (first | rw [c26b0] | (simp only [i64_w, i32_w]; rw [c26b0]) | skip)
      have H' := Aside0.mk H
      clear H
      go_wp2
      go_meet
      case rel => exact ⟨_, (false), (by first | rfl | (simp; done) | (simp [*]; done)), H', ⟨by have := HJ8.out; first | omega | exact Nat.le_refl _⟩, ⟨by (with_reducible repeat (first | refine blk_drewN ?_ _ | refine blk_drew ?_ | refine blk_alloc ?_ _)); exact BK286.out⟩, ⟨by repeat (first | (with_reducible first | exact HB.out | apply below_alloc | apply pw_below_drewN | apply below_drew1 | refine below_set ?_ GE286.out) | exact HB.out)⟩⟩
     ·rw [if_neg c26] at H
      have c26b0 : (a0.toList == ([61] : List UInt8)) = false := beq_eq_false_iff_ne.mpr c26
      have c26b1 : (a0.toList != ([61] : List UInt8)) = true := bne_iff_ne.mpr c26
      (first | rw [c26b0] | (simp only [i64_w, i32_w]; rw [c26b0]) | skip)
      have H' := Aside0.mk H
      clear H
      go_wp2
      go_meet
      case rel => exact ⟨_, ((a0.toList != ([61, 61] : List UInt8))), (by first | rfl | (simp; done) | (simp [*]; done)), H', ⟨by have := HJ8.out; first | omega | exact Nat.le_refl _⟩, ⟨by (with_reducible repeat (first | refine blk_drewN ?_ _ | refine blk_drew ?_ | refine blk_alloc ?_ _)); exact BK286.out⟩, ⟨by repeat (first | (with_reducible first | exact HB.out | apply below_alloc | apply pw_below_drewN | apply below_drew1 | refine below_set ?_ GE286.out) | exact HB.out)⟩⟩
    ·replace c25 := Bool.eq_false_iff.mpr c25
     subst c25
     have H1 : (key_bounds.j1 kj8 a0 a2 a3 a4 (strOfNums y287) t290 t292 t293 false false a1_0 a1_1 a1_2) = some (r1, r2) := by rw [if_neg (show ¬ (false = true) by decide)] at H; exact H
     clear H
     have H := H1
     clear H1
     have H' := Aside0.mk H
     clear H
     go_wp2
     go_meet
     case rel => exact ⟨_, (false), (by first | rfl | (simp; done) | (simp [*]; done)), H', ⟨by have := HJ8.out; first | omega | exact Nat.le_refl _⟩, ⟨by (with_reducible repeat (first | refine blk_drewN ?_ _ | refine blk_drew ?_ | refine blk_alloc ?_ _)); exact BK286.out⟩, ⟨by repeat (first | (with_reducible first | exact HB.out | apply below_alloc | apply pw_below_drewN | apply below_drew1 | refine below_set ?_ GE286.out) | exact HB.out)⟩⟩
   case rest =>
    clear HC24
    try clear c1; try clear hcv1; try clear c2; try clear p2; try clear c3; try clear c5; try clear hcv14; try clear c19; try clear c19b0; try clear c19b1; try clear c20; try clear c20b0; try clear c20b1; try clear c25; try clear c26; try clear c26b0; try clear c26b1; try clear hcz11_0; try clear hcz11_1; try clear hcz11_2; try clear hcz16_0; try clear hcz16_1; try clear hcz16_2; try clear hcz21_0; try clear hcz21_1; try clear hcz21_2; try clear hcz22_0; try clear hcz22_1; try clear hcz22_2; try clear hcz23_0; try clear hcz23_1; try clear hcz23_2; try clear hfz11_0; try clear hfz11_1; try clear hfz11_2; try clear hfz16_0; try clear hfz16_1; try clear hfz16_2; try clear hfz21_0; try clear hfz21_1; try clear hfz21_2; try clear hfz22_0; try clear hfz22_1; try clear hfz22_2; try clear hfz23_0; try clear hfz23_1; try clear hfz23_2; try clear p2
    obtain ⟨kq, x59_23, rfl, HA, HJ23, BK286, HB⟩ := hcut
    cases kq with
    | zero => exact absurd HA.out (by simp [key_bounds.j1])
    | succ kj23 =>
     have H := HA.out
     clear HA
     simp only [key_bounds.j1] at H
     have HC27 := Aside0.mk H
     clear H
     go_upto_if 59 with (fail)
     go_cut [15, 16] (fun v15 v16 wc => ∃ (kq : Nat) (x15_26 : ByteArray) (x16_26 : ByteArray), v15 = .string x15_26 ∧ v16 = .string x16_26 ∧ Aside0 (key_bounds.j2 kq a0 a2 a3 a4 (strOfNums y287) t290 x15_26 x16_26 x18_8 a1_0 a1_1 a1_2 = some (r1, r2)) ∧ Aside0 (kq ≤ kj23) ∧ Aside0 (wc.heap[gb286]? = some (.cells #[.int .i64 a1_0, .int .i64 a1_1, .string a1_2] 23 (0, 0))) ∧ Aside0 (Below w.heap.size w wc))
     case first =>
      have H := HC27.out
      clear HC27
      by_cases c28 : x59_23 = true
      ·subst c28
       have H1 : (if a4 = 0 then ((key_weights.f kj23 a1_2 a3 a4).bind fun t295 => (if (strOfNums y287).size + t295.size ≤ 9223372036854775807 then ((key_Behind.f kj23 ((strOfNums y287) ++ t295)).bind fun bt296 => (if bt296.1.toList = ([] : List UInt8) then (key_bounds.j2 kj23 a0 a2 a3 a4 (strOfNums y287) t290 ((strOfNums y287) ++ t295) t290 x18_8 a1_0 a1_1 a1_2) else (if (Op.bytesLess t290.toList bt296.1.toList) = true then (key_bounds.j2 kj23 a0 a2 a3 a4 (strOfNums y287) t290 ((strOfNums y287) ++ t295) t290 x18_8 a1_0 a1_1 a1_2) else (key_bounds.j2 kj23 a0 a2 a3 a4 (strOfNums y287) t290 ((strOfNums y287) ++ t295) bt296.1 x18_8 a1_0 a1_1 a1_2)))) else (none))) else (some ((strOfNums y287), t290))) = some (r1, r2) := by rw [if_pos rfl] at H; exact H
       clear H
       have H := H1
       clear H1
       by_cases c29 : a4 = 0
       ·rw [if_pos c29] at H
        have c29b0 : (a4 == 0) = true := beq_iff_eq.mpr c29
        have c29b1 : (a4 != 0) = false := bne_eq_false_iff_eq.mpr c29
        clear c29
        (first | rw [c29b0] | (simp only [i64_w, i32_w]; rw [c29b0]) | skip)
        replace H := Option.bind_eq_some_iff.mp H
        obtain ⟨t295, A300, H⟩ := H
        replace H : (if (strOfNums y287).size + t295.size ≤ 9223372036854775807 then ((key_Behind.f kj23 ((strOfNums y287) ++ t295)).bind fun bt296 => (if bt296.1.toList = ([] : List UInt8) then (key_bounds.j2 kj23 a0 a2 a3 a4 (strOfNums y287) t290 ((strOfNums y287) ++ t295) t290 x18_8 a1_0 a1_1 a1_2) else (if (Op.bytesLess t290.toList bt296.1.toList) = true then (key_bounds.j2 kj23 a0 a2 a3 a4 (strOfNums y287) t290 ((strOfNums y287) ++ t295) t290 x18_8 a1_0 a1_1 a1_2) else (key_bounds.j2 kj23 a0 a2 a3 a4 (strOfNums y287) t290 ((strOfNums y287) ++ t295) bt296.1 x18_8 a1_0 a1_1 a1_2)))) else (none)) = some (r1, r2) := H
        have A30 := Aside0.mk A300
        clear A300
        by_cases c31 : (strOfNums y287).size + t295.size ≤ 9223372036854775807
        ·rw [if_pos c31] at H
         have c31b0 := eq_true c31
         have c31b1 : decide ((strOfNums y287).size + t295.size ≤ 9223372036854775807) = true := decide_eq_true c31
         try have c31b2 : (9223372036854775807 < (strOfNums y287).size + t295.size) = False := eq_false (Nat.not_lt.2 c31)
         replace H := Option.bind_eq_some_iff.mp H
         obtain ⟨⟨t296, t297⟩, A320, H⟩ := H
         replace H : (if t296.toList = ([] : List UInt8) then (key_bounds.j2 kj23 a0 a2 a3 a4 (strOfNums y287) t290 ((strOfNums y287) ++ t295) t290 x18_8 a1_0 a1_1 a1_2) else (if (Op.bytesLess t290.toList t296.toList) = true then (key_bounds.j2 kj23 a0 a2 a3 a4 (strOfNums y287) t290 ((strOfNums y287) ++ t295) t290 x18_8 a1_0 a1_1 a1_2) else (key_bounds.j2 kj23 a0 a2 a3 a4 (strOfNums y287) t290 ((strOfNums y287) ++ t295) t296 x18_8 a1_0 a1_1 a1_2))) = some (r1, r2) := H
         have A32 := Aside0.mk A320
         clear A320
         by_cases c33 : t296.toList = ([] : List UInt8)
         ·rw [if_pos c33] at H
          have c33b0 : (t296.toList == ([] : List UInt8)) = true := beq_iff_eq.mpr c33
          have c33b1 : (t296.toList != ([] : List UInt8)) = false := bne_eq_false_iff_eq.mpr c33
          clear c33
          have H' := Aside0.mk H
          clear H
          have hcz34_0 : wc.cell? ⟨gb286, 0, none⟩ = some (.int .i64 a1_0) := (blk_cell BK286.out 0).trans rfl
          have hcz34_1 : wc.cell? ⟨gb286, 1, none⟩ = some (.int .i64 a1_1) := (blk_cell BK286.out 1).trans rfl
          have hcz34_2 : wc.cell? ⟨gb286, 2, none⟩ = some (.string a1_2) := (blk_cell BK286.out 2).trans rfl
          have hfz34_0 := blk_frozen BK286.out 0
          have hfz34_1 := blk_frozen BK286.out 1
          have hfz34_2 := blk_frozen BK286.out 2
          go_wp2_with (first | ((with_reducible refine gate_callee (f := 68) rfl ?_); refine goesL_ (some 69) rfl rfl Tryd.func68 (by kernel_rfl) rfl #[.string a1_2, .int .i64 a3, .int .i64 a4] rfl (by (try simp only [List.map_toArray, List.map_cons, List.map_nil]); first | done | rfl | (simp only [List.length_drop, List.length_take]; rfl)) ?_; (with_reducible refine (key_weights.calls kj23 a1_2 a3 a4 t295 _ A30.out (Hm.keep hm_ (by repeat (first | (with_reducible first | exact HB.out | apply below_alloc | apply pw_below_drewN | apply below_drew1 | refine below_set ?_ GE286.out) | exact HB.out)))).mono ?_); rintro e w35 ⟨rfl, hb⟩; refine ⟨_, rfl, ?_⟩; have n0_ := Aside0.mk (blk_below (g := gb286) (o := .cells #[.int .i64 a1_0, .int .i64 a1_1, .string a1_2] 23 (0, 0)) (by (with_reducible repeat (first | refine blk_drewN ?_ _ | refine blk_drew ?_ | refine blk_alloc ?_ _)); exact BK286.out) hb); have n1_ := Aside0.mk (below_step (by repeat (first | (with_reducible first | exact HB.out | apply below_alloc | apply pw_below_drewN | apply below_drew1 | refine below_set ?_ GE286.out) | exact HB.out)) hb); clear BK286; clear HB; have BK286 := n0_; have HB := n1_; clear n0_ n1_; (try clear hb); (try clear hb2); (try clear hk); (try clear hi)) | ((with_reducible refine gate_callee (f := 34) rfl ?_); refine goesL_ (some 73) rfl rfl Tryd.func34 (by kernel_rfl) rfl #[.string ((strOfNums y287) ++ t295)] rfl (by (try simp only [List.map_toArray, List.map_cons, List.map_nil]); first | done | rfl | (simp only [List.length_drop, List.length_take]; rfl)) ?_; (with_reducible refine (key_Behind.calls kj23 ((strOfNums y287) ++ t295) t296 t297 _ A32.out).mono ?_); rintro e w36 ⟨rfl, hb⟩; refine ⟨_, rfl, ?_⟩; have n0_ := Aside0.mk (blk_below (g := gb286) (o := .cells #[.int .i64 a1_0, .int .i64 a1_1, .string a1_2] 23 (0, 0)) (by (with_reducible repeat (first | refine blk_drewN ?_ _ | refine blk_drew ?_ | refine blk_alloc ?_ _)); exact BK286.out) hb); have n1_ := Aside0.mk (below_step (by repeat (first | (with_reducible first | exact HB.out | apply below_alloc | apply pw_below_drewN | apply below_drew1 | refine below_set ?_ GE286.out) | exact HB.out)) hb); clear BK286; clear HB; have BK286 := n0_; have HB := n1_; clear n0_ n1_; (try clear hb); (try clear hb2); (try clear hk); (try clear hi)))
          go_meet
          case rel => exact ⟨_, ((strOfNums y287) ++ t295), (t290), (by first | rfl | (simp; done) | (simp [*]; done)), (by first | rfl | (simp; done) | (simp [*]; done)), H', ⟨by have := HJ8.out; have := HJ23.out; first | omega | exact Nat.le_refl _⟩, ⟨by (with_reducible repeat (first | refine blk_drewN ?_ _ | refine blk_drew ?_ | refine blk_alloc ?_ _)); exact BK286.out⟩, ⟨by repeat (first | (with_reducible first | exact HB.out | apply below_alloc | apply pw_below_drewN | apply below_drew1 | refine below_set ?_ GE286.out) | exact HB.out)⟩⟩
         ·rw [if_neg c33] at H
          have c33b0 : (t296.toList == ([] : List UInt8)) = false := beq_eq_false_iff_ne.mpr c33
          have c33b1 : (t296.toList != ([] : List UInt8)) = true := bne_iff_ne.mpr c33
          by_cases c37 : (Op.bytesLess t290.toList t296.toList) = true
          ·rw [if_pos c37] at H
           have c37b0 : (Op.bytesLess t290.toList t296.toList) = true := c37
           have c37b9 : (!(Op.bytesLess t290.toList t296.toList)) = false := by rw [c37b0]; rfl
           clear c37
           have H' := Aside0.mk H
           clear H
           have hcz38_0 : wc.cell? ⟨gb286, 0, none⟩ = some (.int .i64 a1_0) := (blk_cell BK286.out 0).trans rfl
           have hcz38_1 : wc.cell? ⟨gb286, 1, none⟩ = some (.int .i64 a1_1) := (blk_cell BK286.out 1).trans rfl
           have hcz38_2 : wc.cell? ⟨gb286, 2, none⟩ = some (.string a1_2) := (blk_cell BK286.out 2).trans rfl
           have hfz38_0 := blk_frozen BK286.out 0
           have hfz38_1 := blk_frozen BK286.out 1
           have hfz38_2 := blk_frozen BK286.out 2
           go_wp2_with (first | ((with_reducible refine gate_callee (f := 68) rfl ?_); refine goesL_ (some 69) rfl rfl Tryd.func68 (by kernel_rfl) rfl #[.string a1_2, .int .i64 a3, .int .i64 a4] rfl (by (try simp only [List.map_toArray, List.map_cons, List.map_nil]); first | done | rfl | (simp only [List.length_drop, List.length_take]; rfl)) ?_; (with_reducible refine (key_weights.calls kj23 a1_2 a3 a4 t295 _ A30.out (Hm.keep hm_ (by repeat (first | (with_reducible first | exact HB.out | apply below_alloc | apply pw_below_drewN | apply below_drew1 | refine below_set ?_ GE286.out) | exact HB.out)))).mono ?_); rintro e w39 ⟨rfl, hb⟩; refine ⟨_, rfl, ?_⟩; have n0_ := Aside0.mk (blk_below (g := gb286) (o := .cells #[.int .i64 a1_0, .int .i64 a1_1, .string a1_2] 23 (0, 0)) (by (with_reducible repeat (first | refine blk_drewN ?_ _ | refine blk_drew ?_ | refine blk_alloc ?_ _)); exact BK286.out) hb); have n1_ := Aside0.mk (below_step (by repeat (first | (with_reducible first | exact HB.out | apply below_alloc | apply pw_below_drewN | apply below_drew1 | refine below_set ?_ GE286.out) | exact HB.out)) hb); clear BK286; clear HB; have BK286 := n0_; have HB := n1_; clear n0_ n1_; (try clear hb); (try clear hb2); (try clear hk); (try clear hi)) | ((with_reducible refine gate_callee (f := 34) rfl ?_); refine goesL_ (some 73) rfl rfl Tryd.func34 (by kernel_rfl) rfl #[.string ((strOfNums y287) ++ t295)] rfl (by (try simp only [List.map_toArray, List.map_cons, List.map_nil]); first | done | rfl | (simp only [List.length_drop, List.length_take]; rfl)) ?_; (with_reducible refine (key_Behind.calls kj23 ((strOfNums y287) ++ t295) t296 t297 _ A32.out).mono ?_); rintro e w40 ⟨rfl, hb⟩; refine ⟨_, rfl, ?_⟩; have n0_ := Aside0.mk (blk_below (g := gb286) (o := .cells #[.int .i64 a1_0, .int .i64 a1_1, .string a1_2] 23 (0, 0)) (by (with_reducible repeat (first | refine blk_drewN ?_ _ | refine blk_drew ?_ | refine blk_alloc ?_ _)); exact BK286.out) hb); have n1_ := Aside0.mk (below_step (by repeat (first | (with_reducible first | exact HB.out | apply below_alloc | apply pw_below_drewN | apply below_drew1 | refine below_set ?_ GE286.out) | exact HB.out)) hb); clear BK286; clear HB; have BK286 := n0_; have HB := n1_; clear n0_ n1_; (try clear hb); (try clear hb2); (try clear hk); (try clear hi)))
           go_meet
           case rel => exact ⟨_, ((strOfNums y287) ++ t295), (t290), (by first | rfl | (simp; done) | (simp [*]; done)), (by first | rfl | (simp; done) | (simp [*]; done)), H', ⟨by have := HJ8.out; have := HJ23.out; first | omega | exact Nat.le_refl _⟩, ⟨by (with_reducible repeat (first | refine blk_drewN ?_ _ | refine blk_drew ?_ | refine blk_alloc ?_ _)); exact BK286.out⟩, ⟨by repeat (first | (with_reducible first | exact HB.out | apply below_alloc | apply pw_below_drewN | apply below_drew1 | refine below_set ?_ GE286.out) | exact HB.out)⟩⟩
          ·rw [if_neg c37] at H
           have c37b0 : (Op.bytesLess t290.toList t296.toList) = false := by simpa using c37
           have c37b9 : (!(Op.bytesLess t290.toList t296.toList)) = true := by rw [c37b0]; rfl
           clear c37
           have H' := Aside0.mk H
           clear H
           have hcz41_0 : wc.cell? ⟨gb286, 0, none⟩ = some (.int .i64 a1_0) := (blk_cell BK286.out 0).trans rfl
           have hcz41_1 : wc.cell? ⟨gb286, 1, none⟩ = some (.int .i64 a1_1) := (blk_cell BK286.out 1).trans rfl
           have hcz41_2 : wc.cell? ⟨gb286, 2, none⟩ = some (.string a1_2) := (blk_cell BK286.out 2).trans rfl
           have hfz41_0 := blk_frozen BK286.out 0
           have hfz41_1 := blk_frozen BK286.out 1
           have hfz41_2 := blk_frozen BK286.out 2
           go_wp2_with (first | ((with_reducible refine gate_callee (f := 68) rfl ?_); refine goesL_ (some 69) rfl rfl Tryd.func68 (by kernel_rfl) rfl #[.string a1_2, .int .i64 a3, .int .i64 a4] rfl (by (try simp only [List.map_toArray, List.map_cons, List.map_nil]); first | done | rfl | (simp only [List.length_drop, List.length_take]; rfl)) ?_; (with_reducible refine (key_weights.calls kj23 a1_2 a3 a4 t295 _ A30.out (Hm.keep hm_ (by repeat (first | (with_reducible first | exact HB.out | apply below_alloc | apply pw_below_drewN | apply below_drew1 | refine below_set ?_ GE286.out) | exact HB.out)))).mono ?_); rintro e w42 ⟨rfl, hb⟩; refine ⟨_, rfl, ?_⟩; have n0_ := Aside0.mk (blk_below (g := gb286) (o := .cells #[.int .i64 a1_0, .int .i64 a1_1, .string a1_2] 23 (0, 0)) (by (with_reducible repeat (first | refine blk_drewN ?_ _ | refine blk_drew ?_ | refine blk_alloc ?_ _)); exact BK286.out) hb); have n1_ := Aside0.mk (below_step (by repeat (first | (with_reducible first | exact HB.out | apply below_alloc | apply pw_below_drewN | apply below_drew1 | refine below_set ?_ GE286.out) | exact HB.out)) hb); clear BK286; clear HB; have BK286 := n0_; have HB := n1_; clear n0_ n1_; (try clear hb); (try clear hb2); (try clear hk); (try clear hi)) | ((with_reducible refine gate_callee (f := 34) rfl ?_); refine goesL_ (some 73) rfl rfl Tryd.func34 (by kernel_rfl) rfl #[.string ((strOfNums y287) ++ t295)] rfl (by (try simp only [List.map_toArray, List.map_cons, List.map_nil]); first | done | rfl | (simp only [List.length_drop, List.length_take]; rfl)) ?_; (with_reducible refine (key_Behind.calls kj23 ((strOfNums y287) ++ t295) t296 t297 _ A32.out).mono ?_); rintro e w43 ⟨rfl, hb⟩; refine ⟨_, rfl, ?_⟩; have n0_ := Aside0.mk (blk_below (g := gb286) (o := .cells #[.int .i64 a1_0, .int .i64 a1_1, .string a1_2] 23 (0, 0)) (by (with_reducible repeat (first | refine blk_drewN ?_ _ | refine blk_drew ?_ | refine blk_alloc ?_ _)); exact BK286.out) hb); have n1_ := Aside0.mk (below_step (by repeat (first | (with_reducible first | exact HB.out | apply below_alloc | apply pw_below_drewN | apply below_drew1 | refine below_set ?_ GE286.out) | exact HB.out)) hb); clear BK286; clear HB; have BK286 := n0_; have HB := n1_; clear n0_ n1_; (try clear hb); (try clear hb2); (try clear hk); (try clear hi)))
           go_meet
           case rel => exact ⟨_, ((strOfNums y287) ++ t295), (t296), (by first | rfl | (simp; done) | (simp [*]; done)), (by first | rfl | (simp; done) | (simp [*]; done)), H', ⟨by have := HJ8.out; have := HJ23.out; first | omega | exact Nat.le_refl _⟩, ⟨by (with_reducible repeat (first | refine blk_drewN ?_ _ | refine blk_drew ?_ | refine blk_alloc ?_ _)); exact BK286.out⟩, ⟨by repeat (first | (with_reducible first | exact HB.out | apply below_alloc | apply pw_below_drewN | apply below_drew1 | refine below_set ?_ GE286.out) | exact HB.out)⟩⟩
        ·rw [if_neg c31] at H
         exact absurd H (by simp)
       ·rw [if_neg c29] at H
        have c29b0 : (a4 == 0) = false := beq_eq_false_iff_ne.mpr c29
        have c29b1 : (a4 != 0) = true := bne_iff_ne.mpr c29
        (first | rw [c29b0] | (simp only [i64_w, i32_w]; rw [c29b0]) | skip)
        simp only [Option.some.injEq, Prod.mk.injEq] at H
        obtain ⟨rfl, rfl⟩ := H
        go_wp2
        go_ret2
        exact ⟨by first | rfl | (simp [errW_none, errW_some] <;> rfl) | (simp [*, errW_none, errW_some] <;> rfl), by repeat (first | (with_reducible first | exact HB.out | apply below_alloc | apply pw_below_drewN | apply below_drew1 | refine below_set ?_ GE286.out) | exact HB.out)⟩
      ·replace c28 := Bool.eq_false_iff.mpr c28
       subst c28
       have H1 : (key_bounds.j2 kj23 a0 a2 a3 a4 (strOfNums y287) t290 t292 t293 x18_8 a1_0 a1_1 a1_2) = some (r1, r2) := by rw [if_neg (show ¬ (false = true) by decide)] at H; exact H
       clear H
       have H := H1
       clear H1
       have H' := Aside0.mk H
       clear H
       go_wp2
       go_meet
       case rel => exact ⟨_, (t292), (t293), (by first | rfl | (simp; done) | (simp [*]; done)), (by first | rfl | (simp; done) | (simp [*]; done)), H', ⟨by have := HJ8.out; have := HJ23.out; first | omega | exact Nat.le_refl _⟩, ⟨by (with_reducible repeat (first | refine blk_drewN ?_ _ | refine blk_drew ?_ | refine blk_alloc ?_ _)); exact BK286.out⟩, ⟨by repeat (first | (with_reducible first | exact HB.out | apply below_alloc | apply pw_below_drewN | apply below_drew1 | refine below_set ?_ GE286.out) | exact HB.out)⟩⟩
     case rest =>
      clear HC27
      try clear c1; try clear hcv1; try clear c2; try clear p2; try clear c3; try clear c5; try clear c6; try clear hcv14; try clear c19; try clear c19b0; try clear c19b1; try clear c20; try clear c20b0; try clear c20b1; try clear c25; try clear c26; try clear c26b0; try clear c26b1; try clear c28; try clear c29; try clear c29b0; try clear c29b1; try clear c31; try clear c31b0; try clear c31b1; try clear c31b2; try clear c33; try clear c33b0; try clear c33b1; try clear c34; try clear c37; try clear c37b0; try clear hcz11_0; try clear hcz11_1; try clear hcz11_2; try clear hcz16_0; try clear hcz16_1; try clear hcz16_2; try clear hcz21_0; try clear hcz21_1; try clear hcz21_2; try clear hcz22_0; try clear hcz22_1; try clear hcz22_2; try clear hcz23_0; try clear hcz23_1; try clear hcz23_2; try clear hcz34_0; try clear hcz34_1; try clear hcz34_2; try clear hcz38_0; try clear hcz38_1; try clear hcz38_2; try clear hcz41_0; try clear hcz41_1; try clear hcz41_2; try clear hfz11_0; try clear hfz11_1; try clear hfz11_2; try clear hfz16_0; try clear hfz16_1; try clear hfz16_2; try clear hfz21_0; try clear hfz21_1; try clear hfz21_2; try clear hfz22_0; try clear hfz22_1; try clear hfz22_2; try clear hfz23_0; try clear hfz23_1; try clear hfz23_2; try clear hfz34_0; try clear hfz34_1; try clear hfz34_2; try clear hfz38_0; try clear hfz38_1; try clear hfz38_2; try clear hfz41_0; try clear hfz41_1; try clear hfz41_2; try clear p2
      obtain ⟨kq, x15_26, x16_26, rfl, rfl, HA, HJ26, BK286, HB⟩ := hcut
      cases kq with
      | zero => exact absurd HA.out (by simp [key_bounds.j2])
      | succ kj26 =>
       have H := HA.out
       clear HA
       simp only [key_bounds.j2] at H
       by_cases c44 : a0.toList = ([60] : List UInt8)
       ·rw [if_pos c44] at H
        have c44b0 : (a0.toList == ([60] : List UInt8)) = true := beq_iff_eq.mpr c44
        have c44b1 : (a0.toList != ([60] : List UInt8)) = false := bne_eq_false_iff_eq.mpr c44
        clear c44
        by_cases c45 : x18_8 = true
        ·subst c45
         have H1 : (some ((strOfNums y287), x16_26)) = some (r1, r2) := by rw [if_pos rfl] at H; exact H
         clear H
         have H := H1
         clear H1
         simp only [Option.some.injEq, Prod.mk.injEq] at H
         obtain ⟨rfl, rfl⟩ := H
         go_wp2
         go_ret2
         exact ⟨by first | rfl | (simp [errW_none, errW_some] <;> rfl) | (simp [*, errW_none, errW_some] <;> rfl), by repeat (first | (with_reducible first | exact HB.out | apply below_alloc | apply pw_below_drewN | apply below_drew1 | refine below_set ?_ GE286.out) | exact HB.out)⟩
        ·replace c45 := Bool.eq_false_iff.mpr c45
         subst c45
         have H1 : (some ((strOfNums y287), x15_26)) = some (r1, r2) := by rw [if_neg (show ¬ (false = true) by decide)] at H; exact H
         clear H
         have H := H1
         clear H1
         simp only [Option.some.injEq, Prod.mk.injEq] at H
         obtain ⟨rfl, rfl⟩ := H
         go_wp2
         go_ret2
         exact ⟨by first | rfl | (simp [errW_none, errW_some] <;> rfl) | (simp [*, errW_none, errW_some] <;> rfl), by repeat (first | (with_reducible first | exact HB.out | apply below_alloc | apply pw_below_drewN | apply below_drew1 | refine below_set ?_ GE286.out) | exact HB.out)⟩
       ·rw [if_neg c44] at H
        have c44b0 : (a0.toList == ([60] : List UInt8)) = false := beq_eq_false_iff_ne.mpr c44
        have c44b1 : (a0.toList != ([60] : List UInt8)) = true := bne_iff_ne.mpr c44
        by_cases c46 : a0.toList = ([60, 61] : List UInt8)
        ·rw [if_pos c46] at H
         have c46b0 : (a0.toList == ([60, 61] : List UInt8)) = true := beq_iff_eq.mpr c46
         have c46b1 : (a0.toList != ([60, 61] : List UInt8)) = false := bne_eq_false_iff_eq.mpr c46
         clear c46
         simp only [Option.some.injEq, Prod.mk.injEq] at H
         obtain ⟨rfl, rfl⟩ := H
         go_wp2
         go_ret2
         exact ⟨by first | rfl | (simp [errW_none, errW_some] <;> rfl) | (simp [*, errW_none, errW_some] <;> rfl), by repeat (first | (with_reducible first | exact HB.out | apply below_alloc | apply pw_below_drewN | apply below_drew1 | refine below_set ?_ GE286.out) | exact HB.out)⟩
        ·rw [if_neg c46] at H
         have c46b0 : (a0.toList == ([60, 61] : List UInt8)) = false := beq_eq_false_iff_ne.mpr c46
         have c46b1 : (a0.toList != ([60, 61] : List UInt8)) = true := bne_iff_ne.mpr c46
         by_cases c47 : a0.toList = ([62] : List UInt8)
         ·rw [if_pos c47] at H
          have c47b0 : (a0.toList == ([62] : List UInt8)) = true := beq_iff_eq.mpr c47
          have c47b1 : (a0.toList != ([62] : List UInt8)) = false := bne_eq_false_iff_eq.mpr c47
          clear c47
          by_cases c48 : x18_8 = true
          ·subst c48
           have H1 : (some (x15_26, t290)) = some (r1, r2) := by rw [if_pos rfl] at H; exact H
           clear H
           have H := H1
           clear H1
           simp only [Option.some.injEq, Prod.mk.injEq] at H
           obtain ⟨rfl, rfl⟩ := H
           go_wp2
           go_ret2
           exact ⟨by first | rfl | (simp [errW_none, errW_some] <;> rfl) | (simp [*, errW_none, errW_some] <;> rfl), by repeat (first | (with_reducible first | exact HB.out | apply below_alloc | apply pw_below_drewN | apply below_drew1 | refine below_set ?_ GE286.out) | exact HB.out)⟩
          ·replace c48 := Bool.eq_false_iff.mpr c48
           subst c48
           have H1 : (some (x16_26, t290)) = some (r1, r2) := by rw [if_neg (show ¬ (false = true) by decide)] at H; exact H
           clear H
           have H := H1
           clear H1
           simp only [Option.some.injEq, Prod.mk.injEq] at H
           obtain ⟨rfl, rfl⟩ := H
           go_wp2
           go_ret2
           exact ⟨by first | rfl | (simp [errW_none, errW_some] <;> rfl) | (simp [*, errW_none, errW_some] <;> rfl), by repeat (first | (with_reducible first | exact HB.out | apply below_alloc | apply pw_below_drewN | apply below_drew1 | refine below_set ?_ GE286.out) | exact HB.out)⟩
         ·rw [if_neg c47] at H
          have c47b0 : (a0.toList == ([62] : List UInt8)) = false := beq_eq_false_iff_ne.mpr c47
          have c47b1 : (a0.toList != ([62] : List UInt8)) = true := bne_iff_ne.mpr c47
          by_cases c49 : a0.toList = ([62, 61] : List UInt8)
          ·rw [if_pos c49] at H
           have c49b0 : (a0.toList == ([62, 61] : List UInt8)) = true := beq_iff_eq.mpr c49
           have c49b1 : (a0.toList != ([62, 61] : List UInt8)) = false := bne_eq_false_iff_eq.mpr c49
           clear c49
           simp only [Option.some.injEq, Prod.mk.injEq] at H
           obtain ⟨rfl, rfl⟩ := H
           go_wp2
           go_ret2
           exact ⟨by first | rfl | (simp [errW_none, errW_some] <;> rfl) | (simp [*, errW_none, errW_some] <;> rfl), by repeat (first | (with_reducible first | exact HB.out | apply below_alloc | apply pw_below_drewN | apply below_drew1 | refine below_set ?_ GE286.out) | exact HB.out)⟩
          ·rw [if_neg c49] at H
           have c49b0 : (a0.toList == ([62, 61] : List UInt8)) = false := beq_eq_false_iff_ne.mpr c49
           have c49b1 : (a0.toList != ([62, 61] : List UInt8)) = true := bne_iff_ne.mpr c49
           by_cases c50 : a0.toList = ([61] : List UInt8)
           ·rw [if_pos c50] at H
            have c50b0 : (a0.toList == ([61] : List UInt8)) = true := beq_iff_eq.mpr c50
            have c50b1 : (a0.toList != ([61] : List UInt8)) = false := bne_eq_false_iff_eq.mpr c50
            clear c50
            by_cases c51 : a1_0 = 4
            ·rw [if_pos c51] at H
             have c51b0 : (a1_0 == 4) = true := beq_iff_eq.mpr c51
             have c51b1 : (a1_0 != 4) = false := bne_eq_false_iff_eq.mpr c51
             clear c51
             replace H := Option.bind_eq_some_iff.mp H
             obtain ⟨⟨t298, t299⟩, A520, H⟩ := H
             replace H : (some (t298, t299)) = some (r1, r2) := H
             have A52 := Aside0.mk A520
             clear A520
             simp only [Option.some.injEq, Prod.mk.injEq] at H
             obtain ⟨rfl, rfl⟩ := H
             have hcz53_0 : wc.cell? ⟨gb286, 0, none⟩ = some (.int .i64 a1_0) := (blk_cell BK286.out 0).trans rfl
             have hcz53_1 : wc.cell? ⟨gb286, 1, none⟩ = some (.int .i64 a1_1) := (blk_cell BK286.out 1).trans rfl
             have hcz53_2 : wc.cell? ⟨gb286, 2, none⟩ = some (.string a1_2) := (blk_cell BK286.out 2).trans rfl
             have hfz53_0 := blk_frozen BK286.out 0
             have hfz53_1 := blk_frozen BK286.out 1
             have hfz53_2 := blk_frozen BK286.out 2
             go_wp2_with (first | ((with_reducible refine gate_callee (f := 80) rfl ?_); refine goesL_ (some 119) rfl rfl Tryd.func80 (by kernel_rfl) rfl #[.string a1_2, .bool a2, .int .i64 a3, .int .i64 a4] rfl (by (try simp only [List.map_toArray, List.map_cons, List.map_nil]); first | done | rfl | (simp only [List.length_drop, List.length_take]; rfl)) ?_; (with_reducible refine (key_near.calls kj26 a1_2 a2 a3 a4 t298 t299 _ A52.out (Hm.keep hm_ (by repeat (first | (with_reducible first | exact HB.out | apply below_alloc | apply pw_below_drewN | apply below_drew1 | refine below_set ?_ GE286.out) | exact HB.out)))).mono ?_); rintro e w54 ⟨rfl, hb⟩; refine ⟨_, rfl, ?_⟩; have n0_ := Aside0.mk (blk_below (g := gb286) (o := .cells #[.int .i64 a1_0, .int .i64 a1_1, .string a1_2] 23 (0, 0)) (by (with_reducible repeat (first | refine blk_drewN ?_ _ | refine blk_drew ?_ | refine blk_alloc ?_ _)); exact BK286.out) hb); have n1_ := Aside0.mk (below_step (by repeat (first | (with_reducible first | exact HB.out | apply below_alloc | apply pw_below_drewN | apply below_drew1 | refine below_set ?_ GE286.out) | exact HB.out)) hb); clear BK286; clear HB; have BK286 := n0_; have HB := n1_; clear n0_ n1_; (try clear hb); (try clear hb2); (try clear hk); (try clear hi)))
             go_ret2
             exact ⟨by first | rfl | (simp [errW_none, errW_some] <;> rfl) | (simp [*, errW_none, errW_some] <;> rfl), by repeat (first | (with_reducible first | exact HB.out | apply below_alloc | apply pw_below_drewN | apply below_drew1 | refine below_set ?_ GE286.out) | exact HB.out)⟩
            ·rw [if_neg c51] at H
             have c51b0 : (a1_0 == 4) = false := beq_eq_false_iff_ne.mpr c51
             have c51b1 : (a1_0 != 4) = true := bne_iff_ne.mpr c51
             simp only [Option.some.injEq, Prod.mk.injEq] at H
             obtain ⟨rfl, rfl⟩ := H
             have hcz55_0 : wc.cell? ⟨gb286, 0, none⟩ = some (.int .i64 a1_0) := (blk_cell BK286.out 0).trans rfl
             have hcz55_1 : wc.cell? ⟨gb286, 1, none⟩ = some (.int .i64 a1_1) := (blk_cell BK286.out 1).trans rfl
             have hcz55_2 : wc.cell? ⟨gb286, 2, none⟩ = some (.string a1_2) := (blk_cell BK286.out 2).trans rfl
             have hfz55_0 := blk_frozen BK286.out 0
             have hfz55_1 := blk_frozen BK286.out 1
             have hfz55_2 := blk_frozen BK286.out 2
             go_wp2
             go_ret2
             exact ⟨by first | rfl | (simp [errW_none, errW_some] <;> rfl) | (simp [*, errW_none, errW_some] <;> rfl), by repeat (first | (with_reducible first | exact HB.out | apply below_alloc | apply pw_below_drewN | apply below_drew1 | refine below_set ?_ GE286.out) | exact HB.out)⟩
           ·rw [if_neg c50] at H
            have c50b0 : (a0.toList == ([61] : List UInt8)) = false := beq_eq_false_iff_ne.mpr c50
            have c50b1 : (a0.toList != ([61] : List UInt8)) = true := bne_iff_ne.mpr c50
            simp only [Option.some.injEq, Prod.mk.injEq] at H
            obtain ⟨rfl, rfl⟩ := H
            go_wp2
            go_ret2
            exact ⟨by first | rfl | (simp [errW_none, errW_some] <;> rfl) | (simp [*, errW_none, errW_some] <;> rfl), by repeat (first | (with_reducible first | exact HB.out | apply below_alloc | apply pw_below_drewN | apply below_drew1 | refine below_set ?_ GE286.out) | exact HB.out)⟩
end Go.Proofs.YtnkejhfbkgfedaaDoor.PA
