-- Written by a program of this session (wip/merge.py): the texts of this claim, joined.
import Derived.Test.YtnkejhfbkgfedaaDoorMKeyOrders1
import Derived.Test.YtnkejhfbkgfedaaDoorMKeyOrders2
import Derived.Test.YtnkejhfbkgfedaaDoorMKeyOrders3
import Derived.Test.YtnkejhfbkgfedaaDoorMKeyOrders4
import Derived.Test.YtnkejhfbkgfedaaDoorMKeyOrders5
import Derived.Test.YtnkejhfbkgfedaaDoorMKeyOrders6
import Derived.Test.YtnkejhfbkgfedaaDoorMKeyOrders7
import Derived.Test.YtnkejhfbkgfedaaDoorMKeyOrders8
import Derived.Test.YtnkejhfbkgfedaaDoorMKeyOrders9
import Derived.Test.YtnkejhfbkgfedaaDoorMKeyOrders10
import Derived.Test.YtnkejhfbkgfedaaDoorMKeyOrders11
import Derived.Test.YtnkejhfbkgfedaaDoorMKeyOrders12
import Derived.Test.YtnkejhfbkgfedaaDoorMKeyOrders13
import Derived.Test.YtnkejhfbkgfedaaDoorMKeyOrders14
import Derived.Test.YtnkejhfbkgfedaaDoorMKeyOrders15
import Derived.Test.YtnkejhfbkgfedaaDoorMKeyOrders16
import Derived.Test.YtnkejhfbkgfedaaDoorMKeyOrders17
import Derived.Test.YtnkejhfbkgfedaaDoorMKeyOrders18
import Derived.Test.YtnkejhfbkgfedaaDoorMKeyOrders19
namespace Go.Proofs.YtnkejhfbkgfedaaDoor.PA
end Go.Proofs.YtnkejhfbkgfedaaDoor.PA
namespace Go.Proofs.YtnkejhfbkgfedaaDoor.PB
end Go.Proofs.YtnkejhfbkgfedaaDoor.PB
namespace Go.Proofs.YtnkejhfbkgfedaaDoor.PC
end Go.Proofs.YtnkejhfbkgfedaaDoor.PC
namespace Go.Proofs.YtnkejhfbkgfedaaDoor.H1
end Go.Proofs.YtnkejhfbkgfedaaDoor.H1
namespace Go.Proofs.YtnkejhfbkgfedaaDoor.L1
end Go.Proofs.YtnkejhfbkgfedaaDoor.L1
namespace Go.Proofs.YtnkejhfbkgfedaaDoor.PB
open Go.RowKit Go.Proofs.YtnkejhfbkgfedaaDoorW.PrintWords Go.Proofs.YtnkejhfbkgfedaaDoorW.PrintLast Go.Proofs.YtnkejhfbkgfedaaDoorW.PrintMore Go.Proofs.YtnkejhfbkgfedaaDoor.PA Go.Proofs.YtnkejhfbkgfedaaDoor.H1
attribute [local go_sem] max2_int min2_int max_two min_two max_three min_three max_four min_four   -- for this text's walks alone
set_option linter.unusedVariables false
set_option linter.unusedSimpArgs false
mutual
def cabinetrylaw09_KeyOrders.j0 : Nat → Int → Int → ByteArray → ByteArray → ByteArray → ByteArray → Bool → Int → Int → ByteArray → Int → Int → ByteArray → Option (Bool)
 | 0, _, _, _, _, _, _, _, _, _, _, _, _, _ => none
 | k + 1, x7, x8, x9, x11, x13, x15, x70, x128000, x128001, x128002, x129000, x129001, x129002 => if x70 = true then ((cabinetrylaw09_known.f k).bind fun t144 => (some t144)) else ((cabinetrylaw09_first.f x128002).bind fun t145 => ((cabinetrylaw09_first.f x129002).bind fun t146 => ((cabinetryref01_Compare.f k x128000 x128001 t145 x129000 x129001 t146).bind fun bt147 => (if x128000 = 0 then (cabinetrylaw09_KeyOrders.j1 k x7 x8 x9 x11 x13 x15 bt147.1 bt147.2 true x128000 x128001 t145 x129000 x129001 t146) else (cabinetrylaw09_KeyOrders.j1 k x7 x8 x9 x11 x13 x15 bt147.1 bt147.2 (x129000 == 0) x128000 x128001 t145 x129000 x129001 t146)))))
def cabinetrylaw09_KeyOrders.j1 : Nat → Int → Int → ByteArray → ByteArray → ByteArray → ByteArray → Int → Int → Bool → Int → Int → ByteArray → Int → Int → ByteArray → Option (Bool)
 | 0, _, _, _, _, _, _, _, _, _, _, _, _, _, _, _ => none
 | k + 1, x7, x8, x9, x11, x13, x15, x17, x18, x86, x128000, x128001, x128002, x129000, x129001, x129002 => if x86 = true then ((cabinetryref01_CompareInts.f (mn x128000 1) (mn x129000 1)).bind fun t149 => ((cabinetryref01_CompareTexts.f k x9 x11).bind fun t150 => (if t150 = t149 then ((cabinetryref01_CompareTexts.f k x13 x15).bind fun t151 => (if t151 = (wrap64 (-t149)) then ((cabinetrylaw09_known.f k).bind fun t152 => (some t152)) else (some false))) else (some false)))) else (if x18 = 0 then (if x128000 = 4 then ((cabinetryref02_Order.f k x128002 x129002 x7 x8).bind fun bt153 => ((cabinetryref01_CompareTexts.f k x9 x11).bind fun t155 => (if t155 = bt153.1 then ((cabinetryref01_CompareTexts.f k x13 x15).bind fun t156 => (if t156 = (wrap64 (-bt153.1)) then ((cabinetrylaw09_known.f k).bind fun t157 => (some t157)) else (some false))) else (some false)))) else ((cabinetryref01_CompareTexts.f k x9 x11).bind fun t158 => (if t158 = x17 then ((cabinetryref01_CompareTexts.f k x13 x15).bind fun t159 => (if t159 = (wrap64 (-x17)) then ((cabinetrylaw09_known.f k).bind fun t160 => (some t160)) else (some false))) else (some false)))) else ((cabinetrylaw09_known.f k).bind fun t161 => (some t161)))
end
def cabinetrylaw09_KeyOrders.f (k : Nat) (a0_0 : Int) (a0_1 : Int) (a0_2 : ByteArray) (a1_0 : Int) (a1_1 : Int) (a1_2 : ByteArray) (a2 : Int) : Option (Bool) := (cabinetrylaw09_over.f k (([(⟨a0_0, a0_1, a0_2⟩ : S23), (⟨a1_0, a1_1, a1_2⟩ : S23)] : List (S23)))).bind fun t132 => (if t132 = true then ((cabinetrylaw09_known.f k).bind fun t133 => (some t133)) else ((cabinetrylaw09_page.f a2).bind fun bt134 => ((key_Encode.f k a0_0 a0_1 a0_2 bt134.1 bt134.2 false).bind fun bt136 => ((key_Encode.f k a1_0 a1_1 a1_2 bt134.1 bt134.2 false).bind fun bt138 => ((key_Encode.f k a0_0 a0_1 a0_2 bt134.1 bt134.2 true).bind fun bt140 => ((key_Encode.f k a1_0 a1_1 a1_2 bt134.1 bt134.2 true).bind fun bt142 => (if bt136.2 = 0 then (if bt138.2 = 0 then (if bt140.2 = 0 then (cabinetrylaw09_KeyOrders.j0 k bt134.1 bt134.2 bt136.1 bt138.1 bt140.1 bt142.1 (bt142.2 != 0) a0_0 a0_1 a0_2 a1_0 a1_1 a1_2) else (cabinetrylaw09_KeyOrders.j0 k bt134.1 bt134.2 bt136.1 bt138.1 bt140.1 bt142.1 true a0_0 a0_1 a0_2 a1_0 a1_1 a1_2)) else (cabinetrylaw09_KeyOrders.j0 k bt134.1 bt134.2 bt136.1 bt138.1 bt140.1 bt142.1 true a0_0 a0_1 a0_2 a1_0 a1_1 a1_2)) else (cabinetrylaw09_KeyOrders.j0 k bt134.1 bt134.2 bt136.1 bt138.1 bt140.1 bt142.1 true a0_0 a0_1 a0_2 a1_0 a1_1 a1_2))))))))
def cabinetrylaw09_KeyOrders.T10 : Bool × List (List Nat × List Nat) := (true, [([], []), ([0], [0]), ([1], [1]), ([], []), ([3], [3]), ([4, 2], [4]), ([0, 1, 2], []), ([6, 2, 5, 0, 1, 2], [2, 6]), ([0, 1, 2, 3, 4, 5, 6, 7], []), ([8, 5, 7, 0, 1, 2, 3, 4, 5, 6, 7], [5, 8])])
def cabinetrylaw09_KeyOrders.B10 : List Nat := [0, 1, 3, 0, 8, 31, 7, 127, 255, 511]
theorem cabinetrylaw09_KeyOrders.tab10 : rtab .any (opsOf Tryd.f4 10) = cabinetrylaw09_KeyOrders.T10 := by kernel_rfl
theorem cabinetrylaw09_KeyOrders.bits10 : waitsOk cabinetrylaw09_KeyOrders.T10.2 cabinetrylaw09_KeyOrders.B10 = true := by kernel_rfl
set_option maxHeartbeats 8000000 in
set_option maxRecDepth 100000 in
theorem cabinetrylaw09_KeyOrders.calls (k : Nat) (a0_0 : Int) (a0_1 : Int) (a0_2 : ByteArray) (a1_0 : Int) (a1_1 : Int) (a1_2 : ByteArray) (a2 : Int) (r : Bool) (w : World) (h : cabinetrylaw09_KeyOrders.f k a0_0 a0_1 a0_2 a1_0 a1_1 a1_2 a2 = some r) (hr_ : Aside0 (r = true)) (hm_ : Aside0 (Hm.HM w)) :
  Calls Tryd.prog 4 #[.agg #[.int .i64 a0_0, .int .i64 a0_1, .string a0_2], .agg #[.int .i64 a1_0, .int .i64 a1_1, .string a1_2], .int .i64 a2] w fun e w' => e = .returned (.bool r) ∧ Below w.heap.size w w' := by
 have hu23 := Tryd.underlying23
 have HB := Aside0.mk (Below.refl w.heap.size w)
 have H : ((cabinetrylaw09_over.f k (([(⟨a0_0, a0_1, a0_2⟩ : S23), (⟨a1_0, a1_1, a1_2⟩ : S23)] : List (S23)))).bind fun t132 => (if t132 = true then ((cabinetrylaw09_known.f k).bind fun t133 => (some t133)) else ((cabinetrylaw09_page.f a2).bind fun bt134 => ((key_Encode.f k a0_0 a0_1 a0_2 bt134.1 bt134.2 false).bind fun bt136 => ((key_Encode.f k a1_0 a1_1 a1_2 bt134.1 bt134.2 false).bind fun bt138 => ((key_Encode.f k a0_0 a0_1 a0_2 bt134.1 bt134.2 true).bind fun bt140 => ((key_Encode.f k a1_0 a1_1 a1_2 bt134.1 bt134.2 true).bind fun bt142 => (if bt136.2 = 0 then (if bt138.2 = 0 then (if bt140.2 = 0 then (cabinetrylaw09_KeyOrders.j0 k bt134.1 bt134.2 bt136.1 bt138.1 bt140.1 bt142.1 (bt142.2 != 0) a0_0 a0_1 a0_2 a1_0 a1_1 a1_2) else (cabinetrylaw09_KeyOrders.j0 k bt134.1 bt134.2 bt136.1 bt138.1 bt140.1 bt142.1 true a0_0 a0_1 a0_2 a1_0 a1_1 a1_2)) else (cabinetrylaw09_KeyOrders.j0 k bt134.1 bt134.2 bt136.1 bt138.1 bt140.1 bt142.1 true a0_0 a0_1 a0_2 a1_0 a1_1 a1_2)) else (cabinetrylaw09_KeyOrders.j0 k bt134.1 bt134.2 bt136.1 bt138.1 bt140.1 bt142.1 true a0_0 a0_1 a0_2 a1_0 a1_1 a1_2))))))))) = some r := h
 clear h
 obtain ⟨y129, hy129⟩ : ∃ y_ : List (S23), y_ = (([(⟨a0_0, a0_1, a0_2⟩ : S23), (⟨a1_0, a1_1, a1_2⟩ : S23)] : List (S23))) := ⟨_, rfl⟩
 replace H : ((cabinetrylaw09_over.f k y129).bind fun t132 => (if t132 = true then ((cabinetrylaw09_known.f k).bind fun t133 => (some t133)) else ((cabinetrylaw09_page.f a2).bind fun bt134 => ((key_Encode.f k a0_0 a0_1 a0_2 bt134.1 bt134.2 false).bind fun bt136 => ((key_Encode.f k a1_0 a1_1 a1_2 bt134.1 bt134.2 false).bind fun bt138 => ((key_Encode.f k a0_0 a0_1 a0_2 bt134.1 bt134.2 true).bind fun bt140 => ((key_Encode.f k a1_0 a1_1 a1_2 bt134.1 bt134.2 true).bind fun bt142 => (if bt136.2 = 0 then (if bt138.2 = 0 then (if bt140.2 = 0 then (cabinetrylaw09_KeyOrders.j0 k bt134.1 bt134.2 bt136.1 bt138.1 bt140.1 bt142.1 (bt142.2 != 0) a0_0 a0_1 a0_2 a1_0 a1_1 a1_2) else (cabinetrylaw09_KeyOrders.j0 k bt134.1 bt134.2 bt136.1 bt138.1 bt140.1 bt142.1 true a0_0 a0_1 a0_2 a1_0 a1_1 a1_2)) else (cabinetrylaw09_KeyOrders.j0 k bt134.1 bt134.2 bt136.1 bt138.1 bt140.1 bt142.1 true a0_0 a0_1 a0_2 a1_0 a1_1 a1_2)) else (cabinetrylaw09_KeyOrders.j0 k bt134.1 bt134.2 bt136.1 bt138.1 bt140.1 bt142.1 true a0_0 a0_1 a0_2 a1_0 a1_1 a1_2))))))))) = some r := by first | (rw [hy129]; with_reducible exact H) | (have H2_ := (Option.bind_some _ _).symm.trans H; rw [hy129]; with_reducible exact H2_) | (have H2_ := (Option.bind_some _ _).symm.trans H; with_reducible exact H2_) | with_reducible exact H | (rw [hy129]; exact H) | exact H
 have Ny129 := Aside0.mk hy129
 clear hy129
 replace H := Option.bind_eq_some_iff.mp H
 obtain ⟨t132, A40, H⟩ := H
 replace H : (if t132 = true then ((cabinetrylaw09_known.f k).bind fun t133 => (some t133)) else ((cabinetrylaw09_page.f a2).bind fun bt134 => ((key_Encode.f k a0_0 a0_1 a0_2 bt134.1 bt134.2 false).bind fun bt136 => ((key_Encode.f k a1_0 a1_1 a1_2 bt134.1 bt134.2 false).bind fun bt138 => ((key_Encode.f k a0_0 a0_1 a0_2 bt134.1 bt134.2 true).bind fun bt140 => ((key_Encode.f k a1_0 a1_1 a1_2 bt134.1 bt134.2 true).bind fun bt142 => (if bt136.2 = 0 then (if bt138.2 = 0 then (if bt140.2 = 0 then (cabinetrylaw09_KeyOrders.j0 k bt134.1 bt134.2 bt136.1 bt138.1 bt140.1 bt142.1 (bt142.2 != 0) a0_0 a0_1 a0_2 a1_0 a1_1 a1_2) else (cabinetrylaw09_KeyOrders.j0 k bt134.1 bt134.2 bt136.1 bt138.1 bt140.1 bt142.1 true a0_0 a0_1 a0_2 a1_0 a1_1 a1_2)) else (cabinetrylaw09_KeyOrders.j0 k bt134.1 bt134.2 bt136.1 bt138.1 bt140.1 bt142.1 true a0_0 a0_1 a0_2 a1_0 a1_1 a1_2)) else (cabinetrylaw09_KeyOrders.j0 k bt134.1 bt134.2 bt136.1 bt138.1 bt140.1 bt142.1 true a0_0 a0_1 a0_2 a1_0 a1_1 a1_2)))))))) = some r := H
 have A4 := Aside0.mk A40
 clear A40
 by_cases c5 : t132 = true
 ·subst c5
  have H1 : ((cabinetrylaw09_known.f k).bind fun t133 => (some t133)) = some r := by rw [if_pos rfl] at H; exact H
  clear H
  have H := H1
  clear H1
  replace H := Option.bind_eq_some_iff.mp H
  obtain ⟨t133, A60, H⟩ := H
  replace H : (some t133) = some r := H
  have A6 := Aside0.mk A60
  clear A60
  obtain rfl := Option.some.inj H
  simp only [Option.some.injEq, Prod.mk.injEq] at H
  obtain ⟨rfl⟩ := H
  go_enter Tryd.func4, Tryd.ntmps4
  go_wp2_with (first | ((with_reducible refine gate_dst (N := 3) rfl ?_); refine box_event ?hg (N := 3) ?hd (cs := #[.int .i64 a0_0, .int .i64 a0_1, .string a0_2]) (t := 23) ?hr ?_; (case hd => rfl); (case hg => rfl); (case hr => first | (go_simp; done) | (go_simp; rfl)); intro gb127 hg w7 hbox hb; have n0_ := Aside0.mk (below_step (by repeat (first | (with_reducible first | exact HB.out | apply below_alloc | apply pw_below_drewN | apply below_drew1) | exact HB.out)) hb); have n1_ := Aside0.mk (hbox); have n2_ := Aside0.mk ((by rw [hg]; exact (below_size (by repeat (first | (with_reducible first | exact HB.out | apply below_alloc | apply pw_below_drewN | apply below_drew1) | exact HB.out))) : w.heap.size ≤ gb127)); have n3_ := Aside0.mk ((by rw [hg]; exact (below_size (by repeat (first | (with_reducible first | exact HB.out | apply below_alloc | apply pw_below_drewN | apply below_drew1) | exact HB.out))) : w.heap.size ≤ gb127)); clear HB; have HB := n0_; have BK127 := n1_; have GW127 := n2_; have GE127 := n3_; clear n0_ n1_ n2_ n3_; clear hb hbox hg) | ((with_reducible refine gate_dst (N := 4) rfl ?_); refine box_event ?hg (N := 4) ?hd (cs := #[.int .i64 a1_0, .int .i64 a1_1, .string a1_2]) (t := 23) ?hr ?_; (case hd => rfl); (case hg => rfl); (case hr => first | (go_simp; done) | (go_simp; rfl)); intro gb128 hg w8 hbox hb; have n0_ := Aside0.mk (blk_below (g := gb127) (o := .cells #[.int .i64 a0_0, .int .i64 a0_1, .string a0_2] 23 (0, 0)) (by (with_reducible repeat (first | refine blk_drewN ?_ _ | refine blk_drew ?_ | refine blk_alloc ?_ _)); exact BK127.out) hb); have n1_ := Aside0.mk (below_step (by repeat (first | (with_reducible first | exact HB.out | apply below_alloc | apply pw_below_drewN | apply below_drew1 | refine below_set ?_ GE127.out) | exact HB.out)) hb); have n2_ := Aside0.mk (hbox); have n3_ := Aside0.mk ((by rw [hg]; exact (below_size (by repeat (first | (with_reducible first | exact HB.out | apply below_alloc | apply pw_below_drewN | apply below_drew1 | refine below_set ?_ GE127.out) | exact HB.out))) : w.heap.size ≤ gb128)); have n4_ := Aside0.mk ((by rw [hg]; exact (below_size (by repeat (first | (with_reducible first | exact HB.out | apply below_alloc | apply pw_below_drewN | apply below_drew1 | refine below_set ?_ GE127.out) | exact HB.out))) : w.heap.size ≤ gb128)); have n5_ := Aside0.mk ((by rw [hg]; exact Nat.ne_of_lt (blk_lt (g := gb127) (o := .cells #[.int .i64 a0_0, .int .i64 a0_1, .string a0_2] 23 (0, 0)) (by (with_reducible repeat (first | refine blk_drewN ?_ _ | refine blk_drew ?_ | refine blk_alloc ?_ _)); exact BK127.out)) : gb127 ≠ gb128)); have n6_ := Aside0.mk ((by rw [hg]; exact Nat.ne_of_gt (blk_lt (g := gb127) (o := .cells #[.int .i64 a0_0, .int .i64 a0_1, .string a0_2] 23 (0, 0)) (by (with_reducible repeat (first | refine blk_drewN ?_ _ | refine blk_drew ?_ | refine blk_alloc ?_ _)); exact BK127.out)) : gb128 ≠ gb127)); clear BK127; clear HB; have BK127 := n0_; have HB := n1_; have BK128 := n2_; have GW128 := n3_; have GE128 := n4_; have NB127_128 := n5_; have NB128_127 := n6_; clear n0_ n1_ n2_ n3_ n4_ n5_ n6_; clear hb hbox hg; have hnb9 := NB127_128.out; have hnc9 := NB128_127.out; have hcz10_0 : w8.cell? ⟨gb127, 0, none⟩ = some (.int .i64 a0_0) := (blk_cell BK127.out 0).trans rfl; have hcz10_1 : w8.cell? ⟨gb127, 1, none⟩ = some (.int .i64 a0_1) := (blk_cell BK127.out 1).trans rfl; have hcz10_2 : w8.cell? ⟨gb127, 2, none⟩ = some (.string a0_2) := (blk_cell BK127.out 2).trans rfl; have hfz10_0 := blk_frozen BK127.out 0; have hfz10_1 := blk_frozen BK127.out 1; have hfz10_2 := blk_frozen BK127.out 2; have hcz11_0 : w8.cell? ⟨gb128, 0, none⟩ = some (.int .i64 a1_0) := (blk_cell BK128.out 0).trans rfl; have hcz11_1 : w8.cell? ⟨gb128, 1, none⟩ = some (.int .i64 a1_1) := (blk_cell BK128.out 1).trans rfl; have hcz11_2 : w8.cell? ⟨gb128, 2, none⟩ = some (.string a1_2) := (blk_cell BK128.out 2).trans rfl; have hfz11_0 := blk_frozen BK128.out 0; have hfz11_1 := blk_frozen BK128.out 1; have hfz11_2 := blk_frozen BK128.out 2) | ((with_reducible refine gate_dst (N := 21) rfl ?_); refine Kd.R_lit k23 _ 23 ?hg (N := 21) ?hd (xs := ([(⟨a0_0, a0_1, a0_2⟩ : S23), (⟨a1_0, a1_1, a1_2⟩ : S23)] : List (S23))) (inner := [.int .i64 a0_0, .int .i64 a0_1, .string a0_2, .int .i64 a1_0, .int .i64 a1_1, .string a1_2]) (ok := fun _ => True) (okp := fun _ => True) ?hr ?hp (fun _ hk => hk) trivial (Below.refl _ _) (Nat.le_refl _) (by simp) ?_; (case hd => rfl); (case hg => rfl); (case hr => first | (go_simp; done) | (go_simp; rfl)); (case hp => exact (Reps.c3 (show Kd.M k23 _ _ _ (⟨a0_0, a0_1, a0_2⟩ : S23) [.int .i64 a0_0, .int .i64 a0_1, .string a0_2] from (k23_mkM _ _ _ (⟨a0_0, a0_1, a0_2⟩ : S23) )) (Reps.c3 (show Kd.M k23 _ _ _ (⟨a1_0, a1_1, a1_2⟩ : S23) [.int .i64 a1_0, .int .i64 a1_1, .string a1_2] from (k23_mkM _ _ _ (⟨a1_0, a1_1, a1_2⟩ : S23) )) (Reps.none _ _)))); intro v130 w12 ho13 hb hg_ hnew_; clear hg_ hnew_; (first | rw [← Ny129.out] at ho13 | (simp only [Int.reduceToNat] at ho13; rw [← Ny129.out] at ho13)); have n0_ := Aside0.mk (Kd.R_lower (Kd.R_newB (Kd.R_newB ho13 (g := gb127) (o := .cells #[.int .i64 a0_0, .int .i64 a0_1, .string a0_2] 23 (0, 0)) (by (with_reducible repeat (first | refine blk_drewN ?_ _ | refine blk_drew ?_ | refine blk_alloc ?_ _)); exact BK127.out)) (g := gb128) (o := .cells #[.int .i64 a1_0, .int .i64 a1_1, .string a1_2] 23 (0, 0)) (by (with_reducible repeat (first | refine blk_drewN ?_ _ | refine blk_drew ?_ | refine blk_alloc ?_ _)); exact BK128.out)) (below_size (by repeat (first | (with_reducible first | exact HB.out | apply below_alloc | apply pw_below_drewN | apply below_drew1 | refine below_set ?_ GE127.out | refine below_set ?_ GE128.out) | exact HB.out)))); have n1_ := Aside0.mk (blk_below (g := gb127) (o := .cells #[.int .i64 a0_0, .int .i64 a0_1, .string a0_2] 23 (0, 0)) (by (with_reducible repeat (first | refine blk_drewN ?_ _ | refine blk_drew ?_ | refine blk_alloc ?_ _)); exact BK127.out) hb); have n2_ := Aside0.mk (blk_below (g := gb128) (o := .cells #[.int .i64 a1_0, .int .i64 a1_1, .string a1_2] 23 (0, 0)) (by (with_reducible repeat (first | refine blk_drewN ?_ _ | refine blk_drew ?_ | refine blk_alloc ?_ _)); exact BK128.out) hb); have n3_ := Aside0.mk (below_step (by repeat (first | (with_reducible first | exact HB.out | apply below_alloc | apply pw_below_drewN | apply below_drew1 | refine below_set ?_ GE127.out | refine below_set ?_ GE128.out) | exact HB.out)) hb); clear BK127; clear BK128; clear HB; have HO131 := n0_; have BK127 := n1_; have BK128 := n2_; have HB := n3_; clear n0_ n1_ n2_ n3_; clear hb ho13; obtain ⟨Ao14, co14, eo14⟩ := Kd.R_slice HO131.out; subst eo14) | ((with_reducible refine gate_callee (f := 14) rfl ?_); refine goesL_ (some 22) rfl rfl Tryd.func14 (by kernel_rfl) rfl #[.slice Ao14 y129.length co14] rfl (by (try simp only [List.map_toArray, List.map_cons, List.map_nil]); first | done | rfl | (simp only [List.length_drop, List.length_take]; rfl)) ?_; (with_reducible refine (cabinetrylaw09_over.calls k _ _ y129 true _ ?side1 ?side2 A4.out).mono ?_); (case side1 => repeat (first | exact (Kd.R_reads' HO131.out).2.2 | (with_reducible refine Kd.C_alloc ?_ _) | (with_reducible refine Kd.C_drewN ?_ _) | (with_reducible refine Kd.C_drew ?_))); (case side2 => exact (Kd.R_reads' HO131.out).2.1); rintro e w' ⟨rfl, ⟨nd, rfl⟩⟩; refine ⟨_, rfl, ?_⟩) | ((with_reducible refine gate_callee (f := 15) rfl ?_); refine goesL_ (some 23) rfl rfl Tryd.func15 (by kernel_rfl) rfl #[] rfl (by (try simp only [List.map_toArray, List.map_cons, List.map_nil]); first | done | rfl | (simp only [List.length_drop, List.length_take]; rfl)) ?_; (with_reducible refine (cabinetrylaw09_known.calls k  t133 _ A6.out hr_ (Hm.keep hm_ (by repeat (first | (with_reducible first | exact HB.out | apply below_alloc | apply pw_below_drewN | apply below_drew1 | refine below_set ?_ GE127.out | refine below_set ?_ GE128.out) | exact HB.out)))).mono ?_); rintro e w15 ⟨rfl, hb⟩; refine ⟨_, rfl, ?_⟩; have n0_ := Aside0.mk (Kd.R_below (by (with_reducible repeat (first | apply Kd.R_alloc | apply Kd.R_drewN | apply Kd.R_drew)); exact HO131.out) hb); have n1_ := Aside0.mk (blk_below (g := gb127) (o := .cells #[.int .i64 a0_0, .int .i64 a0_1, .string a0_2] 23 (0, 0)) (by (with_reducible repeat (first | refine blk_drewN ?_ _ | refine blk_drew ?_ | refine blk_alloc ?_ _)); exact BK127.out) hb); have n2_ := Aside0.mk (blk_below (g := gb128) (o := .cells #[.int .i64 a1_0, .int .i64 a1_1, .string a1_2] 23 (0, 0)) (by (with_reducible repeat (first | refine blk_drewN ?_ _ | refine blk_drew ?_ | refine blk_alloc ?_ _)); exact BK128.out) hb); have n3_ := Aside0.mk (below_step (by repeat (first | (with_reducible first | exact HB.out | apply below_alloc | apply pw_below_drewN | apply below_drew1 | refine below_set ?_ GE127.out | refine below_set ?_ GE128.out) | exact HB.out)) hb); clear HO131; clear BK127; clear BK128; clear HB; have HO131 := n0_; have BK127 := n1_; have BK128 := n2_; have HB := n3_; clear n0_ n1_ n2_ n3_; (try clear hb); (try clear hb2); (try clear hk); (try clear hi)))
  go_ret
  exact ⟨by first | rfl | (simp [errW_none, errW_some] <;> rfl) | (simp [*, errW_none, errW_some] <;> rfl), by repeat (first | (with_reducible first | exact HB.out | apply below_alloc | apply pw_below_drewN | apply below_drew1 | refine below_set ?_ GE127.out | refine below_set ?_ GE128.out) | exact HB.out)⟩
 ·replace c5 := Bool.eq_false_iff.mpr c5
  subst c5
  have H1 : ((cabinetrylaw09_page.f a2).bind fun bt134 => ((key_Encode.f k a0_0 a0_1 a0_2 bt134.1 bt134.2 false).bind fun bt136 => ((key_Encode.f k a1_0 a1_1 a1_2 bt134.1 bt134.2 false).bind fun bt138 => ((key_Encode.f k a0_0 a0_1 a0_2 bt134.1 bt134.2 true).bind fun bt140 => ((key_Encode.f k a1_0 a1_1 a1_2 bt134.1 bt134.2 true).bind fun bt142 => (if bt136.2 = 0 then (if bt138.2 = 0 then (if bt140.2 = 0 then (cabinetrylaw09_KeyOrders.j0 k bt134.1 bt134.2 bt136.1 bt138.1 bt140.1 bt142.1 (bt142.2 != 0) a0_0 a0_1 a0_2 a1_0 a1_1 a1_2) else (cabinetrylaw09_KeyOrders.j0 k bt134.1 bt134.2 bt136.1 bt138.1 bt140.1 bt142.1 true a0_0 a0_1 a0_2 a1_0 a1_1 a1_2)) else (cabinetrylaw09_KeyOrders.j0 k bt134.1 bt134.2 bt136.1 bt138.1 bt140.1 bt142.1 true a0_0 a0_1 a0_2 a1_0 a1_1 a1_2)) else (cabinetrylaw09_KeyOrders.j0 k bt134.1 bt134.2 bt136.1 bt138.1 bt140.1 bt142.1 true a0_0 a0_1 a0_2 a1_0 a1_1 a1_2))))))) = some r := by rw [if_neg (show ¬ (false = true) by decide)] at H; exact H
  clear H
  have H := H1
  clear H1
  replace H := Option.bind_eq_some_iff.mp H
  obtain ⟨⟨t134, t135⟩, A160, H⟩ := H
  replace H : ((key_Encode.f k a0_0 a0_1 a0_2 t134 t135 false).bind fun bt136 => ((key_Encode.f k a1_0 a1_1 a1_2 t134 t135 false).bind fun bt138 => ((key_Encode.f k a0_0 a0_1 a0_2 t134 t135 true).bind fun bt140 => ((key_Encode.f k a1_0 a1_1 a1_2 t134 t135 true).bind fun bt142 => (if bt136.2 = 0 then (if bt138.2 = 0 then (if bt140.2 = 0 then (cabinetrylaw09_KeyOrders.j0 k t134 t135 bt136.1 bt138.1 bt140.1 bt142.1 (bt142.2 != 0) a0_0 a0_1 a0_2 a1_0 a1_1 a1_2) else (cabinetrylaw09_KeyOrders.j0 k t134 t135 bt136.1 bt138.1 bt140.1 bt142.1 true a0_0 a0_1 a0_2 a1_0 a1_1 a1_2)) else (cabinetrylaw09_KeyOrders.j0 k t134 t135 bt136.1 bt138.1 bt140.1 bt142.1 true a0_0 a0_1 a0_2 a1_0 a1_1 a1_2)) else (cabinetrylaw09_KeyOrders.j0 k t134 t135 bt136.1 bt138.1 bt140.1 bt142.1 true a0_0 a0_1 a0_2 a1_0 a1_1 a1_2)))))) = some r := H
  have A16 := Aside0.mk A160
  clear A160
  replace H := Option.bind_eq_some_iff.mp H
  obtain ⟨⟨t136, t137⟩, A170, H⟩ := H
  replace H : ((key_Encode.f k a1_0 a1_1 a1_2 t134 t135 false).bind fun bt138 => ((key_Encode.f k a0_0 a0_1 a0_2 t134 t135 true).bind fun bt140 => ((key_Encode.f k a1_0 a1_1 a1_2 t134 t135 true).bind fun bt142 => (if t137 = 0 then (if bt138.2 = 0 then (if bt140.2 = 0 then (cabinetrylaw09_KeyOrders.j0 k t134 t135 t136 bt138.1 bt140.1 bt142.1 (bt142.2 != 0) a0_0 a0_1 a0_2 a1_0 a1_1 a1_2) else (cabinetrylaw09_KeyOrders.j0 k t134 t135 t136 bt138.1 bt140.1 bt142.1 true a0_0 a0_1 a0_2 a1_0 a1_1 a1_2)) else (cabinetrylaw09_KeyOrders.j0 k t134 t135 t136 bt138.1 bt140.1 bt142.1 true a0_0 a0_1 a0_2 a1_0 a1_1 a1_2)) else (cabinetrylaw09_KeyOrders.j0 k t134 t135 t136 bt138.1 bt140.1 bt142.1 true a0_0 a0_1 a0_2 a1_0 a1_1 a1_2))))) = some r := H
  have A17 := Aside0.mk A170
  clear A170
  replace H := Option.bind_eq_some_iff.mp H
  obtain ⟨⟨t138, t139⟩, A180, H⟩ := H
  replace H : ((key_Encode.f k a0_0 a0_1 a0_2 t134 t135 true).bind fun bt140 => ((key_Encode.f k a1_0 a1_1 a1_2 t134 t135 true).bind fun bt142 => (if t137 = 0 then (if t139 = 0 then (if bt140.2 = 0 then (cabinetrylaw09_KeyOrders.j0 k t134 t135 t136 t138 bt140.1 bt142.1 (bt142.2 != 0) a0_0 a0_1 a0_2 a1_0 a1_1 a1_2) else (cabinetrylaw09_KeyOrders.j0 k t134 t135 t136 t138 bt140.1 bt142.1 true a0_0 a0_1 a0_2 a1_0 a1_1 a1_2)) else (cabinetrylaw09_KeyOrders.j0 k t134 t135 t136 t138 bt140.1 bt142.1 true a0_0 a0_1 a0_2 a1_0 a1_1 a1_2)) else (cabinetrylaw09_KeyOrders.j0 k t134 t135 t136 t138 bt140.1 bt142.1 true a0_0 a0_1 a0_2 a1_0 a1_1 a1_2)))) = some r := H
  have A18 := Aside0.mk A180
  clear A180
  replace H := Option.bind_eq_some_iff.mp H
  obtain ⟨⟨t140, t141⟩, A190, H⟩ := H
  replace H : ((key_Encode.f k a1_0 a1_1 a1_2 t134 t135 true).bind fun bt142 => (if t137 = 0 then (if t139 = 0 then (if t141 = 0 then (cabinetrylaw09_KeyOrders.j0 k t134 t135 t136 t138 t140 bt142.1 (bt142.2 != 0) a0_0 a0_1 a0_2 a1_0 a1_1 a1_2) else (cabinetrylaw09_KeyOrders.j0 k t134 t135 t136 t138 t140 bt142.1 true a0_0 a0_1 a0_2 a1_0 a1_1 a1_2)) else (cabinetrylaw09_KeyOrders.j0 k t134 t135 t136 t138 t140 bt142.1 true a0_0 a0_1 a0_2 a1_0 a1_1 a1_2)) else (cabinetrylaw09_KeyOrders.j0 k t134 t135 t136 t138 t140 bt142.1 true a0_0 a0_1 a0_2 a1_0 a1_1 a1_2))) = some r := H
  have A19 := Aside0.mk A190
  clear A190
  replace H := Option.bind_eq_some_iff.mp H
  obtain ⟨⟨t142, t143⟩, A200, H⟩ := H
  replace H : (if t137 = 0 then (if t139 = 0 then (if t141 = 0 then (cabinetrylaw09_KeyOrders.j0 k t134 t135 t136 t138 t140 t142 (t143 != 0) a0_0 a0_1 a0_2 a1_0 a1_1 a1_2) else (cabinetrylaw09_KeyOrders.j0 k t134 t135 t136 t138 t140 t142 true a0_0 a0_1 a0_2 a1_0 a1_1 a1_2)) else (cabinetrylaw09_KeyOrders.j0 k t134 t135 t136 t138 t140 t142 true a0_0 a0_1 a0_2 a1_0 a1_1 a1_2)) else (cabinetrylaw09_KeyOrders.j0 k t134 t135 t136 t138 t140 t142 true a0_0 a0_1 a0_2 a1_0 a1_1 a1_2)) = some r := H
  have A20 := Aside0.mk A200
  clear A200
  have HC21 := Aside0.mk H
  clear H
  go_enter Tryd.func4, Tryd.ntmps4
  go_upto_region 8 with (first | ((with_reducible refine gate_dst (N := 3) rfl ?_); refine box_event ?hg (N := 3) ?hd (cs := #[.int .i64 a0_0, .int .i64 a0_1, .string a0_2]) (t := 23) ?hr ?_; (case hd => rfl); (case hg => rfl); (case hr => first | (go_simp; done) | (go_simp; rfl)); intro gb127 hg w22 hbox hb; have n0_ := Aside0.mk (below_step (by repeat (first | (with_reducible first | exact HB.out | apply below_alloc | apply pw_below_drewN | apply below_drew1) | exact HB.out)) hb); have n1_ := Aside0.mk (hbox); have n2_ := Aside0.mk ((by rw [hg]; exact (below_size (by repeat (first | (with_reducible first | exact HB.out | apply below_alloc | apply pw_below_drewN | apply below_drew1) | exact HB.out))) : w.heap.size ≤ gb127)); have n3_ := Aside0.mk ((by rw [hg]; exact (below_size (by repeat (first | (with_reducible first | exact HB.out | apply below_alloc | apply pw_below_drewN | apply below_drew1) | exact HB.out))) : w.heap.size ≤ gb127)); clear HB; have HB := n0_; have BK127 := n1_; have GW127 := n2_; have GE127 := n3_; clear n0_ n1_ n2_ n3_; clear hb hbox hg) | ((with_reducible refine gate_dst (N := 4) rfl ?_); refine box_event ?hg (N := 4) ?hd (cs := #[.int .i64 a1_0, .int .i64 a1_1, .string a1_2]) (t := 23) ?hr ?_; (case hd => rfl); (case hg => rfl); (case hr => first | (go_simp; done) | (go_simp; rfl)); intro gb128 hg w23 hbox hb; have n0_ := Aside0.mk (blk_below (g := gb127) (o := .cells #[.int .i64 a0_0, .int .i64 a0_1, .string a0_2] 23 (0, 0)) (by (with_reducible repeat (first | refine blk_drewN ?_ _ | refine blk_drew ?_ | refine blk_alloc ?_ _)); exact BK127.out) hb); have n1_ := Aside0.mk (below_step (by repeat (first | (with_reducible first | exact HB.out | apply below_alloc | apply pw_below_drewN | apply below_drew1 | refine below_set ?_ GE127.out) | exact HB.out)) hb); have n2_ := Aside0.mk (hbox); have n3_ := Aside0.mk ((by rw [hg]; exact (below_size (by repeat (first | (with_reducible first | exact HB.out | apply below_alloc | apply pw_below_drewN | apply below_drew1 | refine below_set ?_ GE127.out) | exact HB.out))) : w.heap.size ≤ gb128)); have n4_ := Aside0.mk ((by rw [hg]; exact (below_size (by repeat (first | (with_reducible first | exact HB.out | apply below_alloc | apply pw_below_drewN | apply below_drew1 | refine below_set ?_ GE127.out) | exact HB.out))) : w.heap.size ≤ gb128)); have n5_ := Aside0.mk ((by rw [hg]; exact Nat.ne_of_lt (blk_lt (g := gb127) (o := .cells #[.int .i64 a0_0, .int .i64 a0_1, .string a0_2] 23 (0, 0)) (by (with_reducible repeat (first | refine blk_drewN ?_ _ | refine blk_drew ?_ | refine blk_alloc ?_ _)); exact BK127.out)) : gb127 ≠ gb128)); have n6_ := Aside0.mk ((by rw [hg]; exact Nat.ne_of_gt (blk_lt (g := gb127) (o := .cells #[.int .i64 a0_0, .int .i64 a0_1, .string a0_2] 23 (0, 0)) (by (with_reducible repeat (first | refine blk_drewN ?_ _ | refine blk_drew ?_ | refine blk_alloc ?_ _)); exact BK127.out)) : gb128 ≠ gb127)); clear BK127; clear HB; have BK127 := n0_; have HB := n1_; have BK128 := n2_; have GW128 := n3_; have GE128 := n4_; have NB127_128 := n5_; have NB128_127 := n6_; clear n0_ n1_ n2_ n3_ n4_ n5_ n6_; clear hb hbox hg; have hnb24 := NB127_128.out; have hnc24 := NB128_127.out; have hcz25_0 : w23.cell? ⟨gb127, 0, none⟩ = some (.int .i64 a0_0) := (blk_cell BK127.out 0).trans rfl; have hcz25_1 : w23.cell? ⟨gb127, 1, none⟩ = some (.int .i64 a0_1) := (blk_cell BK127.out 1).trans rfl; have hcz25_2 : w23.cell? ⟨gb127, 2, none⟩ = some (.string a0_2) := (blk_cell BK127.out 2).trans rfl; have hfz25_0 := blk_frozen BK127.out 0; have hfz25_1 := blk_frozen BK127.out 1; have hfz25_2 := blk_frozen BK127.out 2; have hcz26_0 : w23.cell? ⟨gb128, 0, none⟩ = some (.int .i64 a1_0) := (blk_cell BK128.out 0).trans rfl; have hcz26_1 : w23.cell? ⟨gb128, 1, none⟩ = some (.int .i64 a1_1) := (blk_cell BK128.out 1).trans rfl; have hcz26_2 : w23.cell? ⟨gb128, 2, none⟩ = some (.string a1_2) := (blk_cell BK128.out 2).trans rfl; have hfz26_0 := blk_frozen BK128.out 0; have hfz26_1 := blk_frozen BK128.out 1; have hfz26_2 := blk_frozen BK128.out 2) | ((with_reducible refine gate_dst (N := 21) rfl ?_); refine Kd.R_lit k23 _ 23 ?hg (N := 21) ?hd (xs := ([(⟨a0_0, a0_1, a0_2⟩ : S23), (⟨a1_0, a1_1, a1_2⟩ : S23)] : List (S23))) (inner := [.int .i64 a0_0, .int .i64 a0_1, .string a0_2, .int .i64 a1_0, .int .i64 a1_1, .string a1_2]) (ok := fun _ => True) (okp := fun _ => True) ?hr ?hp (fun _ hk => hk) trivial (Below.refl _ _) (Nat.le_refl _) (by simp) ?_; (case hd => rfl); (case hg => rfl); (case hr => first | (go_simp; done) | (go_simp; rfl)); (case hp => exact (Reps.c3 (show Kd.M k23 _ _ _ (⟨a0_0, a0_1, a0_2⟩ : S23) [.int .i64 a0_0, .int .i64 a0_1, .string a0_2] from (k23_mkM _ _ _ (⟨a0_0, a0_1, a0_2⟩ : S23) )) (Reps.c3 (show Kd.M k23 _ _ _ (⟨a1_0, a1_1, a1_2⟩ : S23) [.int .i64 a1_0, .int .i64 a1_1, .string a1_2] from (k23_mkM _ _ _ (⟨a1_0, a1_1, a1_2⟩ : S23) )) (Reps.none _ _)))); intro v130 w27 ho28 hb hg_ hnew_; clear hg_ hnew_; (first | rw [← Ny129.out] at ho28 | (simp only [Int.reduceToNat] at ho28; rw [← Ny129.out] at ho28)); have n0_ := Aside0.mk (Kd.R_lower (Kd.R_newB (Kd.R_newB ho28 (g := gb127) (o := .cells #[.int .i64 a0_0, .int .i64 a0_1, .string a0_2] 23 (0, 0)) (by (with_reducible repeat (first | refine blk_drewN ?_ _ | refine blk_drew ?_ | refine blk_alloc ?_ _)); exact BK127.out)) (g := gb128) (o := .cells #[.int .i64 a1_0, .int .i64 a1_1, .string a1_2] 23 (0, 0)) (by (with_reducible repeat (first | refine blk_drewN ?_ _ | refine blk_drew ?_ | refine blk_alloc ?_ _)); exact BK128.out)) (below_size (by repeat (first | (with_reducible first | exact HB.out | apply below_alloc | apply pw_below_drewN | apply below_drew1 | refine below_set ?_ GE127.out | refine below_set ?_ GE128.out) | exact HB.out)))); have n1_ := Aside0.mk (blk_below (g := gb127) (o := .cells #[.int .i64 a0_0, .int .i64 a0_1, .string a0_2] 23 (0, 0)) (by (with_reducible repeat (first | refine blk_drewN ?_ _ | refine blk_drew ?_ | refine blk_alloc ?_ _)); exact BK127.out) hb); have n2_ := Aside0.mk (blk_below (g := gb128) (o := .cells #[.int .i64 a1_0, .int .i64 a1_1, .string a1_2] 23 (0, 0)) (by (with_reducible repeat (first | refine blk_drewN ?_ _ | refine blk_drew ?_ | refine blk_alloc ?_ _)); exact BK128.out) hb); have n3_ := Aside0.mk (below_step (by repeat (first | (with_reducible first | exact HB.out | apply below_alloc | apply pw_below_drewN | apply below_drew1 | refine below_set ?_ GE127.out | refine below_set ?_ GE128.out) | exact HB.out)) hb); clear BK127; clear BK128; clear HB; have HO131 := n0_; have BK127 := n1_; have BK128 := n2_; have HB := n3_; clear n0_ n1_ n2_ n3_; clear hb ho28; obtain ⟨Ao29, co29, eo29⟩ := Kd.R_slice HO131.out; subst eo29) | ((with_reducible refine gate_callee (f := 14) rfl ?_); refine goesL_ (some 22) rfl rfl Tryd.func14 (by kernel_rfl) rfl #[.slice Ao29 y129.length co29] rfl (by (try simp only [List.map_toArray, List.map_cons, List.map_nil]); first | done | rfl | (simp only [List.length_drop, List.length_take]; rfl)) ?_; (with_reducible refine (cabinetrylaw09_over.calls k _ _ y129 false _ ?side1 ?side2 A4.out).mono ?_); (case side1 => repeat (first | exact (Kd.R_reads' HO131.out).2.2 | (with_reducible refine Kd.C_alloc ?_ _) | (with_reducible refine Kd.C_drewN ?_ _) | (with_reducible refine Kd.C_drew ?_))); (case side2 => exact (Kd.R_reads' HO131.out).2.1); rintro e w' ⟨rfl, ⟨nd, rfl⟩⟩; refine ⟨_, rfl, ?_⟩) | ((with_reducible refine gate_callee (f := 18) rfl ?_); refine goesL_ (some 26) rfl rfl Tryd.func18 (by kernel_rfl) rfl #[.int .i64 a2] rfl (by (try simp only [List.map_toArray, List.map_cons, List.map_nil]); first | done | rfl | (simp only [List.length_drop, List.length_take]; rfl)) ?_; (with_reducible refine (cabinetrylaw09_page.calls a2 t134 t135 _ A16.out).mono ?_); rintro e w' ⟨rfl, ⟨nd, rfl⟩⟩; refine ⟨_, rfl, ?_⟩; have hcz30_0 : w27.cell? ⟨gb127, 0, none⟩ = some (.int .i64 a0_0) := (blk_cell BK127.out 0).trans rfl; have hcz30_1 : w27.cell? ⟨gb127, 1, none⟩ = some (.int .i64 a0_1) := (blk_cell BK127.out 1).trans rfl; have hcz30_2 : w27.cell? ⟨gb127, 2, none⟩ = some (.string a0_2) := (blk_cell BK127.out 2).trans rfl; have hfz30_0 := blk_frozen BK127.out 0; have hfz30_1 := blk_frozen BK127.out 1; have hfz30_2 := blk_frozen BK127.out 2) | ((with_reducible refine gate_callee (f := 16) rfl ?_); refine goesL_ (some 33) rfl rfl Tryd.func16 (by kernel_rfl) rfl #[.agg #[.int .i64 a0_0, .int .i64 a0_1, .string a0_2], .int .i64 t134, .int .i64 t135, .bool false] rfl (by (try simp only [List.map_toArray, List.map_cons, List.map_nil]); first | done | rfl | (simp only [List.length_drop, List.length_take]; rfl)) ?_; (with_reducible refine (key_Encode.calls k a0_0 a0_1 a0_2 t134 t135 false t136 t137 _ A17.out (Hm.keep hm_ (by repeat (first | (with_reducible first | exact HB.out | apply below_alloc | apply pw_below_drewN | apply below_drew1 | refine below_set ?_ GE127.out | refine below_set ?_ GE128.out) | exact HB.out)))).mono ?_); rintro e w31 ⟨rfl, hb⟩; refine ⟨_, rfl, ?_⟩; have n0_ := Aside0.mk (Kd.R_below (by (with_reducible repeat (first | apply Kd.R_alloc | apply Kd.R_drewN | apply Kd.R_drew)); exact HO131.out) hb); have n1_ := Aside0.mk (blk_below (g := gb127) (o := .cells #[.int .i64 a0_0, .int .i64 a0_1, .string a0_2] 23 (0, 0)) (by (with_reducible repeat (first | refine blk_drewN ?_ _ | refine blk_drew ?_ | refine blk_alloc ?_ _)); exact BK127.out) hb); have n2_ := Aside0.mk (blk_below (g := gb128) (o := .cells #[.int .i64 a1_0, .int .i64 a1_1, .string a1_2] 23 (0, 0)) (by (with_reducible repeat (first | refine blk_drewN ?_ _ | refine blk_drew ?_ | refine blk_alloc ?_ _)); exact BK128.out) hb); have n3_ := Aside0.mk (below_step (by repeat (first | (with_reducible first | exact HB.out | apply below_alloc | apply pw_below_drewN | apply below_drew1 | refine below_set ?_ GE127.out | refine below_set ?_ GE128.out) | exact HB.out)) hb); clear HO131; clear BK127; clear BK128; clear HB; have HO131 := n0_; have BK127 := n1_; have BK128 := n2_; have HB := n3_; clear n0_ n1_ n2_ n3_; (try clear hb); (try clear hb2); (try clear hk); (try clear hi); have hcz32_0 : w31.cell? ⟨gb128, 0, none⟩ = some (.int .i64 a1_0) := (blk_cell BK128.out 0).trans rfl; have hcz32_1 : w31.cell? ⟨gb128, 1, none⟩ = some (.int .i64 a1_1) := (blk_cell BK128.out 1).trans rfl; have hcz32_2 : w31.cell? ⟨gb128, 2, none⟩ = some (.string a1_2) := (blk_cell BK128.out 2).trans rfl; have hfz32_0 := blk_frozen BK128.out 0; have hfz32_1 := blk_frozen BK128.out 1; have hfz32_2 := blk_frozen BK128.out 2) | ((with_reducible refine gate_callee (f := 16) rfl ?_); refine goesL_ (some 40) rfl rfl Tryd.func16 (by kernel_rfl) rfl #[.agg #[.int .i64 a1_0, .int .i64 a1_1, .string a1_2], .int .i64 t134, .int .i64 t135, .bool false] rfl (by (try simp only [List.map_toArray, List.map_cons, List.map_nil]); first | done | rfl | (simp only [List.length_drop, List.length_take]; rfl)) ?_; (with_reducible refine (key_Encode.calls k a1_0 a1_1 a1_2 t134 t135 false t138 t139 _ A18.out (Hm.keep hm_ (by repeat (first | (with_reducible first | exact HB.out | apply below_alloc | apply pw_below_drewN | apply below_drew1 | refine below_set ?_ GE127.out | refine below_set ?_ GE128.out) | exact HB.out)))).mono ?_); rintro e w33 ⟨rfl, hb⟩; refine ⟨_, rfl, ?_⟩; have n0_ := Aside0.mk (Kd.R_below (by (with_reducible repeat (first | apply Kd.R_alloc | apply Kd.R_drewN | apply Kd.R_drew)); exact HO131.out) hb); have n1_ := Aside0.mk (blk_below (g := gb127) (o := .cells #[.int .i64 a0_0, .int .i64 a0_1, .string a0_2] 23 (0, 0)) (by (with_reducible repeat (first | refine blk_drewN ?_ _ | refine blk_drew ?_ | refine blk_alloc ?_ _)); exact BK127.out) hb); have n2_ := Aside0.mk (blk_below (g := gb128) (o := .cells #[.int .i64 a1_0, .int .i64 a1_1, .string a1_2] 23 (0, 0)) (by (with_reducible repeat (first | refine blk_drewN ?_ _ | refine blk_drew ?_ | refine blk_alloc ?_ _)); exact BK128.out) hb); have n3_ := Aside0.mk (below_step (by repeat (first | (with_reducible first | exact HB.out | apply below_alloc | apply pw_below_drewN | apply below_drew1 | refine below_set ?_ GE127.out | refine below_set ?_ GE128.out) | exact HB.out)) hb); clear HO131; clear BK127; clear BK128; clear HB; have HO131 := n0_; have BK127 := n1_; have BK128 := n2_; have HB := n3_; clear n0_ n1_ n2_ n3_; (try clear hb); (try clear hb2); (try clear hk); (try clear hi); have hcz34_0 : w33.cell? ⟨gb127, 0, none⟩ = some (.int .i64 a0_0) := (blk_cell BK127.out 0).trans rfl; have hcz34_1 : w33.cell? ⟨gb127, 1, none⟩ = some (.int .i64 a0_1) := (blk_cell BK127.out 1).trans rfl; have hcz34_2 : w33.cell? ⟨gb127, 2, none⟩ = some (.string a0_2) := (blk_cell BK127.out 2).trans rfl; have hfz34_0 := blk_frozen BK127.out 0; have hfz34_1 := blk_frozen BK127.out 1; have hfz34_2 := blk_frozen BK127.out 2) | ((with_reducible refine gate_callee (f := 16) rfl ?_); refine goesL_ (some 47) rfl rfl Tryd.func16 (by kernel_rfl) rfl #[.agg #[.int .i64 a0_0, .int .i64 a0_1, .string a0_2], .int .i64 t134, .int .i64 t135, .bool true] rfl (by (try simp only [List.map_toArray, List.map_cons, List.map_nil]); first | done | rfl | (simp only [List.length_drop, List.length_take]; rfl)) ?_; (with_reducible refine (key_Encode.calls k a0_0 a0_1 a0_2 t134 t135 true t140 t141 _ A19.out (Hm.keep hm_ (by repeat (first | (with_reducible first | exact HB.out | apply below_alloc | apply pw_below_drewN | apply below_drew1 | refine below_set ?_ GE127.out | refine below_set ?_ GE128.out) | exact HB.out)))).mono ?_); rintro e w35 ⟨rfl, hb⟩; refine ⟨_, rfl, ?_⟩; have n0_ := Aside0.mk (Kd.R_below (by (with_reducible repeat (first | apply Kd.R_alloc | apply Kd.R_drewN | apply Kd.R_drew)); exact HO131.out) hb); have n1_ := Aside0.mk (blk_below (g := gb127) (o := .cells #[.int .i64 a0_0, .int .i64 a0_1, .string a0_2] 23 (0, 0)) (by (with_reducible repeat (first | refine blk_drewN ?_ _ | refine blk_drew ?_ | refine blk_alloc ?_ _)); exact BK127.out) hb); have n2_ := Aside0.mk (blk_below (g := gb128) (o := .cells #[.int .i64 a1_0, .int .i64 a1_1, .string a1_2] 23 (0, 0)) (by (with_reducible repeat (first | refine blk_drewN ?_ _ | refine blk_drew ?_ | refine blk_alloc ?_ _)); exact BK128.out) hb); have n3_ := Aside0.mk (below_step (by repeat (first | (with_reducible first | exact HB.out | apply below_alloc | apply pw_below_drewN | apply below_drew1 | refine below_set ?_ GE127.out | refine below_set ?_ GE128.out) | exact HB.out)) hb); clear HO131; clear BK127; clear BK128; clear HB; have HO131 := n0_; have BK127 := n1_; have BK128 := n2_; have HB := n3_; clear n0_ n1_ n2_ n3_; (try clear hb); (try clear hb2); (try clear hk); (try clear hi); have hcz36_0 : w35.cell? ⟨gb128, 0, none⟩ = some (.int .i64 a1_0) := (blk_cell BK128.out 0).trans rfl; have hcz36_1 : w35.cell? ⟨gb128, 1, none⟩ = some (.int .i64 a1_1) := (blk_cell BK128.out 1).trans rfl; have hcz36_2 : w35.cell? ⟨gb128, 2, none⟩ = some (.string a1_2) := (blk_cell BK128.out 2).trans rfl; have hfz36_0 := blk_frozen BK128.out 0; have hfz36_1 := blk_frozen BK128.out 1; have hfz36_2 := blk_frozen BK128.out 2) | ((with_reducible refine gate_callee (f := 16) rfl ?_); refine goesL_ (some 54) rfl rfl Tryd.func16 (by kernel_rfl) rfl #[.agg #[.int .i64 a1_0, .int .i64 a1_1, .string a1_2], .int .i64 t134, .int .i64 t135, .bool true] rfl (by (try simp only [List.map_toArray, List.map_cons, List.map_nil]); first | done | rfl | (simp only [List.length_drop, List.length_take]; rfl)) ?_; (with_reducible refine (key_Encode.calls k a1_0 a1_1 a1_2 t134 t135 true t142 t143 _ A20.out (Hm.keep hm_ (by repeat (first | (with_reducible first | exact HB.out | apply below_alloc | apply pw_below_drewN | apply below_drew1 | refine below_set ?_ GE127.out | refine below_set ?_ GE128.out) | exact HB.out)))).mono ?_); rintro e w37 ⟨rfl, hb⟩; refine ⟨_, rfl, ?_⟩; have n0_ := Aside0.mk (Kd.R_below (by (with_reducible repeat (first | apply Kd.R_alloc | apply Kd.R_drewN | apply Kd.R_drew)); exact HO131.out) hb); have n1_ := Aside0.mk (blk_below (g := gb127) (o := .cells #[.int .i64 a0_0, .int .i64 a0_1, .string a0_2] 23 (0, 0)) (by (with_reducible repeat (first | refine blk_drewN ?_ _ | refine blk_drew ?_ | refine blk_alloc ?_ _)); exact BK127.out) hb); have n2_ := Aside0.mk (blk_below (g := gb128) (o := .cells #[.int .i64 a1_0, .int .i64 a1_1, .string a1_2] 23 (0, 0)) (by (with_reducible repeat (first | refine blk_drewN ?_ _ | refine blk_drew ?_ | refine blk_alloc ?_ _)); exact BK128.out) hb); have n3_ := Aside0.mk (below_step (by repeat (first | (with_reducible first | exact HB.out | apply below_alloc | apply pw_below_drewN | apply below_drew1 | refine below_set ?_ GE127.out | refine below_set ?_ GE128.out) | exact HB.out)) hb); clear HO131; clear BK127; clear BK128; clear HB; have HO131 := n0_; have BK127 := n1_; have BK128 := n2_; have HB := n3_; clear n0_ n1_ n2_ n3_; (try clear hb); (try clear hb2); (try clear hk); (try clear hi)))
  (try simp only [Act.put, List.setIfInBounds_toArray, List.set_cons_zero, List.set_cons_succ])
  go_cut [70] (fun v70 wc => ∃ (kq : Nat) (x70_20 : Bool), v70 = .bool x70_20 ∧ Aside0 (cabinetrylaw09_KeyOrders.j0 kq t134 t135 t136 t138 t140 t142 x70_20 a0_0 a0_1 a0_2 a1_0 a1_1 a1_2 = some r) ∧ Aside0 (kq ≤ k) ∧ Aside0 (wc.heap[gb127]? = some (.cells #[.int .i64 a0_0, .int .i64 a0_1, .string a0_2] 23 (0, 0))) ∧ Aside0 (wc.heap[gb128]? = some (.cells #[.int .i64 a1_0, .int .i64 a1_1, .string a1_2] 23 (0, 0))) ∧ Aside0 (Below w.heap.size w wc))
  case first =>
   have H := HC21.out
   clear HC21
   by_cases c38 : t137 = 0
   ·rw [if_pos c38] at H
    have c38b0 : (t137 == 0) = true := beq_iff_eq.mpr c38
    have c38b1 : (t137 != 0) = false := bne_eq_false_iff_eq.mpr c38
    clear c38
    (first | rw [c38b0] | (simp only [i64_w, i32_w]; rw [c38b0]) | skip)
    by_cases c39 : t139 = 0
    ·rw [if_pos c39] at H
     have c39b0 : (t139 == 0) = true := beq_iff_eq.mpr c39
     have c39b1 : (t139 != 0) = false := bne_eq_false_iff_eq.mpr c39
     clear c39
     by_cases c40 : t141 = 0
     ·rw [if_pos c40] at H
      have c40b0 : (t141 == 0) = true := beq_iff_eq.mpr c40
      have c40b1 : (t141 != 0) = false := bne_eq_false_iff_eq.mpr c40
      clear c40
      have H' := Aside0.mk H
      clear H
      go_wp2
      go_meet
      case rel => exact ⟨_, ((t143 != 0)), (by first | rfl | (simp; done) | (simp [*]; done)), H', ⟨by first | omega | exact Nat.le_refl _⟩, ⟨by (with_reducible repeat (first | refine blk_drewN ?_ _ | refine blk_drew ?_ | refine blk_alloc ?_ _)); exact BK127.out⟩, ⟨by (with_reducible repeat (first | refine blk_drewN ?_ _ | refine blk_drew ?_ | refine blk_alloc ?_ _)); exact BK128.out⟩, ⟨by repeat (first | (with_reducible first | exact HB.out | apply below_alloc | apply pw_below_drewN | apply below_drew1 | refine below_set ?_ GE127.out | refine below_set ?_ GE128.out) | exact HB.out)⟩⟩
     ·rw [if_neg c40] at H
      have c40b0 : (t141 == 0) = false := beq_eq_false_iff_ne.mpr c40
      have c40b1 : (t141 != 0) = true := bne_iff_ne.mpr c40
      have H' := Aside0.mk H
      clear H
      go_wp2
      go_meet
      case rel => exact ⟨_, (true), (by first | rfl | (simp; done) | (simp [*]; done)), H', ⟨by first | omega | exact Nat.le_refl _⟩, ⟨by (with_reducible repeat (first | refine blk_drewN ?_ _ | refine blk_drew ?_ | refine blk_alloc ?_ _)); exact BK127.out⟩, ⟨by (with_reducible repeat (first | refine blk_drewN ?_ _ | refine blk_drew ?_ | refine blk_alloc ?_ _)); exact BK128.out⟩, ⟨by repeat (first | (with_reducible first | exact HB.out | apply below_alloc | apply pw_below_drewN | apply below_drew1 | refine below_set ?_ GE127.out | refine below_set ?_ GE128.out) | exact HB.out)⟩⟩
    ·rw [if_neg c39] at H
     have c39b0 : (t139 == 0) = false := beq_eq_false_iff_ne.mpr c39
     have c39b1 : (t139 != 0) = true := bne_iff_ne.mpr c39
     have H' := Aside0.mk H
     clear H
     go_wp2
     go_meet
     case rel => exact ⟨_, (true), (by first | rfl | (simp; done) | (simp [*]; done)), H', ⟨by first | omega | exact Nat.le_refl _⟩, ⟨by (with_reducible repeat (first | refine blk_drewN ?_ _ | refine blk_drew ?_ | refine blk_alloc ?_ _)); exact BK127.out⟩, ⟨by (with_reducible repeat (first | refine blk_drewN ?_ _ | refine blk_drew ?_ | refine blk_alloc ?_ _)); exact BK128.out⟩, ⟨by repeat (first | (with_reducible first | exact HB.out | apply below_alloc | apply pw_below_drewN | apply below_drew1 | refine below_set ?_ GE127.out | refine below_set ?_ GE128.out) | exact HB.out)⟩⟩
   ·rw [if_neg c38] at H
    have c38b0 : (t137 == 0) = false := beq_eq_false_iff_ne.mpr c38
    have c38b1 : (t137 != 0) = true := bne_iff_ne.mpr c38
    (first | rw [c38b0] | (simp only [i64_w, i32_w]; rw [c38b0]) | skip)
    have H' := Aside0.mk H
    clear H
    go_wp2
    go_meet
    case rel => exact ⟨_, (true), (by first | rfl | (simp; done) | (simp [*]; done)), H', ⟨by first | omega | exact Nat.le_refl _⟩, ⟨by (with_reducible repeat (first | refine blk_drewN ?_ _ | refine blk_drew ?_ | refine blk_alloc ?_ _)); exact BK127.out⟩, ⟨by (with_reducible repeat (first | refine blk_drewN ?_ _ | refine blk_drew ?_ | refine blk_alloc ?_ _)); exact BK128.out⟩, ⟨by repeat (first | (with_reducible first | exact HB.out | apply below_alloc | apply pw_below_drewN | apply below_drew1 | refine below_set ?_ GE127.out | refine below_set ?_ GE128.out) | exact HB.out)⟩⟩
  case rest =>
   clear HC21
   try clear c1; try clear c2; try clear p2; try clear c3; try clear c4; try clear c5; try clear c9; try clear c14; try clear c15; try clear c16; try clear c18; try clear c24; try clear c38; try clear c38b0; try clear c38b1; try clear c39; try clear c39b0; try clear c39b1; try clear c40; try clear c40b0; try clear c40b1; try clear hcz10_0; try clear hcz10_1; try clear hcz10_2; try clear hcz11_0; try clear hcz11_1; try clear hcz11_2; try clear hcz25_0; try clear hcz25_1; try clear hcz25_2; try clear hcz26_0; try clear hcz26_1; try clear hcz26_2; try clear hcz30_0; try clear hcz30_1; try clear hcz30_2; try clear hcz32_0; try clear hcz32_1; try clear hcz32_2; try clear hcz34_0; try clear hcz34_1; try clear hcz34_2; try clear hcz36_0; try clear hcz36_1; try clear hcz36_2; try clear hfz10_0; try clear hfz10_1; try clear hfz10_2; try clear hfz11_0; try clear hfz11_1; try clear hfz11_2; try clear hfz25_0; try clear hfz25_1; try clear hfz25_2; try clear hfz26_0; try clear hfz26_1; try clear hfz26_2; try clear hfz30_0; try clear hfz30_1; try clear hfz30_2; try clear hfz32_0; try clear hfz32_1; try clear hfz32_2; try clear hfz34_0; try clear hfz34_1; try clear hfz34_2; try clear hfz36_0; try clear hfz36_1; try clear hfz36_2
   obtain ⟨kq, x70_20, rfl, HA, HJ20, BK127, BK128, HB⟩ := hcut
   cases kq with
   | zero => exact absurd HA.out (by simp [cabinetrylaw09_KeyOrders.j0])
   | succ kj20 =>
    have H := HA.out
    clear HA
    simp only [cabinetrylaw09_KeyOrders.j0] at H
    by_cases c41 : x70_20 = true
    ·subst c41
     have H1 : ((cabinetrylaw09_known.f kj20).bind fun t144 => (some t144)) = some r := by rw [if_pos rfl] at H; exact H
     clear H
     have H := H1
     clear H1
     replace H := Option.bind_eq_some_iff.mp H
     obtain ⟨t144, A420, H⟩ := H
     replace H : (some t144) = some r := H
     have A42 := Aside0.mk A420
     clear A420
     obtain rfl := Option.some.inj H
     simp only [Option.some.injEq, Prod.mk.injEq] at H
     obtain ⟨rfl⟩ := H
     go_wp2_with (first | ((with_reducible refine gate_callee (f := 15) rfl ?_); refine goesL_ (some 71) rfl rfl Tryd.func15 (by kernel_rfl) rfl #[] rfl (by (try simp only [List.map_toArray, List.map_cons, List.map_nil]); first | done | rfl | (simp only [List.length_drop, List.length_take]; rfl)) ?_; (with_reducible refine (cabinetrylaw09_known.calls kj20  t144 _ A42.out hr_ (Hm.keep hm_ (by repeat (first | (with_reducible first | exact HB.out | apply below_alloc | apply pw_below_drewN | apply below_drew1 | refine below_set ?_ GE127.out | refine below_set ?_ GE128.out) | exact HB.out)))).mono ?_); rintro e w43 ⟨rfl, hb⟩; refine ⟨_, rfl, ?_⟩; have n0_ := Aside0.mk (blk_below (g := gb127) (o := .cells #[.int .i64 a0_0, .int .i64 a0_1, .string a0_2] 23 (0, 0)) (by (with_reducible repeat (first | refine blk_drewN ?_ _ | refine blk_drew ?_ | refine blk_alloc ?_ _)); exact BK127.out) hb); have n1_ := Aside0.mk (blk_below (g := gb128) (o := .cells #[.int .i64 a1_0, .int .i64 a1_1, .string a1_2] 23 (0, 0)) (by (with_reducible repeat (first | refine blk_drewN ?_ _ | refine blk_drew ?_ | refine blk_alloc ?_ _)); exact BK128.out) hb); have n2_ := Aside0.mk (below_step (by repeat (first | (with_reducible first | exact HB.out | apply below_alloc | apply pw_below_drewN | apply below_drew1 | refine below_set ?_ GE127.out | refine below_set ?_ GE128.out) | exact HB.out)) hb); clear BK127; clear BK128; clear HB; have BK127 := n0_; have BK128 := n1_; have HB := n2_; clear n0_ n1_ n2_; (try clear hb); (try clear hb2); (try clear hk); (try clear hi)))
     go_ret
     exact ⟨by first | rfl | (simp [errW_none, errW_some] <;> rfl) | (simp [*, errW_none, errW_some] <;> rfl), by repeat (first | (with_reducible first | exact HB.out | apply below_alloc | apply pw_below_drewN | apply below_drew1 | refine below_set ?_ GE127.out | refine below_set ?_ GE128.out) | exact HB.out)⟩
    ·replace c41 := Bool.eq_false_iff.mpr c41
     subst c41
     have H1 : ((cabinetrylaw09_first.f a0_2).bind fun t145 => ((cabinetrylaw09_first.f a1_2).bind fun t146 => ((cabinetryref01_Compare.f kj20 a0_0 a0_1 t145 a1_0 a1_1 t146).bind fun bt147 => (if a0_0 = 0 then (cabinetrylaw09_KeyOrders.j1 kj20 t134 t135 t136 t138 t140 t142 bt147.1 bt147.2 true a0_0 a0_1 t145 a1_0 a1_1 t146) else (cabinetrylaw09_KeyOrders.j1 kj20 t134 t135 t136 t138 t140 t142 bt147.1 bt147.2 (a1_0 == 0) a0_0 a0_1 t145 a1_0 a1_1 t146))))) = some r := by rw [if_neg (show ¬ (false = true) by decide)] at H; exact H
     clear H
     have H := H1
     clear H1
     replace H := Option.bind_eq_some_iff.mp H
     obtain ⟨t145, A440, H⟩ := H
     replace H : ((cabinetrylaw09_first.f a1_2).bind fun t146 => ((cabinetryref01_Compare.f kj20 a0_0 a0_1 t145 a1_0 a1_1 t146).bind fun bt147 => (if a0_0 = 0 then (cabinetrylaw09_KeyOrders.j1 kj20 t134 t135 t136 t138 t140 t142 bt147.1 bt147.2 true a0_0 a0_1 t145 a1_0 a1_1 t146) else (cabinetrylaw09_KeyOrders.j1 kj20 t134 t135 t136 t138 t140 t142 bt147.1 bt147.2 (a1_0 == 0) a0_0 a0_1 t145 a1_0 a1_1 t146)))) = some r := H
     have A44 := Aside0.mk A440
     clear A440
     replace H := Option.bind_eq_some_iff.mp H
     obtain ⟨t146, A450, H⟩ := H
     replace H : ((cabinetryref01_Compare.f kj20 a0_0 a0_1 t145 a1_0 a1_1 t146).bind fun bt147 => (if a0_0 = 0 then (cabinetrylaw09_KeyOrders.j1 kj20 t134 t135 t136 t138 t140 t142 bt147.1 bt147.2 true a0_0 a0_1 t145 a1_0 a1_1 t146) else (cabinetrylaw09_KeyOrders.j1 kj20 t134 t135 t136 t138 t140 t142 bt147.1 bt147.2 (a1_0 == 0) a0_0 a0_1 t145 a1_0 a1_1 t146))) = some r := H
     have A45 := Aside0.mk A450
     clear A450
     replace H := Option.bind_eq_some_iff.mp H
     obtain ⟨⟨t147, t148⟩, A460, H⟩ := H
     replace H : (if a0_0 = 0 then (cabinetrylaw09_KeyOrders.j1 kj20 t134 t135 t136 t138 t140 t142 t147 t148 true a0_0 a0_1 t145 a1_0 a1_1 t146) else (cabinetrylaw09_KeyOrders.j1 kj20 t134 t135 t136 t138 t140 t142 t147 t148 (a1_0 == 0) a0_0 a0_1 t145 a1_0 a1_1 t146)) = some r := H
     have A46 := Aside0.mk A460
     clear A460
     have HC47 := Aside0.mk H
     clear H
     try go_wp2
     have n0_ := Aside0.mk (blk_drew BK127.out)
     have n1_ := Aside0.mk (blk_drew BK128.out)
     have n2_ := Aside0.mk (below_drew1 HB.out)
     clear BK127
     clear BK128
     clear HB
     have BK127 := n0_
     have BK128 := n1_
     have HB := n2_
     clear n0_ n1_ n2_
     refine start_ (n := 10) (S := fun w' => w'.cell? ⟨gb127, 0, none⟩ = some (.int .i64 a0_0) ∧ w'.cell? ⟨gb127, 1, none⟩ = some (.int .i64 a0_1) ∧ w'.cell? ⟨gb127, 2, none⟩ = some (.string a0_2) ∧ w'.cell? ⟨gb128, 0, none⟩ = some (.int .i64 a1_0) ∧ w'.cell? ⟨gb128, 1, none⟩ = some (.int .i64 a1_1) ∧ w'.cell? ⟨gb128, 2, none⟩ = some (.string a1_2)) (ds := [7, 9]) #[false, false, false, false, false, false, false, false, false, false] (by kernel_rfl) rfl rfl ⟨(blk_cell BK127.out 0).trans rfl, (blk_cell BK127.out 1).trans rfl, (blk_cell BK127.out 2).trans rfl, (blk_cell BK128.out 0).trans rfl, (blk_cell BK128.out 1).trans rfl, (blk_cell BK128.out 2).trans rfl⟩ (fun hHeld => ?_); refine with_tabW cabinetrylaw09_KeyOrders.tab10 cabinetrylaw09_KeyOrders.bits10 (fun HT_ HW_ => ?_)
     generalize wc.drew = w48 at BK127 BK128 HB hHeld ⊢
     refine pure_ (i := 0) (N := some 72) (v := ?_) (a' := ?_) #[true, false, false, false, false, false, false, false, false, false] rfl rfl (any_of HT_.out (by kernel_rfl)) (fun _ _ _ h => h) (Or.inl ⟨by rfl, ?_⟩) ?_ ?_
     rotate_left
     ·intro w'
      go_simp
      with_reducible rfl
     rotate_left
     ·simp only [Act.put, List.setIfInBounds_toArray, List.set_cons_zero, List.set_cons_succ, i64_w, i32_w]
      rfl
     refine pure_ (i := 3) (N := some 75) (v := ?_) (a' := ?_) #[true, false, false, true, false, false, false, false, false, false] rfl rfl (any_of HT_.out (by kernel_rfl)) (fun _ _ _ h => h) (Or.inl ⟨by rfl, ?_⟩) ?_ ?_
     rotate_left
     ·intro w'
      go_simp
      with_reducible rfl
     rotate_left
     ·simp only [Act.put, List.setIfInBounds_toArray, List.set_cons_zero, List.set_cons_succ, i64_w, i32_w]
      rfl
     refine take_ (i := 1) (N := some 73) (v := ?_) (a' := ?_) #[true, true, false, true, false, false, false, false, false, false] rfl rfl (take_ofW HT_.out HW_.out (by kernel_rfl)) (fun _ _ _ h => h) (Or.inl ⟨by rfl, ?_⟩) hHeld ?_ ?_
     rotate_left
     ·rintro w' ⟨s0, s1, s2, s3, s4, s5⟩
      go_simp
      with_reducible rfl
     rotate_left
     ·simp only [Act.put, List.setIfInBounds_toArray, List.set_cons_zero, List.set_cons_succ, i64_w, i32_w]
      rfl
     refine take_ (i := 4) (N := some 76) (v := ?_) (a' := ?_) #[true, true, false, true, true, false, false, false, false, false] rfl rfl (take_ofW HT_.out HW_.out (by kernel_rfl)) (fun _ _ _ h => h) (Or.inl ⟨by rfl, ?_⟩) hHeld ?_ ?_
     rotate_left
     ·rintro w' ⟨s0, s1, s2, s3, s4, s5⟩
      go_simp
      with_reducible rfl
     rotate_left
     ·simp only [Act.put, List.setIfInBounds_toArray, List.set_cons_zero, List.set_cons_succ, i64_w, i32_w]
      rfl
     refine one_ (i := 2) (N := some 74) #[true, true, true, true, true, false, false, false, false, false] rfl rfl (one_of HT_.out (by kernel_rfl)) (by decide) (fun K hK => ?_)
     refine goes_ Tryd.func19 (by kernel_rfl) rfl #[.string a0_2] (by rfl) rfl rfl (by (try simp only [List.map_toArray, List.map_cons, List.map_nil]); first | done | rfl | (simp only [List.length_drop, List.length_take]; rfl)) ?_
     with_reducible refine (cabinetrylaw09_first.calls a0_2 t145 _ A44.out).mono ?_
     rintro e w' ⟨rfl, ⟨nd, rfl⟩⟩
     refine ⟨_, rfl, ?_⟩
     refine hK.out _ _ ⟨(blk_cell BK127.out 0).trans rfl, (blk_cell BK127.out 1).trans rfl, (blk_cell BK127.out 2).trans rfl, (blk_cell BK128.out 0).trans rfl, (blk_cell BK128.out 1).trans rfl, (blk_cell BK128.out 2).trans rfl⟩ (fun hHeld => ?_)
     clear hK K
     refine norm_ (a' := ?_) ?_ ?_
     rotate_left
     ·show Act.put _ (some 74) _ = _
      simp only [Act.put, List.setIfInBounds_toArray, List.set_cons_zero, List.set_cons_succ, i64_w, i32_w]
      rfl
     refine pure_ (i := 6) (N := some 78) (v := ?_) (a' := ?_) #[true, true, true, true, true, false, true, false, false, false] rfl rfl (any_of HT_.out (by kernel_rfl)) (fun _ _ _ h => h) (Or.inl ⟨by rfl, ?_⟩) ?_ ?_
     rotate_left
     ·intro w'
      go_simp
      with_reducible rfl
     rotate_left
     ·simp only [Act.put, List.setIfInBounds_toArray, List.set_cons_zero, List.set_cons_succ, i64_w, i32_w]
      rfl
     refine one_ (i := 5) (N := some 77) #[true, true, true, true, true, true, true, false, false, false] rfl rfl (one_of HT_.out (by kernel_rfl)) (by decide) (fun K hK => ?_)
     refine goes_ Tryd.func19 (by kernel_rfl) rfl #[.string a1_2] (by rfl) rfl rfl (by (try simp only [List.map_toArray, List.map_cons, List.map_nil]); first | done | rfl | (simp only [List.length_drop, List.length_take]; rfl)) ?_
     with_reducible refine (cabinetrylaw09_first.calls a1_2 t146 _ A45.out).mono ?_
     rintro e w' ⟨rfl, ⟨nd, rfl⟩⟩
     refine ⟨_, rfl, ?_⟩
     refine hK.out _ _ ⟨(blk_cell BK127.out 0).trans rfl, (blk_cell BK127.out 1).trans rfl, (blk_cell BK127.out 2).trans rfl, (blk_cell BK128.out 0).trans rfl, (blk_cell BK128.out 1).trans rfl, (blk_cell BK128.out 2).trans rfl⟩ (fun hHeld => ?_)
     clear hK K
     refine norm_ (a' := ?_) ?_ ?_
     rotate_left
     ·show Act.put _ (some 77) _ = _
      simp only [Act.put, List.setIfInBounds_toArray, List.set_cons_zero, List.set_cons_succ, i64_w, i32_w]
      rfl
     refine last_ (i := 7) (N := none) #[true, true, true, true, true, true, true, true, false, false] rfl rfl (one_of HT_.out (by kernel_rfl)) (by decide) (fun K hK => ?_)
     have hs49 : w48.cell? ⟨gb127, 2, none⟩ = some (.string a0_2) := (blk_cell BK127.out 2).trans rfl
     have hfs49 := blk_frozen BK127.out 2
     have hns49_1 := NB128_127.out
     have hms49_1 := NB127_128.out
     refine skip_ (w1 := ?_) (by rfl) rfl ?_ ?_
     rotate_left
     ·go_simp
      rfl
     refine hK.out _ _ ?_
     clear hK K
     refine pure_ (i := 8) (N := some 79) (v := ?_) (a' := ?_) #[true, true, true, true, true, true, true, true, true, false] rfl rfl (any_of HT_.out (by kernel_rfl)) (fun _ _ _ h => h) (Or.inl ⟨by rfl, ?_⟩) ?_ ?_
     rotate_left
     ·intro w'
      go_simp
      with_reducible rfl
     rotate_left
     ·simp only [Act.put, List.setIfInBounds_toArray, List.set_cons_zero, List.set_cons_succ, i64_w, i32_w]
      rfl
     refine last_ (i := 9) (N := none) #[true, true, true, true, true, true, true, true, true, true] rfl rfl (one_of HT_.out (by kernel_rfl)) (by decide) (fun K hK => ?_)
     have hs50 : w48.cell? ⟨gb128, 2, none⟩ = some (.string a1_2) := (blk_cell BK128.out 2).trans rfl
     have hfs50 := blk_frozen BK128.out 2
     have hns50_0 := NB127_128.out
     have hms50_0 := NB128_127.out
     refine skip_ (w1 := ?_) (by rfl) rfl ?_ ?_
     rotate_left
     ·go_simp
      rfl
     refine hK.out _ _ ?_
     clear hK K
     refine done_ (done_of HT_.out (by kernel_rfl)) ?_
     have hnb51 := NB127_128.out
     have hnc51 := NB128_127.out
     have hcz52_0 : w48.cell? ⟨gb127, 0, none⟩ = some (.int .i64 a0_0) := (blk_cell BK127.out 0).trans rfl
     have hcz52_1 : w48.cell? ⟨gb127, 1, none⟩ = some (.int .i64 a0_1) := (blk_cell BK127.out 1).trans rfl
     have hcz52_2 : w48.cell? ⟨gb127, 2, none⟩ = some (.string a0_2) := (blk_cell BK127.out 2).trans rfl
     have hfz52_0 := blk_frozen BK127.out 0
     have hfz52_1 := blk_frozen BK127.out 1
     have hfz52_2 := blk_frozen BK127.out 2
     have hcz53_0 : w48.cell? ⟨gb128, 0, none⟩ = some (.int .i64 a1_0) := (blk_cell BK128.out 0).trans rfl
     have hcz53_1 : w48.cell? ⟨gb128, 1, none⟩ = some (.int .i64 a1_1) := (blk_cell BK128.out 1).trans rfl
     have hcz53_2 : w48.cell? ⟨gb128, 2, none⟩ = some (.string a1_2) := (blk_cell BK128.out 2).trans rfl
     have hfz53_0 := blk_frozen BK128.out 0
     have hfz53_1 := blk_frozen BK128.out 1
     have hfz53_2 := blk_frozen BK128.out 2
     go_upto_region 12 with (first | ((with_reducible refine gate_callee (f := 20) rfl ?_); refine goesL_ (some 83) rfl rfl Tryd.func20 (by kernel_rfl) rfl #[.agg #[.int .i64 a0_0, .int .i64 a0_1, .string t145], .agg #[.int .i64 a1_0, .int .i64 a1_1, .string t146]] rfl (by (try simp only [List.map_toArray, List.map_cons, List.map_nil]); first | done | rfl | (simp only [List.length_drop, List.length_take]; rfl)) ?_; (with_reducible refine (cabinetryref01_Compare.calls kj20 a0_0 a0_1 t145 a1_0 a1_1 t146 t147 t148 _ A46.out).mono ?_); rintro e w54 ⟨rfl, hb⟩; refine ⟨_, rfl, ?_⟩; have n0_ := Aside0.mk (blk_below (g := gb127) (o := .cells #[.int .i64 a0_0, .int .i64 a0_1, .string t145] 23 (0, 0)) (by (with_reducible repeat (first | refine blk_drewN ?_ _ | refine blk_drew ?_ | refine blk_alloc ?_ _)); refine blk_far ?_ NB127_128.out _; (with_reducible repeat (first | refine blk_drewN ?_ _ | refine blk_drew ?_ | refine blk_alloc ?_ _)); refine blk_put (cs := #[.int .i64 a0_0, .int .i64 a0_1, .string a0_2]) ?_ 2 _ rfl; (with_reducible repeat (first | refine blk_drewN ?_ _ | refine blk_drew ?_ | refine blk_alloc ?_ _)); exact BK127.out) hb); have n1_ := Aside0.mk (blk_below (g := gb128) (o := .cells #[.int .i64 a1_0, .int .i64 a1_1, .string t146] 23 (0, 0)) (by (with_reducible repeat (first | refine blk_drewN ?_ _ | refine blk_drew ?_ | refine blk_alloc ?_ _)); refine blk_put (cs := #[.int .i64 a1_0, .int .i64 a1_1, .string a1_2]) ?_ 2 _ rfl; (with_reducible repeat (first | refine blk_drewN ?_ _ | refine blk_drew ?_ | refine blk_alloc ?_ _)); refine blk_far ?_ NB128_127.out _; (with_reducible repeat (first | refine blk_drewN ?_ _ | refine blk_drew ?_ | refine blk_alloc ?_ _)); exact BK128.out) hb); have n2_ := Aside0.mk (below_step (by repeat (first | (with_reducible first | exact HB.out | apply below_alloc | apply pw_below_drewN | apply below_drew1 | refine below_set ?_ GE127.out | refine below_set ?_ GE128.out) | exact HB.out)) hb); clear BK127; clear BK128; clear HB; have BK127 := n0_; have BK128 := n1_; have HB := n2_; clear n0_ n1_ n2_; (try clear hb); (try clear hb2); (try clear hk); (try clear hi)))
     (try simp only [Act.put, List.setIfInBounds_toArray, List.set_cons_zero, List.set_cons_succ])
     go_cut [86] (fun v86 wc => ∃ (kq : Nat) (x86_46 : Bool), v86 = .bool x86_46 ∧ Aside0 (cabinetrylaw09_KeyOrders.j1 kq t134 t135 t136 t138 t140 t142 t147 t148 x86_46 a0_0 a0_1 t145 a1_0 a1_1 t146 = some r) ∧ Aside0 (kq ≤ kj20) ∧ Aside0 (wc.heap[gb127]? = some (.cells #[.int .i64 a0_0, .int .i64 a0_1, .string t145] 23 (0, 0))) ∧ Aside0 (wc.heap[gb128]? = some (.cells #[.int .i64 a1_0, .int .i64 a1_1, .string t146] 23 (0, 0))) ∧ Aside0 (Below w.heap.size w wc))
     case first =>
      have H := HC47.out
      clear HC47
      by_cases c55 : a0_0 = 0
      ·rw [if_pos c55] at H
       have c55b0 : (a0_0 == 0) = true := beq_iff_eq.mpr c55
       have c55b1 : (a0_0 != 0) = false := bne_eq_false_iff_eq.mpr c55
       clear c55
       (first | rw [c55b0] | (simp only [i64_w, i32_w]; rw [c55b0]) | skip)
       have H' := Aside0.mk H
       clear H
       have hnb56 := NB127_128.out
       have hnc56 := NB128_127.out
       have hcz57_0 : w54.cell? ⟨gb127, 0, none⟩ = some (.int .i64 a0_0) := (blk_cell BK127.out 0).trans rfl
       have hcz57_1 : w54.cell? ⟨gb127, 1, none⟩ = some (.int .i64 a0_1) := (blk_cell BK127.out 1).trans rfl
       have hcz57_2 : w54.cell? ⟨gb127, 2, none⟩ = some (.string t145) := (blk_cell BK127.out 2).trans rfl
       have hfz57_0 := blk_frozen BK127.out 0
       have hfz57_1 := blk_frozen BK127.out 1
       have hfz57_2 := blk_frozen BK127.out 2
       go_wp2
       go_meet
       case rel => exact ⟨_, (true), (by first | rfl | (simp; done) | (simp [*]; done)), H', ⟨by have := HJ20.out; first | omega | exact Nat.le_refl _⟩, ⟨by (with_reducible repeat (first | refine blk_drewN ?_ _ | refine blk_drew ?_ | refine blk_alloc ?_ _)); exact BK127.out⟩, ⟨by (with_reducible repeat (first | refine blk_drewN ?_ _ | refine blk_drew ?_ | refine blk_alloc ?_ _)); exact BK128.out⟩, ⟨by repeat (first | (with_reducible first | exact HB.out | apply below_alloc | apply pw_below_drewN | apply below_drew1 | refine below_set ?_ GE127.out | refine below_set ?_ GE128.out) | exact HB.out)⟩⟩
      ·rw [if_neg c55] at H
       have c55b0 : (a0_0 == 0) = false := beq_eq_false_iff_ne.mpr c55
       have c55b1 : (a0_0 != 0) = true := bne_iff_ne.mpr c55
       (first | rw [c55b0] | (simp only [i64_w, i32_w]; rw [c55b0]) | skip)
       have H' := Aside0.mk H
       clear H
       have hnb58 := NB127_128.out
       have hnc58 := NB128_127.out
       have hcz59_0 : w54.cell? ⟨gb127, 0, none⟩ = some (.int .i64 a0_0) := (blk_cell BK127.out 0).trans rfl
       have hcz59_1 : w54.cell? ⟨gb127, 1, none⟩ = some (.int .i64 a0_1) := (blk_cell BK127.out 1).trans rfl
       have hcz59_2 : w54.cell? ⟨gb127, 2, none⟩ = some (.string t145) := (blk_cell BK127.out 2).trans rfl
       have hfz59_0 := blk_frozen BK127.out 0
       have hfz59_1 := blk_frozen BK127.out 1
       have hfz59_2 := blk_frozen BK127.out 2
       have hcz60_0 : w54.cell? ⟨gb128, 0, none⟩ = some (.int .i64 a1_0) := (blk_cell BK128.out 0).trans rfl
       have hcz60_1 : w54.cell? ⟨gb128, 1, none⟩ = some (.int .i64 a1_1) := (blk_cell BK128.out 1).trans rfl
       have hcz60_2 : w54.cell? ⟨gb128, 2, none⟩ = some (.string t146) := (blk_cell BK128.out 2).trans rfl
       have hfz60_0 := blk_frozen BK128.out 0
       have hfz60_1 := blk_frozen BK128.out 1
       have hfz60_2 := blk_frozen BK128.out 2
       go_wp2
       go_meet
       case rel => exact ⟨_, ((a1_0 == 0)), (by first | rfl | (simp; done) | (simp [*]; done)), H', ⟨by have := HJ20.out; first | omega | exact Nat.le_refl _⟩, ⟨by (with_reducible repeat (first | refine blk_drewN ?_ _ | refine blk_drew ?_ | refine blk_alloc ?_ _)); exact BK127.out⟩, ⟨by (with_reducible repeat (first | refine blk_drewN ?_ _ | refine blk_drew ?_ | refine blk_alloc ?_ _)); exact BK128.out⟩, ⟨by repeat (first | (with_reducible first | exact HB.out | apply below_alloc | apply pw_below_drewN | apply below_drew1 | refine below_set ?_ GE127.out | refine below_set ?_ GE128.out) | exact HB.out)⟩⟩
     case rest =>
      clear HC47
      try clear c1; try clear c2; try clear p2; try clear c3; try clear c4; try clear c5; try clear c9; try clear c14; try clear c15; try clear c16; try clear c18; try clear c19; try clear c20; try clear c24; try clear c38; try clear c38b0; try clear c38b1; try clear c39; try clear c39b0; try clear c39b1; try clear c40; try clear c40b0; try clear c40b1; try clear c41; try clear c51; try clear c55; try clear c55b0; try clear c55b1; try clear c56; try clear c58; try clear hcz10_0; try clear hcz10_1; try clear hcz10_2; try clear hcz11_0; try clear hcz11_1; try clear hcz11_2; try clear hcz25_0; try clear hcz25_1; try clear hcz25_2; try clear hcz26_0; try clear hcz26_1; try clear hcz26_2; try clear hcz30_0; try clear hcz30_1; try clear hcz30_2; try clear hcz32_0; try clear hcz32_1; try clear hcz32_2; try clear hcz34_0; try clear hcz34_1; try clear hcz34_2; try clear hcz36_0; try clear hcz36_1; try clear hcz36_2; try clear hcz52_0; try clear hcz52_1; try clear hcz52_2; try clear hcz53_0; try clear hcz53_1; try clear hcz53_2; try clear hcz57_0; try clear hcz57_1; try clear hcz57_2; try clear hcz59_0; try clear hcz59_1; try clear hcz59_2; try clear hcz60_0; try clear hcz60_1; try clear hcz60_2; try clear hfz10_0; try clear hfz10_1; try clear hfz10_2; try clear hfz11_0; try clear hfz11_1; try clear hfz11_2; try clear hfz25_0; try clear hfz25_1; try clear hfz25_2; try clear hfz26_0; try clear hfz26_1; try clear hfz26_2; try clear hfz30_0; try clear hfz30_1; try clear hfz30_2; try clear hfz32_0; try clear hfz32_1; try clear hfz32_2; try clear hfz34_0; try clear hfz34_1; try clear hfz34_2; try clear hfz36_0; try clear hfz36_1; try clear hfz36_2; try clear hfz52_0; try clear hfz52_1; try clear hfz52_2; try clear hfz53_0; try clear hfz53_1; try clear hfz53_2; try clear hfz57_0; try clear hfz57_1; try clear hfz57_2; try clear hfz59_0; try clear hfz59_1; try clear hfz59_2; try clear hfz60_0; try clear hfz60_1; try clear hfz60_2; try clear p2
      obtain ⟨kq, x86_46, rfl, HA, HJ46, BK127, BK128, HB⟩ := hcut
      cases kq with
      | zero => exact absurd HA.out (by simp [cabinetrylaw09_KeyOrders.j1])
      | succ kj46 =>
       have H := HA.out
       clear HA
       simp only [cabinetrylaw09_KeyOrders.j1] at H
       by_cases c61 : x86_46 = true
       ·subst c61
        have H1 : ((cabinetryref01_CompareInts.f (mn a0_0 1) (mn a1_0 1)).bind fun t149 => ((cabinetryref01_CompareTexts.f kj46 t136 t138).bind fun t150 => (if t150 = t149 then ((cabinetryref01_CompareTexts.f kj46 t140 t142).bind fun t151 => (if t151 = (wrap64 (-t149)) then ((cabinetrylaw09_known.f kj46).bind fun t152 => (some t152)) else (some false))) else (some false)))) = some r := by rw [if_pos rfl] at H; exact H
        clear H
        have H := H1
        clear H1
        obtain ⟨ji62, hji62⟩ : ∃ j_ : Int, (mn a0_0 1) = j_ := ⟨_, rfl⟩
        replace H : ((cabinetryref01_CompareInts.f (ji62) (mn a1_0 1)).bind fun t149 => ((cabinetryref01_CompareTexts.f kj46 t136 t138).bind fun t150 => (if t150 = t149 then ((cabinetryref01_CompareTexts.f kj46 t140 t142).bind fun t151 => (if t151 = (wrap64 (-t149)) then ((cabinetrylaw09_known.f kj46).bind fun t152 => (some t152)) else (some false))) else (some false)))) = some r := by first | (rw [hji62] at H; exact H) | (simp only [hji62] at H ⊢; exact H)
        have hji62_ : (if 1 < a0_0 then 1 else a0_0) = ji62 := hji62
        obtain ⟨ji63, hji63⟩ : ∃ j_ : Int, (mn a1_0 1) = j_ := ⟨_, rfl⟩
        replace H : ((cabinetryref01_CompareInts.f (ji62) (ji63)).bind fun t149 => ((cabinetryref01_CompareTexts.f kj46 t136 t138).bind fun t150 => (if t150 = t149 then ((cabinetryref01_CompareTexts.f kj46 t140 t142).bind fun t151 => (if t151 = (wrap64 (-t149)) then ((cabinetrylaw09_known.f kj46).bind fun t152 => (some t152)) else (some false))) else (some false)))) = some r := by first | (rw [hji63] at H; exact H) | (simp only [hji63] at H ⊢; exact H)
        have hji63_ : (if 1 < a1_0 then 1 else a1_0) = ji63 := hji63
        replace H := Option.bind_eq_some_iff.mp H
        obtain ⟨t149, A640, H⟩ := H
        replace H : ((cabinetryref01_CompareTexts.f kj46 t136 t138).bind fun t150 => (if t150 = t149 then ((cabinetryref01_CompareTexts.f kj46 t140 t142).bind fun t151 => (if t151 = (wrap64 (-t149)) then ((cabinetrylaw09_known.f kj46).bind fun t152 => (some t152)) else (some false))) else (some false))) = some r := H
        have A64 := Aside0.mk A640
        clear A640
        replace H := Option.bind_eq_some_iff.mp H
        obtain ⟨t150, A650, H⟩ := H
        replace H : (if t150 = t149 then ((cabinetryref01_CompareTexts.f kj46 t140 t142).bind fun t151 => (if t151 = (wrap64 (-t149)) then ((cabinetrylaw09_known.f kj46).bind fun t152 => (some t152)) else (some false))) else (some false)) = some r := H
        have A65 := Aside0.mk A650
        clear A650
        by_cases c66 : t150 = t149
        ·rw [if_pos c66] at H
         have c66b0 : (t150 == t149) = true := beq_iff_eq.mpr c66
         have c66b1 : (t150 != t149) = false := bne_eq_false_iff_eq.mpr c66
         clear c66
         replace H := Option.bind_eq_some_iff.mp H
         obtain ⟨t151, A670, H⟩ := H
         replace H : (if t151 = (wrap64 (-t149)) then ((cabinetrylaw09_known.f kj46).bind fun t152 => (some t152)) else (some false)) = some r := H
         have A67 := Aside0.mk A670
         clear A670
         by_cases c68 : t151 = (wrap64 (-t149))
         ·rw [if_pos c68] at H
          have c68b0 : (t151 == (wrap64 (-t149))) = true := beq_iff_eq.mpr c68
          have c68b1 : (t151 != (wrap64 (-t149))) = false := bne_eq_false_iff_eq.mpr c68
          clear c68
          replace H := Option.bind_eq_some_iff.mp H
          obtain ⟨t152, A690, H⟩ := H
          replace H : (some t152) = some r := H
          have A69 := Aside0.mk A690
          clear A690
          obtain rfl := Option.some.inj H
          simp only [Option.some.injEq, Prod.mk.injEq] at H
          obtain ⟨rfl⟩ := H
          have hnb70 := NB127_128.out
          have hnc70 := NB128_127.out
          have hcz71_0 : wc.cell? ⟨gb127, 0, none⟩ = some (.int .i64 a0_0) := (blk_cell BK127.out 0).trans rfl
          have hcz71_1 : wc.cell? ⟨gb127, 1, none⟩ = some (.int .i64 a0_1) := (blk_cell BK127.out 1).trans rfl
          have hcz71_2 : wc.cell? ⟨gb127, 2, none⟩ = some (.string t145) := (blk_cell BK127.out 2).trans rfl
          have hfz71_0 := blk_frozen BK127.out 0
          have hfz71_1 := blk_frozen BK127.out 1
          have hfz71_2 := blk_frozen BK127.out 2
          have hcz72_0 : wc.cell? ⟨gb128, 0, none⟩ = some (.int .i64 a1_0) := (blk_cell BK128.out 0).trans rfl
          have hcz72_1 : wc.cell? ⟨gb128, 1, none⟩ = some (.int .i64 a1_1) := (blk_cell BK128.out 1).trans rfl
          have hcz72_2 : wc.cell? ⟨gb128, 2, none⟩ = some (.string t146) := (blk_cell BK128.out 2).trans rfl
          have hfz72_0 := blk_frozen BK128.out 0
          have hfz72_1 := blk_frozen BK128.out 1
          have hfz72_2 := blk_frozen BK128.out 2
          go_wp2_with (first | ((with_reducible refine gate_callee (f := 21) rfl ?_); refine goesL_ (some 101) rfl rfl Tryd.func21 (by kernel_rfl) rfl #[.int .i64 ji62, .int .i64 ji63] rfl (by (try simp only [List.map_toArray, List.map_cons, List.map_nil]); first | done | (simp only [hji62, hji63]; rfl) | rfl | (simp only [List.length_drop, List.length_take]; rfl)) ?_; (with_reducible refine (cabinetryref01_CompareInts.calls ji62 ji63 t149 _ A64.out).mono ?_); rintro e w' ⟨rfl, ⟨nd, rfl⟩⟩; refine ⟨_, rfl, ?_⟩) | ((with_reducible refine gate_callee (f := 23) rfl ?_); refine goesL_ (some 122) rfl rfl Tryd.func23 (by kernel_rfl) rfl #[.string t136, .string t138] rfl (by (try simp only [List.map_toArray, List.map_cons, List.map_nil]); first | done | rfl | (simp only [List.length_drop, List.length_take]; rfl)) ?_; (with_reducible refine (cabinetryref01_CompareTexts.calls kj46 t136 t138 t150 _ A65.out).mono ?_); rintro e w' ⟨rfl, ⟨nd, rfl⟩⟩; refine ⟨_, rfl, ?_⟩) | (go_at_call 23; (with_reducible refine (cabinetryref01_CompareTexts.calls kj46 t140 t142 t151 _ A67.out).mono ?_); rintro e w' ⟨rfl, ⟨nd, rfl⟩⟩) | (go_at_call 15; (with_reducible refine (cabinetrylaw09_known.calls kj46  t152 _ A69.out hr_ (Hm.keep hm_ (by repeat (first | (with_reducible first | exact HB.out | apply below_alloc | apply pw_below_drewN | apply below_drew1 | refine below_set ?_ GE127.out | refine below_set ?_ GE128.out) | exact HB.out)))).mono ?_); rintro e w73 ⟨rfl, hb⟩; have n0_ := Aside0.mk (blk_below (g := gb127) (o := .cells #[.int .i64 a0_0, .int .i64 a0_1, .string t145] 23 (0, 0)) (by (with_reducible repeat (first | refine blk_drewN ?_ _ | refine blk_drew ?_ | refine blk_alloc ?_ _)); exact BK127.out) hb); have n1_ := Aside0.mk (blk_below (g := gb128) (o := .cells #[.int .i64 a1_0, .int .i64 a1_1, .string t146] 23 (0, 0)) (by (with_reducible repeat (first | refine blk_drewN ?_ _ | refine blk_drew ?_ | refine blk_alloc ?_ _)); exact BK128.out) hb); have n2_ := Aside0.mk (below_step (by repeat (first | (with_reducible first | exact HB.out | apply below_alloc | apply pw_below_drewN | apply below_drew1 | refine below_set ?_ GE127.out | refine below_set ?_ GE128.out) | exact HB.out)) hb); clear BK127; clear BK128; clear HB; have BK127 := n0_; have BK128 := n1_; have HB := n2_; clear n0_ n1_ n2_; (try clear hb); (try clear hb2); (try clear hk); (try clear hi)))
          go_ret
          exact ⟨by first | rfl | (simp [errW_none, errW_some] <;> rfl) | (simp only [← hji62, ← hji63]; first | rfl | (simp [errW_none, errW_some] <;> rfl)) | (simp [*, errW_none, errW_some] <;> rfl), by repeat (first | (with_reducible first | exact HB.out | apply below_alloc | apply pw_below_drewN | apply below_drew1 | refine below_set ?_ GE127.out | refine below_set ?_ GE128.out) | exact HB.out)⟩
         ·rw [if_neg c68] at H
          have c68b0 : (t151 == (wrap64 (-t149))) = false := beq_eq_false_iff_ne.mpr c68
          have c68b1 : (t151 != (wrap64 (-t149))) = true := bne_iff_ne.mpr c68
          obtain rfl := Option.some.inj H
          exact absurd hr_.out (by decide)
        ·rw [if_neg c66] at H
         have c66b0 : (t150 == t149) = false := beq_eq_false_iff_ne.mpr c66
         have c66b1 : (t150 != t149) = true := bne_iff_ne.mpr c66
         obtain rfl := Option.some.inj H
         exact absurd hr_.out (by decide)
       ·replace c61 := Bool.eq_false_iff.mpr c61
        subst c61
        have H1 : (if t148 = 0 then (if a0_0 = 4 then ((cabinetryref02_Order.f kj46 t145 t146 t134 t135).bind fun bt153 => ((cabinetryref01_CompareTexts.f kj46 t136 t138).bind fun t155 => (if t155 = bt153.1 then ((cabinetryref01_CompareTexts.f kj46 t140 t142).bind fun t156 => (if t156 = (wrap64 (-bt153.1)) then ((cabinetrylaw09_known.f kj46).bind fun t157 => (some t157)) else (some false))) else (some false)))) else ((cabinetryref01_CompareTexts.f kj46 t136 t138).bind fun t158 => (if t158 = t147 then ((cabinetryref01_CompareTexts.f kj46 t140 t142).bind fun t159 => (if t159 = (wrap64 (-t147)) then ((cabinetrylaw09_known.f kj46).bind fun t160 => (some t160)) else (some false))) else (some false)))) else ((cabinetrylaw09_known.f kj46).bind fun t161 => (some t161))) = some r := by rw [if_neg (show ¬ (false = true) by decide)] at H; exact H
        clear H
        have H := H1
        clear H1
        by_cases c74 : t148 = 0
        ·rw [if_pos c74] at H
         have c74b0 : (t148 == 0) = true := beq_iff_eq.mpr c74
         have c74b1 : (t148 != 0) = false := bne_eq_false_iff_eq.mpr c74
         clear c74
         by_cases c75 : a0_0 = 4
         ·rw [if_pos c75] at H
          have c75b0 : (a0_0 == 4) = true := beq_iff_eq.mpr c75
          have c75b1 : (a0_0 != 4) = false := bne_eq_false_iff_eq.mpr c75
          clear c75
          replace H := Option.bind_eq_some_iff.mp H
          obtain ⟨⟨t153, t154⟩, A760, H⟩ := H
          replace H : ((cabinetryref01_CompareTexts.f kj46 t136 t138).bind fun t155 => (if t155 = t153 then ((cabinetryref01_CompareTexts.f kj46 t140 t142).bind fun t156 => (if t156 = (wrap64 (-t153)) then ((cabinetrylaw09_known.f kj46).bind fun t157 => (some t157)) else (some false))) else (some false))) = some r := H
          have A76 := Aside0.mk A760
          clear A760
          replace H := Option.bind_eq_some_iff.mp H
          obtain ⟨t155, A770, H⟩ := H
          replace H : (if t155 = t153 then ((cabinetryref01_CompareTexts.f kj46 t140 t142).bind fun t156 => (if t156 = (wrap64 (-t153)) then ((cabinetrylaw09_known.f kj46).bind fun t157 => (some t157)) else (some false))) else (some false)) = some r := H
          have A77 := Aside0.mk A770
          clear A770
          by_cases c78 : t155 = t153
          ·rw [if_pos c78] at H
           have c78b0 : (t155 == t153) = true := beq_iff_eq.mpr c78
           have c78b1 : (t155 != t153) = false := bne_eq_false_iff_eq.mpr c78
           clear c78
           replace H := Option.bind_eq_some_iff.mp H
           obtain ⟨t156, A790, H⟩ := H
           replace H : (if t156 = (wrap64 (-t153)) then ((cabinetrylaw09_known.f kj46).bind fun t157 => (some t157)) else (some false)) = some r := H
           have A79 := Aside0.mk A790
           clear A790
           by_cases c80 : t156 = (wrap64 (-t153))
           ·rw [if_pos c80] at H
            have c80b0 : (t156 == (wrap64 (-t153))) = true := beq_iff_eq.mpr c80
            have c80b1 : (t156 != (wrap64 (-t153))) = false := bne_eq_false_iff_eq.mpr c80
            clear c80
            replace H := Option.bind_eq_some_iff.mp H
            obtain ⟨t157, A810, H⟩ := H
            replace H : (some t157) = some r := H
            have A81 := Aside0.mk A810
            clear A810
            obtain rfl := Option.some.inj H
            simp only [Option.some.injEq, Prod.mk.injEq] at H
            obtain ⟨rfl⟩ := H
            have hnb82 := NB127_128.out
            have hnc82 := NB128_127.out
            have hcz83_0 : wc.cell? ⟨gb127, 0, none⟩ = some (.int .i64 a0_0) := (blk_cell BK127.out 0).trans rfl
            have hcz83_1 : wc.cell? ⟨gb127, 1, none⟩ = some (.int .i64 a0_1) := (blk_cell BK127.out 1).trans rfl
            have hcz83_2 : wc.cell? ⟨gb127, 2, none⟩ = some (.string t145) := (blk_cell BK127.out 2).trans rfl
            have hfz83_0 := blk_frozen BK127.out 0
            have hfz83_1 := blk_frozen BK127.out 1
            have hfz83_2 := blk_frozen BK127.out 2
            have hcz84_0 : wc.cell? ⟨gb128, 0, none⟩ = some (.int .i64 a1_0) := (blk_cell BK128.out 0).trans rfl
            have hcz84_1 : wc.cell? ⟨gb128, 1, none⟩ = some (.int .i64 a1_1) := (blk_cell BK128.out 1).trans rfl
            have hcz84_2 : wc.cell? ⟨gb128, 2, none⟩ = some (.string t146) := (blk_cell BK128.out 2).trans rfl
            have hfz84_0 := blk_frozen BK128.out 0
            have hfz84_1 := blk_frozen BK128.out 1
            have hfz84_2 := blk_frozen BK128.out 2
            go_wp2_with (first | ((with_reducible refine gate_callee (f := 22) rfl ?_); refine goesL_ (some 117) rfl rfl Tryd.func22 (by kernel_rfl) rfl #[.string t145, .string t146, .int .i64 t134, .int .i64 t135] rfl (by (try simp only [List.map_toArray, List.map_cons, List.map_nil]); first | done | rfl | (simp only [List.length_drop, List.length_take]; rfl)) ?_; (with_reducible refine (cabinetryref02_Order.calls kj46 t145 t146 t134 t135 t153 t154 _ A76.out).mono ?_); rintro e w85 ⟨rfl, hb⟩; refine ⟨_, rfl, ?_⟩; have n0_ := Aside0.mk (blk_below (g := gb127) (o := .cells #[.int .i64 a0_0, .int .i64 a0_1, .string t145] 23 (0, 0)) (by (with_reducible repeat (first | refine blk_drewN ?_ _ | refine blk_drew ?_ | refine blk_alloc ?_ _)); exact BK127.out) hb); have n1_ := Aside0.mk (blk_below (g := gb128) (o := .cells #[.int .i64 a1_0, .int .i64 a1_1, .string t146] 23 (0, 0)) (by (with_reducible repeat (first | refine blk_drewN ?_ _ | refine blk_drew ?_ | refine blk_alloc ?_ _)); exact BK128.out) hb); have n2_ := Aside0.mk (below_step (by repeat (first | (with_reducible first | exact HB.out | apply below_alloc | apply pw_below_drewN | apply below_drew1 | refine below_set ?_ GE127.out | refine below_set ?_ GE128.out) | exact HB.out)) hb); clear BK127; clear BK128; clear HB; have BK127 := n0_; have BK128 := n1_; have HB := n2_; clear n0_ n1_ n2_; (try clear hb); (try clear hb2); (try clear hk); (try clear hi)) | ((with_reducible refine gate_callee (f := 23) rfl ?_); refine goesL_ (some 122) rfl rfl Tryd.func23 (by kernel_rfl) rfl #[.string t136, .string t138] rfl (by (try simp only [List.map_toArray, List.map_cons, List.map_nil]); first | done | rfl | (simp only [List.length_drop, List.length_take]; rfl)) ?_; (with_reducible refine (cabinetryref01_CompareTexts.calls kj46 t136 t138 t155 _ A77.out).mono ?_); rintro e w' ⟨rfl, ⟨nd, rfl⟩⟩; refine ⟨_, rfl, ?_⟩) | (go_at_call 23; (with_reducible refine (cabinetryref01_CompareTexts.calls kj46 t140 t142 t156 _ A79.out).mono ?_); rintro e w' ⟨rfl, ⟨nd, rfl⟩⟩) | (go_at_call 15; (with_reducible refine (cabinetrylaw09_known.calls kj46  t157 _ A81.out hr_ (Hm.keep hm_ (by repeat (first | (with_reducible first | exact HB.out | apply below_alloc | apply pw_below_drewN | apply below_drew1 | refine below_set ?_ GE127.out | refine below_set ?_ GE128.out) | exact HB.out)))).mono ?_); rintro e w86 ⟨rfl, hb⟩; have n0_ := Aside0.mk (blk_below (g := gb127) (o := .cells #[.int .i64 a0_0, .int .i64 a0_1, .string t145] 23 (0, 0)) (by (with_reducible repeat (first | refine blk_drewN ?_ _ | refine blk_drew ?_ | refine blk_alloc ?_ _)); exact BK127.out) hb); have n1_ := Aside0.mk (blk_below (g := gb128) (o := .cells #[.int .i64 a1_0, .int .i64 a1_1, .string t146] 23 (0, 0)) (by (with_reducible repeat (first | refine blk_drewN ?_ _ | refine blk_drew ?_ | refine blk_alloc ?_ _)); exact BK128.out) hb); have n2_ := Aside0.mk (below_step (by repeat (first | (with_reducible first | exact HB.out | apply below_alloc | apply pw_below_drewN | apply below_drew1 | refine below_set ?_ GE127.out | refine below_set ?_ GE128.out) | exact HB.out)) hb); clear BK127; clear BK128; clear HB; have BK127 := n0_; have BK128 := n1_; have HB := n2_; clear n0_ n1_ n2_; (try clear hb); (try clear hb2); (try clear hk); (try clear hi)))
            go_ret
            exact ⟨by first | rfl | (simp [errW_none, errW_some] <;> rfl) | (simp [*, errW_none, errW_some] <;> rfl), by repeat (first | (with_reducible first | exact HB.out | apply below_alloc | apply pw_below_drewN | apply below_drew1 | refine below_set ?_ GE127.out | refine below_set ?_ GE128.out) | exact HB.out)⟩
           ·rw [if_neg c80] at H
            have c80b0 : (t156 == (wrap64 (-t153))) = false := beq_eq_false_iff_ne.mpr c80
            have c80b1 : (t156 != (wrap64 (-t153))) = true := bne_iff_ne.mpr c80
            obtain rfl := Option.some.inj H
            exact absurd hr_.out (by decide)
          ·rw [if_neg c78] at H
           have c78b0 : (t155 == t153) = false := beq_eq_false_iff_ne.mpr c78
           have c78b1 : (t155 != t153) = true := bne_iff_ne.mpr c78
           obtain rfl := Option.some.inj H
           exact absurd hr_.out (by decide)
         ·rw [if_neg c75] at H
          have c75b0 : (a0_0 == 4) = false := beq_eq_false_iff_ne.mpr c75
          have c75b1 : (a0_0 != 4) = true := bne_iff_ne.mpr c75
          replace H := Option.bind_eq_some_iff.mp H
          obtain ⟨t158, A870, H⟩ := H
          replace H : (if t158 = t147 then ((cabinetryref01_CompareTexts.f kj46 t140 t142).bind fun t159 => (if t159 = (wrap64 (-t147)) then ((cabinetrylaw09_known.f kj46).bind fun t160 => (some t160)) else (some false))) else (some false)) = some r := H
          have A87 := Aside0.mk A870
          clear A870
          by_cases c88 : t158 = t147
          ·rw [if_pos c88] at H
           have c88b0 : (t158 == t147) = true := beq_iff_eq.mpr c88
           have c88b1 : (t158 != t147) = false := bne_eq_false_iff_eq.mpr c88
           clear c88
           replace H := Option.bind_eq_some_iff.mp H
           obtain ⟨t159, A890, H⟩ := H
           replace H : (if t159 = (wrap64 (-t147)) then ((cabinetrylaw09_known.f kj46).bind fun t160 => (some t160)) else (some false)) = some r := H
           have A89 := Aside0.mk A890
           clear A890
           by_cases c90 : t159 = (wrap64 (-t147))
           ·rw [if_pos c90] at H
            have c90b0 : (t159 == (wrap64 (-t147))) = true := beq_iff_eq.mpr c90
            have c90b1 : (t159 != (wrap64 (-t147))) = false := bne_eq_false_iff_eq.mpr c90
            clear c90
            replace H := Option.bind_eq_some_iff.mp H
            obtain ⟨t160, A910, H⟩ := H
            replace H : (some t160) = some r := H
            have A91 := Aside0.mk A910
            clear A910
            obtain rfl := Option.some.inj H
            simp only [Option.some.injEq, Prod.mk.injEq] at H
            obtain ⟨rfl⟩ := H
            have hnb92 := NB127_128.out
            have hnc92 := NB128_127.out
            have hcz93_0 : wc.cell? ⟨gb127, 0, none⟩ = some (.int .i64 a0_0) := (blk_cell BK127.out 0).trans rfl
            have hcz93_1 : wc.cell? ⟨gb127, 1, none⟩ = some (.int .i64 a0_1) := (blk_cell BK127.out 1).trans rfl
            have hcz93_2 : wc.cell? ⟨gb127, 2, none⟩ = some (.string t145) := (blk_cell BK127.out 2).trans rfl
            have hfz93_0 := blk_frozen BK127.out 0
            have hfz93_1 := blk_frozen BK127.out 1
            have hfz93_2 := blk_frozen BK127.out 2
            go_wp2_with (first | ((with_reducible refine gate_callee (f := 23) rfl ?_); refine goesL_ (some 122) rfl rfl Tryd.func23 (by kernel_rfl) rfl #[.string t136, .string t138] rfl (by (try simp only [List.map_toArray, List.map_cons, List.map_nil]); first | done | rfl | (simp only [List.length_drop, List.length_take]; rfl)) ?_; (with_reducible refine (cabinetryref01_CompareTexts.calls kj46 t136 t138 t158 _ A87.out).mono ?_); rintro e w' ⟨rfl, ⟨nd, rfl⟩⟩; refine ⟨_, rfl, ?_⟩) | (go_at_call 23; (with_reducible refine (cabinetryref01_CompareTexts.calls kj46 t140 t142 t159 _ A89.out).mono ?_); rintro e w' ⟨rfl, ⟨nd, rfl⟩⟩) | (go_at_call 15; (with_reducible refine (cabinetrylaw09_known.calls kj46  t160 _ A91.out hr_ (Hm.keep hm_ (by repeat (first | (with_reducible first | exact HB.out | apply below_alloc | apply pw_below_drewN | apply below_drew1 | refine below_set ?_ GE127.out | refine below_set ?_ GE128.out) | exact HB.out)))).mono ?_); rintro e w94 ⟨rfl, hb⟩; have n0_ := Aside0.mk (blk_below (g := gb127) (o := .cells #[.int .i64 a0_0, .int .i64 a0_1, .string t145] 23 (0, 0)) (by (with_reducible repeat (first | refine blk_drewN ?_ _ | refine blk_drew ?_ | refine blk_alloc ?_ _)); exact BK127.out) hb); have n1_ := Aside0.mk (blk_below (g := gb128) (o := .cells #[.int .i64 a1_0, .int .i64 a1_1, .string t146] 23 (0, 0)) (by (with_reducible repeat (first | refine blk_drewN ?_ _ | refine blk_drew ?_ | refine blk_alloc ?_ _)); exact BK128.out) hb); have n2_ := Aside0.mk (below_step (by repeat (first | (with_reducible first | exact HB.out | apply below_alloc | apply pw_below_drewN | apply below_drew1 | refine below_set ?_ GE127.out | refine below_set ?_ GE128.out) | exact HB.out)) hb); clear BK127; clear BK128; clear HB; have BK127 := n0_; have BK128 := n1_; have HB := n2_; clear n0_ n1_ n2_; (try clear hb); (try clear hb2); (try clear hk); (try clear hi)))
            go_ret
            exact ⟨by first | rfl | (simp [errW_none, errW_some] <;> rfl) | (simp [*, errW_none, errW_some] <;> rfl), by repeat (first | (with_reducible first | exact HB.out | apply below_alloc | apply pw_below_drewN | apply below_drew1 | refine below_set ?_ GE127.out | refine below_set ?_ GE128.out) | exact HB.out)⟩
           ·rw [if_neg c90] at H
            have c90b0 : (t159 == (wrap64 (-t147))) = false := beq_eq_false_iff_ne.mpr c90
            have c90b1 : (t159 != (wrap64 (-t147))) = true := bne_iff_ne.mpr c90
            obtain rfl := Option.some.inj H
            exact absurd hr_.out (by decide)
          ·rw [if_neg c88] at H
           have c88b0 : (t158 == t147) = false := beq_eq_false_iff_ne.mpr c88
           have c88b1 : (t158 != t147) = true := bne_iff_ne.mpr c88
           obtain rfl := Option.some.inj H
           exact absurd hr_.out (by decide)
        ·rw [if_neg c74] at H
         have c74b0 : (t148 == 0) = false := beq_eq_false_iff_ne.mpr c74
         have c74b1 : (t148 != 0) = true := bne_iff_ne.mpr c74
         replace H := Option.bind_eq_some_iff.mp H
         obtain ⟨t161, A950, H⟩ := H
         replace H : (some t161) = some r := H
         have A95 := Aside0.mk A950
         clear A950
         obtain rfl := Option.some.inj H
         simp only [Option.some.injEq, Prod.mk.injEq] at H
         obtain ⟨rfl⟩ := H
         go_wp2_with (first | ((with_reducible refine gate_callee (f := 15) rfl ?_); refine goesL_ (some 105) rfl rfl Tryd.func15 (by kernel_rfl) rfl #[] rfl (by (try simp only [List.map_toArray, List.map_cons, List.map_nil]); first | done | rfl | (simp only [List.length_drop, List.length_take]; rfl)) ?_; (with_reducible refine (cabinetrylaw09_known.calls kj46  t161 _ A95.out hr_ (Hm.keep hm_ (by repeat (first | (with_reducible first | exact HB.out | apply below_alloc | apply pw_below_drewN | apply below_drew1 | refine below_set ?_ GE127.out | refine below_set ?_ GE128.out) | exact HB.out)))).mono ?_); rintro e w96 ⟨rfl, hb⟩; refine ⟨_, rfl, ?_⟩; have n0_ := Aside0.mk (blk_below (g := gb127) (o := .cells #[.int .i64 a0_0, .int .i64 a0_1, .string t145] 23 (0, 0)) (by (with_reducible repeat (first | refine blk_drewN ?_ _ | refine blk_drew ?_ | refine blk_alloc ?_ _)); exact BK127.out) hb); have n1_ := Aside0.mk (blk_below (g := gb128) (o := .cells #[.int .i64 a1_0, .int .i64 a1_1, .string t146] 23 (0, 0)) (by (with_reducible repeat (first | refine blk_drewN ?_ _ | refine blk_drew ?_ | refine blk_alloc ?_ _)); exact BK128.out) hb); have n2_ := Aside0.mk (below_step (by repeat (first | (with_reducible first | exact HB.out | apply below_alloc | apply pw_below_drewN | apply below_drew1 | refine below_set ?_ GE127.out | refine below_set ?_ GE128.out) | exact HB.out)) hb); clear BK127; clear BK128; clear HB; have BK127 := n0_; have BK128 := n1_; have HB := n2_; clear n0_ n1_ n2_; (try clear hb); (try clear hb2); (try clear hk); (try clear hi)))
         go_ret
         exact ⟨by first | rfl | (simp [errW_none, errW_some] <;> rfl) | (simp [*, errW_none, errW_some] <;> rfl), by repeat (first | (with_reducible first | exact HB.out | apply below_alloc | apply pw_below_drewN | apply below_drew1 | refine below_set ?_ GE127.out | refine below_set ?_ GE128.out) | exact HB.out)⟩
end Go.Proofs.YtnkejhfbkgfedaaDoor.PB
