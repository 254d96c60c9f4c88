-- Written by a program of this session (wip/stage.sh) out of the translation: functions as Lean functions, and walks.
import Derived.Test.YtplbjaandkdhjaaDoorPCx0
import Derived.Test.YtplbjaandkdhjaaDoorH4
import Derived.Test.YtplbjaandkdhjaaDoorPAx0
import Derived.Test.YtplbjaandkdhjaaDoorPAx10
import Derived.Test.YtplbjaandkdhjaaDoorPAx12
import Derived.Test.YtplbjaandkdhjaaDoorPCx1
namespace Go.Proofs.YtplbjaandkdhjaaDoor.PC
open Go.RowKit Go.Proofs.YtplbjaandkdhjaaDoorW.PrintWords Go.Proofs.YtplbjaandkdhjaaDoorW.PrintLast Go.Proofs.YtplbjaandkdhjaaDoorW.PrintMore Go.Proofs.YtplbjaandkdhjaaDoor.PA Go.Proofs.YtplbjaandkdhjaaDoor.H1 Go.Proofs.YtplbjaandkdhjaaDoor.PB
attribute [local go_sem] max2_int min2_int max_two min_two max_three min_three max_four min_four   -- for this text's walks alone
set_option linter.unusedVariables false
set_option linter.unusedSimpArgs false

/-! ### cabinetrylaw01_ValDivides: function 4 -/
def cabinetrylaw01_ValDivides.j0 : Nat → Int → Int → Int → Int → Int → Int → Bool → Int → Int → ByteArray → Int → Int → ByteArray → Option (Bool)
  | 0, _, _, _, _, _, _, _, _, _, _, _, _, _ => none
  | k + 1, x0, x1, x6, x7, x9, x10, x38, x150000, x150001, x150002, x162000, x162001, x162002 => if x38 = true then (if x7 = 1 then (if x10 = 1 then ((cabinetrylaw01_known.f k).bind fun t164 => (some t164)) else (some false)) else (some false)) else (if x1 = 0 then (if x6 = 2 then (if x9 = 2 then ((cabinetrylaw01_known.f k).bind fun t165 => (some t165)) else (some false)) else (some false)) else (if x7 = 0 then (if x10 = 0 then (if x6 = 0 then (if x9 = 0 then (if x150000 = 2 then (if x162000 = 2 then (if (wrap64 ((wrap64 (x1 * x150001)) + x162001)) = x0 then (if (mx x162001 (wrap64 (-x162001))) < (mx x1 (wrap64 (-x1))) then (if x162001 = 0 then ((cabinetrylaw01_known.f k).bind fun t166 => (some t166)) else (if ((decide (x162001 < 0)) == (decide (x0 < 0))) = true then ((cabinetrylaw01_known.f k).bind fun t167 => (some t167)) else (some false))) else (some false)) else (some false)) else (some false)) else (some false)) else (some false)) else (some false)) else (some false)) else (some false)))
def cabinetrylaw01_ValDivides.f (k : Nat) (a0 : Int) (a1 : Int) : Option (Bool) := (cabinetryref01_Num.f a0).bind fun bt138 => ((cabinetryref01_Num.f a1).bind fun bt141 => ((val_Do.f 3 bt138.1 bt138.2.1 bt138.2.2 bt141.1 bt141.2.1 bt141.2.2).bind fun bt144 => ((cabinetryref01_Num.f a0).bind fun bt150 => ((cabinetryref01_Num.f a1).bind fun bt153 => ((val_Do.f 4 bt150.1 bt150.2.1 bt150.2.2 bt153.1 bt153.2.1 bt153.2.2).bind fun bt156 => ((cabinetryref01_InNum.f a0).bind fun t162 => (if t162 = true then ((cabinetryref01_InNum.f a1).bind fun t163 => (cabinetrylaw01_ValDivides.j0 k a0 a1 bt144.2.2.2.1 bt144.2.2.2.2 bt156.2.2.2.1 bt156.2.2.2.2 (!t163) bt144.1 bt144.2.1 bt144.2.2.1 bt156.1 bt156.2.1 bt156.2.2.1)) else (cabinetrylaw01_ValDivides.j0 k a0 a1 bt144.2.2.2.1 bt144.2.2.2.2 bt156.2.2.2.1 bt156.2.2.2.2 true bt144.1 bt144.2.1 bt144.2.2.1 bt156.1 bt156.2.1 bt156.2.2.1))))))))
theorem cabinetrylaw01_ValDivides.mono_l : ∀ k, (∀ y0 y1 y2 y3 y4 y5 y6 y7 y8 y9 y10 y11 y12, LeO (cabinetrylaw01_ValDivides.j0 k y0 y1 y2 y3 y4 y5 y6 y7 y8 y9 y10 y11 y12) (cabinetrylaw01_ValDivides.j0 (k + 1) y0 y1 y2 y3 y4 y5 y6 y7 y8 y9 y10 y11 y12))
  | 0 => fun _ _ _ _ _ _ _ _ _ _ _ _ _ r h => by simp [cabinetrylaw01_ValDivides.j0] at h
  | k + 1 => by
    have ih0 := cabinetrylaw01_ValDivides.mono_l k
    · intro y0 y1 y2 y3 y4 y5 y6 y7 y8 y9 y10 y11 y12
      unfold cabinetrylaw01_ValDivides.j0
      repeat' first
      | (with_reducible exact ih0 _ _ _ _ _ _ _ _ _ _ _ _ _)
      | (with_reducible exact cabinetrylaw01_known.mono _)
      | (with_reducible exact LeO.refl _)
      | (with_reducible exact LeO.none _)
      | (with_reducible refine LeO.ite ?_ ?_)
      | (with_reducible refine LeO.bind ?_ (fun _ => ?_))
      | exact ih0 _ _ _ _ _ _ _ _ _ _ _ _ _
      | exact cabinetrylaw01_known.mono _
      | exact LeO.none _
      | refine LeO.ite ?_ ?_
      | refine LeO.bind ?_ (fun _ => ?_)
theorem cabinetrylaw01_ValDivides.mono : ∀ a0 a1 k, LeO (cabinetrylaw01_ValDivides.f k a0 a1) (cabinetrylaw01_ValDivides.f (k + 1) a0 a1) := by
  intro a0 a1 k
  have ih0 := cabinetrylaw01_ValDivides.mono_l k
  unfold cabinetrylaw01_ValDivides.f
  repeat' first
      | (with_reducible exact ih0 _ _ _ _ _ _ _ _ _ _ _ _ _)
      | (with_reducible exact cabinetrylaw01_known.mono _)
      | (with_reducible exact LeO.refl _)
      | (with_reducible exact LeO.none _)
      | (with_reducible refine LeO.ite ?_ ?_)
      | (with_reducible refine LeO.bind ?_ (fun _ => ?_))
      | exact ih0 _ _ _ _ _ _ _ _ _ _ _ _ _
      | exact cabinetrylaw01_known.mono _
      | exact LeO.none _
      | refine LeO.ite ?_ ?_
      | refine LeO.bind ?_ (fun _ => ?_)
set_option maxHeartbeats 8000000 in
set_option maxRecDepth 100000 in
theorem cabinetrylaw01_ValDivides.calls (k : Nat) (a0 : Int) (a1 : Int) (r : Bool) (w : World) (h : cabinetrylaw01_ValDivides.f k a0 a1 = some r) (hr_ : Aside0 (r = true)) :
    Calls Tryd.prog 4 #[.int .i64 a0, .int .i64 a1] w fun e w' => e = .returned (.bool r) ∧ Below w.heap.size w w' := by
  have hu23 := Tryd.underlying23
  have HB := Aside0.mk (Below.refl w.heap.size w)
  have H : ((cabinetryref01_Num.f a0).bind fun bt138 => ((cabinetryref01_Num.f a1).bind fun bt141 => ((val_Do.f 3 bt138.1 bt138.2.1 bt138.2.2 bt141.1 bt141.2.1 bt141.2.2).bind fun bt144 => ((cabinetryref01_Num.f a0).bind fun bt150 => ((cabinetryref01_Num.f a1).bind fun bt153 => ((val_Do.f 4 bt150.1 bt150.2.1 bt150.2.2 bt153.1 bt153.2.1 bt153.2.2).bind fun bt156 => ((cabinetryref01_InNum.f a0).bind fun t162 => (if t162 = true then ((cabinetryref01_InNum.f a1).bind fun t163 => (cabinetrylaw01_ValDivides.j0 k a0 a1 bt144.2.2.2.1 bt144.2.2.2.2 bt156.2.2.2.1 bt156.2.2.2.2 (!t163) bt144.1 bt144.2.1 bt144.2.2.1 bt156.1 bt156.2.1 bt156.2.2.1)) else (cabinetrylaw01_ValDivides.j0 k a0 a1 bt144.2.2.2.1 bt144.2.2.2.2 bt156.2.2.2.1 bt156.2.2.2.2 true bt144.1 bt144.2.1 bt144.2.2.1 bt156.1 bt156.2.1 bt156.2.2.1))))))))) = some r := h
  clear h
  replace H := Option.bind_eq_some_iff.mp H
  obtain ⟨⟨t138, t139, t140⟩, A30, H⟩ := H
  replace H : ((cabinetryref01_Num.f a1).bind fun bt141 => ((val_Do.f 3 t138 t139 t140 bt141.1 bt141.2.1 bt141.2.2).bind fun bt144 => ((cabinetryref01_Num.f a0).bind fun bt150 => ((cabinetryref01_Num.f a1).bind fun bt153 => ((val_Do.f 4 bt150.1 bt150.2.1 bt150.2.2 bt153.1 bt153.2.1 bt153.2.2).bind fun bt156 => ((cabinetryref01_InNum.f a0).bind fun t162 => (if t162 = true then ((cabinetryref01_InNum.f a1).bind fun t163 => (cabinetrylaw01_ValDivides.j0 k a0 a1 bt144.2.2.2.1 bt144.2.2.2.2 bt156.2.2.2.1 bt156.2.2.2.2 (!t163) bt144.1 bt144.2.1 bt144.2.2.1 bt156.1 bt156.2.1 bt156.2.2.1)) else (cabinetrylaw01_ValDivides.j0 k a0 a1 bt144.2.2.2.1 bt144.2.2.2.2 bt156.2.2.2.1 bt156.2.2.2.2 true bt144.1 bt144.2.1 bt144.2.2.1 bt156.1 bt156.2.1 bt156.2.2.1)))))))) = some r := H
  have A3 := Aside0.mk A30
  clear A30
  replace H := Option.bind_eq_some_iff.mp H
  obtain ⟨⟨t141, t142, t143⟩, A40, H⟩ := H
  replace H : ((val_Do.f 3 t138 t139 t140 t141 t142 t143).bind fun bt144 => ((cabinetryref01_Num.f a0).bind fun bt150 => ((cabinetryref01_Num.f a1).bind fun bt153 => ((val_Do.f 4 bt150.1 bt150.2.1 bt150.2.2 bt153.1 bt153.2.1 bt153.2.2).bind fun bt156 => ((cabinetryref01_InNum.f a0).bind fun t162 => (if t162 = true then ((cabinetryref01_InNum.f a1).bind fun t163 => (cabinetrylaw01_ValDivides.j0 k a0 a1 bt144.2.2.2.1 bt144.2.2.2.2 bt156.2.2.2.1 bt156.2.2.2.2 (!t163) bt144.1 bt144.2.1 bt144.2.2.1 bt156.1 bt156.2.1 bt156.2.2.1)) else (cabinetrylaw01_ValDivides.j0 k a0 a1 bt144.2.2.2.1 bt144.2.2.2.2 bt156.2.2.2.1 bt156.2.2.2.2 true bt144.1 bt144.2.1 bt144.2.2.1 bt156.1 bt156.2.1 bt156.2.2.1))))))) = some r := H
  have A4 := Aside0.mk A40
  clear A40
  replace H := Option.bind_eq_some_iff.mp H
  obtain ⟨⟨t144, t145, t146, t147, t148⟩, A50, H⟩ := H
  replace H : ((cabinetryref01_Num.f a0).bind fun bt150 => ((cabinetryref01_Num.f a1).bind fun bt153 => ((val_Do.f 4 bt150.1 bt150.2.1 bt150.2.2 bt153.1 bt153.2.1 bt153.2.2).bind fun bt156 => ((cabinetryref01_InNum.f a0).bind fun t162 => (if t162 = true then ((cabinetryref01_InNum.f a1).bind fun t163 => (cabinetrylaw01_ValDivides.j0 k a0 a1 t147 t148 bt156.2.2.2.1 bt156.2.2.2.2 (!t163) t144 t145 t146 bt156.1 bt156.2.1 bt156.2.2.1)) else (cabinetrylaw01_ValDivides.j0 k a0 a1 t147 t148 bt156.2.2.2.1 bt156.2.2.2.2 true t144 t145 t146 bt156.1 bt156.2.1 bt156.2.2.1)))))) = some r := H
  have A5 := Aside0.mk A50
  clear A50
  replace H := Option.bind_eq_some_iff.mp H
  obtain ⟨⟨t150, t151, t152⟩, A60, H⟩ := H
  replace H : ((cabinetryref01_Num.f a1).bind fun bt153 => ((val_Do.f 4 t150 t151 t152 bt153.1 bt153.2.1 bt153.2.2).bind fun bt156 => ((cabinetryref01_InNum.f a0).bind fun t162 => (if t162 = true then ((cabinetryref01_InNum.f a1).bind fun t163 => (cabinetrylaw01_ValDivides.j0 k a0 a1 t147 t148 bt156.2.2.2.1 bt156.2.2.2.2 (!t163) t144 t145 t146 bt156.1 bt156.2.1 bt156.2.2.1)) else (cabinetrylaw01_ValDivides.j0 k a0 a1 t147 t148 bt156.2.2.2.1 bt156.2.2.2.2 true t144 t145 t146 bt156.1 bt156.2.1 bt156.2.2.1))))) = some r := H
  have A6 := Aside0.mk A60
  clear A60
  replace H := Option.bind_eq_some_iff.mp H
  obtain ⟨⟨t153, t154, t155⟩, A70, H⟩ := H
  replace H : ((val_Do.f 4 t150 t151 t152 t153 t154 t155).bind fun bt156 => ((cabinetryref01_InNum.f a0).bind fun t162 => (if t162 = true then ((cabinetryref01_InNum.f a1).bind fun t163 => (cabinetrylaw01_ValDivides.j0 k a0 a1 t147 t148 bt156.2.2.2.1 bt156.2.2.2.2 (!t163) t144 t145 t146 bt156.1 bt156.2.1 bt156.2.2.1)) else (cabinetrylaw01_ValDivides.j0 k a0 a1 t147 t148 bt156.2.2.2.1 bt156.2.2.2.2 true t144 t145 t146 bt156.1 bt156.2.1 bt156.2.2.1)))) = some r := H
  have A7 := Aside0.mk A70
  clear A70
  replace H := Option.bind_eq_some_iff.mp H
  obtain ⟨⟨t156, t157, t158, t159, t160⟩, A80, H⟩ := H
  replace H : ((cabinetryref01_InNum.f a0).bind fun t162 => (if t162 = true then ((cabinetryref01_InNum.f a1).bind fun t163 => (cabinetrylaw01_ValDivides.j0 k a0 a1 t147 t148 t159 t160 (!t163) t144 t145 t146 t156 t157 t158)) else (cabinetrylaw01_ValDivides.j0 k a0 a1 t147 t148 t159 t160 true t144 t145 t146 t156 t157 t158))) = some r := H
  have A8 := Aside0.mk A80
  clear A80
  have HC9 := Aside0.mk H
  clear H
  go_enter Tryd.func4, Tryd.ntmps4
  go_upto_region 3 with (first | ((with_reducible refine gate_callee (f := 20) rfl ?_); refine goesL_ (some 15) rfl rfl Tryd.func20 (by kernel_rfl) rfl #[.int .i64 a0] rfl (by (try simp only [List.map_toArray, List.map_cons, List.map_nil]); first | done | rfl | (simp only [List.length_drop, List.length_take]; rfl)) ?_; (with_reducible refine (cabinetryref01_Num.calls a0 t138 t139 t140 _ A3.out).mono ?_); rintro e w10 ⟨rfl, hb⟩; refine ⟨_, rfl, ?_⟩; have n0_ := Aside0.mk (below_step (by repeat (first | (with_reducible first | exact HB.out | apply below_alloc | apply pw_below_drewN | apply below_drew1) | exact HB.out)) hb); clear HB; have HB := n0_; clear n0_; (try clear hb); (try clear hb2); (try clear hk); (try clear hi)) | ((with_reducible refine gate_callee (f := 20) rfl ?_); refine goesL_ (some 17) rfl rfl Tryd.func20 (by kernel_rfl) rfl #[.int .i64 a1] rfl (by (try simp only [List.map_toArray, List.map_cons, List.map_nil]); first | done | rfl | (simp only [List.length_drop, List.length_take]; rfl)) ?_; (with_reducible refine (cabinetryref01_Num.calls a1 t141 t142 t143 _ A4.out).mono ?_); rintro e w11 ⟨rfl, hb⟩; refine ⟨_, rfl, ?_⟩; have n0_ := Aside0.mk (below_step (by repeat (first | (with_reducible first | exact HB.out | apply below_alloc | apply pw_below_drewN | apply below_drew1) | exact HB.out)) hb); clear HB; have HB := n0_; clear n0_; (try clear hb); (try clear hb2); (try clear hk); (try clear hi)) | ((with_reducible refine gate_callee (f := 17) rfl ?_); refine goesL_ (some 18) rfl rfl Tryd.func17 (by kernel_rfl) rfl #[.int .i64 3, .agg #[.int .i64 t138, .int .i64 t139, .string t140], .agg #[.int .i64 t141, .int .i64 t142, .string t143]] rfl (by (try simp only [List.map_toArray, List.map_cons, List.map_nil]); first | done | rfl | (simp only [List.length_drop, List.length_take]; rfl)) ?_; (with_reducible refine (val_Do.calls 3 t138 t139 t140 t141 t142 t143 t144 t145 t146 t147 t148 _ A5.out).mono ?_); rintro e w12 ⟨rfl, hb⟩; refine ⟨_, rfl, ?_⟩; have n0_ := Aside0.mk (below_step (by repeat (first | (with_reducible first | exact HB.out | apply below_alloc | apply pw_below_drewN | apply below_drew1) | exact HB.out)) hb); clear HB; have HB := n0_; clear n0_; (try clear hb); (try clear hb2); (try clear hk); (try clear hi)) | ((with_reducible refine gate_dst (N := 5) rfl ?_); refine box_event ?hg (N := 5) ?hd (cs := #[.int .i64 0, .int .i64 0, .string (⟨#[]⟩ : ByteArray)]) (t := 23) ?hr ?_; (case hd => rfl); (case hg => rfl); (case hr => first | (go_simp; done) | (go_simp; rfl)); intro gb149 hg w13 hbox hb; have n0_ := Aside0.mk (below_step (by repeat (first | (with_reducible first | exact HB.out | apply below_alloc | apply pw_below_drewN | apply below_drew1) | exact HB.out)) hb); have n1_ := Aside0.mk (hbox); have n2_ := Aside0.mk ((by rw [hg]; exact (below_size (by repeat (first | (with_reducible first | exact HB.out | apply below_alloc | apply pw_below_drewN | apply below_drew1) | exact HB.out))) : w.heap.size ≤ gb149)); have n3_ := Aside0.mk ((by rw [hg]; exact (below_size (by repeat (first | (with_reducible first | exact HB.out | apply below_alloc | apply pw_below_drewN | apply below_drew1) | exact HB.out))) : w.heap.size ≤ gb149)); clear HB; have HB := n0_; have BK149 := n1_; have GW149 := n2_; have GE149 := n3_; clear n0_ n1_ n2_ n3_; clear hb hbox hg; have hcz14_0 : w13.cell? ⟨gb149, 0, none⟩ = some (.int .i64 0) := (blk_cell BK149.out 0).trans rfl; have hcz14_1 : w13.cell? ⟨gb149, 1, none⟩ = some (.int .i64 0) := (blk_cell BK149.out 1).trans rfl; have hcz14_2 : w13.cell? ⟨gb149, 2, none⟩ = some (.string (⟨#[]⟩ : ByteArray)) := (blk_cell BK149.out 2).trans rfl; have hfz14_0 := blk_frozen BK149.out 0; have hfz14_1 := blk_frozen BK149.out 1; have hfz14_2 := blk_frozen BK149.out 2) | ((with_reducible refine gate_callee (f := 20) rfl ?_); refine goesL_ (some 24) rfl rfl Tryd.func20 (by kernel_rfl) rfl #[.int .i64 a0] rfl (by (try simp only [List.map_toArray, List.map_cons, List.map_nil]); first | done | rfl | (simp only [List.length_drop, List.length_take]; rfl)) ?_; (with_reducible refine (cabinetryref01_Num.calls a0 t150 t151 t152 _ A6.out).mono ?_); rintro e w15 ⟨rfl, hb⟩; refine ⟨_, rfl, ?_⟩; have n0_ := Aside0.mk (blk_below (g := gb149) (o := .cells #[.int .i64 t144, .int .i64 t145, .string t146] 23 (0, 0)) (by (with_reducible repeat (first | refine blk_drewN ?_ _ | refine blk_drew ?_ | refine blk_alloc ?_ _)); refine blk_put (cs := #[.int .i64 t144, .int .i64 t145, .string (⟨#[]⟩ : ByteArray)]) ?_ 2 _ rfl; (with_reducible repeat (first | refine blk_drewN ?_ _ | refine blk_drew ?_ | refine blk_alloc ?_ _)); refine blk_put (cs := #[.int .i64 t144, .int .i64 0, .string (⟨#[]⟩ : ByteArray)]) ?_ 1 _ rfl; (with_reducible repeat (first | refine blk_drewN ?_ _ | refine blk_drew ?_ | refine blk_alloc ?_ _)); refine blk_put (cs := #[.int .i64 0, .int .i64 0, .string (⟨#[]⟩ : ByteArray)]) ?_ 0 _ rfl; (with_reducible repeat (first | refine blk_drewN ?_ _ | refine blk_drew ?_ | refine blk_alloc ?_ _)); exact BK149.out) hb); have n1_ := Aside0.mk (below_step (by repeat (first | (with_reducible first | exact HB.out | apply below_alloc | apply pw_below_drewN | apply below_drew1 | refine below_set ?_ GE149.out) | exact HB.out)) hb); clear BK149; clear HB; have BK149 := n0_; have HB := n1_; clear n0_ n1_; (try clear hb); (try clear hb2); (try clear hk); (try clear hi)) | ((with_reducible refine gate_callee (f := 20) rfl ?_); refine goesL_ (some 26) rfl rfl Tryd.func20 (by kernel_rfl) rfl #[.int .i64 a1] rfl (by (try simp only [List.map_toArray, List.map_cons, List.map_nil]); first | done | rfl | (simp only [List.length_drop, List.length_take]; rfl)) ?_; (with_reducible refine (cabinetryref01_Num.calls a1 t153 t154 t155 _ A7.out).mono ?_); rintro e w16 ⟨rfl, hb⟩; refine ⟨_, rfl, ?_⟩; have n0_ := Aside0.mk (blk_below (g := gb149) (o := .cells #[.int .i64 t144, .int .i64 t145, .string t146] 23 (0, 0)) (by (with_reducible repeat (first | refine blk_drewN ?_ _ | refine blk_drew ?_ | refine blk_alloc ?_ _)); exact BK149.out) hb); have n1_ := Aside0.mk (below_step (by repeat (first | (with_reducible first | exact HB.out | apply below_alloc | apply pw_below_drewN | apply below_drew1 | refine below_set ?_ GE149.out) | exact HB.out)) hb); clear BK149; clear HB; have BK149 := n0_; have HB := n1_; clear n0_ n1_; (try clear hb); (try clear hb2); (try clear hk); (try clear hi)) | ((with_reducible refine gate_callee (f := 17) rfl ?_); refine goesL_ (some 27) rfl rfl Tryd.func17 (by kernel_rfl) rfl #[.int .i64 4, .agg #[.int .i64 t150, .int .i64 t151, .string t152], .agg #[.int .i64 t153, .int .i64 t154, .string t155]] rfl (by (try simp only [List.map_toArray, List.map_cons, List.map_nil]); first | done | rfl | (simp only [List.length_drop, List.length_take]; rfl)) ?_; (with_reducible refine (val_Do.calls 4 t150 t151 t152 t153 t154 t155 t156 t157 t158 t159 t160 _ A8.out).mono ?_); rintro e w17 ⟨rfl, hb⟩; refine ⟨_, rfl, ?_⟩; have n0_ := Aside0.mk (blk_below (g := gb149) (o := .cells #[.int .i64 t144, .int .i64 t145, .string t146] 23 (0, 0)) (by (with_reducible repeat (first | refine blk_drewN ?_ _ | refine blk_drew ?_ | refine blk_alloc ?_ _)); exact BK149.out) hb); have n1_ := Aside0.mk (below_step (by repeat (first | (with_reducible first | exact HB.out | apply below_alloc | apply pw_below_drewN | apply below_drew1 | refine below_set ?_ GE149.out) | exact HB.out)) hb); clear BK149; clear HB; have BK149 := n0_; have HB := n1_; clear n0_ n1_; (try clear hb); (try clear hb2); (try clear hk); (try clear hi)) | ((with_reducible refine gate_dst (N := 8) rfl ?_); refine box_event ?hg (N := 8) ?hd (cs := #[.int .i64 0, .int .i64 0, .string (⟨#[]⟩ : ByteArray)]) (t := 23) ?hr ?_; (case hd => rfl); (case hg => rfl); (case hr => first | (go_simp; done) | (go_simp; rfl)); intro gb161 hg w18 hbox hb; have n0_ := Aside0.mk (blk_below (g := gb149) (o := .cells #[.int .i64 t144, .int .i64 t145, .string t146] 23 (0, 0)) (by (with_reducible repeat (first | refine blk_drewN ?_ _ | refine blk_drew ?_ | refine blk_alloc ?_ _)); exact BK149.out) hb); have n1_ := Aside0.mk (below_step (by repeat (first | (with_reducible first | exact HB.out | apply below_alloc | apply pw_below_drewN | apply below_drew1 | refine below_set ?_ GE149.out) | exact HB.out)) hb); have n2_ := Aside0.mk (hbox); have n3_ := Aside0.mk ((by rw [hg]; exact (below_size (by repeat (first | (with_reducible first | exact HB.out | apply below_alloc | apply pw_below_drewN | apply below_drew1 | refine below_set ?_ GE149.out) | exact HB.out))) : w.heap.size ≤ gb161)); have n4_ := Aside0.mk ((by rw [hg]; exact (below_size (by repeat (first | (with_reducible first | exact HB.out | apply below_alloc | apply pw_below_drewN | apply below_drew1 | refine below_set ?_ GE149.out) | exact HB.out))) : w.heap.size ≤ gb161)); have n5_ := Aside0.mk ((by rw [hg]; exact Nat.ne_of_lt (blk_lt (g := gb149) (o := .cells #[.int .i64 t144, .int .i64 t145, .string t146] 23 (0, 0)) (by (with_reducible repeat (first | refine blk_drewN ?_ _ | refine blk_drew ?_ | refine blk_alloc ?_ _)); exact BK149.out)) : gb149 ≠ gb161)); have n6_ := Aside0.mk ((by rw [hg]; exact Nat.ne_of_gt (blk_lt (g := gb149) (o := .cells #[.int .i64 t144, .int .i64 t145, .string t146] 23 (0, 0)) (by (with_reducible repeat (first | refine blk_drewN ?_ _ | refine blk_drew ?_ | refine blk_alloc ?_ _)); exact BK149.out)) : gb161 ≠ gb149)); clear BK149; clear HB; have BK149 := n0_; have HB := n1_; have BK161 := n2_; have GW161 := n3_; have GE161 := n4_; have NB149_161 := n5_; have NB161_149 := n6_; clear n0_ n1_ n2_ n3_ n4_ n5_ n6_; clear hb hbox hg; have hnb19 := NB161_149.out; have hnc19 := NB149_161.out; have hcz20_0 : w18.cell? ⟨gb161, 0, none⟩ = some (.int .i64 0) := (blk_cell BK161.out 0).trans rfl; have hcz20_1 : w18.cell? ⟨gb161, 1, none⟩ = some (.int .i64 0) := (blk_cell BK161.out 1).trans rfl; have hcz20_2 : w18.cell? ⟨gb161, 2, none⟩ = some (.string (⟨#[]⟩ : ByteArray)) := (blk_cell BK161.out 2).trans rfl; have hfz20_0 := blk_frozen BK161.out 0; have hfz20_1 := blk_frozen BK161.out 1; have hfz20_2 := blk_frozen BK161.out 2))
  (try simp only [Act.put, List.setIfInBounds_toArray, List.set_cons_zero, List.set_cons_succ])
  go_cut [38] (fun v38 wc => ∃ (kq : Nat) (x38_8 : Bool), v38 = .bool x38_8 ∧ Aside0 (cabinetrylaw01_ValDivides.j0 kq a0 a1 t147 t148 t159 t160 x38_8 t144 t145 t146 t156 t157 t158 = some r) ∧ Aside0 (kq ≤ k) ∧ Aside0 (wc.heap[gb149]? = some (.cells #[.int .i64 t144, .int .i64 t145, .string t146] 23 (0, 0))) ∧ Aside0 (wc.heap[gb161]? = some (.cells #[.int .i64 t156, .int .i64 t157, .string t158] 23 (0, 0))) ∧ Aside0 (Below w.heap.size w wc))
  case first =>
    have H := HC9.out
    clear HC9
    replace H := Option.bind_eq_some_iff.mp H
    obtain ⟨t162, A210, H⟩ := H
    replace H : (if t162 = true then ((cabinetryref01_InNum.f a1).bind fun t163 => (cabinetrylaw01_ValDivides.j0 k a0 a1 t147 t148 t159 t160 (!t163) t144 t145 t146 t156 t157 t158)) else (cabinetrylaw01_ValDivides.j0 k a0 a1 t147 t148 t159 t160 true t144 t145 t146 t156 t157 t158)) = some r := H
    have A21 := Aside0.mk A210
    clear A210
    by_cases c22 : t162 = true
    · subst c22
      have H1 : ((cabinetryref01_InNum.f a1).bind fun t163 => (cabinetrylaw01_ValDivides.j0 k a0 a1 t147 t148 t159 t160 (!t163) t144 t145 t146 t156 t157 t158)) = some r := by rw [if_pos rfl] at H; exact H
      clear H
      have H := H1
      clear H1
      replace H := Option.bind_eq_some_iff.mp H
      obtain ⟨t163, A230, H⟩ := H
      replace H : (cabinetrylaw01_ValDivides.j0 k a0 a1 t147 t148 t159 t160 (!t163) t144 t145 t146 t156 t157 t158) = some r := H
      have A23 := Aside0.mk A230
      clear A230
      have H' := Aside0.mk H
      clear H
      go_wp2_with (first | ((with_reducible refine gate_callee (f := 21) rfl ?_); refine goesL_ (some 32) rfl rfl Tryd.func21 (by kernel_rfl) rfl #[.int .i64 a0] rfl (by (try simp only [List.map_toArray, List.map_cons, List.map_nil]); first | done | rfl | (simp only [List.length_drop, List.length_take]; rfl)) ?_; (with_reducible refine (cabinetryref01_InNum.calls a0 true _ A21.out).mono ?_); rintro e w' ⟨rfl, ⟨nd, rfl⟩⟩; refine ⟨_, rfl, ?_⟩) | (go_at_call 21; (with_reducible refine (cabinetryref01_InNum.calls a1 t163 _ A23.out).mono ?_); rintro e w' ⟨rfl, ⟨nd, rfl⟩⟩))
      go_meet
      case rel => exact ⟨_, (!t163), (by first | rfl | (simp; done) | (simp [*]; done)), H', ⟨by first | omega | exact Nat.le_refl _⟩, ⟨by (with_reducible repeat (first | refine blk_drewN ?_ _ | refine blk_drew ?_ | refine blk_alloc ?_ _)); refine blk_far ?_ NB149_161.out _; (with_reducible repeat (first | refine blk_drewN ?_ _ | refine blk_drew ?_ | refine blk_alloc ?_ _)); refine blk_far ?_ NB149_161.out _; (with_reducible repeat (first | refine blk_drewN ?_ _ | refine blk_drew ?_ | refine blk_alloc ?_ _)); refine blk_far ?_ NB149_161.out _; (with_reducible repeat (first | refine blk_drewN ?_ _ | refine blk_drew ?_ | refine blk_alloc ?_ _)); exact BK149.out⟩, ⟨by (with_reducible repeat (first | refine blk_drewN ?_ _ | refine blk_drew ?_ | refine blk_alloc ?_ _)); refine blk_put (cs := #[.int .i64 t156, .int .i64 t157, .string (⟨#[]⟩ : ByteArray)]) ?_ 2 _ rfl; (with_reducible repeat (first | refine blk_drewN ?_ _ | refine blk_drew ?_ | refine blk_alloc ?_ _)); refine blk_put (cs := #[.int .i64 t156, .int .i64 0, .string (⟨#[]⟩ : ByteArray)]) ?_ 1 _ rfl; (with_reducible repeat (first | refine blk_drewN ?_ _ | refine blk_drew ?_ | refine blk_alloc ?_ _)); refine blk_put (cs := #[.int .i64 0, .int .i64 0, .string (⟨#[]⟩ : ByteArray)]) ?_ 0 _ rfl; (with_reducible repeat (first | refine blk_drewN ?_ _ | refine blk_drew ?_ | refine blk_alloc ?_ _)); exact BK161.out⟩, ⟨by repeat (first | (with_reducible first | exact HB.out | apply below_alloc | apply pw_below_drewN | apply below_drew1 | refine below_set ?_ GE149.out | refine below_set ?_ GE161.out) | exact HB.out)⟩⟩
    · replace c22 := Bool.eq_false_iff.mpr c22
      subst c22
      have H1 : (cabinetrylaw01_ValDivides.j0 k a0 a1 t147 t148 t159 t160 true t144 t145 t146 t156 t157 t158) = some r := by rw [if_neg (show ¬ (false = true) by decide)] at H; exact H
      clear H
      have H := H1
      clear H1
      have H' := Aside0.mk H
      clear H
      go_wp2_with (first | ((with_reducible refine gate_callee (f := 21) rfl ?_); refine goesL_ (some 32) rfl rfl Tryd.func21 (by kernel_rfl) rfl #[.int .i64 a0] rfl (by (try simp only [List.map_toArray, List.map_cons, List.map_nil]); first | done | rfl | (simp only [List.length_drop, List.length_take]; rfl)) ?_; (with_reducible refine (cabinetryref01_InNum.calls a0 false _ A21.out).mono ?_); rintro e w' ⟨rfl, ⟨nd, rfl⟩⟩; refine ⟨_, rfl, ?_⟩))
      go_meet
      case rel => exact ⟨_, (true), (by first | rfl | (simp; done) | (simp [*]; done)), H', ⟨by first | omega | exact Nat.le_refl _⟩, ⟨by (with_reducible repeat (first | refine blk_drewN ?_ _ | refine blk_drew ?_ | refine blk_alloc ?_ _)); refine blk_far ?_ NB149_161.out _; (with_reducible repeat (first | refine blk_drewN ?_ _ | refine blk_drew ?_ | refine blk_alloc ?_ _)); refine blk_far ?_ NB149_161.out _; (with_reducible repeat (first | refine blk_drewN ?_ _ | refine blk_drew ?_ | refine blk_alloc ?_ _)); refine blk_far ?_ NB149_161.out _; (with_reducible repeat (first | refine blk_drewN ?_ _ | refine blk_drew ?_ | refine blk_alloc ?_ _)); exact BK149.out⟩, ⟨by (with_reducible repeat (first | refine blk_drewN ?_ _ | refine blk_drew ?_ | refine blk_alloc ?_ _)); refine blk_put (cs := #[.int .i64 t156, .int .i64 t157, .string (⟨#[]⟩ : ByteArray)]) ?_ 2 _ rfl; (with_reducible repeat (first | refine blk_drewN ?_ _ | refine blk_drew ?_ | refine blk_alloc ?_ _)); refine blk_put (cs := #[.int .i64 t156, .int .i64 0, .string (⟨#[]⟩ : ByteArray)]) ?_ 1 _ rfl; (with_reducible repeat (first | refine blk_drewN ?_ _ | refine blk_drew ?_ | refine blk_alloc ?_ _)); refine blk_put (cs := #[.int .i64 0, .int .i64 0, .string (⟨#[]⟩ : ByteArray)]) ?_ 0 _ rfl; (with_reducible repeat (first | refine blk_drewN ?_ _ | refine blk_drew ?_ | refine blk_alloc ?_ _)); exact BK161.out⟩, ⟨by repeat (first | (with_reducible first | exact HB.out | apply below_alloc | apply pw_below_drewN | apply below_drew1 | refine below_set ?_ GE149.out | refine below_set ?_ GE161.out) | exact HB.out)⟩⟩
  case rest =>
    clear HC9
    try clear c1
    try clear c2
    try clear p2
    try clear c4
    try clear c17
    try clear c19
    try clear c20
    try clear c21
    try clear c22
    try clear hcz14_0
    try clear hcz14_1
    try clear hcz14_2
    try clear hcz20_0
    try clear hcz20_1
    try clear hcz20_2
    try clear hfz14_0
    try clear hfz14_1
    try clear hfz14_2
    try clear hfz20_0
    try clear hfz20_1
    try clear hfz20_2
    obtain ⟨kq, x38_8, rfl, HA, HJ8, BK149, BK161, HB⟩ := hcut
    cases kq with
    | zero => exact absurd HA.out (by simp [cabinetrylaw01_ValDivides.j0])
    | succ kj8 =>
      have H := HA.out
      clear HA
      simp only [cabinetrylaw01_ValDivides.j0] at H
      by_cases c24 : x38_8 = true
      · subst c24
        have H1 : (if t148 = 1 then (if t160 = 1 then ((cabinetrylaw01_known.f kj8).bind fun t164 => (some t164)) else (some false)) else (some false)) = some r := by rw [if_pos rfl] at H; exact H
        clear H
        have H := H1
        clear H1
        by_cases c25 : t148 = 1
        · rw [if_pos c25] at H
          have c25b0 : (t148 == 1) = true := beq_iff_eq.mpr c25
          have c25b1 : (t148 != 1) = false := bne_eq_false_iff_eq.mpr c25
          clear c25
          by_cases c26 : t160 = 1
          · rw [if_pos c26] at H
            have c26b0 : (t160 == 1) = true := beq_iff_eq.mpr c26
            have c26b1 : (t160 != 1) = false := bne_eq_false_iff_eq.mpr c26
            clear c26
            replace H := Option.bind_eq_some_iff.mp H
            obtain ⟨t164, A270, H⟩ := H
            replace H : (some t164) = some r := H
            have A27 := Aside0.mk A270
            clear A270
            obtain rfl := Option.some.inj H
            simp only [Option.some.injEq, Prod.mk.injEq] at H
            obtain ⟨rfl⟩ := H
            go_wp2_with (first | (go_at_call 16; (with_reducible refine (cabinetrylaw01_known.calls kj8  t164 _ A27.out hr_).mono ?_); rintro e w28 ⟨rfl, hb⟩; have n0_ := Aside0.mk (blk_below (g := gb149) (o := .cells #[.int .i64 t144, .int .i64 t145, .string t146] 23 (0, 0)) (by (with_reducible repeat (first | refine blk_drewN ?_ _ | refine blk_drew ?_ | refine blk_alloc ?_ _)); exact BK149.out) hb); have n1_ := Aside0.mk (blk_below (g := gb161) (o := .cells #[.int .i64 t156, .int .i64 t157, .string t158] 23 (0, 0)) (by (with_reducible repeat (first | refine blk_drewN ?_ _ | refine blk_drew ?_ | refine blk_alloc ?_ _)); exact BK161.out) hb); have n2_ := Aside0.mk (below_step (by repeat (first | (with_reducible first | exact HB.out | apply below_alloc | apply pw_below_drewN | apply below_drew1 | refine below_set ?_ GE149.out | refine below_set ?_ GE161.out) | exact HB.out)) hb); clear BK149; clear BK161; clear HB; have BK149 := n0_; have BK161 := n1_; have HB := n2_; clear n0_ n1_ n2_; (try clear hb); (try clear hb2); (try clear hk); (try clear hi)))
            go_ret
            exact ⟨by first | rfl | (simp [errW_none, errW_some] <;> rfl) | (simp [*, errW_none, errW_some] <;> rfl), by repeat (first | (with_reducible first | exact HB.out | apply below_alloc | apply pw_below_drewN | apply below_drew1 | refine below_set ?_ GE149.out | refine below_set ?_ GE161.out) | exact HB.out)⟩
          · rw [if_neg c26] at H
            have c26b0 : (t160 == 1) = false := beq_eq_false_iff_ne.mpr c26
            have c26b1 : (t160 != 1) = true := bne_iff_ne.mpr c26
            obtain rfl := Option.some.inj H
            exact absurd hr_.out (by decide)
        · rw [if_neg c25] at H
          have c25b0 : (t148 == 1) = false := beq_eq_false_iff_ne.mpr c25
          have c25b1 : (t148 != 1) = true := bne_iff_ne.mpr c25
          obtain rfl := Option.some.inj H
          exact absurd hr_.out (by decide)
      · replace c24 := Bool.eq_false_iff.mpr c24
        subst c24
        have H1 : (if a1 = 0 then (if t147 = 2 then (if t159 = 2 then ((cabinetrylaw01_known.f kj8).bind fun t165 => (some t165)) else (some false)) else (some false)) else (if t148 = 0 then (if t160 = 0 then (if t147 = 0 then (if t159 = 0 then (if t144 = 2 then (if t156 = 2 then (if (wrap64 ((wrap64 (a1 * t145)) + t157)) = a0 then (if (mx t157 (wrap64 (-t157))) < (mx a1 (wrap64 (-a1))) then (if t157 = 0 then ((cabinetrylaw01_known.f kj8).bind fun t166 => (some t166)) else (if ((decide (t157 < 0)) == (decide (a0 < 0))) = true then ((cabinetrylaw01_known.f kj8).bind fun t167 => (some t167)) else (some false))) else (some false)) else (some false)) else (some false)) else (some false)) else (some false)) else (some false)) else (some false)) else (some false))) = some r := by rw [if_neg (show ¬ (false = true) by decide)] at H; exact H
        clear H
        have H := H1
        clear H1
        by_cases c29 : a1 = 0
        · rw [if_pos c29] at H
          have c29b0 : (a1 == 0) = true := beq_iff_eq.mpr c29
          have c29b1 : (a1 != 0) = false := bne_eq_false_iff_eq.mpr c29
          clear c29
          by_cases c30 : t147 = 2
          · rw [if_pos c30] at H
            have c30b0 : (t147 == 2) = true := beq_iff_eq.mpr c30
            have c30b1 : (t147 != 2) = false := bne_eq_false_iff_eq.mpr c30
            clear c30
            by_cases c31 : t159 = 2
            · rw [if_pos c31] at H
              have c31b0 : (t159 == 2) = true := beq_iff_eq.mpr c31
              have c31b1 : (t159 != 2) = false := bne_eq_false_iff_eq.mpr c31
              clear c31
              replace H := Option.bind_eq_some_iff.mp H
              obtain ⟨t165, A320, H⟩ := H
              replace H : (some t165) = some r := H
              have A32 := Aside0.mk A320
              clear A320
              obtain rfl := Option.some.inj H
              simp only [Option.some.injEq, Prod.mk.injEq] at H
              obtain ⟨rfl⟩ := H
              go_wp2_with (first | (go_at_call 16; (with_reducible refine (cabinetrylaw01_known.calls kj8  t165 _ A32.out hr_).mono ?_); rintro e w33 ⟨rfl, hb⟩; have n0_ := Aside0.mk (blk_below (g := gb149) (o := .cells #[.int .i64 t144, .int .i64 t145, .string t146] 23 (0, 0)) (by (with_reducible repeat (first | refine blk_drewN ?_ _ | refine blk_drew ?_ | refine blk_alloc ?_ _)); exact BK149.out) hb); have n1_ := Aside0.mk (blk_below (g := gb161) (o := .cells #[.int .i64 t156, .int .i64 t157, .string t158] 23 (0, 0)) (by (with_reducible repeat (first | refine blk_drewN ?_ _ | refine blk_drew ?_ | refine blk_alloc ?_ _)); exact BK161.out) hb); have n2_ := Aside0.mk (below_step (by repeat (first | (with_reducible first | exact HB.out | apply below_alloc | apply pw_below_drewN | apply below_drew1 | refine below_set ?_ GE149.out | refine below_set ?_ GE161.out) | exact HB.out)) hb); clear BK149; clear BK161; clear HB; have BK149 := n0_; have BK161 := n1_; have HB := n2_; clear n0_ n1_ n2_; (try clear hb); (try clear hb2); (try clear hk); (try clear hi)))
              go_ret
              exact ⟨by first | rfl | (simp [errW_none, errW_some] <;> rfl) | (simp [*, errW_none, errW_some] <;> rfl), by repeat (first | (with_reducible first | exact HB.out | apply below_alloc | apply pw_below_drewN | apply below_drew1 | refine below_set ?_ GE149.out | refine below_set ?_ GE161.out) | exact HB.out)⟩
            · rw [if_neg c31] at H
              have c31b0 : (t159 == 2) = false := beq_eq_false_iff_ne.mpr c31
              have c31b1 : (t159 != 2) = true := bne_iff_ne.mpr c31
              obtain rfl := Option.some.inj H
              exact absurd hr_.out (by decide)
          · rw [if_neg c30] at H
            have c30b0 : (t147 == 2) = false := beq_eq_false_iff_ne.mpr c30
            have c30b1 : (t147 != 2) = true := bne_iff_ne.mpr c30
            obtain rfl := Option.some.inj H
            exact absurd hr_.out (by decide)
        · rw [if_neg c29] at H
          have c29b0 : (a1 == 0) = false := beq_eq_false_iff_ne.mpr c29
          have c29b1 : (a1 != 0) = true := bne_iff_ne.mpr c29
          by_cases c34 : t148 = 0
          · rw [if_pos c34] at H
            have c34b0 : (t148 == 0) = true := beq_iff_eq.mpr c34
            have c34b1 : (t148 != 0) = false := bne_eq_false_iff_eq.mpr c34
            clear c34
            by_cases c35 : t160 = 0
            · rw [if_pos c35] at H
              have c35b0 : (t160 == 0) = true := beq_iff_eq.mpr c35
              have c35b1 : (t160 != 0) = false := bne_eq_false_iff_eq.mpr c35
              clear c35
              by_cases c36 : t147 = 0
              · rw [if_pos c36] at H
                have c36b0 : (t147 == 0) = true := beq_iff_eq.mpr c36
                have c36b1 : (t147 != 0) = false := bne_eq_false_iff_eq.mpr c36
                clear c36
                by_cases c37 : t159 = 0
                · rw [if_pos c37] at H
                  have c37b0 : (t159 == 0) = true := beq_iff_eq.mpr c37
                  have c37b1 : (t159 != 0) = false := bne_eq_false_iff_eq.mpr c37
                  clear c37
                  by_cases c38 : t144 = 2
                  · rw [if_pos c38] at H
                    have c38b0 : (t144 == 2) = true := beq_iff_eq.mpr c38
                    have c38b1 : (t144 != 2) = false := bne_eq_false_iff_eq.mpr c38
                    clear c38
                    by_cases c39 : t156 = 2
                    · rw [if_pos c39] at H
                      have c39b0 : (t156 == 2) = true := beq_iff_eq.mpr c39
                      have c39b1 : (t156 != 2) = false := bne_eq_false_iff_eq.mpr c39
                      clear c39
                      obtain ⟨ji40, hji40⟩ : ∃ j_ : Int, (mx t157 (wrap64 (-t157))) = j_ := ⟨_, rfl⟩
                      replace H : (if (wrap64 ((wrap64 (a1 * t145)) + t157)) = a0 then (if (ji40) < (mx a1 (wrap64 (-a1))) then (if t157 = 0 then ((cabinetrylaw01_known.f kj8).bind fun t166 => (some t166)) else (if ((decide (t157 < 0)) == (decide (a0 < 0))) = true then ((cabinetrylaw01_known.f kj8).bind fun t167 => (some t167)) else (some false))) else (some false)) else (some false)) = some r := by first | (rw [hji40] at H; exact H) | (simp only [hji40] at H ⊢; exact H)
                      have hji40_ : (if t157 < (wrap64 (-t157)) then (wrap64 (-t157)) else t157) = ji40 := hji40
                      obtain ⟨ji41, hji41⟩ : ∃ j_ : Int, (mx a1 (wrap64 (-a1))) = j_ := ⟨_, rfl⟩
                      replace H : (if (wrap64 ((wrap64 (a1 * t145)) + t157)) = a0 then (if (ji40) < (ji41) then (if t157 = 0 then ((cabinetrylaw01_known.f kj8).bind fun t166 => (some t166)) else (if ((decide (t157 < 0)) == (decide (a0 < 0))) = true then ((cabinetrylaw01_known.f kj8).bind fun t167 => (some t167)) else (some false))) else (some false)) else (some false)) = some r := by first | (rw [hji41] at H; exact H) | (simp only [hji41] at H ⊢; exact H)
                      have hji41_ : (if a1 < (wrap64 (-a1)) then (wrap64 (-a1)) else a1) = ji41 := hji41
                      by_cases c42 : (wrap64 ((wrap64 (a1 * t145)) + t157)) = a0
                      · rw [if_pos c42] at H
                        have c42b0 : ((wrap64 ((wrap64 (a1 * t145)) + t157)) == a0) = true := beq_iff_eq.mpr c42
                        have c42b1 : ((wrap64 ((wrap64 (a1 * t145)) + t157)) != a0) = false := bne_eq_false_iff_eq.mpr c42
                        clear c42
                        by_cases c43 : (ji40) < (ji41)
                        · rw [if_pos c43] at H
                          have c43b0 : decide ((ji40) < (ji41)) = true := decide_eq_true c43
                          clear c43
                          by_cases c44 : t157 = 0
                          · rw [if_pos c44] at H
                            have c44b0 : (t157 == 0) = true := beq_iff_eq.mpr c44
                            have c44b1 : (t157 != 0) = false := bne_eq_false_iff_eq.mpr c44
                            clear c44
                            replace H := Option.bind_eq_some_iff.mp H
                            obtain ⟨t166, A450, H⟩ := H
                            replace H : (some t166) = some r := H
                            have A45 := Aside0.mk A450
                            clear A450
                            obtain rfl := Option.some.inj H
                            simp only [Option.some.injEq, Prod.mk.injEq] at H
                            obtain ⟨rfl⟩ := H
                            have hnb46 := NB149_161.out
                            have hnc46 := NB161_149.out
                            have hcz47_0 : wc.cell? ⟨gb149, 0, none⟩ = some (.int .i64 t144) := (blk_cell BK149.out 0).trans rfl
                            have hcz47_1 : wc.cell? ⟨gb149, 1, none⟩ = some (.int .i64 t145) := (blk_cell BK149.out 1).trans rfl
                            have hcz47_2 : wc.cell? ⟨gb149, 2, none⟩ = some (.string t146) := (blk_cell BK149.out 2).trans rfl
                            have hfz47_0 := blk_frozen BK149.out 0
                            have hfz47_1 := blk_frozen BK149.out 1
                            have hfz47_2 := blk_frozen BK149.out 2
                            have hcz48_0 : wc.cell? ⟨gb161, 0, none⟩ = some (.int .i64 t156) := (blk_cell BK161.out 0).trans rfl
                            have hcz48_1 : wc.cell? ⟨gb161, 1, none⟩ = some (.int .i64 t157) := (blk_cell BK161.out 1).trans rfl
                            have hcz48_2 : wc.cell? ⟨gb161, 2, none⟩ = some (.string t158) := (blk_cell BK161.out 2).trans rfl
                            have hfz48_0 := blk_frozen BK161.out 0
                            have hfz48_1 := blk_frozen BK161.out 1
                            have hfz48_2 := blk_frozen BK161.out 2
                            go_wp2_with (first | (go_at_call 16; (with_reducible refine (cabinetrylaw01_known.calls kj8  t166 _ A45.out hr_).mono ?_); rintro e w49 ⟨rfl, hb⟩; have n0_ := Aside0.mk (blk_below (g := gb149) (o := .cells #[.int .i64 t144, .int .i64 t145, .string t146] 23 (0, 0)) (by (with_reducible repeat (first | refine blk_drewN ?_ _ | refine blk_drew ?_ | refine blk_alloc ?_ _)); exact BK149.out) hb); have n1_ := Aside0.mk (blk_below (g := gb161) (o := .cells #[.int .i64 t156, .int .i64 t157, .string t158] 23 (0, 0)) (by (with_reducible repeat (first | refine blk_drewN ?_ _ | refine blk_drew ?_ | refine blk_alloc ?_ _)); exact BK161.out) hb); have n2_ := Aside0.mk (below_step (by repeat (first | (with_reducible first | exact HB.out | apply below_alloc | apply pw_below_drewN | apply below_drew1 | refine below_set ?_ GE149.out | refine below_set ?_ GE161.out) | exact HB.out)) hb); clear BK149; clear BK161; clear HB; have BK149 := n0_; have BK161 := n1_; have HB := n2_; clear n0_ n1_ n2_; (try clear hb); (try clear hb2); (try clear hk); (try clear hi)))
                            go_ret
                            exact ⟨by first | rfl | (simp [errW_none, errW_some] <;> rfl) | (simp only [← hji40, ← hji41]; first | rfl | (simp [errW_none, errW_some] <;> rfl)) | (simp [*, errW_none, errW_some] <;> rfl), by repeat (first | (with_reducible first | exact HB.out | apply below_alloc | apply pw_below_drewN | apply below_drew1 | refine below_set ?_ GE149.out | refine below_set ?_ GE161.out) | exact HB.out)⟩
                          · rw [if_neg c44] at H
                            have c44b0 : (t157 == 0) = false := beq_eq_false_iff_ne.mpr c44
                            have c44b1 : (t157 != 0) = true := bne_iff_ne.mpr c44
                            by_cases c50 : ((decide (t157 < 0)) == (decide (a0 < 0))) = true
                            · rw [if_pos c50] at H
                              have c50b0 : ((decide (t157 < 0)) == (decide (a0 < 0))) = true := c50
                              (try (have c50b1 : decide ((decide (t157 < 0)) = (decide (a0 < 0))) = true := by simpa using c50))
                              (try (have c50b2 : ((decide (t157 < 0)) == (decide (a0 < 0))) = true := by simpa using c50))
                              clear c50
                              replace H := Option.bind_eq_some_iff.mp H
                              obtain ⟨t167, A510, H⟩ := H
                              replace H : (some t167) = some r := H
                              have A51 := Aside0.mk A510
                              clear A510
                              obtain rfl := Option.some.inj H
                              simp only [Option.some.injEq, Prod.mk.injEq] at H
                              obtain ⟨rfl⟩ := H
                              have hnb52 := NB149_161.out
                              have hnc52 := NB161_149.out
                              have hcz53_0 : wc.cell? ⟨gb149, 0, none⟩ = some (.int .i64 t144) := (blk_cell BK149.out 0).trans rfl
                              have hcz53_1 : wc.cell? ⟨gb149, 1, none⟩ = some (.int .i64 t145) := (blk_cell BK149.out 1).trans rfl
                              have hcz53_2 : wc.cell? ⟨gb149, 2, none⟩ = some (.string t146) := (blk_cell BK149.out 2).trans rfl
                              have hfz53_0 := blk_frozen BK149.out 0
                              have hfz53_1 := blk_frozen BK149.out 1
                              have hfz53_2 := blk_frozen BK149.out 2
                              have hcz54_0 : wc.cell? ⟨gb161, 0, none⟩ = some (.int .i64 t156) := (blk_cell BK161.out 0).trans rfl
                              have hcz54_1 : wc.cell? ⟨gb161, 1, none⟩ = some (.int .i64 t157) := (blk_cell BK161.out 1).trans rfl
                              have hcz54_2 : wc.cell? ⟨gb161, 2, none⟩ = some (.string t158) := (blk_cell BK161.out 2).trans rfl
                              have hfz54_0 := blk_frozen BK161.out 0
                              have hfz54_1 := blk_frozen BK161.out 1
                              have hfz54_2 := blk_frozen BK161.out 2
                              go_wp2_with (first | (go_at_call 16; (with_reducible refine (cabinetrylaw01_known.calls kj8  t167 _ A51.out hr_).mono ?_); rintro e w55 ⟨rfl, hb⟩; have n0_ := Aside0.mk (blk_below (g := gb149) (o := .cells #[.int .i64 t144, .int .i64 t145, .string t146] 23 (0, 0)) (by (with_reducible repeat (first | refine blk_drewN ?_ _ | refine blk_drew ?_ | refine blk_alloc ?_ _)); exact BK149.out) hb); have n1_ := Aside0.mk (blk_below (g := gb161) (o := .cells #[.int .i64 t156, .int .i64 t157, .string t158] 23 (0, 0)) (by (with_reducible repeat (first | refine blk_drewN ?_ _ | refine blk_drew ?_ | refine blk_alloc ?_ _)); exact BK161.out) hb); have n2_ := Aside0.mk (below_step (by repeat (first | (with_reducible first | exact HB.out | apply below_alloc | apply pw_below_drewN | apply below_drew1 | refine below_set ?_ GE149.out | refine below_set ?_ GE161.out) | exact HB.out)) hb); clear BK149; clear BK161; clear HB; have BK149 := n0_; have BK161 := n1_; have HB := n2_; clear n0_ n1_ n2_; (try clear hb); (try clear hb2); (try clear hk); (try clear hi)))
                              go_ret
                              exact ⟨by first | rfl | (simp [errW_none, errW_some] <;> rfl) | (simp only [← hji40, ← hji41]; first | rfl | (simp [errW_none, errW_some] <;> rfl)) | (simp [*, errW_none, errW_some] <;> rfl), by repeat (first | (with_reducible first | exact HB.out | apply below_alloc | apply pw_below_drewN | apply below_drew1 | refine below_set ?_ GE149.out | refine below_set ?_ GE161.out) | exact HB.out)⟩
                            · rw [if_neg c50] at H
                              have c50b0 : ((decide (t157 < 0)) == (decide (a0 < 0))) = false := by simpa using c50
                              (try (have c50b1 : decide ((decide (t157 < 0)) = (decide (a0 < 0))) = false := by simpa using c50))
                              (try (have c50b2 : ((decide (t157 < 0)) == (decide (a0 < 0))) = false := by simpa using c50))
                              (try (have c50b3 : ¬ ((decide (t157 < 0)) = (decide (a0 < 0))) := by simpa using c50))
                              clear c50
                              obtain rfl := Option.some.inj H
                              exact absurd hr_.out (by decide)
                        · rw [if_neg c43] at H
                          have c43b0 : decide ((ji40) < (ji41)) = false := decide_eq_false c43
                          clear c43
                          obtain rfl := Option.some.inj H
                          exact absurd hr_.out (by decide)
                      · rw [if_neg c42] at H
                        have c42b0 : ((wrap64 ((wrap64 (a1 * t145)) + t157)) == a0) = false := beq_eq_false_iff_ne.mpr c42
                        have c42b1 : ((wrap64 ((wrap64 (a1 * t145)) + t157)) != a0) = true := bne_iff_ne.mpr c42
                        obtain rfl := Option.some.inj H
                        exact absurd hr_.out (by decide)
                    · rw [if_neg c39] at H
                      have c39b0 : (t156 == 2) = false := beq_eq_false_iff_ne.mpr c39
                      have c39b1 : (t156 != 2) = true := bne_iff_ne.mpr c39
                      obtain rfl := Option.some.inj H
                      exact absurd hr_.out (by decide)
                  · rw [if_neg c38] at H
                    have c38b0 : (t144 == 2) = false := beq_eq_false_iff_ne.mpr c38
                    have c38b1 : (t144 != 2) = true := bne_iff_ne.mpr c38
                    obtain rfl := Option.some.inj H
                    exact absurd hr_.out (by decide)
                · rw [if_neg c37] at H
                  have c37b0 : (t159 == 0) = false := beq_eq_false_iff_ne.mpr c37
                  have c37b1 : (t159 != 0) = true := bne_iff_ne.mpr c37
                  obtain rfl := Option.some.inj H
                  exact absurd hr_.out (by decide)
              · rw [if_neg c36] at H
                have c36b0 : (t147 == 0) = false := beq_eq_false_iff_ne.mpr c36
                have c36b1 : (t147 != 0) = true := bne_iff_ne.mpr c36
                obtain rfl := Option.some.inj H
                exact absurd hr_.out (by decide)
            · rw [if_neg c35] at H
              have c35b0 : (t160 == 0) = false := beq_eq_false_iff_ne.mpr c35
              have c35b1 : (t160 != 0) = true := bne_iff_ne.mpr c35
              obtain rfl := Option.some.inj H
              exact absurd hr_.out (by decide)
          · rw [if_neg c34] at H
            have c34b0 : (t148 == 0) = false := beq_eq_false_iff_ne.mpr c34
            have c34b1 : (t148 != 0) = true := bne_iff_ne.mpr c34
            obtain rfl := Option.some.inj H
            exact absurd hr_.out (by decide)

end Go.Proofs.YtplbjaandkdhjaaDoor.PC
