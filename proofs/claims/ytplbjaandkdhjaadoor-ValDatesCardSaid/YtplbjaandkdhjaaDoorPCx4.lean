-- Written by a program of this session (wip/stage.sh) out of the translation: functions as Lean functions, and walks.
import Derived.Test.YtplbjaandkdhjaaDoorPCx0
import Derived.Test.YtplbjaandkdhjaaDoorPAx0
import Derived.Test.YtplbjaandkdhjaaDoorPAx22
import Derived.Test.YtplbjaandkdhjaaDoorPBx4
import Derived.Test.YtplbjaandkdhjaaDoorPBx5
import Derived.Test.YtplbjaandkdhjaaDoorPCx1
namespace Go.Proofs.YtplbjaandkdhjaaDoor.PC
open Go.RowKit Go.Proofs.YtplbjaandkdhjaaDoorW.PrintWords Go.Proofs.YtplbjaandkdhjaaDoorW.PrintLast Go.Proofs.YtplbjaandkdhjaaDoorW.PrintMore Go.Proofs.YtplbjaandkdhjaaDoor.PA Go.Proofs.YtplbjaandkdhjaaDoor.H1 Go.Proofs.YtplbjaandkdhjaaDoor.PB
attribute [local go_sem] max2_int min2_int max_two min_two max_three min_three max_four min_four   -- for this text's walks alone
set_option linter.unusedVariables false
set_option linter.unusedSimpArgs false

/-! ### cabinetrylaw01_ValDates: function 5 -/
def cabinetrylaw01_ValDates.j0 : Nat → Int → Int → Int → Int → Int → Bool → Option (Bool)
  | 0, _, _, _, _, _, _ => none
  | k + 1, x0, x1, x2, x7, x8, x36 => if x36 = true then (some false) else (if x8 = 0 then ((val_Split.f k x7).bind fun bt172 => (if bt172.1 = x0 then (if bt172.2.1 = x1 then (if bt172.2.2.1 = x2 then (if bt172.2.2.2 = 0 then ((cabinetrylaw01_known.f k).bind fun t176 => (some t176)) else (some false)) else (some false)) else (some false)) else (some false))) else ((cabinetrylaw01_known.f k).bind fun t177 => (some t177)))
def cabinetrylaw01_ValDates.f (k : Nat) (a0 : Int) (a1 : Int) (a2 : Int) : Option (Bool) := (val_Days.f k a0 a1 a2).bind fun bt168 => ((cabinetryref01_Days.f k a0 a1 a2).bind fun bt170 => (if bt168.1 = bt170.1 then (cabinetrylaw01_ValDates.j0 k a0 a1 a2 bt168.1 bt168.2 (bt168.2 != bt170.2)) else (cabinetrylaw01_ValDates.j0 k a0 a1 a2 bt168.1 bt168.2 true)))
theorem cabinetrylaw01_ValDates.mono_l : ∀ k, (∀ y0 y1 y2 y3 y4 y5, LeO (cabinetrylaw01_ValDates.j0 k y0 y1 y2 y3 y4 y5) (cabinetrylaw01_ValDates.j0 (k + 1) y0 y1 y2 y3 y4 y5))
  | 0 => fun _ _ _ _ _ _ r h => by simp [cabinetrylaw01_ValDates.j0] at h
  | k + 1 => by
    have ih0 := cabinetrylaw01_ValDates.mono_l k
    · intro y0 y1 y2 y3 y4 y5
      unfold cabinetrylaw01_ValDates.j0
      repeat' first
      | (with_reducible exact ih0 _ _ _ _ _ _)
      | (with_reducible exact cabinetrylaw01_known.mono _)
      | (with_reducible exact cabinetryref01_Days.mono _ _ _ _)
      | (with_reducible exact val_Days.mono _ _ _ _)
      | (with_reducible exact val_Split.mono _ _)
      | (with_reducible exact LeO.refl _)
      | (with_reducible exact LeO.none _)
      | (with_reducible refine LeO.ite ?_ ?_)
      | (with_reducible refine LeO.bind ?_ (fun _ => ?_))
      | exact ih0 _ _ _ _ _ _
      | exact cabinetrylaw01_known.mono _
      | exact cabinetryref01_Days.mono _ _ _ _
      | exact val_Days.mono _ _ _ _
      | exact val_Split.mono _ _
      | exact LeO.none _
      | refine LeO.ite ?_ ?_
      | refine LeO.bind ?_ (fun _ => ?_)
theorem cabinetrylaw01_ValDates.mono : ∀ a0 a1 a2 k, LeO (cabinetrylaw01_ValDates.f k a0 a1 a2) (cabinetrylaw01_ValDates.f (k + 1) a0 a1 a2) := by
  intro a0 a1 a2 k
  have ih0 := cabinetrylaw01_ValDates.mono_l k
  unfold cabinetrylaw01_ValDates.f
  repeat' first
      | (with_reducible exact ih0 _ _ _ _ _ _)
      | (with_reducible exact cabinetrylaw01_known.mono _)
      | (with_reducible exact cabinetryref01_Days.mono _ _ _ _)
      | (with_reducible exact val_Days.mono _ _ _ _)
      | (with_reducible exact val_Split.mono _ _)
      | (with_reducible exact LeO.refl _)
      | (with_reducible exact LeO.none _)
      | (with_reducible refine LeO.ite ?_ ?_)
      | (with_reducible refine LeO.bind ?_ (fun _ => ?_))
      | exact ih0 _ _ _ _ _ _
      | exact cabinetrylaw01_known.mono _
      | exact cabinetryref01_Days.mono _ _ _ _
      | exact val_Days.mono _ _ _ _
      | exact val_Split.mono _ _
      | exact LeO.none _
      | refine LeO.ite ?_ ?_
      | refine LeO.bind ?_ (fun _ => ?_)
set_option maxHeartbeats 8000000 in
set_option maxRecDepth 100000 in
theorem cabinetrylaw01_ValDates.calls (k : Nat) (a0 : Int) (a1 : Int) (a2 : Int) (r : Bool) (w : World) (h : cabinetrylaw01_ValDates.f k a0 a1 a2 = some r) (hr_ : Aside0 (r = true)) :
    Calls Tryd.prog 5 #[.int .i64 a0, .int .i64 a1, .int .i64 a2] w fun e w' => e = .returned (.bool r) ∧ Below w.heap.size w w' := by
  have HB := Aside0.mk (Below.refl w.heap.size w)
  have H : ((val_Days.f k a0 a1 a2).bind fun bt168 => ((cabinetryref01_Days.f k a0 a1 a2).bind fun bt170 => (if bt168.1 = bt170.1 then (cabinetrylaw01_ValDates.j0 k a0 a1 a2 bt168.1 bt168.2 (bt168.2 != bt170.2)) else (cabinetrylaw01_ValDates.j0 k a0 a1 a2 bt168.1 bt168.2 true)))) = some r := h
  clear h
  replace H := Option.bind_eq_some_iff.mp H
  obtain ⟨⟨t168, t169⟩, A40, H⟩ := H
  replace H : ((cabinetryref01_Days.f k a0 a1 a2).bind fun bt170 => (if t168 = bt170.1 then (cabinetrylaw01_ValDates.j0 k a0 a1 a2 t168 t169 (t169 != bt170.2)) else (cabinetrylaw01_ValDates.j0 k a0 a1 a2 t168 t169 true))) = some r := H
  have A4 := Aside0.mk A40
  clear A40
  replace H := Option.bind_eq_some_iff.mp H
  obtain ⟨⟨t170, t171⟩, A50, H⟩ := H
  replace H : (if t168 = t170 then (cabinetrylaw01_ValDates.j0 k a0 a1 a2 t168 t169 (t169 != t171)) else (cabinetrylaw01_ValDates.j0 k a0 a1 a2 t168 t169 true)) = some r := H
  have A5 := Aside0.mk A50
  clear A50
  have HC6 := Aside0.mk H
  clear H
  go_enter Tryd.func5, Tryd.ntmps5
  go_upto_region 3 with (first | ((with_reducible refine gate_callee (f := 22) rfl ?_); refine goesL_ (some 19) rfl rfl Tryd.func22 (by kernel_rfl) rfl #[.int .i64 a0, .int .i64 a1, .int .i64 a2] rfl (by (try simp only [List.map_toArray, List.map_cons, List.map_nil]); first | done | rfl | (simp only [List.length_drop, List.length_take]; rfl)) ?_; (with_reducible refine (val_Days.calls k a0 a1 a2 t168 t169 _ A4.out).mono ?_); rintro e w7 ⟨rfl, hb⟩; refine ⟨_, rfl, ?_⟩; have n0_ := Aside0.mk (below_step (by repeat (first | (with_reducible first | exact HB.out | apply below_alloc | apply pw_below_drewN | apply below_drew1) | exact HB.out)) hb); clear HB; have HB := n0_; clear n0_; (try clear hb); (try clear hb2); (try clear hk); (try clear hi)) | ((with_reducible refine gate_callee (f := 23) rfl ?_); refine goesL_ (some 26) rfl rfl Tryd.func23 (by kernel_rfl) rfl #[.int .i64 a0, .int .i64 a1, .int .i64 a2] rfl (by (try simp only [List.map_toArray, List.map_cons, List.map_nil]); first | done | rfl | (simp only [List.length_drop, List.length_take]; rfl)) ?_; (with_reducible refine (cabinetryref01_Days.calls k a0 a1 a2 t170 t171 _ A5.out).mono ?_); rintro e w' ⟨rfl, ⟨nd, rfl⟩⟩; refine ⟨_, rfl, ?_⟩))
  (try simp only [Act.put, List.setIfInBounds_toArray, List.set_cons_zero, List.set_cons_succ])
  go_cut [36] (fun v36 wc => ∃ (kq : Nat) (x36_5 : Bool), v36 = .bool x36_5 ∧ Aside0 (cabinetrylaw01_ValDates.j0 kq a0 a1 a2 t168 t169 x36_5 = some r) ∧ Aside0 (kq ≤ k) ∧ Aside0 (Below w.heap.size w wc))
  case first =>
    have H := HC6.out
    clear HC6
    by_cases c8 : t168 = t170
    · rw [if_pos c8] at H
      have c8b0 : (t168 == t170) = true := beq_iff_eq.mpr c8
      have c8b1 : (t168 != t170) = false := bne_eq_false_iff_eq.mpr c8
      clear c8
      (first | rw [c8b0] | (simp only [i64_w, i32_w]; rw [c8b0]) | skip)
      have H' := Aside0.mk H
      clear H
      go_wp2
      go_meet
      case rel => exact ⟨_, ((t169 != t171)), (by first | rfl | (simp; done) | (simp [*]; done)), H', ⟨by first | omega | exact Nat.le_refl _⟩, ⟨by repeat (first | (with_reducible first | exact HB.out | apply below_alloc | apply pw_below_drewN | apply below_drew1) | exact HB.out)⟩⟩
    · rw [if_neg c8] at H
      have c8b0 : (t168 == t170) = false := beq_eq_false_iff_ne.mpr c8
      have c8b1 : (t168 != t170) = true := bne_iff_ne.mpr c8
      (first | rw [c8b0] | (simp only [i64_w, i32_w]; rw [c8b0]) | skip)
      have H' := Aside0.mk H
      clear H
      go_wp2
      go_meet
      case rel => exact ⟨_, (true), (by first | rfl | (simp; done) | (simp [*]; done)), H', ⟨by first | omega | exact Nat.le_refl _⟩, ⟨by repeat (first | (with_reducible first | exact HB.out | apply below_alloc | apply pw_below_drewN | apply below_drew1) | exact HB.out)⟩⟩
  case rest =>
    clear HC6
    try clear c2
    try clear p2
    try clear c5
    try clear c8
    try clear c8b0
    try clear c8b1
    obtain ⟨kq, x36_5, rfl, HA, HJ5, HB⟩ := hcut
    cases kq with
    | zero => exact absurd HA.out (by simp [cabinetrylaw01_ValDates.j0])
    | succ kj5 =>
      have H := HA.out
      clear HA
      simp only [cabinetrylaw01_ValDates.j0] at H
      by_cases c9 : x36_5 = true
      · subst c9
        have H1 : (some false) = some r := by rw [if_pos rfl] at H; exact H
        clear H
        have H := H1
        clear H1
        obtain rfl := Option.some.inj H
        exact absurd hr_.out (by decide)
      · replace c9 := Bool.eq_false_iff.mpr c9
        subst c9
        have H1 : (if t169 = 0 then ((val_Split.f kj5 t168).bind fun bt172 => (if bt172.1 = a0 then (if bt172.2.1 = a1 then (if bt172.2.2.1 = a2 then (if bt172.2.2.2 = 0 then ((cabinetrylaw01_known.f kj5).bind fun t176 => (some t176)) else (some false)) else (some false)) else (some false)) else (some false))) else ((cabinetrylaw01_known.f kj5).bind fun t177 => (some t177))) = some r := by rw [if_neg (show ¬ (false = true) by decide)] at H; exact H
        clear H
        have H := H1
        clear H1
        by_cases c10 : t169 = 0
        · rw [if_pos c10] at H
          have c10b0 : (t169 == 0) = true := beq_iff_eq.mpr c10
          have c10b1 : (t169 != 0) = false := bne_eq_false_iff_eq.mpr c10
          clear c10
          replace H := Option.bind_eq_some_iff.mp H
          obtain ⟨⟨t172, t173, t174, t175⟩, A110, H⟩ := H
          replace H : (if t172 = a0 then (if t173 = a1 then (if t174 = a2 then (if t175 = 0 then ((cabinetrylaw01_known.f kj5).bind fun t176 => (some t176)) else (some false)) else (some false)) else (some false)) else (some false)) = some r := H
          have A11 := Aside0.mk A110
          clear A110
          by_cases c12 : t172 = a0
          · rw [if_pos c12] at H
            have c12b0 : (t172 == a0) = true := beq_iff_eq.mpr c12
            have c12b1 : (t172 != a0) = false := bne_eq_false_iff_eq.mpr c12
            clear c12
            by_cases c13 : t173 = a1
            · rw [if_pos c13] at H
              have c13b0 : (t173 == a1) = true := beq_iff_eq.mpr c13
              have c13b1 : (t173 != a1) = false := bne_eq_false_iff_eq.mpr c13
              clear c13
              by_cases c14 : t174 = a2
              · rw [if_pos c14] at H
                have c14b0 : (t174 == a2) = true := beq_iff_eq.mpr c14
                have c14b1 : (t174 != a2) = false := bne_eq_false_iff_eq.mpr c14
                clear c14
                by_cases c15 : t175 = 0
                · rw [if_pos c15] at H
                  have c15b0 : (t175 == 0) = true := beq_iff_eq.mpr c15
                  have c15b1 : (t175 != 0) = false := bne_eq_false_iff_eq.mpr c15
                  clear c15
                  replace H := Option.bind_eq_some_iff.mp H
                  obtain ⟨t176, A160, H⟩ := H
                  replace H : (some t176) = some r := H
                  have A16 := Aside0.mk A160
                  clear A160
                  obtain rfl := Option.some.inj H
                  simp only [Option.some.injEq, Prod.mk.injEq] at H
                  obtain ⟨rfl⟩ := H
                  go_wp2_with (first | ((with_reducible refine gate_callee (f := 24) rfl ?_); refine goesL_ (some 42) rfl rfl Tryd.func24 (by kernel_rfl) rfl #[.int .i64 t168] rfl (by (try simp only [List.map_toArray, List.map_cons, List.map_nil]); first | done | rfl | (simp only [List.length_drop, List.length_take]; rfl)) ?_; (with_reducible refine (val_Split.calls kj5 t168 t172 t173 t174 t175 _ A11.out).mono ?_); rintro e w17 ⟨rfl, hb⟩; refine ⟨_, rfl, ?_⟩; have n0_ := Aside0.mk (below_step (by repeat (first | (with_reducible first | exact HB.out | apply below_alloc | apply pw_below_drewN | apply below_drew1) | exact HB.out)) hb); clear HB; have HB := n0_; clear n0_; (try clear hb); (try clear hb2); (try clear hk); (try clear hi)) | (go_at_call 16; (with_reducible refine (cabinetrylaw01_known.calls kj5  t176 _ A16.out hr_).mono ?_); rintro e w18 ⟨rfl, hb⟩; have n0_ := Aside0.mk (below_step (by repeat (first | (with_reducible first | exact HB.out | apply below_alloc | apply pw_below_drewN | apply below_drew1) | exact HB.out)) hb); clear HB; have HB := n0_; clear n0_; (try clear hb); (try clear hb2); (try clear hk); (try clear hi)))
                  go_ret
                  exact ⟨by first | rfl | (simp [errW_none, errW_some] <;> rfl) | (simp [*, errW_none, errW_some] <;> rfl), by repeat (first | (with_reducible first | exact HB.out | apply below_alloc | apply pw_below_drewN | apply below_drew1) | exact HB.out)⟩
                · rw [if_neg c15] at H
                  have c15b0 : (t175 == 0) = false := beq_eq_false_iff_ne.mpr c15
                  have c15b1 : (t175 != 0) = true := bne_iff_ne.mpr c15
                  obtain rfl := Option.some.inj H
                  exact absurd hr_.out (by decide)
              · rw [if_neg c14] at H
                have c14b0 : (t174 == a2) = false := beq_eq_false_iff_ne.mpr c14
                have c14b1 : (t174 != a2) = true := bne_iff_ne.mpr c14
                obtain rfl := Option.some.inj H
                exact absurd hr_.out (by decide)
            · rw [if_neg c13] at H
              have c13b0 : (t173 == a1) = false := beq_eq_false_iff_ne.mpr c13
              have c13b1 : (t173 != a1) = true := bne_iff_ne.mpr c13
              obtain rfl := Option.some.inj H
              exact absurd hr_.out (by decide)
          · rw [if_neg c12] at H
            have c12b0 : (t172 == a0) = false := beq_eq_false_iff_ne.mpr c12
            have c12b1 : (t172 != a0) = true := bne_iff_ne.mpr c12
            obtain rfl := Option.some.inj H
            exact absurd hr_.out (by decide)
        · rw [if_neg c10] at H
          have c10b0 : (t169 == 0) = false := beq_eq_false_iff_ne.mpr c10
          have c10b1 : (t169 != 0) = true := bne_iff_ne.mpr c10
          replace H := Option.bind_eq_some_iff.mp H
          obtain ⟨t177, A190, H⟩ := H
          replace H : (some t177) = some r := H
          have A19 := Aside0.mk A190
          clear A190
          obtain rfl := Option.some.inj H
          simp only [Option.some.injEq, Prod.mk.injEq] at H
          obtain ⟨rfl⟩ := H
          go_wp2_with (first | ((with_reducible refine gate_callee (f := 16) rfl ?_); refine goesL_ (some 39) rfl rfl Tryd.func16 (by kernel_rfl) rfl #[] rfl (by (try simp only [List.map_toArray, List.map_cons, List.map_nil]); first | done | rfl | (simp only [List.length_drop, List.length_take]; rfl)) ?_; (with_reducible refine (cabinetrylaw01_known.calls kj5  t177 _ A19.out hr_).mono ?_); rintro e w20 ⟨rfl, hb⟩; refine ⟨_, rfl, ?_⟩; have n0_ := Aside0.mk (below_step (by repeat (first | (with_reducible first | exact HB.out | apply below_alloc | apply pw_below_drewN | apply below_drew1) | exact HB.out)) hb); clear HB; have HB := n0_; clear n0_; (try clear hb); (try clear hb2); (try clear hk); (try clear hi)))
          go_ret
          exact ⟨by first | rfl | (simp [errW_none, errW_some] <;> rfl) | (simp [*, errW_none, errW_some] <;> rfl), by repeat (first | (with_reducible first | exact HB.out | apply below_alloc | apply pw_below_drewN | apply below_drew1) | exact HB.out)⟩

end Go.Proofs.YtplbjaandkdhjaaDoor.PC
