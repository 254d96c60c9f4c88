-- Written by a program of this session (wip/merge.py): the texts of this claim, joined.
import Derived.KernelRfl
import Derived.Test.YtnkejhfbkgfedaaDoorMKeyRanges1
import Derived.Test.YtnkejhfbkgfedaaDoorMKeyRanges2
import Derived.Test.YtnkejhfbkgfedaaDoorMKeyRanges3
import Derived.Test.YtnkejhfbkgfedaaDoorMKeyRanges4
import Derived.Test.YtnkejhfbkgfedaaDoorMKeyRanges5
import Derived.Test.YtnkejhfbkgfedaaDoorMKeyRanges6
import Derived.Test.YtnkejhfbkgfedaaDoorMKeyRanges7
import Derived.Test.YtnkejhfbkgfedaaDoorMKeyRanges8
import Derived.Test.YtnkejhfbkgfedaaDoorMKeyRanges9
import Derived.Test.YtnkejhfbkgfedaaDoorMKeyRanges10
import Derived.Test.YtnkejhfbkgfedaaDoorMKeyRanges11
import Derived.Test.YtnkejhfbkgfedaaDoorMKeyRanges12
import Derived.Test.YtnkejhfbkgfedaaDoorMKeyRanges13
import Derived.Test.YtnkejhfbkgfedaaDoorMKeyRanges14
import Derived.Test.YtnkejhfbkgfedaaDoorMKeyRanges15
import Derived.Test.YtnkejhfbkgfedaaDoorMKeyRanges16
import Derived.Test.YtnkejhfbkgfedaaDoorMKeyRanges17
import Derived.Test.YtnkejhfbkgfedaaDoorMKeyRanges18
import Derived.Test.YtnkejhfbkgfedaaDoorMKeyRanges19
import Derived.Test.YtnkejhfbkgfedaaDoorMKeyRanges20
namespace Go.Proofs.YtnkejhfbkgfedaaDoor.PA
end Go.Proofs.YtnkejhfbkgfedaaDoor.PA
namespace Go.Proofs.YtnkejhfbkgfedaaDoor.PB
end Go.Proofs.YtnkejhfbkgfedaaDoor.PB
namespace Go.Proofs.YtnkejhfbkgfedaaDoor.PC
end Go.Proofs.YtnkejhfbkgfedaaDoor.PC
namespace Go.Proofs.YtnkejhfbkgfedaaDoor.H1
end Go.Proofs.YtnkejhfbkgfedaaDoor.H1
namespace Go.Proofs.YtnkejhfbkgfedaaDoor.L1
end Go.Proofs.YtnkejhfbkgfedaaDoor.L1
namespace Go.Proofs.YtnkejhfbkgfedaaDoor.PA
open Go.RowKit Go.Proofs.YtnkejhfbkgfedaaDoorW.PrintWords Go.Proofs.YtnkejhfbkgfedaaDoorW.PrintLast Go.Proofs.YtnkejhfbkgfedaaDoorW.PrintMore
attribute [local go_sem] max2_int min2_int max_two min_two max_three min_three max_four min_four   -- for this text's walks alone
set_option linter.unusedVariables false
set_option linter.unusedSimpArgs false
def key_Behind.l0 : Nat → ByteArray → Int → Option (ByteArray × Bool)
 | 0, _, _ => none
 | k + 1, x0, x4 => if x4 ≥ 0 then (if 0 ≤ x4 then (if x4 < (x0.size : Int) then (if (bt x0 x4) = 255 then (key_Behind.l0 k x0 (wrap64 (x4 - 1))) else (if x4 < 0 then (some ((⟨#[]⟩ : ByteArray), false)) else (if x4 ≤ (x0.size : Int) then ((some (([((bt x0 x4) + 1) % 256] : List Int) : List Int)).bind fun y168 => (if (x0.extract 0 (x4 : Int).toNat).size + (strOfNums y168).size ≤ 9223372036854775807 then (some ((x0.extract 0 (x4 : Int).toNat) ++ (strOfNums y168), true)) else (none))) else (none)))) else (none)) else (none)) else (if x4 < 0 then (some ((⟨#[]⟩ : ByteArray), false)) else (if 0 ≤ x4 then (if x4 ≤ (x0.size : Int) then (if x4 < (x0.size : Int) then ((some (([((bt x0 x4) + 1) % 256] : List Int) : List Int)).bind fun y171 => (if (x0.extract 0 (x4 : Int).toNat).size + (strOfNums y171).size ≤ 9223372036854775807 then (some ((x0.extract 0 (x4 : Int).toNat) ++ (strOfNums y171), true)) else (none))) else (none)) else (none)) else (none)))
def key_Behind.f (k : Nat) (a0 : ByteArray) : Option (ByteArray × Bool) := key_Behind.l0 k a0 (wrap64 ((a0.size : Int) - 1))
theorem key_Behind.mono_l : ∀ k, (∀ y0 y1, LeO (key_Behind.l0 k y0 y1) (key_Behind.l0 (k + 1) y0 y1))
 | 0 => fun _ _ r h => by simp [key_Behind.l0] at h
 | k + 1 => by
  have ih0 := key_Behind.mono_l k
  ·intro y0 y1
   unfold key_Behind.l0
   repeat' first
   | (with_reducible exact ih0 _ _)
   | (with_reducible exact LeO.refl _)
   | (with_reducible exact LeO.none _)
   | (with_reducible refine LeO.ite ?_ ?_)
   | (with_reducible refine LeO.bind ?_ (fun _ => ?_))
   | exact ih0 _ _
   | exact LeO.none _
   | refine LeO.ite ?_ ?_
   | refine LeO.bind ?_ (fun _ => ?_)
theorem key_Behind.mono : ∀ a0 k, LeO (key_Behind.f k a0) (key_Behind.f (k + 1) a0) := by
 intro a0 k
 have ih0 := key_Behind.mono_l k
 unfold key_Behind.f
 repeat' first
   | (with_reducible exact ih0 _ _)
   | (with_reducible exact LeO.refl _)
   | (with_reducible exact LeO.none _)
   | (with_reducible refine LeO.ite ?_ ?_)
   | (with_reducible refine LeO.bind ?_ (fun _ => ?_))
   | exact ih0 _ _
   | exact LeO.none _
   | refine LeO.ite ?_ ?_
   | refine LeO.bind ?_ (fun _ => ?_)
def key_Behind.T6 : Bool × List (List Nat × List Nat) := (true, [([], []), ([], []), ([0, 1], [0, 1]), ([], []), ([], []), ([3, 4], [3, 4]), ([5], [5]), ([6], [6]), ([7], [7]), ([2, 8], [2, 8]), ([9, 0, 1, 2, 3, 4, 5, 6, 7, 8, 9], [9]), ([10, 0, 1, 2, 3, 4, 5, 6, 7, 8, 9, 10], [])])
def key_Behind.B6 : List Nat := [0, 0, 3, 0, 0, 24, 56, 120, 248, 511, 1023, 2047]
theorem key_Behind.tab6 : rtab .any (opsOf Tryd.f34 6) = key_Behind.T6 := by kernel_rfl
theorem key_Behind.bits6 : waitsOk key_Behind.T6.2 key_Behind.B6 = true := by kernel_rfl
set_option maxHeartbeats 8000000 in
set_option maxRecDepth 100000 in
theorem key_Behind.calls (k : Nat) (a0 : ByteArray) (r1 : ByteArray) (r2 : Bool) (w : World) (h : key_Behind.f k a0 = some (r1, r2)) :
  Calls Tryd.prog 34 #[.string a0] w fun e w' => e = .returned (.tuple #[.string r1, .bool r2]) ∧ Below w.heap.size w w' := by
 have HB := Aside0.mk (Below.refl w.heap.size w)
 have H : (key_Behind.l0 k a0 (wrap64 ((a0.size : Int) - 1))) = some (r1, r2) := h
 clear h
 have H' := Aside0.mk H
 clear H
 go_enter Tryd.func34, Tryd.ntmps34
 go_wp2
 go_loopg [4] k (fun kq v4 w' => ∃ (x4_1 : Int), v4 = .int .i64 x4_1 ∧ Aside0 (key_Behind.l0 kq a0 x4_1 = some (r1, r2)) ∧ Aside0 (kq ≤ k) ∧ Aside0 (Below w.heap.size w w'))
 case atStart => exact ⟨(wrap64 ((a0.size : Int) - 1)), (by first | rfl | (simp; done) | (simp [*]; done)), H', ⟨Nat.le_refl _⟩, ⟨by repeat (first | (with_reducible first | exact HB.out | apply below_alloc | apply pw_below_drewN | apply below_drew1) | exact HB.out)⟩⟩
 case round =>
  clear H'
  obtain ⟨x4_1, rfl, HA, HK1, HB⟩ := hrel
  cases gk with
  | zero => exact absurd HA.out (by simp [key_Behind.l0])
  | succ k1 =>
   have H := HA.out
   clear HA
   simp only [key_Behind.l0] at H
   by_cases c2 : x4_1 ≥ 0
   ·rw [if_pos c2] at H
    have c2b0 : decide (0 ≤ x4_1) = true := decide_eq_true c2
    clear c2
    by_cases c3 : 0 ≤ x4_1
    ·rw [if_pos c3] at H
     have c3b0 : decide (0 ≤ x4_1) = true := decide_eq_true c3
     clear c3
     by_cases c4 : x4_1 < (a0.size : Int)
     ·rw [if_pos c4] at H
      have c4b0 : decide (x4_1 < (a0.size : Int)) = true := decide_eq_true c4
      clear c4
      by_cases c6 : (bt a0 x4_1) = 255
      ·rw [if_pos c6] at H
       have c6b0 : ((bt a0 x4_1) == 255) = true := beq_iff_eq.mpr c6
       have c6b1 : ((bt a0 x4_1) != 255) = false := bne_eq_false_iff_eq.mpr c6
       clear c6
       have H' := Aside0.mk H
       clear H
       have p5 : 0 ≤ (x4_1 : Int) := of_decide_eq_true (by first | (with_reducible assumption) | assumption)
       have q5 : x4_1 < (a0.size : Int) := of_decide_eq_true (by first | (with_reducible assumption) | assumption)
       have hx5 := bt_at a0 x4_1
       replace p5 := eq_true p5
       replace q5 := eq_true q5
       go_wp2
       go_roundg k1
       case measure => have := HK1.out; omega
       case rel => exact ⟨(wrap64 (x4_1 - 1)), (by first | rfl | (simp; done) | (simp [*]; done)), H', ⟨by have := HK1.out; omega⟩, ⟨by repeat (first | (with_reducible first | exact HB.out | apply below_alloc | apply pw_below_drewN | apply below_drew1) | exact HB.out)⟩⟩
      ·rw [if_neg c6] at H
       have c6b0 : ((bt a0 x4_1) == 255) = false := beq_eq_false_iff_ne.mpr c6
       have c6b1 : ((bt a0 x4_1) != 255) = true := bne_iff_ne.mpr c6
       by_cases c7 : x4_1 < 0
       ·rw [if_pos c7] at H
        have c7b0 : decide (x4_1 < 0) = true := decide_eq_true c7
        clear c7
        simp only [Option.some.injEq, Prod.mk.injEq] at H
        obtain ⟨rfl, rfl⟩ := H
        have p5 : 0 ≤ (x4_1 : Int) := of_decide_eq_true (by first | (with_reducible assumption) | assumption)
        have q5 : x4_1 < (a0.size : Int) := of_decide_eq_true (by first | (with_reducible assumption) | assumption)
        have hx5 := bt_at a0 x4_1
        replace p5 := eq_true p5
        replace q5 := eq_true q5
        go_wp2
        go_ret2
        exact ⟨by first | rfl | (simp [errW_none, errW_some] <;> rfl) | (simp [*, errW_none, errW_some] <;> rfl), by repeat (first | (with_reducible first | exact HB.out | apply below_alloc | apply pw_below_drewN | apply below_drew1) | exact HB.out)⟩
       ·rw [if_neg c7] at H
        have c7b0 : decide (x4_1 < 0) = false := decide_eq_false c7
        clear c7
        have c8b0 := eq_true (of_decide_eq_true (by first | (with_reducible assumption) | assumption) : 0 ≤ x4_1)
        by_cases c9 : x4_1 ≤ (a0.size : Int)
        ·rw [if_pos c9] at H
         have c9b0 := eq_true c9
         have c9b1 : decide (x4_1 ≤ (a0.size : Int)) = true := decide_eq_true c9
         clear c9
         obtain ⟨y168, hy168⟩ : ∃ y_ : List Int, y_ = (([((bt a0 x4_1) + 1) % 256] : List Int)) := ⟨_, rfl⟩
         replace H : (if (a0.extract 0 (x4_1 : Int).toNat).size + (strOfNums y168).size ≤ 9223372036854775807 then (some ((a0.extract 0 (x4_1 : Int).toNat) ++ (strOfNums y168), true)) else (none)) = some (r1, r2) := by first | (rw [hy168]; with_reducible exact H) | (have H2_ := (Option.bind_some _ _).symm.trans H; rw [hy168]; with_reducible exact H2_) | (have H2_ := (Option.bind_some _ _).symm.trans H; with_reducible exact H2_) | with_reducible exact H | (rw [hy168]; exact H) | exact H
         have Ny168 := Aside0.mk hy168
         clear hy168
         by_cases c11 : (a0.extract 0 (x4_1 : Int).toNat).size + (strOfNums y168).size ≤ 9223372036854775807
         ·rw [if_pos c11] at H
          have c11b0 := eq_true c11
          have c11b1 : decide ((a0.extract 0 (x4_1 : Int).toNat).size + (strOfNums y168).size ≤ 9223372036854775807) = true := decide_eq_true c11
          try have c11b2 : (9223372036854775807 < (a0.extract 0 (x4_1 : Int).toNat).size + (strOfNums y168).size) = False := eq_false (Nat.not_lt.2 c11)
          try have c11b3 : (9223372036854775807 < x4_1.toNat + (strOfNums y168).size) = False := eq_false (by have z := c11; simp only [eq_iff_iff, iff_true, iff_false, Nat.not_lt] at *; simp only [ByteArray.size_append, ByteArray.size_extract] at z; omega)
          simp only [Option.some.injEq, Prod.mk.injEq] at H
          obtain ⟨rfl, rfl⟩ := H
          have p5 : 0 ≤ (x4_1 : Int) := of_decide_eq_true (by first | (with_reducible assumption) | assumption)
          have q5 : x4_1 < (a0.size : Int) := of_decide_eq_true (by first | (with_reducible assumption) | assumption)
          have hx5 := bt_at a0 x4_1
          replace p5 := eq_true p5
          replace q5 := eq_true q5
          try go_wp2
          have n0_ := Aside0.mk (below_drew1 HB.out)
          clear HB
          have HB := n0_
          clear n0_
          have p10 : 0 ≤ (x4_1 : Int) := of_decide_eq_true (by first | (with_reducible assumption) | assumption)
          have q10 : x4_1 < (a0.size : Int) := of_decide_eq_true (by first | (with_reducible assumption) | assumption)
          have hx10 := bt_at a0 x4_1
          replace p10 := eq_true p10
          replace q10 := eq_true q10
          refine start_ (n := 12) (S := fun w' => True) (ds := []) #[false, false, false, false, false, false, false, false, false, false, false, false] (by kernel_rfl) rfl rfl trivial (fun hHeld => ?_); refine with_tabW key_Behind.tab6 key_Behind.bits6 (fun HT_ HW_ => ?_)
          generalize wr.drew = w12 at HB hHeld ⊢
          refine pure_ (i := 0) (N := some 20) (v := ?_) (a' := ?_) #[true, false, false, false, false, false, false, false, false, false, false, false] rfl rfl (any_of HT_.out (by kernel_rfl)) (fun _ _ _ h => h) (Or.inl ⟨by rfl, ?_⟩) ?_ ?_
          rotate_left
          ·intro w'
           go_simp
           with_reducible rfl
          rotate_left
          ·simp only [Act.put, List.setIfInBounds_toArray, List.set_cons_zero, List.set_cons_succ, i64_w, i32_w]
           rfl
          refine pure_ (i := 1) (N := some 21) (v := ?_) (a' := ?_) #[true, true, false, false, false, false, false, false, false, false, false, false] rfl rfl (any_of HT_.out (by kernel_rfl)) (fun _ _ _ h => h) (Or.inl ⟨by rfl, ?_⟩) ?_ ?_
          rotate_left
          ·intro w'
           go_simp
           with_reducible rfl
          rotate_left
          ·simp only [Act.put, List.setIfInBounds_toArray, List.set_cons_zero, List.set_cons_succ, i64_w, i32_w]
           rfl
          refine pure_ (i := 2) (N := some 22) (v := ?_) (a' := ?_) #[true, true, true, false, false, false, false, false, false, false, false, false] rfl rfl (any_of HT_.out (by kernel_rfl)) (fun _ _ _ h => h) (Or.inl ⟨by rfl, ?_⟩) ?_ ?_
          rotate_left
          ·intro w'
           go_simp
           with_reducible rfl
          rotate_left
          ·simp only [Act.put, List.setIfInBounds_toArray, List.set_cons_zero, List.set_cons_succ, i64_w, i32_w]
           rfl
          refine pure_ (i := 3) (N := some 23) (v := ?_) (a' := ?_) #[true, true, true, true, false, false, false, false, false, false, false, false] rfl rfl (any_of HT_.out (by kernel_rfl)) (fun _ _ _ h => h) (Or.inl ⟨by rfl, ?_⟩) ?_ ?_
          rotate_left
          ·intro w'
           go_simp
           with_reducible rfl
          rotate_left
          ·simp only [Act.put, List.setIfInBounds_toArray, List.set_cons_zero, List.set_cons_succ, i64_w, i32_w]
           rfl
          refine pure_ (i := 4) (N := some 24) (v := ?_) (a' := ?_) #[true, true, true, true, true, false, false, false, false, false, false, false] rfl rfl (any_of HT_.out (by kernel_rfl)) (fun _ _ _ h => h) (Or.inl ⟨by rfl, ?_⟩) ?_ ?_
          rotate_left
          ·intro w'
           go_simp
           with_reducible rfl
          rotate_left
          ·simp only [Act.put, List.setIfInBounds_toArray, List.set_cons_zero, List.set_cons_succ, i64_w, i32_w]
           rfl
          refine take_ (i := 5) (N := some 25) (v := ?_) (a' := ?_) #[true, true, true, true, true, true, false, false, false, false, false, false] rfl rfl (take_ofW HT_.out HW_.out (by kernel_rfl)) (fun _ _ _ h => h) (Or.inl ⟨by rfl, ?_⟩) hHeld ?_ ?_
          rotate_left
          ·intro w' _
           go_simp
           with_reducible rfl
          rotate_left
          ·simp only [Act.put, List.setIfInBounds_toArray, List.set_cons_zero, List.set_cons_succ, i64_w, i32_w]
           rfl
          refine pure_ (i := 6) (N := some 26) (v := ?_) (a' := ?_) #[true, true, true, true, true, true, true, false, false, false, false, false] rfl rfl (any_of HT_.out (by kernel_rfl)) (fun _ _ _ h => h) (Or.inl ⟨by rfl, ?_⟩) ?_ ?_
          rotate_left
          ·intro w'
           go_simp
           with_reducible rfl
          rotate_left
          ·simp only [Act.put, List.setIfInBounds_toArray, List.set_cons_zero, List.set_cons_succ, i64_w, i32_w]
           rfl
          refine one_ (i := 7) (N := some 27) #[true, true, true, true, true, true, true, true, false, false, false, false] rfl rfl (one_of HT_.out (by kernel_rfl)) (by decide) (fun K hK => ?_)
          refine Kd.R_lit_step (Kd.int .u8) _ 5 ?hg (N := 27) ?hd (xs := ([((bt a0 x4_1) + 1) % 256] : List Int)) (inner := [.int .u8 (((bt a0 x4_1) + 1) % 256)]) (ok := fun _ => True) (okp := fun _ => True) ?hr ?hp (fun _ hk => hk) trivial (Below.refl _ _) (Nat.le_refl _) (by simp) ?_; (case hd => rfl); (case hg => rfl); (case hr => first | (go_simp; done) | (go_simp; rfl)); (case hp => exact (Reps.one (show Kd.M (Kd.int .u8) _ _ _ (((bt a0 x4_1) + 1) % 256) [.int .u8 (((bt a0 x4_1) + 1) % 256)] from rfl) (Reps.none _ _)))
          intro v169 w13 ho14 hb hg_ hnew_
          clear hg_ hnew_
          (first | rw [← Ny168.out] at ho14 | (simp only [Int.reduceToNat] at ho14; rw [← Ny168.out] at ho14))
          have n0_ := Aside0.mk (Kd.R_lower ho14 (below_size (by repeat (first | (with_reducible first | exact HB.out | apply below_alloc | apply pw_below_drewN | apply below_drew1) | exact HB.out))))
          have n1_ := Aside0.mk (below_step (by repeat (first | (with_reducible first | exact HB.out | apply below_alloc | apply pw_below_drewN | apply below_drew1) | exact HB.out)) hb)
          clear HB
          have HO170 := n0_
          have HB := n1_
          clear n0_ n1_
          clear hb ho14
          refine hK.out _ _ trivial (fun hHeld => ?_)
          clear hK K
          refine norm_ (a' := ?_) ?_ ?_
          rotate_left
          ·show Act.put _ (some 27) _ = _
           simp only [Act.put, List.setIfInBounds_toArray, List.set_cons_zero, List.set_cons_succ, i64_w, i32_w]
           rfl
          refine one_ (i := 8) (N := some 28) #[true, true, true, true, true, true, true, true, true, false, false, false] rfl rfl (one_of HT_.out (by kernel_rfl)) (by decide) (fun K hK => ?_)
          have hcv15 := own_string (P := Tryd.prog) Tryd.underlying62 Tryd.underlying5 Tryd.underlying9 (Kd.own_of_R HO170.out)
          refine value_ (w1 := ?_) (v := ?_) (by rfl) rfl ?_ ?_
          rotate_left 2
          ·go_simp
           constructor
           ·rfl
           ·rfl
          clear hcv15
          refine hK.out _ _ trivial (fun hHeld => ?_)
          clear hK K
          refine norm_ (a' := ?_) ?_ ?_
          rotate_left
          ·show Act.put _ (some 28) _ = _
           simp only [Act.put, List.setIfInBounds_toArray, List.set_cons_zero, List.set_cons_succ, i64_w, i32_w]
           rfl
          refine pure_ (i := 9) (N := some 29) (v := ?_) (a' := ?_) #[true, true, true, true, true, true, true, true, true, true, false, false] rfl rfl (any_of HT_.out (by kernel_rfl)) (fun _ _ _ h => h) (Or.inl ⟨by rfl, ?_⟩) ?_ ?_
          rotate_left
          ·intro w'
           go_simp
           with_reducible rfl
          rotate_left
          ·simp only [Act.put, List.setIfInBounds_toArray, List.set_cons_zero, List.set_cons_succ, i64_w, i32_w]
           rfl
          refine pure_ (i := 10) (N := some 2) (v := ?_) (a' := ?_) #[true, true, true, true, true, true, true, true, true, true, true, false] rfl rfl (any_of HT_.out (by kernel_rfl)) (fun _ _ _ h => h) (Or.inl ⟨by rfl, ?_⟩) ?_ ?_
          rotate_left
          ·intro w'
           go_simp
           with_reducible rfl
          rotate_left
          ·simp only [Act.put, List.setIfInBounds_toArray, List.set_cons_zero, List.set_cons_succ, i64_w, i32_w]
           rfl
          refine pure_ (i := 11) (N := some 3) (v := ?_) (a' := ?_) #[true, true, true, true, true, true, true, true, true, true, true, true] rfl rfl (any_of HT_.out (by kernel_rfl)) (fun _ _ _ h => h) (Or.inl ⟨by rfl, ?_⟩) ?_ ?_
          rotate_left
          ·intro w'
           go_simp
           with_reducible rfl
          rotate_left
          ·simp only [Act.put, List.setIfInBounds_toArray, List.set_cons_zero, List.set_cons_succ, i64_w, i32_w]
           rfl
          refine done_ (done_of HT_.out (by kernel_rfl)) ?_
          try go_wp2
          go_ret2
          exact ⟨by first | rfl | (simp [errW_none, errW_some] <;> rfl) | (simp [*, errW_none, errW_some] <;> rfl), by repeat (first | (with_reducible first | exact HB.out | apply below_alloc | apply pw_below_drewN | apply below_drew1) | exact HB.out)⟩
         ·rw [if_neg c11] at H
          exact absurd H (by simp)
        ·rw [if_neg c9] at H
         exact absurd H (by simp)
     ·rw [if_neg c4] at H
      exact absurd H (by simp)
    ·rw [if_neg c3] at H
     exact absurd H (by simp)
   ·rw [if_neg c2] at H
    have c2b0 : decide (0 ≤ x4_1) = false := decide_eq_false c2
    clear c2
    by_cases c16 : x4_1 < 0
    ·rw [if_pos c16] at H
     have c16b0 : decide (x4_1 < 0) = true := decide_eq_true c16
     clear c16
     simp only [Option.some.injEq, Prod.mk.injEq] at H
     obtain ⟨rfl, rfl⟩ := H
     go_wp2
     go_ret2
     exact ⟨by first | rfl | (simp [errW_none, errW_some] <;> rfl) | (simp [*, errW_none, errW_some] <;> rfl), by repeat (first | (with_reducible first | exact HB.out | apply below_alloc | apply pw_below_drewN | apply below_drew1) | exact HB.out)⟩
    ·rw [if_neg c16] at H
     have c16b0 : decide (x4_1 < 0) = false := decide_eq_false c16
     exact absurd (Int.not_lt.1 (of_decide_eq_false c16b0)) (of_decide_eq_false c2b0)
end Go.Proofs.YtnkejhfbkgfedaaDoor.PA
namespace Go.Proofs.YtnkejhfbkgfedaaDoor.PB
open Go.RowKit Go.Proofs.YtnkejhfbkgfedaaDoorW.PrintWords Go.Proofs.YtnkejhfbkgfedaaDoorW.PrintLast Go.Proofs.YtnkejhfbkgfedaaDoorW.PrintMore Go.Proofs.YtnkejhfbkgfedaaDoor.PA Go.Proofs.YtnkejhfbkgfedaaDoor.H1
attribute [local go_sem] max2_int min2_int max_two min_two max_three min_three max_four min_four   -- for this text's walks alone
set_option linter.unusedVariables false
set_option linter.unusedSimpArgs false
def cabinetrylaw09_known.f (k : Nat)  : Option (Bool) := (cabinetryref01_Text.f (⟨#[97]⟩ : ByteArray)).bind fun bt106 => ((key_Encode.f k bt106.1 bt106.2.1 bt106.2.2 0 0 false).bind fun bt109 => ((key_Behind.f k (⟨#[4, 255]⟩ : ByteArray)).bind fun bt111 => ((key_Short.f k (⟨#[97, 98, 99]⟩ : ByteArray) (⟨#[97, 98, 120]⟩ : ByteArray)).bind fun bt113 => (if bt109.2 = 0 then (if bt109.1.toList = ([4, 97, 0, 0] : List UInt8) then (if bt111.2 = true then (if bt111.1.toList = ([5] : List UInt8) then (if bt113.2 = 0 then (some (bt113.1.toList == ([97, 98, 100] : List UInt8))) else (some false)) else (some false)) else (some false)) else (some false)) else (some false)))))
theorem cabinetrylaw09_known.mono : ∀ k, LeO (cabinetrylaw09_known.f k ) (cabinetrylaw09_known.f (k + 1) ) := by
 intro  k
 unfold cabinetrylaw09_known.f
 repeat' first
   | (with_reducible exact key_Behind.mono _ _)
   | (with_reducible exact key_Encode.mono _ _ _ _ _ _ _)
   | (with_reducible exact key_Short.mono _ _ _)
   | (with_reducible exact LeO.refl _)
   | (with_reducible exact LeO.none _)
   | (with_reducible refine LeO.ite ?_ ?_)
   | (with_reducible refine LeO.bind ?_ (fun _ => ?_))
   | exact key_Behind.mono _ _
   | exact key_Encode.mono _ _ _ _ _ _ _
   | exact key_Short.mono _ _ _
   | exact LeO.none _
   | refine LeO.ite ?_ ?_
   | refine LeO.bind ?_ (fun _ => ?_)
set_option maxHeartbeats 8000000 in
set_option maxRecDepth 100000 in
theorem cabinetrylaw09_known.calls (k : Nat)  (r : Bool) (w : World) (h : cabinetrylaw09_known.f k  = some r) (hr_ : Aside0 (r = true)) (hm_ : Aside0 (Hm.HM w)) :
  Calls Tryd.prog 15 #[] w fun e w' => e = .returned (.bool r) ∧ Below w.heap.size w w' := by
 have HB := Aside0.mk (Below.refl w.heap.size w)
 have H : ((cabinetryref01_Text.f (⟨#[97]⟩ : ByteArray)).bind fun bt106 => ((key_Encode.f k bt106.1 bt106.2.1 bt106.2.2 0 0 false).bind fun bt109 => ((key_Behind.f k (⟨#[4, 255]⟩ : ByteArray)).bind fun bt111 => ((key_Short.f k (⟨#[97, 98, 99]⟩ : ByteArray) (⟨#[97, 98, 120]⟩ : ByteArray)).bind fun bt113 => (if bt109.2 = 0 then (if bt109.1.toList = ([4, 97, 0, 0] : List UInt8) then (if bt111.2 = true then (if bt111.1.toList = ([5] : List UInt8) then (if bt113.2 = 0 then (some (bt113.1.toList == ([97, 98, 100] : List UInt8))) else (some false)) else (some false)) else (some false)) else (some false)) else (some false)))))) = some r := h
 clear h
 replace H := Option.bind_eq_some_iff.mp H
 obtain ⟨⟨t106, t107, t108⟩, A10, H⟩ := H
 replace H : ((key_Encode.f k t106 t107 t108 0 0 false).bind fun bt109 => ((key_Behind.f k (⟨#[4, 255]⟩ : ByteArray)).bind fun bt111 => ((key_Short.f k (⟨#[97, 98, 99]⟩ : ByteArray) (⟨#[97, 98, 120]⟩ : ByteArray)).bind fun bt113 => (if bt109.2 = 0 then (if bt109.1.toList = ([4, 97, 0, 0] : List UInt8) then (if bt111.2 = true then (if bt111.1.toList = ([5] : List UInt8) then (if bt113.2 = 0 then (some (bt113.1.toList == ([97, 98, 100] : List UInt8))) else (some false)) else (some false)) else (some false)) else (some false)) else (some false))))) = some r := H
 have A1 := Aside0.mk A10
 clear A10
 replace H := Option.bind_eq_some_iff.mp H
 obtain ⟨⟨t109, t110⟩, A20, H⟩ := H
 replace H : ((key_Behind.f k (⟨#[4, 255]⟩ : ByteArray)).bind fun bt111 => ((key_Short.f k (⟨#[97, 98, 99]⟩ : ByteArray) (⟨#[97, 98, 120]⟩ : ByteArray)).bind fun bt113 => (if t110 = 0 then (if t109.toList = ([4, 97, 0, 0] : List UInt8) then (if bt111.2 = true then (if bt111.1.toList = ([5] : List UInt8) then (if bt113.2 = 0 then (some (bt113.1.toList == ([97, 98, 100] : List UInt8))) else (some false)) else (some false)) else (some false)) else (some false)) else (some false)))) = some r := H
 have A2 := Aside0.mk A20
 clear A20
 replace H := Option.bind_eq_some_iff.mp H
 obtain ⟨⟨t111, t112⟩, A30, H⟩ := H
 replace H : ((key_Short.f k (⟨#[97, 98, 99]⟩ : ByteArray) (⟨#[97, 98, 120]⟩ : ByteArray)).bind fun bt113 => (if t110 = 0 then (if t109.toList = ([4, 97, 0, 0] : List UInt8) then (if t112 = true then (if t111.toList = ([5] : List UInt8) then (if bt113.2 = 0 then (some (bt113.1.toList == ([97, 98, 100] : List UInt8))) else (some false)) else (some false)) else (some false)) else (some false)) else (some false))) = some r := H
 have A3 := Aside0.mk A30
 clear A30
 replace H := Option.bind_eq_some_iff.mp H
 obtain ⟨⟨t113, t114⟩, A40, H⟩ := H
 replace H : (if t110 = 0 then (if t109.toList = ([4, 97, 0, 0] : List UInt8) then (if t112 = true then (if t111.toList = ([5] : List UInt8) then (if t114 = 0 then (some (t113.toList == ([97, 98, 100] : List UInt8))) else (some false)) else (some false)) else (some false)) else (some false)) else (some false)) = some r := H
 have A4 := Aside0.mk A40
 clear A40
 by_cases c5 : t110 = 0
 ·rw [if_pos c5] at H
  have c5b0 : (t110 == 0) = true := beq_iff_eq.mpr c5
  have c5b1 : (t110 != 0) = false := bne_eq_false_iff_eq.mpr c5
  clear c5
  by_cases c6 : t109.toList = ([4, 97, 0, 0] : List UInt8)
  ·rw [if_pos c6] at H
   have c6b0 : (t109.toList == ([4, 97, 0, 0] : List UInt8)) = true := beq_iff_eq.mpr c6
   have c6b1 : (t109.toList != ([4, 97, 0, 0] : List UInt8)) = false := bne_eq_false_iff_eq.mpr c6
   clear c6
   by_cases c7 : t112 = true
   ·subst c7
    have H1 : (if t111.toList = ([5] : List UInt8) then (if t114 = 0 then (some (t113.toList == ([97, 98, 100] : List UInt8))) else (some false)) else (some false)) = some r := by rw [if_pos rfl] at H; exact H
    clear H
    have H := H1
    clear H1
    by_cases c8 : t111.toList = ([5] : List UInt8)
    ·rw [if_pos c8] at H
     have c8b0 : (t111.toList == ([5] : List UInt8)) = true := beq_iff_eq.mpr c8
     have c8b1 : (t111.toList != ([5] : List UInt8)) = false := bne_eq_false_iff_eq.mpr c8
     clear c8
     by_cases c9 : t114 = 0
     ·rw [if_pos c9] at H
      have c9b0 : (t114 == 0) = true := beq_iff_eq.mpr c9
      have c9b1 : (t114 != 0) = false := bne_eq_false_iff_eq.mpr c9
      clear c9
      obtain rfl := Option.some.inj H
      simp only [Option.some.injEq, Prod.mk.injEq] at H
      obtain ⟨rfl⟩ := H
      go_enter Tryd.func15, Tryd.ntmps15
      go_wp2_with (first | ((with_reducible refine gate_callee (f := 38) rfl ?_); refine goesL_ (some 8) rfl rfl Tryd.func38 (by kernel_rfl) rfl #[.string (⟨#[97]⟩ : ByteArray)] rfl (by (try simp only [List.map_toArray, List.map_cons, List.map_nil]); first | done | rfl | (simp only [List.length_drop, List.length_take]; rfl)) ?_; (with_reducible refine (cabinetryref01_Text.calls (⟨#[97]⟩ : ByteArray) t106 t107 t108 _ A1.out).mono ?_); rintro e w10 ⟨rfl, hb⟩; refine ⟨_, rfl, ?_⟩; have n0_ := Aside0.mk (below_step (by repeat (first | (with_reducible first | exact HB.out | apply below_alloc | apply pw_below_drewN | apply below_drew1) | exact HB.out)) hb); clear HB; have HB := n0_; clear n0_; (try clear hb); (try clear hb2); (try clear hk); (try clear hi)) | ((with_reducible refine gate_callee (f := 16) rfl ?_); refine goesL_ (some 9) rfl rfl Tryd.func16 (by kernel_rfl) rfl #[.agg #[.int .i64 t106, .int .i64 t107, .string t108], .int .i64 0, .int .i64 0, .bool false] rfl (by (try simp only [List.map_toArray, List.map_cons, List.map_nil]); first | done | rfl | (simp only [List.length_drop, List.length_take]; rfl)) ?_; (with_reducible refine (key_Encode.calls k t106 t107 t108 0 0 false t109 t110 _ A2.out (Hm.keep hm_ (by repeat (first | (with_reducible first | exact HB.out | apply below_alloc | apply pw_below_drewN | apply below_drew1) | exact HB.out)))).mono ?_); rintro e w11 ⟨rfl, hb⟩; refine ⟨_, rfl, ?_⟩; have n0_ := Aside0.mk (below_step (by repeat (first | (with_reducible first | exact HB.out | apply below_alloc | apply pw_below_drewN | apply below_drew1) | exact HB.out)) hb); clear HB; have HB := n0_; clear n0_; (try clear hb); (try clear hb2); (try clear hk); (try clear hi)) | ((with_reducible refine gate_callee (f := 34) rfl ?_); refine goesL_ (some 13) rfl rfl Tryd.func34 (by kernel_rfl) rfl #[.string (⟨#[4, 255]⟩ : ByteArray)] rfl (by (try simp only [List.map_toArray, List.map_cons, List.map_nil]); first | done | rfl | (simp only [List.length_drop, List.length_take]; rfl)) ?_; (with_reducible refine (key_Behind.calls k (⟨#[4, 255]⟩ : ByteArray) t111 true _ A3.out).mono ?_); rintro e w12 ⟨rfl, hb⟩; refine ⟨_, rfl, ?_⟩; have n0_ := Aside0.mk (below_step (by repeat (first | (with_reducible first | exact HB.out | apply below_alloc | apply pw_below_drewN | apply below_drew1) | exact HB.out)) hb); clear HB; have HB := n0_; clear n0_; (try clear hb); (try clear hb2); (try clear hk); (try clear hi)) | ((with_reducible refine gate_callee (f := 30) rfl ?_); refine goesL_ (some 17) rfl rfl Tryd.func30 (by kernel_rfl) rfl #[.string (⟨#[97, 98, 99]⟩ : ByteArray), .string (⟨#[97, 98, 120]⟩ : ByteArray)] rfl (by (try simp only [List.map_toArray, List.map_cons, List.map_nil]); first | done | rfl | (simp only [List.length_drop, List.length_take]; rfl)) ?_; (with_reducible refine (key_Short.calls k (⟨#[97, 98, 99]⟩ : ByteArray) (⟨#[97, 98, 120]⟩ : ByteArray) t113 t114 _ A4.out).mono ?_); rintro e w13 ⟨rfl, hb⟩; refine ⟨_, rfl, ?_⟩; have n0_ := Aside0.mk (below_step (by repeat (first | (with_reducible first | exact HB.out | apply below_alloc | apply pw_below_drewN | apply below_drew1) | exact HB.out)) hb); clear HB; have HB := n0_; clear n0_; (try clear hb); (try clear hb2); (try clear hk); (try clear hi)))
      go_ret
      exact ⟨by first | rfl | (simp [errW_none, errW_some] <;> rfl) | (simp [*, errW_none, errW_some] <;> rfl), by repeat (first | (with_reducible first | exact HB.out | apply below_alloc | apply pw_below_drewN | apply below_drew1) | exact HB.out)⟩
     ·rw [if_neg c9] at H
      have c9b0 : (t114 == 0) = false := beq_eq_false_iff_ne.mpr c9
      have c9b1 : (t114 != 0) = true := bne_iff_ne.mpr c9
      obtain rfl := Option.some.inj H
      exact absurd hr_.out (by decide)
    ·rw [if_neg c8] at H
     have c8b0 : (t111.toList == ([5] : List UInt8)) = false := beq_eq_false_iff_ne.mpr c8
     have c8b1 : (t111.toList != ([5] : List UInt8)) = true := bne_iff_ne.mpr c8
     obtain rfl := Option.some.inj H
     exact absurd hr_.out (by decide)
   ·replace c7 := Bool.eq_false_iff.mpr c7
    subst c7
    have H1 : (some false) = some r := by rw [if_neg (show ¬ (false = true) by decide)] at H; exact H
    clear H
    have H := H1
    clear H1
    obtain rfl := Option.some.inj H
    exact absurd hr_.out (by decide)
  ·rw [if_neg c6] at H
   have c6b0 : (t109.toList == ([4, 97, 0, 0] : List UInt8)) = false := beq_eq_false_iff_ne.mpr c6
   have c6b1 : (t109.toList != ([4, 97, 0, 0] : List UInt8)) = true := bne_iff_ne.mpr c6
   obtain rfl := Option.some.inj H
   exact absurd hr_.out (by decide)
 ·rw [if_neg c5] at H
  have c5b0 : (t110 == 0) = false := beq_eq_false_iff_ne.mpr c5
  have c5b1 : (t110 != 0) = true := bne_iff_ne.mpr c5
  obtain rfl := Option.some.inj H
  exact absurd hr_.out (by decide)
end Go.Proofs.YtnkejhfbkgfedaaDoor.PB
namespace Go.Proofs.YtnkejhfbkgfedaaDoor.L1
open Go.RowKit Go.Proofs.YtnkejhfbkgfedaaDoorW.PrintWords Go.Proofs.YtnkejhfbkgfedaaDoor.PA Go.Proofs.YtnkejhfbkgfedaaDoor.H1 Go.Proofs.YtnkejhfbkgfedaaDoor.PB
set_option linter.unusedVariables false
set_option linter.unusedSimpArgs false
theorem valid_cases {a n : Int} {s : ByteArray} (h : validV a n s = 0) : s.size ≤ 2048 ∧ ((a = 4 ∧ n = 0) ∨ (s.toList = [] ∧ ((a = 0 ∧ n = 0) ∨ (a = 1 ∧ (n = 0 ∨ n = 1)) ∨ (a = 2 ∧ -1000000000000000 ≤ n ∧ n ≤ 1000000000000000) ∨ (a = 3 ∧ 0 ≤ n ∧ n ≤ 3652059)))) := by
  unfold validV at h
  by_cases h1 : (s.size : Int) > 2048
  · rw [if_pos h1] at h; exact absurd h (by decide)
  · rw [if_neg h1] at h
    split at h
    · rename_i h2
      refine ⟨by omega, ?_⟩
      rcases h2 with h2 | h2
      · exact Or.inl h2
      · exact Or.inr h2.2
    · exact absurd h (by decide)
def askedV (p c : Int) : Int := if p < 0 ∨ p > 2 ∨ c < 0 ∨ c > 1 then 1 else 0
theorem askedV_ok (p c : Int) : askedV p c = 0 ↔ pageOk p c := by
  unfold askedV pageOk
  split
  · constructor
    · intro h; exact absurd h (by decide)
    · intro h; omega
  · constructor
    · intro _; omega
    · intro _; rfl
theorem keyAskedV (k : Nat) (hk : 1 ≤ k) (a n : Int) (s : ByteArray) (p c : Int) : key_asked.f k a n s p c = some (if validV a n s = 0 then askedV p c else validV a n s) := by
  obtain ⟨k, rfl⟩ : ∃ m, k = m + 1 := ⟨k - 1, by omega⟩
  unfold key_asked.f
  rw [validate_f]
  simp only [Option.bind_some]
  by_cases h : validV a n s = 0
  · rw [if_pos h, if_pos h]
    unfold askedV
    by_cases h1 : p < 0
    · simp [h1]
    · by_cases h2 : p > 2
      · simp [h1, h2]
      · by_cases h3 : c < 0
        · simp [h1, h2, h3]
        · by_cases h4 : c > 1
          · simp [h1, h2, h3, h4]
          · simp [h1, h2, h3, h4]
  · rw [if_neg h, if_neg h]
def keyB (a n : Int) (s : List UInt8) (p c : Int) : List UInt8 := UInt8.ofNat a.toNat :: (if a = 1 then be 1 n.toNat else if a = 2 then be 8 (n + 1000000000000000).toNat else if a = 3 then be 4 n.toNat else if a = 4 then keyW p c s ++ [0, 0] else [])
theorem keyB_len (a n : Int) (s : List UInt8) (p c : Int) : (keyB a n s p c).length ≤ 99 := by
  have := keyW_len p c s
  unfold keyB
  simp only [List.length_cons]
  split
  · rw [be_len]; omega
  · split
    · rw [be_len]; omega
    · split
      · rw [be_len]; omega
      · split
        · simp only [List.length_append, List.length_cons, List.length_nil]; omega
        · simp
theorem kind_str {a : Int} (h0 : 0 ≤ a) (h1 : a ≤ 4) : strOfNums [a % 256] = ⟨#[UInt8.ofNat a.toNat]⟩ := by
  have : a % 256 = a := by omega
  rw [this]
  rfl
theorem app_ba (x : UInt8) (l : List UInt8) : (⟨#[x]⟩ : ByteArray) ++ ⟨l.toArray⟩ = ⟨(x :: l).toArray⟩ := ba_ext (by rw [ba_app]; simp)
theorem app_ba2 (l m : List UInt8) : (⟨l.toArray⟩ : ByteArray) ++ ⟨m.toArray⟩ = ⟨(l ++ m).toArray⟩ := ba_ext (by rw [ba_app])
theorem sz1 (x : UInt8) : (⟨#[x]⟩ : ByteArray).size = 1 := rfl
theorem key_plain_f (k : Nat) (hk : 100 ≤ k) {a n : Int} {s : ByteArray} (hv : validV a n s = 0) (p c : Int) (h : pageOk p c) : key_plain.f k a n s p c = some ⟨(keyB a n s.data.toList p c).toArray⟩ := by
  obtain ⟨hs, hc⟩ := valid_cases hv
  unfold key_plain.f
  simp only [Option.bind_some]
  rcases hc with ⟨rfl, rfl⟩ | ⟨h0, ⟨rfl, rfl⟩ | ⟨rfl, hn⟩ | ⟨rfl, h1, h2⟩ | ⟨rfl, h1, h2⟩⟩
  · rw [if_neg (by decide), if_neg (by decide), if_neg (by decide), if_pos rfl, key_weights_f k s p c h (by omega) (by omega), kind_str (by decide) (by decide)]
    simp only [Option.bind_some]
    have hl := keyW_len p c s.data.toList
    rw [show (⟨#[0, 0]⟩ : ByteArray) = ⟨([0, 0] : List UInt8).toArray⟩ from rfl, app_ba2]
    rw [if_pos (by rw [ba_size]; omega), if_pos (by rw [sz1, ba_size]; simp only [List.length_append, List.length_cons, List.length_nil]; omega), app_ba]
    rfl
  · rw [if_neg (by decide), if_neg (by decide), if_neg (by decide), if_neg (by decide), kind_str (by decide) (by decide)]
    rfl
  · rw [if_pos rfl, show n = ((n.toNat : Nat) : Int) by omega, show (1 : Int) = ((1 : Nat) : Int) from rfl, key_high_f k n.toNat 1 (by omega) (by omega), kind_str (by decide) (by decide)]
    simp only [Option.bind_some]
    rw [if_pos (by rw [sz1, ba_size, be_len]; omega), app_ba]
    simp [keyB]
    rw [show max n 0 = n by omega]
  · rw [if_neg (by decide), if_pos rfl, w64 (by omega) (by omega), show n + 1000000000000000 = (((n + 1000000000000000).toNat : Nat) : Int) by omega, show (8 : Int) = ((8 : Nat) : Int) from rfl, key_high_f k _ 8 (by omega) (by omega), kind_str (by decide) (by decide)]
    simp only [Option.bind_some]
    rw [if_pos (by rw [sz1, ba_size, be_len]; omega), app_ba]
    simp [keyB]
  · rw [if_neg (by decide), if_neg (by decide), if_pos rfl, show n = ((n.toNat : Nat) : Int) by omega, show (4 : Int) = ((4 : Nat) : Int) from rfl, key_high_f k n.toNat 4 (by omega) (by omega), kind_str (by decide) (by decide)]
    simp only [Option.bind_some]
    rw [if_pos (by rw [sz1, ba_size, be_len]; omega), app_ba]
    simp [keyB]
    rw [show max n 0 = n by omega]
theorem refKeyOf_f (k : Nat) (hk : 120 ≤ k) {a n : Int} {s : ByteArray} (hv : validV a n s = 0) (p c : Int) (h : pageOk p c) (d : Bool) : cabinetryref09_KeyOf.f k a n s p c d = some ⟨(negL d (keyB a n s.data.toList p c)).toArray⟩ := by
  obtain ⟨hs, hc⟩ := valid_cases hv
  have hlen := keyB_len a n s.data.toList p c
  have fin : ∀ l : List UInt8, l.length ≤ 99 → (cabinetryref09_turned.f k (⟨l.toArray⟩ : ByteArray) d) = some ⟨(negL d l).toArray⟩ := by
    intro l hl
    rw [refTurned_f k d _ (by rw [ba_size]; omega) (by rw [ba_size]; omega), ba_mk]
  unfold cabinetryref09_KeyOf.f
  simp only [Option.bind_some]
  rcases hc with ⟨rfl, rfl⟩ | ⟨h0, ⟨rfl, rfl⟩ | ⟨rfl, hn⟩ | ⟨rfl, h1, h2⟩ | ⟨rfl, h1, h2⟩⟩
  · rw [if_neg (by decide), if_neg (by decide), if_neg (by decide), if_pos rfl, weighed_f k s p c h (by omega), kind_str (by decide) (by decide)]
    simp only [Option.bind_some]
    have hl := keyW_len p c s.data.toList
    rw [show (⟨#[0, 0]⟩ : ByteArray) = ⟨([0, 0] : List UInt8).toArray⟩ from rfl, app_ba2]
    rw [if_pos (by rw [ba_size]; omega), if_pos (by rw [sz1, ba_size]; simp only [List.length_append, List.length_cons, List.length_nil]; omega), app_ba, fin _ (by simp only [List.length_append, List.length_cons, List.length_nil]; omega)]
    rfl
  · rw [if_neg (by decide), if_neg (by decide), if_neg (by decide), if_neg (by decide), kind_str (by decide) (by decide), show (⟨#[UInt8.ofNat (0 : Int).toNat]⟩ : ByteArray) = ⟨([UInt8.ofNat (0 : Int).toNat] : List UInt8).toArray⟩ from rfl, fin _ (by simp)]
    rfl
  · rw [if_pos rfl, show n = ((n.toNat : Nat) : Int) by omega, show (1 : Int) = ((1 : Nat) : Int) from rfl, refHigh_f k n.toNat 1 (by omega) (by omega) (by omega), kind_str (by decide) (by decide)]
    simp only [Option.bind_some]
    rw [if_pos (by rw [sz1, ba_size, be_len]; omega), app_ba, fin _ (by simp only [List.length_cons, be_len]; omega)]
    simp [keyB]
    rw [show max n 0 = n by omega]
  · rw [if_neg (by decide), if_pos rfl, w64 (by omega) (by omega), show n + 1000000000000000 = (((n + 1000000000000000).toNat : Nat) : Int) by omega, show (8 : Int) = ((8 : Nat) : Int) from rfl, refHigh_f k _ 8 (by omega) (by omega) (by omega), kind_str (by decide) (by decide)]
    simp only [Option.bind_some]
    rw [if_pos (by rw [sz1, ba_size, be_len]; omega), app_ba, fin _ (by simp only [List.length_cons, be_len]; omega)]
    simp [keyB]
  · rw [if_neg (by decide), if_neg (by decide), if_pos rfl, show n = ((n.toNat : Nat) : Int) by omega, show (4 : Int) = ((4 : Nat) : Int) from rfl, refHigh_f k n.toNat 4 (by omega) (by omega) (by omega), kind_str (by decide) (by decide)]
    simp only [Option.bind_some]
    rw [if_pos (by rw [sz1, ba_size, be_len]; omega), app_ba, fin _ (by simp only [List.length_cons, be_len]; omega)]
    simp [keyB]
    rw [show max n 0 = n by omega]
theorem known_at : cabinetrylaw09_known.f 200 = some true := by
  unfold cabinetrylaw09_known.f
  simp only [ByteArray.toList_eq]
  kernel_rfl
theorem known_ev (k : Nat) (h : 200 ≤ k) : cabinetrylaw09_known.f k = some true := at_rounds cabinetrylaw09_known.mono h known_at
end Go.Proofs.YtnkejhfbkgfedaaDoor.L1
namespace Go.Proofs.YtnkejhfbkgfedaaDoor.L1
open Go.RowKit Go.Proofs.YtnkejhfbkgfedaaDoorW.PrintWords Go.Proofs.YtnkejhfbkgfedaaDoor.PA Go.Proofs.YtnkejhfbkgfedaaDoor.H1 Go.Proofs.YtnkejhfbkgfedaaDoor.PB
set_option linter.unusedVariables false
theorem over2_f (k : Nat) (hk : 4 ≤ k) (a n : Int) (s : ByteArray) (b m : Int) (t : ByteArray) (hs : s.size ≤ 140737488351232) (ht : t.size ≤ 140737488351232) :
    cabinetrylaw09_over.f k [(⟨a, n, s⟩ : S23), ⟨b, m, t⟩] = some (decide (40000 < s.size + t.size + 2)) := by
  obtain ⟨k, rfl⟩ : ∃ m, k = m + 1 + 1 + 1 := ⟨k - 3, by omega⟩
  unfold cabinetrylaw09_over.f cabinetrylaw09_many.f
  simp only [cabinetrylaw09_many.l0]
  have e : rd_T23 [(⟨a, n, s⟩ : S23), ⟨b, m, t⟩] 0 = ⟨a, n, s⟩ := rfl
  have e2 : rd_T23 [(⟨a, n, s⟩ : S23), ⟨b, m, t⟩] 1 = ⟨b, m, t⟩ := rfl
  rw [if_pos (by simp), if_pos (by omega), e, w64 (x := (0 : Int) + 1) (by omega) (by omega), show (0 : Int) + 1 = 1 from rfl, if_pos (by simp), if_pos (by omega), e2, w64 (x := (1 : Int) + 1) (by omega) (by omega), if_neg (by simp)]
  show some (decide (wrap64 (wrap64 ((2 : Int) + (s.size : Int)) + (t.size : Int)) > 40000)) = _
  rw [w64 (x := (2 : Int) + (s.size : Int)) (by omega) (by omega), w64 (x := (2 : Int) + (s.size : Int) + (t.size : Int)) (by omega) (by omega)]
  exact congrArg some (decide_eq_decide.2 (by omega))
end Go.Proofs.YtnkejhfbkgfedaaDoor.L1
namespace Go.Proofs.YtnkejhfbkgfedaaDoor.L1
open Go.RowKit Go.Proofs.YtnkejhfbkgfedaaDoorW.PrintWords Go.Proofs.YtnkejhfbkgfedaaDoor.PA Go.Proofs.YtnkejhfbkgfedaaDoor.H1 Go.Proofs.YtnkejhfbkgfedaaDoor.PB
set_option linter.unusedVariables false
set_option linter.unusedSimpArgs false
theorem cmp_cons (x y : UInt8) (a b : List UInt8) : Lib.compareBytes (x :: a) (y :: b) = if x.toNat < y.toNat then -1 else if y.toNat < x.toNat then 1 else Lib.compareBytes a b := by
  simp only [Lib.compareBytes, UInt8.lt_iff_toNat_lt]
theorem cmp_self (a : List UInt8) : Lib.compareBytes a a = 0 := by
  induction a with
  | nil => rfl
  | cons x p ih => rw [cmp_cons, if_neg (by omega), if_neg (by omega), ih]
theorem toI_succ (x : UInt8) (h : x.toNat < 255) : (toI x + 1) % 256 = toI (UInt8.ofNat (x.toNat + 1)) := by
  rw [toI_ofNat _ (by omega)]
  unfold toI
  omega
theorem str1 (x : UInt8) : strOfNums [toI x] = ⟨#[x]⟩ := by
  have := strOf_map [x]
  simpa using this
end Go.Proofs.YtnkejhfbkgfedaaDoor.L1
namespace Go.Proofs.YtnkejhfbkgfedaaDoor.L1
open Go.RowKit Go.Proofs.YtnkejhfbkgfedaaDoorW.PrintWords Go.Proofs.YtnkejhfbkgfedaaDoor.PA Go.Proofs.YtnkejhfbkgfedaaDoor.H1 Go.Proofs.YtnkejhfbkgfedaaDoor.PB
set_option linter.unusedVariables false
set_option linter.unusedSimpArgs false
def bh : List UInt8 → Option (List UInt8)
  | [] => none
  | x :: l => match bh l with
    | some m => some (x :: m)
    | none => if x.toNat < 255 then some [UInt8.ofNat (x.toNat + 1)] else none
theorem bh_snoc (z : UInt8) (hz : z.toNat < 255) : ∀ l, bh (l ++ [z]) = some (l ++ [UInt8.ofNat (z.toNat + 1)])
  | [] => by simp [bh, hz]
  | x :: l => by
    rw [List.cons_append]
    unfold bh
    rw [bh_snoc z hz l]
    rfl
theorem bh_snoc255 (z : UInt8) (hz : ¬ z.toNat < 255) : ∀ l, bh (l ++ [z]) = bh l
  | [] => by simp [bh, hz]
  | x :: l => by
    rw [List.cons_append]
    unfold bh
    rw [bh_snoc255 z hz l]
def bhV (l : List UInt8) : ByteArray × Bool := match bh l with
  | some m => (⟨m.toArray⟩, true)
  | none => ((⟨#[]⟩ : ByteArray), false)
theorem key_Behind_l (s : ByteArray) (hs : s.size ≤ 140737488351232) : ∀ (n k : Nat), n ≤ s.size → n < k → key_Behind.l0 k s ((n : Int) - 1) = some (bhV (s.data.toList.take n)) := by
  intro n
  have ls := ba_len s
  induction n with
  | zero =>
    intro k hn hk
    obtain ⟨k, rfl⟩ : ∃ m, k = m + 1 := ⟨k - 1, by omega⟩
    simp only [key_Behind.l0]
    rw [if_neg (by omega), if_pos (by omega)]
    rfl
  | succ n ih =>
    intro k hn hk
    obtain ⟨k, rfl⟩ : ∃ m, k = m + 1 := ⟨k - 1, by omega⟩
    have hlt : n < s.data.toList.length := by omega
    have e : (((n + 1 : Nat) : Int) - 1) = (n : Int) := by omega
    have h255 := s.data.toList[n].toNat_lt
    simp only [key_Behind.l0]
    rw [e, if_pos (by omega), if_pos (by omega), if_pos (by omega), bt_toI s n (by omega), List.take_succ_eq_append_getElem hlt]
    by_cases hz : s.data.toList[n].toNat < 255
    · rw [if_neg (by unfold toI; omega), if_neg (by omega), if_pos (by omega), toI_succ _ hz]
      simp only [Option.bind_some]
      rw [str1, sz1, Int.toNat_natCast, if_pos (by rw [ByteArray.size_extract]; omega)]
      unfold bhV
      rw [bh_snoc _ hz]
      refine congrArg some (Prod.ext (ba_ext ?_) rfl)
      rw [ba_app, ba_extract s 0 n (by omega), List.drop_zero]
    · rw [if_pos (by unfold toI; omega), w64 (by omega) (by omega), ih k (by omega) (by omega)]
      unfold bhV
      rw [bh_snoc255 _ hz]
theorem key_Behind_f (k : Nat) (s : ByteArray) (hs : s.size ≤ 140737488351232) (hk : s.size < k) : key_Behind.f k s = some (bhV s.data.toList) := by
  unfold key_Behind.f
  rw [w64 (by omega) (by omega), key_Behind_l s hs s.size k (Nat.le_refl _) hk, List.take_of_length_le (by rw [ba_len]; exact Nat.le_refl _)]
theorem kind4 : strOfNums [4] = ⟨#[4]⟩ := rfl
theorem page_f (n : Int) (h : -9223372036854775808 ≤ n ∧ n ≤ 9223372036854775807) : ∃ p c, cabinetrylaw09_page.f n = some (p, c) ∧ pageOk p c := by
  unfold cabinetrylaw09_page.f
  have h1 : -5 ≤ Int.tmod n 6 ∧ Int.tmod n 6 ≤ 5 := by
    have a := Int.tmod_lt_of_pos n (show (0 : Int) < 6 by decide)
    have b := Int.lt_tmod_of_pos n (show (0 : Int) < 6 by decide)
    omega
  generalize Int.tmod n 6 = m at h1
  rw [w64 (x := m + 6) (by omega) (by omega)]
  have h2 : Int.tmod (m + 6) 6 = (m + 6) % 6 := Int.tmod_eq_emod_of_nonneg (by omega)
  rw [h2]
  have h3 : 0 ≤ (m + 6) % 6 ∧ (m + 6) % 6 < 6 := by omega
  generalize (m + 6) % 6 = q at h3
  rw [Int.tmod_eq_emod_of_nonneg h3.1, Int.tdiv_eq_ediv_of_nonneg h3.1, w64 (by omega) (by omega)]
  exact ⟨_, _, rfl, by unfold pageOk; omega⟩
theorem esc_prefix : ∀ (s t : List UInt8), (escL s).isPrefixOf (escL t ++ [0, 0]) = s.isPrefixOf t
  | [], t => by simp [escL]
  | x :: s, [] => by
    simp only [escL, List.nil_append]
    by_cases hx : x = 0
    · subst hx; simp [List.isPrefixOf]
    · rw [if_neg hx]; simp [List.isPrefixOf, hx]
  | x :: s, y :: t => by
    have ih := esc_prefix s t
    simp only [escL]
    by_cases hx : x = 0
    · subst hx
      by_cases hy : y = 0
      · subst hy; simp [List.isPrefixOf, ih]
      · rw [if_pos rfl, if_neg hy]
        have : ¬ (0 : UInt8) = y := fun e => hy e.symm
        have hb : ((0 : UInt8) == y) = false := beq_eq_false_iff_ne.mpr this
        simp [List.isPrefixOf, hb]
    · by_cases hy : y = 0
      · subst hy
        rw [if_neg hx, if_pos rfl]
        have hb : (x == (0 : UInt8)) = false := beq_eq_false_iff_ne.mpr hx
        simp [List.isPrefixOf, hb]
      · rw [if_neg hx, if_neg hy]
        simp [List.isPrefixOf, ih]
theorem wt0 (p : Int) (l : List UInt8) : l.map (wt p 0) = l := by
  conv => rhs; rw [← List.map_id l]
  apply List.map_congr_left
  intro b _
  simp [wt]
end Go.Proofs.YtnkejhfbkgfedaaDoor.L1
