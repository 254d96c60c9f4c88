-- Written by a program of this session (wip/merge.py): the texts of this claim, joined.
import Derived.KernelRfl
import Derived.Test.YtnkejhfbkgfedaaDoorMKeyPacks0
import Derived.Test.YtnkejhfbkgfedaaDoorMKeyPacks1
import Derived.Test.YtnkejhfbkgfedaaDoorMKeyPacks2
import Derived.Test.YtnkejhfbkgfedaaDoorMKeyPacks3
import Derived.Test.YtnkejhfbkgfedaaDoorMKeyPacks4
import Derived.Test.YtnkejhfbkgfedaaDoorMKeyPacks5
import Derived.Test.YtnkejhfbkgfedaaDoorMKeyPacks6
import Derived.Test.YtnkejhfbkgfedaaDoorMKeyPacks7
import Derived.Test.YtnkejhfbkgfedaaDoorMKeyPacks8
import Derived.Test.YtnkejhfbkgfedaaDoorMKeyPacks9
import Derived.Test.YtnkejhfbkgfedaaDoorMKeyPacks10
namespace Go.Proofs.YtnkejhfbkgfedaaDoor.PA
end Go.Proofs.YtnkejhfbkgfedaaDoor.PA
namespace Go.Proofs.YtnkejhfbkgfedaaDoor.PB
end Go.Proofs.YtnkejhfbkgfedaaDoor.PB
namespace Go.Proofs.YtnkejhfbkgfedaaDoor.PC
end Go.Proofs.YtnkejhfbkgfedaaDoor.PC
namespace Go.Proofs.YtnkejhfbkgfedaaDoor.H1
end Go.Proofs.YtnkejhfbkgfedaaDoor.H1
namespace Go.Proofs.YtnkejhfbkgfedaaDoor.L1
end Go.Proofs.YtnkejhfbkgfedaaDoor.L1
namespace Go.Proofs.YtnkejhfbkgfedaaDoor.PA
open Go.RowKit Go.Proofs.YtnkejhfbkgfedaaDoorW.PrintWords Go.Proofs.YtnkejhfbkgfedaaDoorW.PrintLast Go.Proofs.YtnkejhfbkgfedaaDoorW.PrintMore
attribute [local go_sem] max2_int min2_int max_two min_two max_three min_three max_four min_four   -- for this text's walks alone
set_option linter.unusedVariables false
set_option linter.unusedSimpArgs false
def key_Behind.l0 : Nat → ByteArray → Int → Option (ByteArray × Bool)
 | 0, _, _ => none
 | k + 1, x0, x4 => if x4 ≥ 0 then (if 0 ≤ x4 then (if x4 < (x0.size : Int) then (if (bt x0 x4) = 255 then (key_Behind.l0 k x0 (wrap64 (x4 - 1))) else (if x4 < 0 then (some ((⟨#[]⟩ : ByteArray), false)) else (if x4 ≤ (x0.size : Int) then ((some (([((bt x0 x4) + 1) % 256] : List Int) : List Int)).bind fun y168 => (if (x0.extract 0 (x4 : Int).toNat).size + (strOfNums y168).size ≤ 9223372036854775807 then (some ((x0.extract 0 (x4 : Int).toNat) ++ (strOfNums y168), true)) else (none))) else (none)))) else (none)) else (none)) else (if x4 < 0 then (some ((⟨#[]⟩ : ByteArray), false)) else (if 0 ≤ x4 then (if x4 ≤ (x0.size : Int) then (if x4 < (x0.size : Int) then ((some (([((bt x0 x4) + 1) % 256] : List Int) : List Int)).bind fun y171 => (if (x0.extract 0 (x4 : Int).toNat).size + (strOfNums y171).size ≤ 9223372036854775807 then (some ((x0.extract 0 (x4 : Int).toNat) ++ (strOfNums y171), true)) else (none))) else (none)) else (none)) else (none)))
def key_Behind.f (k : Nat) (a0 : ByteArray) : Option (ByteArray × Bool) := key_Behind.l0 k a0 (wrap64 ((a0.size : Int) - 1))
theorem key_Behind.mono_l : ∀ k, (∀ y0 y1, LeO (key_Behind.l0 k y0 y1) (key_Behind.l0 (k + 1) y0 y1))
 | 0 => fun _ _ r h => by simp [key_Behind.l0] at h
 | k + 1 => by
  have ih0 := key_Behind.mono_l k
  ·intro y0 y1
   unfold key_Behind.l0
   repeat' first
   | (with_reducible exact ih0 _ _)
   | (with_reducible exact LeO.refl _)
   | (with_reducible exact LeO.none _)
   | (with_reducible refine LeO.ite ?_ ?_)
   | (with_reducible refine LeO.bind ?_ (fun _ => ?_))
   | exact ih0 _ _
   | exact LeO.none _
   | refine LeO.ite ?_ ?_
   | refine LeO.bind ?_ (fun _ => ?_)
theorem key_Behind.mono : ∀ a0 k, LeO (key_Behind.f k a0) (key_Behind.f (k + 1) a0) := by
 intro a0 k
 have ih0 := key_Behind.mono_l k
 unfold key_Behind.f
 repeat' first
   | (with_reducible exact ih0 _ _)
   | (with_reducible exact LeO.refl _)
   | (with_reducible exact LeO.none _)
   | (with_reducible refine LeO.ite ?_ ?_)
   | (with_reducible refine LeO.bind ?_ (fun _ => ?_))
   | exact ih0 _ _
   | exact LeO.none _
   | refine LeO.ite ?_ ?_
   | refine LeO.bind ?_ (fun _ => ?_)
def key_Behind.T6 : Bool × List (List Nat × List Nat) := (true, [([], []), ([], []), ([0, 1], [0, 1]), ([], []), ([], []), ([3, 4], [3, 4]), ([5], [5]), ([6], [6]), ([7], [7]), ([2, 8], [2, 8]), ([9, 0, 1, 2, 3, 4, 5, 6, 7, 8, 9], [9]), ([10, 0, 1, 2, 3, 4, 5, 6, 7, 8, 9, 10], [])])
def key_Behind.B6 : List Nat := [0, 0, 3, 0, 0, 24, 56, 120, 248, 511, 1023, 2047]
theorem key_Behind.tab6 : rtab .any (opsOf Tryd.f34 6) = key_Behind.T6 := by kernel_rfl
theorem key_Behind.bits6 : waitsOk key_Behind.T6.2 key_Behind.B6 = true := by kernel_rfl
set_option maxHeartbeats 8000000 in
set_option maxRecDepth 100000 in
theorem key_Behind.calls (k : Nat) (a0 : ByteArray) (r1 : ByteArray) (r2 : Bool) (w : World) (h : key_Behind.f k a0 = some (r1, r2)) :
  Calls Tryd.prog 34 #[.string a0] w fun e w' => e = .returned (.tuple #[.string r1, .bool r2]) ∧ Below w.heap.size w w' := by
 have HB := Aside0.mk (Below.refl w.heap.size w)
 have H : (key_Behind.l0 k a0 (wrap64 ((a0.size : Int) - 1))) = some (r1, r2) := h
 clear h
 have H' := Aside0.mk H
 clear H
 go_enter Tryd.func34, Tryd.ntmps34
 go_wp2
 go_loopg [4] k (fun kq v4 w' => ∃ (x4_1 : Int), v4 = .int .i64 x4_1 ∧ Aside0 (key_Behind.l0 kq a0 x4_1 = some (r1, r2)) ∧ Aside0 (kq ≤ k) ∧ Aside0 (Below w.heap.size w w'))
 case atStart => exact ⟨(wrap64 ((a0.size : Int) - 1)), (by first | rfl | (simp; done) | (simp [*]; done)), H', ⟨Nat.le_refl _⟩, ⟨by repeat (first | (with_reducible first | exact HB.out | apply below_alloc | apply pw_below_drewN | apply below_drew1) | exact HB.out)⟩⟩
 case round =>
  clear H'
  obtain ⟨x4_1, rfl, HA, HK1, HB⟩ := hrel
  cases gk with
  | zero => exact absurd HA.out (by simp [key_Behind.l0])
  | succ k1 =>
   have H := HA.out
   clear HA
   simp only [key_Behind.l0] at H
   by_cases c2 : x4_1 ≥ 0
   ·rw [if_pos c2] at H
    have c2b0 : decide (0 ≤ x4_1) = true := decide_eq_true c2
    clear c2
    by_cases c3 : 0 ≤ x4_1
    ·rw [if_pos c3] at H
     have c3b0 : decide (0 ≤ x4_1) = true := decide_eq_true c3
     clear c3
     by_cases c4 : x4_1 < (a0.size : Int)
     ·rw [if_pos c4] at H
      have c4b0 : decide (x4_1 < (a0.size : Int)) = true := decide_eq_true c4
      clear c4
      by_cases c6 : (bt a0 x4_1) = 255
      ·rw [if_pos c6] at H
       have c6b0 : ((bt a0 x4_1) == 255) = true := beq_iff_eq.mpr c6
       have c6b1 : ((bt a0 x4_1) != 255) = false := bne_eq_false_iff_eq.mpr c6
       clear c6
       have H' := Aside0.mk H
       clear H
       have p5 : 0 ≤ (x4_1 : Int) := of_decide_eq_true (by first | (with_reducible assumption) | assumption)
       have q5 : x4_1 < (a0.size : Int) := of_decide_eq_true (by first | (with_reducible assumption) | assumption)
       have hx5 := bt_at a0 x4_1
       replace p5 := eq_true p5
       replace q5 := eq_true q5
       go_wp2
       go_roundg k1
       case measure => have := HK1.out; omega
       case rel => exact ⟨(wrap64 (x4_1 - 1)), (by first | rfl | (simp; done) | (simp [*]; done)), H', ⟨by have := HK1.out; omega⟩, ⟨by repeat (first | (with_reducible first | exact HB.out | apply below_alloc | apply pw_below_drewN | apply below_drew1) | exact HB.out)⟩⟩
      ·rw [if_neg c6] at H
       have c6b0 : ((bt a0 x4_1) == 255) = false := beq_eq_false_iff_ne.mpr c6
       have c6b1 : ((bt a0 x4_1) != 255) = true := bne_iff_ne.mpr c6
       by_cases c7 : x4_1 < 0
       ·rw [if_pos c7] at H
        have c7b0 : decide (x4_1 < 0) = true := decide_eq_true c7
        clear c7
        simp only [Option.some.injEq, Prod.mk.injEq] at H
        obtain ⟨rfl, rfl⟩ := H
        have p5 : 0 ≤ (x4_1 : Int) := of_decide_eq_true (by first | (with_reducible assumption) | assumption)
        have q5 : x4_1 < (a0.size : Int) := of_decide_eq_true (by first | (with_reducible assumption) | assumption)
        have hx5 := bt_at a0 x4_1
        replace p5 := eq_true p5
        replace q5 := eq_true q5
        go_wp2
        go_ret2
        exact ⟨by first | rfl | (simp [errW_none, errW_some] <;> rfl) | (simp [*, errW_none, errW_some] <;> rfl), by repeat (first | (with_reducible first | exact HB.out | apply below_alloc | apply pw_below_drewN | apply below_drew1) | exact HB.out)⟩
       ·rw [if_neg c7] at H
        have c7b0 : decide (x4_1 < 0) = false := decide_eq_false c7
        clear c7
        have c8b0 := eq_true (of_decide_eq_true (by first | (with_reducible assumption) | assumption) : 0 ≤ x4_1)
        by_cases c9 : x4_1 ≤ (a0.size : Int)
        ·rw [if_pos c9] at H
         have c9b0 := eq_true c9
         have c9b1 : decide (x4_1 ≤ (a0.size : Int)) = true := decide_eq_true c9
         clear c9
         obtain ⟨y168, hy168⟩ : ∃ y_ : List Int, y_ = (([((bt a0 x4_1) + 1) % 256] : List Int)) := ⟨_, rfl⟩
         replace H : (if (a0.extract 0 (x4_1 : Int).toNat).size + (strOfNums y168).size ≤ 9223372036854775807 then (some ((a0.extract 0 (x4_1 : Int).toNat) ++ (strOfNums y168), true)) else (none)) = some (r1, r2) := by first | (rw [hy168]; with_reducible exact H) | (have H2_ := (Option.bind_some _ _).symm.trans H; rw [hy168]; with_reducible exact H2_) | (have H2_ := (Option.bind_some _ _).symm.trans H; with_reducible exact H2_) | with_reducible exact H | (rw [hy168]; exact H) | exact H
         have Ny168 := Aside0.mk hy168
         clear hy168
         by_cases c11 : (a0.extract 0 (x4_1 : Int).toNat).size + (strOfNums y168).size ≤ 9223372036854775807
         ·rw [if_pos c11] at H
          have c11b0 := eq_true c11
          have c11b1 : decide ((a0.extract 0 (x4_1 : Int).toNat).size + (strOfNums y168).size ≤ 9223372036854775807) = true := decide_eq_true c11
          try have c11b2 : (9223372036854775807 < (a0.extract 0 (x4_1 : Int).toNat).size + (strOfNums y168).size) = False := eq_false (Nat.not_lt.2 c11)
          try have c11b3 : (9223372036854775807 < x4_1.toNat + (strOfNums y168).size) = False := eq_false (by have z := c11; simp only [eq_iff_iff, iff_true, iff_false, Nat.not_lt] at *; simp only [ByteArray.size_append, ByteArray.size_extract] at z; omega)
          simp only [Option.some.injEq, Prod.mk.injEq] at H
          obtain ⟨rfl, rfl⟩ := H
          have p5 : 0 ≤ (x4_1 : Int) := of_decide_eq_true (by first | (with_reducible assumption) | assumption)
          have q5 : x4_1 < (a0.size : Int) := of_decide_eq_true (by first | (with_reducible assumption) | assumption)
          have hx5 := bt_at a0 x4_1
          replace p5 := eq_true p5
          replace q5 := eq_true q5
          try go_wp2
          have n0_ := Aside0.mk (below_drew1 HB.out)
          clear HB
          have HB := n0_
          clear n0_
          have p10 : 0 ≤ (x4_1 : Int) := of_decide_eq_true (by first | (with_reducible assumption) | assumption)
          have q10 : x4_1 < (a0.size : Int) := of_decide_eq_true (by first | (with_reducible assumption) | assumption)
          have hx10 := bt_at a0 x4_1
          replace p10 := eq_true p10
          replace q10 := eq_true q10
          refine start_ (n := 12) (S := fun w' => True) (ds := []) #[false, false, false, false, false, false, false, false, false, false, false, false] (by kernel_rfl) rfl rfl trivial (fun hHeld => ?_); refine with_tabW key_Behind.tab6 key_Behind.bits6 (fun HT_ HW_ => ?_)
          generalize wr.drew = w12 at HB hHeld ⊢
          refine pure_ (i := 0) (N := some 20) (v := ?_) (a' := ?_) #[true, false, false, false, false, false, false, false, false, false, false, false] rfl rfl (any_of HT_.out (by kernel_rfl)) (fun _ _ _ h => h) (Or.inl ⟨by rfl, ?_⟩) ?_ ?_
          rotate_left
          ·intro w'
           go_simp
           with_reducible rfl
          rotate_left
          ·simp only [Act.put, List.setIfInBounds_toArray, List.set_cons_zero, List.set_cons_succ, i64_w, i32_w]
           rfl
          refine pure_ (i := 1) (N := some 21) (v := ?_) (a' := ?_) #[true, true, false, false, false, false, false, false, false, false, false, false] rfl rfl (any_of HT_.out (by kernel_rfl)) (fun _ _ _ h => h) (Or.inl ⟨by rfl, ?_⟩) ?_ ?_
          rotate_left
          ·intro w'
           go_simp
           with_reducible rfl
          rotate_left
          ·simp only [Act.put, List.setIfInBounds_toArray, List.set_cons_zero, List.set_cons_succ, i64_w, i32_w]
           rfl
          refine pure_ (i := 2) (N := some 22) (v := ?_) (a' := ?_) #[true, true, true, false, false, false, false, false, false, false, false, false] rfl rfl (any_of HT_.out (by kernel_rfl)) (fun _ _ _ h => h) (Or.inl ⟨by rfl, ?_⟩) ?_ ?_
          rotate_left
          ·intro w'
           go_simp
           with_reducible rfl
          rotate_left
          ·simp only [Act.put, List.setIfInBounds_toArray, List.set_cons_zero, List.set_cons_succ, i64_w, i32_w]
           rfl
          refine pure_ (i := 3) (N := some 23) (v := ?_) (a' := ?_) #[true, true, true, true, false, false, false, false, false, false, false, false] rfl rfl (any_of HT_.out (by kernel_rfl)) (fun _ _ _ h => h) (Or.inl ⟨by rfl, ?_⟩) ?_ ?_
          rotate_left
          ·intro w'
           go_simp
           with_reducible rfl
          rotate_left
          ·simp only [Act.put, List.setIfInBounds_toArray, List.set_cons_zero, List.set_cons_succ, i64_w, i32_w]
           rfl
          refine pure_ (i := 4) (N := some 24) (v := ?_) (a' := ?_) #[true, true, true, true, true, false, false, false, false, false, false, false] rfl rfl (any_of HT_.out (by kernel_rfl)) (fun _ _ _ h => h) (Or.inl ⟨by rfl, ?_⟩) ?_ ?_
          rotate_left
          ·intro w'
           go_simp
           with_reducible rfl
          rotate_left
          ·simp only [Act.put, List.setIfInBounds_toArray, List.set_cons_zero, List.set_cons_succ, i64_w, i32_w]
           rfl
          refine take_ (i := 5) (N := some 25) (v := ?_) (a' := ?_) #[true, true, true, true, true, true, false, false, false, false, false, false] rfl rfl (take_ofW HT_.out HW_.out (by kernel_rfl)) (fun _ _ _ h => h) (Or.inl ⟨by rfl, ?_⟩) hHeld ?_ ?_
          rotate_left
          ·intro w' _
           go_simp
           with_reducible rfl
          rotate_left
          ·simp only [Act.put, List.setIfInBounds_toArray, List.set_cons_zero, List.set_cons_succ, i64_w, i32_w]
           rfl
          refine pure_ (i := 6) (N := some 26) (v := ?_) (a' := ?_) #[true, true, true, true, true, true, true, false, false, false, false, false] rfl rfl (any_of HT_.out (by kernel_rfl)) (fun _ _ _ h => h) (Or.inl ⟨by rfl, ?_⟩) ?_ ?_
          rotate_left
          ·intro w'
           go_simp
           with_reducible rfl
          rotate_left
          ·simp only [Act.put, List.setIfInBounds_toArray, List.set_cons_zero, List.set_cons_succ, i64_w, i32_w]
           rfl
          refine one_ (i := 7) (N := some 27) #[true, true, true, true, true, true, true, true, false, false, false, false] rfl rfl (one_of HT_.out (by kernel_rfl)) (by decide) (fun K hK => ?_)
          refine Kd.R_lit_step (Kd.int .u8) _ 5 ?hg (N := 27) ?hd (xs := ([((bt a0 x4_1) + 1) % 256] : List Int)) (inner := [.int .u8 (((bt a0 x4_1) + 1) % 256)]) (ok := fun _ => True) (okp := fun _ => True) ?hr ?hp (fun _ hk => hk) trivial (Below.refl _ _) (Nat.le_refl _) (by simp) ?_; (case hd => rfl); (case hg => rfl); (case hr => first | (go_simp; done) | (go_simp; rfl)); (case hp => exact (Reps.one (show Kd.M (Kd.int .u8) _ _ _ (((bt a0 x4_1) + 1) % 256) [.int .u8 (((bt a0 x4_1) + 1) % 256)] from rfl) (Reps.none _ _)))
          intro v169 w13 ho14 hb hg_ hnew_
          clear hg_ hnew_
          (first | rw [← Ny168.out] at ho14 | (simp only [Int.reduceToNat] at ho14; rw [← Ny168.out] at ho14))
          have n0_ := Aside0.mk (Kd.R_lower ho14 (below_size (by repeat (first | (with_reducible first | exact HB.out | apply below_alloc | apply pw_below_drewN | apply below_drew1) | exact HB.out))))
          have n1_ := Aside0.mk (below_step (by repeat (first | (with_reducible first | exact HB.out | apply below_alloc | apply pw_below_drewN | apply below_drew1) | exact HB.out)) hb)
          clear HB
          have HO170 := n0_
          have HB := n1_
          clear n0_ n1_
          clear hb ho14
          refine hK.out _ _ trivial (fun hHeld => ?_)
          clear hK K
          refine norm_ (a' := ?_) ?_ ?_
          rotate_left
          ·show Act.put _ (some 27) _ = _
           simp only [Act.put, List.setIfInBounds_toArray, List.set_cons_zero, List.set_cons_succ, i64_w, i32_w]
           rfl
          refine one_ (i := 8) (N := some 28) #[true, true, true, true, true, true, true, true, true, false, false, false] rfl rfl (one_of HT_.out (by kernel_rfl)) (by decide) (fun K hK => ?_)
          have hcv15 := own_string (P := Tryd.prog) Tryd.underlying62 Tryd.underlying5 Tryd.underlying9 (Kd.own_of_R HO170.out)
          refine value_ (w1 := ?_) (v := ?_) (by rfl) rfl ?_ ?_
          rotate_left 2
          ·go_simp
           constructor
           ·rfl
           ·rfl
          clear hcv15
          refine hK.out _ _ trivial (fun hHeld => ?_)
          clear hK K
          refine norm_ (a' := ?_) ?_ ?_
          rotate_left
          ·show Act.put _ (some 28) _ = _
           simp only [Act.put, List.setIfInBounds_toArray, List.set_cons_zero, List.set_cons_succ, i64_w, i32_w]
           rfl
          refine pure_ (i := 9) (N := some 29) (v := ?_) (a' := ?_) #[true, true, true, true, true, true, true, true, true, true, false, false] rfl rfl (any_of HT_.out (by kernel_rfl)) (fun _ _ _ h => h) (Or.inl ⟨by rfl, ?_⟩) ?_ ?_
          rotate_left
          ·intro w'
           go_simp
           with_reducible rfl
          rotate_left
          ·simp only [Act.put, List.setIfInBounds_toArray, List.set_cons_zero, List.set_cons_succ, i64_w, i32_w]
           rfl
          refine pure_ (i := 10) (N := some 2) (v := ?_) (a' := ?_) #[true, true, true, true, true, true, true, true, true, true, true, false] rfl rfl (any_of HT_.out (by kernel_rfl)) (fun _ _ _ h => h) (Or.inl ⟨by rfl, ?_⟩) ?_ ?_
          rotate_left
          ·intro w'
           go_simp
           with_reducible rfl
          rotate_left
          ·simp only [Act.put, List.setIfInBounds_toArray, List.set_cons_zero, List.set_cons_succ, i64_w, i32_w]
           rfl
          refine pure_ (i := 11) (N := some 3) (v := ?_) (a' := ?_) #[true, true, true, true, true, true, true, true, true, true, true, true] rfl rfl (any_of HT_.out (by kernel_rfl)) (fun _ _ _ h => h) (Or.inl ⟨by rfl, ?_⟩) ?_ ?_
          rotate_left
          ·intro w'
           go_simp
           with_reducible rfl
          rotate_left
          ·simp only [Act.put, List.setIfInBounds_toArray, List.set_cons_zero, List.set_cons_succ, i64_w, i32_w]
           rfl
          refine done_ (done_of HT_.out (by kernel_rfl)) ?_
          try go_wp2
          go_ret2
          exact ⟨by first | rfl | (simp [errW_none, errW_some] <;> rfl) | (simp [*, errW_none, errW_some] <;> rfl), by repeat (first | (with_reducible first | exact HB.out | apply below_alloc | apply pw_below_drewN | apply below_drew1) | exact HB.out)⟩
         ·rw [if_neg c11] at H
          exact absurd H (by simp)
        ·rw [if_neg c9] at H
         exact absurd H (by simp)
     ·rw [if_neg c4] at H
      exact absurd H (by simp)
    ·rw [if_neg c3] at H
     exact absurd H (by simp)
   ·rw [if_neg c2] at H
    have c2b0 : decide (0 ≤ x4_1) = false := decide_eq_false c2
    clear c2
    by_cases c16 : x4_1 < 0
    ·rw [if_pos c16] at H
     have c16b0 : decide (x4_1 < 0) = true := decide_eq_true c16
     clear c16
     simp only [Option.some.injEq, Prod.mk.injEq] at H
     obtain ⟨rfl, rfl⟩ := H
     go_wp2
     go_ret2
     exact ⟨by first | rfl | (simp [errW_none, errW_some] <;> rfl) | (simp [*, errW_none, errW_some] <;> rfl), by repeat (first | (with_reducible first | exact HB.out | apply below_alloc | apply pw_below_drewN | apply below_drew1) | exact HB.out)⟩
    ·rw [if_neg c16] at H
     have c16b0 : decide (x4_1 < 0) = false := decide_eq_false c16
     exact absurd (Int.not_lt.1 (of_decide_eq_false c16b0)) (of_decide_eq_false c2b0)
end Go.Proofs.YtnkejhfbkgfedaaDoor.PA
namespace Go.Proofs.YtnkejhfbkgfedaaDoor.PB
open Go.RowKit Go.Proofs.YtnkejhfbkgfedaaDoorW.PrintWords Go.Proofs.YtnkejhfbkgfedaaDoorW.PrintLast Go.Proofs.YtnkejhfbkgfedaaDoorW.PrintMore Go.Proofs.YtnkejhfbkgfedaaDoor.PA Go.Proofs.YtnkejhfbkgfedaaDoor.H1
attribute [local go_sem] max2_int min2_int max_two min_two max_three min_three max_four min_four   -- for this text's walks alone
set_option linter.unusedVariables false
set_option linter.unusedSimpArgs false
def cabinetrylaw09_known.f (k : Nat)  : Option (Bool) := (cabinetryref01_Text.f (⟨#[97]⟩ : ByteArray)).bind fun bt106 => ((key_Encode.f k bt106.1 bt106.2.1 bt106.2.2 0 0 false).bind fun bt109 => ((key_Behind.f k (⟨#[4, 255]⟩ : ByteArray)).bind fun bt111 => ((key_Short.f k (⟨#[97, 98, 99]⟩ : ByteArray) (⟨#[97, 98, 120]⟩ : ByteArray)).bind fun bt113 => (if bt109.2 = 0 then (if bt109.1.toList = ([4, 97, 0, 0] : List UInt8) then (if bt111.2 = true then (if bt111.1.toList = ([5] : List UInt8) then (if bt113.2 = 0 then (some (bt113.1.toList == ([97, 98, 100] : List UInt8))) else (some false)) else (some false)) else (some false)) else (some false)) else (some false)))))
theorem cabinetrylaw09_known.mono : ∀ k, LeO (cabinetrylaw09_known.f k ) (cabinetrylaw09_known.f (k + 1) ) := by
 intro  k
 unfold cabinetrylaw09_known.f
 repeat' first
   | (with_reducible exact key_Behind.mono _ _)
   | (with_reducible exact key_Encode.mono _ _ _ _ _ _ _)
   | (with_reducible exact key_Short.mono _ _ _)
   | (with_reducible exact LeO.refl _)
   | (with_reducible exact LeO.none _)
   | (with_reducible refine LeO.ite ?_ ?_)
   | (with_reducible refine LeO.bind ?_ (fun _ => ?_))
   | exact key_Behind.mono _ _
   | exact key_Encode.mono _ _ _ _ _ _ _
   | exact key_Short.mono _ _ _
   | exact LeO.none _
   | refine LeO.ite ?_ ?_
   | refine LeO.bind ?_ (fun _ => ?_)
set_option maxHeartbeats 8000000 in
set_option maxRecDepth 100000 in
theorem cabinetrylaw09_known.calls (k : Nat)  (r : Bool) (w : World) (h : cabinetrylaw09_known.f k  = some r) (hr_ : Aside0 (r = true)) (hm_ : Aside0 (Hm.HM w)) :
  Calls Tryd.prog 15 #[] w fun e w' => e = .returned (.bool r) ∧ Below w.heap.size w w' := by
 have HB := Aside0.mk (Below.refl w.heap.size w)
 have H : ((cabinetryref01_Text.f (⟨#[97]⟩ : ByteArray)).bind fun bt106 => ((key_Encode.f k bt106.1 bt106.2.1 bt106.2.2 0 0 false).bind fun bt109 => ((key_Behind.f k (⟨#[4, 255]⟩ : ByteArray)).bind fun bt111 => ((key_Short.f k (⟨#[97, 98, 99]⟩ : ByteArray) (⟨#[97, 98, 120]⟩ : ByteArray)).bind fun bt113 => (if bt109.2 = 0 then (if bt109.1.toList = ([4, 97, 0, 0] : List UInt8) then (if bt111.2 = true then (if bt111.1.toList = ([5] : List UInt8) then (if bt113.2 = 0 then (some (bt113.1.toList == ([97, 98, 100] : List UInt8))) else (some false)) else (some false)) else (some false)) else (some false)) else (some false)))))) = some r := h
 clear h
 replace H := Option.bind_eq_some_iff.mp H
 obtain ⟨⟨t106, t107, t108⟩, A10, H⟩ := H
 replace H : ((key_Encode.f k t106 t107 t108 0 0 false).bind fun bt109 => ((key_Behind.f k (⟨#[4, 255]⟩ : ByteArray)).bind fun bt111 => ((key_Short.f k (⟨#[97, 98, 99]⟩ : ByteArray) (⟨#[97, 98, 120]⟩ : ByteArray)).bind fun bt113 => (if bt109.2 = 0 then (if bt109.1.toList = ([4, 97, 0, 0] : List UInt8) then (if bt111.2 = true then (if bt111.1.toList = ([5] : List UInt8) then (if bt113.2 = 0 then (some (bt113.1.toList == ([97, 98, 100] : List UInt8))) else (some false)) else (some false)) else (some false)) else (some false)) else (some false))))) = some r := H
 have A1 := Aside0.mk A10
 clear A10
 replace H := Option.bind_eq_some_iff.mp H
 obtain ⟨⟨t109, t110⟩, A20, H⟩ := H
 replace H : ((key_Behind.f k (⟨#[4, 255]⟩ : ByteArray)).bind fun bt111 => ((key_Short.f k (⟨#[97, 98, 99]⟩ : ByteArray) (⟨#[97, 98, 120]⟩ : ByteArray)).bind fun bt113 => (if t110 = 0 then (if t109.toList = ([4, 97, 0, 0] : List UInt8) then (if bt111.2 = true then (if bt111.1.toList = ([5] : List UInt8) then (if bt113.2 = 0 then (some (bt113.1.toList == ([97, 98, 100] : List UInt8))) else (some false)) else (some false)) else (some false)) else (some false)) else (some false)))) = some r := H
 have A2 := Aside0.mk A20
 clear A20
 replace H := Option.bind_eq_some_iff.mp H
 obtain ⟨⟨t111, t112⟩, A30, H⟩ := H
 replace H : ((key_Short.f k (⟨#[97, 98, 99]⟩ : ByteArray) (⟨#[97, 98, 120]⟩ : ByteArray)).bind fun bt113 => (if t110 = 0 then (if t109.toList = ([4, 97, 0, 0] : List UInt8) then (if t112 = true then (if t111.toList = ([5] : List UInt8) then (if bt113.2 = 0 then (some (bt113.1.toList == ([97, 98, 100] : List UInt8))) else (some false)) else (some false)) else (some false)) else (some false)) else (some false))) = some r := H
 have A3 := Aside0.mk A30
 clear A30
 replace H := Option.bind_eq_some_iff.mp H
 obtain ⟨⟨t113, t114⟩, A40, H⟩ := H
 replace H : (if t110 = 0 then (if t109.toList = ([4, 97, 0, 0] : List UInt8) then (if t112 = true then (if t111.toList = ([5] : List UInt8) then (if t114 = 0 then (some (t113.toList == ([97, 98, 100] : List UInt8))) else (some false)) else (some false)) else (some false)) else (some false)) else (some false)) = some r := H
 have A4 := Aside0.mk A40
 clear A40
 by_cases c5 : t110 = 0
 ·rw [if_pos c5] at H
  have c5b0 : (t110 == 0) = true := beq_iff_eq.mpr c5
  have c5b1 : (t110 != 0) = false := bne_eq_false_iff_eq.mpr c5
  clear c5
  by_cases c6 : t109.toList = ([4, 97, 0, 0] : List UInt8)
  ·rw [if_pos c6] at H
   have c6b0 : (t109.toList == ([4, 97, 0, 0] : List UInt8)) = true := beq_iff_eq.mpr c6
   have c6b1 : (t109.toList != ([4, 97, 0, 0] : List UInt8)) = false := bne_eq_false_iff_eq.mpr c6
   clear c6
   by_cases c7 : t112 = true
   ·subst c7
    have H1 : (if t111.toList = ([5] : List UInt8) then (if t114 = 0 then (some (t113.toList == ([97, 98, 100] : List UInt8))) else (some false)) else (some false)) = some r := by rw [if_pos rfl] at H; exact H
    clear H
    have H := H1
    clear H1
    by_cases c8 : t111.toList = ([5] : List UInt8)
    ·rw [if_pos c8] at H
     have c8b0 : (t111.toList == ([5] : List UInt8)) = true := beq_iff_eq.mpr c8
     have c8b1 : (t111.toList != ([5] : List UInt8)) = false := bne_eq_false_iff_eq.mpr c8
     clear c8
     by_cases c9 : t114 = 0
     ·rw [if_pos c9] at H
      have c9b0 : (t114 == 0) = true := beq_iff_eq.mpr c9
      have c9b1 : (t114 != 0) = false := bne_eq_false_iff_eq.mpr c9
      clear c9
      obtain rfl := Option.some.inj H
      simp only [Option.some.injEq, Prod.mk.injEq] at H
      obtain ⟨rfl⟩ := H
      go_enter Tryd.func15, Tryd.ntmps15
      go_wp2_with (first | ((with_reducible refine gate_callee (f := 38) rfl ?_); refine goesL_ (some 8) rfl rfl Tryd.func38 (by kernel_rfl) rfl #[.string (⟨#[97]⟩ : ByteArray)] rfl (by (try simp only [List.map_toArray, List.map_cons, List.map_nil]); first | done | rfl | (simp only [List.length_drop, List.length_take]; rfl)) ?_; (with_reducible refine (cabinetryref01_Text.calls (⟨#[97]⟩ : ByteArray) t106 t107 t108 _ A1.out).mono ?_); rintro e w10 ⟨rfl, hb⟩; refine ⟨_, rfl, ?_⟩; have n0_ := Aside0.mk (below_step (by repeat (first | (with_reducible first | exact HB.out | apply below_alloc | apply pw_below_drewN | apply below_drew1) | exact HB.out)) hb); clear HB; have HB := n0_; clear n0_; (try clear hb); (try clear hb2); (try clear hk); (try clear hi)) | ((with_reducible refine gate_callee (f := 16) rfl ?_); refine goesL_ (some 9) rfl rfl Tryd.func16 (by kernel_rfl) rfl #[.agg #[.int .i64 t106, .int .i64 t107, .string t108], .int .i64 0, .int .i64 0, .bool false] rfl (by (try simp only [List.map_toArray, List.map_cons, List.map_nil]); first | done | rfl | (simp only [List.length_drop, List.length_take]; rfl)) ?_; (with_reducible refine (key_Encode.calls k t106 t107 t108 0 0 false t109 t110 _ A2.out (Hm.keep hm_ (by repeat (first | (with_reducible first | exact HB.out | apply below_alloc | apply pw_below_drewN | apply below_drew1) | exact HB.out)))).mono ?_); rintro e w11 ⟨rfl, hb⟩; refine ⟨_, rfl, ?_⟩; have n0_ := Aside0.mk (below_step (by repeat (first | (with_reducible first | exact HB.out | apply below_alloc | apply pw_below_drewN | apply below_drew1) | exact HB.out)) hb); clear HB; have HB := n0_; clear n0_; (try clear hb); (try clear hb2); (try clear hk); (try clear hi)) | ((with_reducible refine gate_callee (f := 34) rfl ?_); refine goesL_ (some 13) rfl rfl Tryd.func34 (by kernel_rfl) rfl #[.string (⟨#[4, 255]⟩ : ByteArray)] rfl (by (try simp only [List.map_toArray, List.map_cons, List.map_nil]); first | done | rfl | (simp only [List.length_drop, List.length_take]; rfl)) ?_; (with_reducible refine (key_Behind.calls k (⟨#[4, 255]⟩ : ByteArray) t111 true _ A3.out).mono ?_); rintro e w12 ⟨rfl, hb⟩; refine ⟨_, rfl, ?_⟩; have n0_ := Aside0.mk (below_step (by repeat (first | (with_reducible first | exact HB.out | apply below_alloc | apply pw_below_drewN | apply below_drew1) | exact HB.out)) hb); clear HB; have HB := n0_; clear n0_; (try clear hb); (try clear hb2); (try clear hk); (try clear hi)) | ((with_reducible refine gate_callee (f := 30) rfl ?_); refine goesL_ (some 17) rfl rfl Tryd.func30 (by kernel_rfl) rfl #[.string (⟨#[97, 98, 99]⟩ : ByteArray), .string (⟨#[97, 98, 120]⟩ : ByteArray)] rfl (by (try simp only [List.map_toArray, List.map_cons, List.map_nil]); first | done | rfl | (simp only [List.length_drop, List.length_take]; rfl)) ?_; (with_reducible refine (key_Short.calls k (⟨#[97, 98, 99]⟩ : ByteArray) (⟨#[97, 98, 120]⟩ : ByteArray) t113 t114 _ A4.out).mono ?_); rintro e w13 ⟨rfl, hb⟩; refine ⟨_, rfl, ?_⟩; have n0_ := Aside0.mk (below_step (by repeat (first | (with_reducible first | exact HB.out | apply below_alloc | apply pw_below_drewN | apply below_drew1) | exact HB.out)) hb); clear HB; have HB := n0_; clear n0_; (try clear hb); (try clear hb2); (try clear hk); (try clear hi)))
      go_ret
      exact ⟨by first | rfl | (simp [errW_none, errW_some] <;> rfl) | (simp [*, errW_none, errW_some] <;> rfl), by repeat (first | (with_reducible first | exact HB.out | apply below_alloc | apply pw_below_drewN | apply below_drew1) | exact HB.out)⟩
     ·rw [if_neg c9] at H
      have c9b0 : (t114 == 0) = false := beq_eq_false_iff_ne.mpr c9
      have c9b1 : (t114 != 0) = true := bne_iff_ne.mpr c9
      obtain rfl := Option.some.inj H
      exact absurd hr_.out (by decide)
    ·rw [if_neg c8] at H
     have c8b0 : (t111.toList == ([5] : List UInt8)) = false := beq_eq_false_iff_ne.mpr c8
     have c8b1 : (t111.toList != ([5] : List UInt8)) = true := bne_iff_ne.mpr c8
     obtain rfl := Option.some.inj H
     exact absurd hr_.out (by decide)
   ·replace c7 := Bool.eq_false_iff.mpr c7
    subst c7
    have H1 : (some false) = some r := by rw [if_neg (show ¬ (false = true) by decide)] at H; exact H
    clear H
    have H := H1
    clear H1
    obtain rfl := Option.some.inj H
    exact absurd hr_.out (by decide)
  ·rw [if_neg c6] at H
   have c6b0 : (t109.toList == ([4, 97, 0, 0] : List UInt8)) = false := beq_eq_false_iff_ne.mpr c6
   have c6b1 : (t109.toList != ([4, 97, 0, 0] : List UInt8)) = true := bne_iff_ne.mpr c6
   obtain rfl := Option.some.inj H
   exact absurd hr_.out (by decide)
 ·rw [if_neg c5] at H
  have c5b0 : (t110 == 0) = false := beq_eq_false_iff_ne.mpr c5
  have c5b1 : (t110 != 0) = true := bne_iff_ne.mpr c5
  obtain rfl := Option.some.inj H
  exact absurd hr_.out (by decide)
end Go.Proofs.YtnkejhfbkgfedaaDoor.PB
namespace Go.Proofs.YtnkejhfbkgfedaaDoor.L1
open Go.RowKit Go.Proofs.YtnkejhfbkgfedaaDoorW.PrintWords Go.Proofs.YtnkejhfbkgfedaaDoor.PA Go.Proofs.YtnkejhfbkgfedaaDoor.H1 Go.Proofs.YtnkejhfbkgfedaaDoor.PB
set_option linter.unusedVariables false
set_option linter.unusedSimpArgs false
theorem known_at : cabinetrylaw09_known.f 200 = some true := by
  unfold cabinetrylaw09_known.f
  simp only [ByteArray.toList_eq]
  kernel_rfl
theorem known_ev (k : Nat) (h : 200 ≤ k) : cabinetrylaw09_known.f k = some true := at_rounds cabinetrylaw09_known.mono h known_at
end Go.Proofs.YtnkejhfbkgfedaaDoor.L1
namespace Go.Proofs.YtnkejhfbkgfedaaDoor.L1
open Go.RowKit Go.Proofs.YtnkejhfbkgfedaaDoorW.PrintWords Go.Proofs.YtnkejhfbkgfedaaDoor.PA Go.Proofs.YtnkejhfbkgfedaaDoor.PB Go.Proofs.YtnkejhfbkgfedaaDoor.H1
def cmpI (a b : Int) : Int := if a < b then -1 else if a > b then 1 else 0
theorem compareInts_f (a b : Int) : cabinetryref01_CompareInts.f a b = some (cmpI a b) := by
  unfold cabinetryref01_CompareInts.f cmpI
  split
  · rfl
  · split <;> rfl
theorem compareTexts_l (s t : ByteArray) (hs : s.size ≤ 140737488351232) : ∀ (n i k : Nat), s.size - i = n → i ≤ s.size → i ≤ t.size → 2 * n + 2 ≤ k →
    cabinetryref01_CompareTexts.l0 k s t (i : Int) = some (Lib.compareBytes (s.data.toList.drop i) (t.data.toList.drop i)) := by
  intro n
  induction n with
  | zero =>
    intro i k hn hi hj hk
    obtain ⟨k1, rfl⟩ : ∃ k1, k = k1 + 1 + 1 := ⟨k - 2, by omega⟩
    have e : i = s.size := by omega
    subst e
    simp only [cabinetryref01_CompareTexts.l0]
    rw [if_neg (by omega)]
    simp only [cabinetryref01_CompareTexts.j1]
    rw [if_neg (by decide), compareInts_f]
    simp only [Option.bind_some]
    rw [List.drop_eq_nil_of_le (by rw [ba_len]; exact Nat.le_refl _)]
    by_cases h : s.size = t.size
    · rw [List.drop_eq_nil_of_le (by rw [ba_len]; omega)]
      simp [Lib.compareBytes, cmpI, h]
    · have hl : s.size < t.data.toList.length := by rw [ba_len]; omega
      rw [List.drop_eq_getElem_cons hl]
      simp only [Lib.compareBytes, cmpI]
      rw [if_pos (by omega)]
  | succ n ih =>
    intro i k hn hi hj hk
    obtain ⟨k1, rfl⟩ : ∃ k1, k = k1 + 1 + 1 := ⟨k - 2, by omega⟩
    have hl : i < s.data.toList.length := by rw [ba_len]; omega
    simp only [cabinetryref01_CompareTexts.l0]
    rw [if_pos (by omega), List.drop_eq_getElem_cons hl]
    simp only [cabinetryref01_CompareTexts.j1]
    by_cases h : i < t.size
    · have hl2 : i < t.data.toList.length := by rw [ba_len]; omega
      rw [if_pos (by simpa using h), if_pos (by omega), if_pos (by omega), if_pos (by omega), bt_get s i (by omega), bt_get t i h, List.drop_eq_getElem_cons hl2]
      simp only [Lib.compareBytes, UInt8.lt_iff_toNat_lt]
      have b1 := (s.data.toList[i]).toNat_lt
      have b2 := (t.data.toList[i]).toNat_lt
      by_cases he : (s.data.toList[i]).toNat = (t.data.toList[i]).toNat
      · rw [if_pos (by omega), if_neg (by omega), if_neg (by omega), w64 (by omega) (by omega)]
        have := ih (i + 1) k1 (by omega) (by omega) (by omega) (by omega)
        simpa using this
      · rw [if_neg (by omega), compareInts_f, w64 (by omega) (by omega), w64 (by omega) (by omega)]
        simp only [Option.bind_some, cmpI]
        by_cases hc : (s.data.toList[i]).toNat < (t.data.toList[i]).toNat
        · rw [if_pos (by omega), if_pos hc]
        · rw [if_neg (by omega), if_neg hc, if_pos (by omega), if_pos (by omega)]
    · rw [if_neg (by simpa using h), compareInts_f]
      have e : i = t.size := by omega
      rw [show t.data.toList.drop i = [] from List.drop_eq_nil_of_le (by rw [ba_len]; omega)]
      simp only [Option.bind_some, Lib.compareBytes, cmpI]
      rw [if_neg (by omega), if_pos (by omega)]
theorem compareTexts_f (s t : ByteArray) (hs : s.size ≤ 140737488351232) (k : Nat) (hk : 2 * s.size + 2 ≤ k) :
    cabinetryref01_CompareTexts.f k s t = some (Lib.compareBytes s.data.toList t.data.toList) := by
  have := compareTexts_l s t hs s.size 0 k (by omega) (by omega) (by omega) hk
  simpa [cabinetryref01_CompareTexts.f] using this
theorem cmpB_swap : ∀ a b : List UInt8, Lib.compareBytes a b = -Lib.compareBytes b a
  | [], [] => by simp [Lib.compareBytes]
  | [], _ :: _ => by simp [Lib.compareBytes]
  | _ :: _, [] => by simp [Lib.compareBytes]
  | x :: a, y :: b => by
    have := cmpB_swap a b
    simp only [Lib.compareBytes, UInt8.lt_iff_toNat_lt]
    by_cases p : x.toNat < y.toNat <;> by_cases q : y.toNat < x.toNat <;> simp [p, q] <;> omega
end Go.Proofs.YtnkejhfbkgfedaaDoor.L1
namespace Go.Proofs.YtnkejhfbkgfedaaDoor.L1
open Go.RowKit Go.Proofs.YtnkejhfbkgfedaaDoorW.PrintWords Go.Proofs.YtnkejhfbkgfedaaDoor.PA Go.Proofs.YtnkejhfbkgfedaaDoor.H1 Go.Proofs.YtnkejhfbkgfedaaDoor.PB
set_option linter.unusedVariables false
set_option linter.unusedSimpArgs false
theorem cmp_cons (x y : UInt8) (a b : List UInt8) : Lib.compareBytes (x :: a) (y :: b) = if x.toNat < y.toNat then -1 else if y.toNat < x.toNat then 1 else Lib.compareBytes a b := by
  simp only [Lib.compareBytes, UInt8.lt_iff_toNat_lt]
theorem less_cmp : ∀ (a b : List UInt8), Op.bytesLess a b = decide (Lib.compareBytes a b < 0)
  | [], [] => rfl
  | [], _ :: _ => rfl
  | _ :: _, [] => rfl
  | x :: a, y :: b => by
    have ih := less_cmp a b
    rw [cmp_cons]
    simp only [Op.bytesLess]
    by_cases h1 : x.toNat < y.toNat
    · have : x < y := h1
      simp [this, h1]
    · have h1' : ¬ x < y := h1
      by_cases h2 : y.toNat < x.toNat
      · have h3 : ¬ x = y := fun e => by subst e; exact absurd h2 (Nat.lt_irrefl _)
        simp [h1, h1', h2, h3]
      · have h3 : x = y := UInt8.toNat_inj.1 (by omega)
        subst h3
        simp [ih]
end Go.Proofs.YtnkejhfbkgfedaaDoor.L1
namespace Go.Proofs.YtnkejhfbkgfedaaDoor.L1
open Go.RowKit Go.Proofs.YtnkejhfbkgfedaaDoorW.PrintWords Go.Proofs.YtnkejhfbkgfedaaDoor.PA Go.Proofs.YtnkejhfbkgfedaaDoor.H1 Go.Proofs.YtnkejhfbkgfedaaDoor.PB
set_option linter.unusedVariables false
set_option linter.unusedSimpArgs false
theorem ofNat_toNat (n : Nat) (h : n < 256) : (UInt8.ofNat n).toNat = n := by rw [UInt8.toNat_ofNat']; omega
end Go.Proofs.YtnkejhfbkgfedaaDoor.L1
namespace Go.Proofs.YtnkejhfbkgfedaaDoor.L1
open Go.RowKit Go.Proofs.YtnkejhfbkgfedaaDoorW.PrintWords
set_option linter.unusedVariables false
set_option linter.unusedSimpArgs false
def cmn : List UInt8 → List UInt8 → Nat
  | a :: l, b :: m => if a = b then cmn l m + 1 else 0
  | _, _ => 0
theorem cmn_le : ∀ (a b : List UInt8), cmn a b ≤ a.length ∧ cmn a b ≤ b.length
  | [], b => by simp [cmn]
  | a :: l, [] => by simp [cmn]
  | a :: l, b :: m => by
    have := cmn_le l m
    unfold cmn
    split
    · simp only [List.length_cons]; omega
    · exact ⟨Nat.zero_le _, Nat.zero_le _⟩
theorem cmn_take : ∀ (a b : List UInt8), a.take (cmn a b) = b.take (cmn a b)
  | [], b => by simp [cmn]
  | a :: l, [] => by simp [cmn]
  | a :: l, b :: m => by
    unfold cmn
    split
    · rename_i h; rw [List.take_succ_cons, List.take_succ_cons, cmn_take l m, h]
    · rfl
def recB (bf k : List UInt8) : List UInt8 := UInt8.ofNat (cmn bf k) :: UInt8.ofNat (k.length - cmn bf k) :: k.drop (cmn bf k)
def pk : List UInt8 → List (List UInt8) → Option (List UInt8)
  | _, [] => some []
  | bf, k :: r => if Lib.compareBytes k bf < 0 then none else (pk k r).map (recB bf k ++ ·)
def un : Nat → List UInt8 → List UInt8 → Option (List (List UInt8))
  | 0, _, _ => none
  | _ + 1, _, [] => some []
  | _ + 1, _, [_] => none
  | n + 1, bf, x :: y :: r => if bf.length < x.toNat ∨ r.length < y.toNat then none else (un n (bf.take x.toNat ++ r.take y.toNat) (r.drop y.toNat)).map ((bf.take x.toNat ++ r.take y.toNat) :: ·)
def uk : Nat → Nat → List UInt8 → List UInt8 → Option (List (List UInt8))
  | 0, _, _, _ => none
  | _ + 1, _, _, [] => some []
  | _ + 1, _, _, [_] => none
  | n + 1, c, bf, x :: y :: r => if bf.length < x.toNat ∨ r.length < y.toNat then none else
      if Lib.compareBytes (bf.take x.toNat ++ r.take y.toNat) bf < 0 ∨ 100 < (bf.take x.toNat ++ r.take y.toNat).length ∨ cmn bf (bf.take x.toNat ++ r.take y.toNat) ≠ x.toNat ∨ c = 300 then none
      else (uk n (c + 1) (bf.take x.toNat ++ r.take y.toNat) (r.drop y.toNat)).map ((bf.take x.toNat ++ r.take y.toNat) :: ·)
def small (l : List (List UInt8)) : Prop := ∀ k ∈ l, k.length ≤ 100
theorem ofNat_back (x : UInt8) : UInt8.ofNat x.toNat = x := by simp
theorem rec_of {bf r : List UInt8} {x y : UInt8} (h1 : x.toNat ≤ bf.length) (h2 : y.toNat ≤ r.length) (h : cmn bf (bf.take x.toNat ++ r.take y.toNat) = x.toNat) :
    recB bf (bf.take x.toNat ++ r.take y.toNat) = x :: y :: r.take y.toNat := by
  unfold recB
  have e : (bf.take x.toNat ++ r.take y.toNat).length - x.toNat = y.toNat := by rw [List.length_append, List.length_take, List.length_take]; omega
  have e2 : (bf.take x.toNat ++ r.take y.toNat).drop x.toNat = r.take y.toNat := by
    rw [List.drop_append_of_le_length (by rw [List.length_take]; omega), List.drop_eq_nil_of_le (by rw [List.length_take]; omega)]; rfl
  rw [h, e, e2, ofNat_back, ofNat_back]
theorem uk_some : ∀ (n c : Nat) (bf b : List UInt8) (l : List (List UInt8)), c ≤ 300 → uk n c bf b = some l → un n bf b = some l ∧ pk bf l = some b ∧ small l ∧ c + l.length ≤ 300
  | 0, c, bf, b, l, _, h => by simp [uk] at h
  | n + 1, c, bf, [], l, hc, h => by
    simp only [uk, Option.some.injEq] at h
    subst h
    exact ⟨rfl, rfl, fun k hk => absurd hk (by simp), hc⟩
  | n + 1, c, bf, [z], l, _, h => by simp [uk] at h
  | n + 1, c, bf, x :: y :: r, l, hc, h => by
    simp only [uk] at h
    by_cases h1 : bf.length < x.toNat ∨ r.length < y.toNat
    · rw [if_pos h1] at h; cases h
    · rw [if_neg h1] at h
      split at h
      · cases h
      · rename_i h2
        have a1 : ¬ Lib.compareBytes (bf.take x.toNat ++ r.take y.toNat) bf < 0 := fun hh => h2 (Or.inl hh)
        have a2 : (bf.take x.toNat ++ r.take y.toNat).length ≤ 100 := Nat.le_of_not_lt fun hh => h2 (Or.inr (Or.inl hh))
        have a3 : cmn bf (bf.take x.toNat ++ r.take y.toNat) = x.toNat := Classical.byContradiction fun hh => h2 (Or.inr (Or.inr (Or.inl hh)))
        have a4 : c ≠ 300 := fun hh => h2 (Or.inr (Or.inr (Or.inr hh)))
        cases hu : uk n (c + 1) (bf.take x.toNat ++ r.take y.toNat) (r.drop y.toNat) with
        | none => rw [hu] at h; cases h
        | some l' =>
          rw [hu] at h
          obtain rfl := Option.some.inj h
          obtain ⟨i1, i2, i3, i4⟩ := uk_some n (c + 1) _ _ l' (by omega) hu
          refine ⟨?_, ?_, ?_, by simp only [List.length_cons]; omega⟩
          · simp only [un]; rw [if_neg h1, i1]; rfl
          · unfold pk
            rw [if_neg a1, i2, rec_of (by omega) (by omega) a3]
            simp
          · intro k hk
            rcases List.mem_cons.1 hk with rfl | hk
            · exact a2
            · exact i3 k hk
theorem uk_of : ∀ (n c : Nat) (bf b : List UInt8) (l : List (List UInt8)), un n bf b = some l → pk bf l = some b → small l → c + l.length ≤ 300 → uk n c bf b = some l
  | 0, c, bf, b, l, h, _, _, _ => by simp [un] at h
  | n + 1, c, bf, [], l, h, _, _, _ => by simp only [un] at h; simp only [uk]; exact h
  | n + 1, c, bf, [z], l, h, _, _, _ => by simp [un] at h
  | n + 1, c, bf, x :: y :: r, l, h, hp, hs, hc => by
    simp only [un] at h
    by_cases h1 : bf.length < x.toNat ∨ r.length < y.toNat
    · rw [if_pos h1] at h; cases h
    · rw [if_neg h1] at h
      cases hu : un n (bf.take x.toNat ++ r.take y.toNat) (r.drop y.toNat) with
      | none => rw [hu] at h; cases h
      | some l' =>
        rw [hu] at h
        obtain rfl := Option.some.inj h
        have a2 := hs _ List.mem_cons_self
        unfold pk at hp
        split at hp
        · cases hp
        · rename_i a1
          cases ho : pk (bf.take x.toNat ++ r.take y.toNat) l' with
          | none => rw [ho] at hp; cases hp
          | some o =>
            rw [ho] at hp
            have hp' := Option.some.inj hp
            simp only [recB, List.cons_append] at hp'
            have q1 := (List.cons.inj hp').1
            have q2 := (List.cons.inj (List.cons.inj hp').2).1
            have q3 := (List.cons.inj (List.cons.inj hp').2).2
            have hle := cmn_le bf (bf.take x.toNat ++ r.take y.toNat)
            have a3 : cmn bf (bf.take x.toNat ++ r.take y.toNat) = x.toNat := by
              have := congrArg UInt8.toNat q1
              rw [ofNat_toNat _ (by omega)] at this
              exact this
            have hl : (bf.take x.toNat ++ r.take y.toNat).length = x.toNat + y.toNat := by rw [List.length_append, List.length_take, List.length_take]; omega
            have e2 : (bf.take x.toNat ++ r.take y.toNat).drop x.toNat = r.take y.toNat := by
              rw [List.drop_append_of_le_length (by rw [List.length_take]; omega), List.drop_eq_nil_of_le (by rw [List.length_take]; omega)]; rfl
            rw [a3, e2] at q3
            have q4 : o = r.drop y.toNat := by
              have : r.take y.toNat ++ o = r.take y.toNat ++ r.drop y.toNat := by rw [q3, List.take_append_drop]
              exact List.append_cancel_left this
            subst q4
            have := uk_of n (c + 1) _ _ l' hu ho (fun k hk => hs k (List.mem_cons_of_mem _ hk)) (by simp only [List.length_cons] at hc; omega)
            simp only [uk]
            rw [if_neg h1, if_neg, this]
            · rfl
            · rintro (hh | hh | hh | hh)
              · exact a1 hh
              · omega
              · exact hh a3
              · simp only [List.length_cons] at hc; omega
theorem un_pk : ∀ (l : List (List UInt8)) (bf a : List UInt8) (n : Nat), pk bf l = some a → small l → a.length < n → un n bf a = some l
  | [], bf, a, n, h, _, hn => by
    obtain ⟨n, rfl⟩ : ∃ m, n = m + 1 := ⟨n - 1, by omega⟩
    simp only [pk, Option.some.injEq] at h
    subst h
    rfl
  | k :: r, bf, a, n, h, hs, hn => by
    obtain ⟨n, rfl⟩ : ∃ m, n = m + 1 := ⟨n - 1, by omega⟩
    unfold pk at h
    split at h
    · cases h
    · cases ho : pk k r with
      | none => rw [ho] at h; cases h
      | some o =>
        rw [ho] at h
        obtain rfl := Option.some.inj h
        have hk := hs k List.mem_cons_self
        have hle := cmn_le bf k
        have e1 : (UInt8.ofNat (cmn bf k)).toNat = cmn bf k := ofNat_toNat _ (by omega)
        have e2 : (UInt8.ofNat (k.length - cmn bf k)).toNat = k.length - cmn bf k := ofNat_toNat _ (by omega)
        have e3 : (k.drop (cmn bf k)).length = k.length - cmn bf k := List.length_drop
        simp only [recB, List.cons_append, un]
        simp only [recB, List.cons_append, List.length_cons, List.length_append] at hn
        rw [e1, e2, if_neg (by rw [List.length_append]; omega), List.take_append_of_le_length (by omega), List.take_of_length_le (l := k.drop (cmn bf k)) (by omega), cmn_take, List.take_append_drop, List.drop_append_of_le_length (by omega), show List.drop (k.length - cmn bf k) (k.drop (cmn bf k)) = [] from List.drop_eq_nil_of_le (by omega), List.nil_append,
          un_pk r k o n ho (fun q hq => hs q (List.mem_cons_of_mem _ hq)) (by omega)]
        rfl
end Go.Proofs.YtnkejhfbkgfedaaDoor.L1
