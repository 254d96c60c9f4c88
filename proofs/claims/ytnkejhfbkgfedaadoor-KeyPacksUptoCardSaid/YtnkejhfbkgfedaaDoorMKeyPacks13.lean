-- Written by a program of this session (wip/merge.py): the texts of this claim, joined.
import Derived.Test.YtnkejhfbkgfedaaDoorMKeyPacks0
import Derived.Test.YtnkejhfbkgfedaaDoorMKeyPacks1
import Derived.Test.YtnkejhfbkgfedaaDoorMKeyPacks2
import Derived.Test.YtnkejhfbkgfedaaDoorMKeyPacks3
import Derived.Test.YtnkejhfbkgfedaaDoorMKeyPacks12
namespace Go.Proofs.YtnkejhfbkgfedaaDoor.PA
end Go.Proofs.YtnkejhfbkgfedaaDoor.PA
namespace Go.Proofs.YtnkejhfbkgfedaaDoor.PB
end Go.Proofs.YtnkejhfbkgfedaaDoor.PB
namespace Go.Proofs.YtnkejhfbkgfedaaDoor.PC
end Go.Proofs.YtnkejhfbkgfedaaDoor.PC
namespace Go.Proofs.YtnkejhfbkgfedaaDoor.H1
end Go.Proofs.YtnkejhfbkgfedaaDoor.H1
namespace Go.Proofs.YtnkejhfbkgfedaaDoor.L1
end Go.Proofs.YtnkejhfbkgfedaaDoor.L1
namespace Go.Proofs.YtnkejhfbkgfedaaDoor.PC
open Go.RowKit Go.Proofs.YtnkejhfbkgfedaaDoorW.PrintWords Go.Proofs.YtnkejhfbkgfedaaDoorW.PrintLast Go.Proofs.YtnkejhfbkgfedaaDoorW.PrintMore Go.Proofs.YtnkejhfbkgfedaaDoor.PA Go.Proofs.YtnkejhfbkgfedaaDoor.H1 Go.Proofs.YtnkejhfbkgfedaaDoor.PB
attribute [local go_sem] max2_int min2_int max_two min_two max_three min_three max_four min_four   -- for this text's walks alone
set_option linter.unusedVariables false
set_option linter.unusedSimpArgs false
mutual
def key_Unpack.l0 : Nat → List Int → List ByteArray → ByteArray → Option (List ByteArray × Int)
 | 0, _, _, _ => none
 | k + 1, x0, x4, x5 => if (x0.length : Int) > 0 then (if (x0.length : Int) < 2 then (key_Unpack.j1 k x0 x4 x5 true) else (if 0 < (x0.length : Int) then (if (wrap64 (rd x0 0)) > (x5.size : Int) then (key_Unpack.j1 k x0 x4 x5 true) else (if 1 < (x0.length : Int) then (key_Unpack.j1 k x0 x4 x5 (decide ((x0.length : Int) < (wrap64 (2 + (wrap64 (rd x0 1))))))) else (none))) else (none))) else (some (x4, 0))
def key_Unpack.j1 : Nat → List Int → List ByteArray → ByteArray → Bool → Option (List ByteArray × Int)
 | 0, _, _, _, _ => none
 | k + 1, x0, x4, x5, x32 => if x32 = true then (some (([] : List ByteArray), 11)) else (if 1 < (x0.length : Int) then (if 0 < (x0.length : Int) then (if 0 ≤ (rd x0 0) then (if (rd x0 0) ≤ (x5.size : Int) then (if 2 ≤ (wrap64 (2 + (wrap64 (rd x0 1)))) then (if (wrap64 (2 + (wrap64 (rd x0 1)))) ≤ (x0.length : Int) then ((some ((x0.take ((wrap64 (2 + (wrap64 (rd x0 1)))) : Int).toNat).drop 2 : List Int)).bind fun y167 => (if (x5.extract 0 ((rd x0 0) : Int).toNat).size + (strOfNums y167).size ≤ 9223372036854775807 then (if (Op.bytesLess (((x5.extract 0 ((rd x0 0) : Int).toNat) ++ (strOfNums y167)).toList) x5.toList) = true then (some (([] : List ByteArray), 11)) else (if (((x5.extract 0 ((rd x0 0) : Int).toNat) ++ (strOfNums y167)).size : Int) > 100 then (some (([] : List ByteArray), 11)) else ((key_common.f k x5 ((x5.extract 0 ((rd x0 0) : Int).toNat) ++ (strOfNums y167))).bind fun t172 => (if t172 = (wrap64 (rd x0 0)) then (if (x4.length : Int) = 300 then (some (([] : List ByteArray), 11)) else (if x4.length < 8796093022208 then (if 0 ≤ (wrap64 (2 + (wrap64 (rd x0 1)))) then (key_Unpack.l0 k (x0.drop ((wrap64 (2 + (wrap64 (rd x0 1)))) : Int).toNat) (x4 ++ [(x5.extract 0 ((rd x0 0) : Int).toNat) ++ (strOfNums y167)]) ((x5.extract 0 ((rd x0 0) : Int).toNat) ++ (strOfNums y167))) else (none)) else (none))) else (some (([] : List ByteArray), 11)))))) else (none))) else (none)) else (none)) else (none)) else (none)) else (none)) else (none))
end
def key_Unpack.f (k : Nat) (l0 : List Int) : Option (List ByteArray × Int) := key_Unpack.l0 k l0 ([] : List ByteArray) (⟨#[]⟩ : ByteArray)
set_option maxHeartbeats 8000000 in
set_option maxRecDepth 100000 in
theorem key_Unpack.calls (k : Nat) (P0_ : Nat → Prop) (A0 : Option Addr) (c0 : Nat) (l0 : List Int) (r1 : List ByteArray) (r2 : Int) (w : World) (hs0 : Kd.V (Kd.int .u8) 5 w w.heap.size (fun k_ => P0_ k_) (.slice A0 l0.length c0) l0) (h : key_Unpack.f k l0 = some (r1, r2)) :
  Calls Tryd.prog 42 #[.slice A0 l0.length c0] w fun e w' => ∃ v0_ : Value, e = .returned (.tuple #[v0_, .int .i64 r2]) ∧ Kd.R Kd.string 9 w' w.heap.size (fun k_ => (w.heap.size ≤ k_)) v0_ r1 ∧ Below w.heap.size w w' := by
 have HO0 := Aside0.mk (show Kd.V (Kd.int .u8) 5 w w.heap.size (fun k_ => (P0_ k_ ∨ w.heap.size ≤ k_)) (.slice A0 l0.length c0) l0 from Kd.V_mono hs0 (fun k_ hk => .inl hk))
 have HB := Aside0.mk (Below.refl w.heap.size w)
 have H : (key_Unpack.l0 k l0 ([] : List ByteArray) (⟨#[]⟩ : ByteArray)) = some (r1, r2) := h
 clear h
 have H' := Aside0.mk H
 clear H
 go_enter Tryd.func42, Tryd.ntmps42
 go_wp2
 repeat (go_quiet (fail); try go_wp2)
 go_loopg [0, 4, 5] k (fun kq v0 v4 v5 w' => ∃ (x0_1 : List Int) (x4_1 : List ByteArray) (x5_1 : ByteArray), v5 = .string x5_1 ∧ Aside0 (key_Unpack.l0 kq x0_1 x4_1 x5_1 = some (r1, r2)) ∧ Aside0 (kq ≤ k) ∧ Aside0 (Kd.V (Kd.int .u8) 5 w' w.heap.size (fun k_ => (P0_ k_ ∨ w.heap.size ≤ k_) ∧ some k_ ≠ (v4 : Value).ownBlock) v0 x0_1) ∧ Aside0 (Kd.R Kd.string 9 w' w.heap.size (fun k_ => (w.heap.size ≤ k_)) v4 x4_1) ∧ Aside0 (Below w.heap.size w w'))
 case atStart => exact ⟨(l0), (([] : List ByteArray)), ((⟨#[]⟩ : ByteArray)), (by first | rfl | (simp; done) | (simp [*]; done)), H', ⟨Nat.le_refl _⟩, ⟨by (with_reducible repeat (first | apply Kd.V_alloc | apply Kd.V_drewN | apply Kd.V_drew)); exact Kd.V_mono HO0.out (fun _ hk => ⟨hk, (by simp [Value.ownBlock])⟩)⟩, ⟨by first | exact Kd.R_nil _ _ _ _ _ | exact Kd.N_nil _ _ _ _ _ | exact Kd.V_nil _ _ _ _ _ | exact Kd.Q_nil _ _ _ _ _ | exact Kd.S_nil _ _ _ _ _⟩, ⟨by repeat (first | (with_reducible first | exact HB.out | apply below_alloc | apply pw_below_drewN | apply below_drew1) | exact HB.out)⟩⟩
 case round =>
  clear H'
  obtain ⟨x0_1, x4_1, x5_1, rfl, HA, HK1, HO_0, HO_4, HB⟩ := hrel
  cases gk with
  | zero => exact absurd HA.out (by simp [key_Unpack.l0])
  | succ k1 =>
   have H := HA.out
   clear HA
   simp only [key_Unpack.l0] at H
   by_cases c2 : (x0_1.length : Int) > 0
   ·rw [if_pos c2] at H
    have c2b0 : decide (0 < (x0_1.length : Int)) = true := decide_eq_true c2
    have c2b1 : decide (0 < x0_1.length) = true := decide_eq_true (by omega)
    clear c2
    have HC3 := Aside0.mk H
    clear H
    obtain ⟨Ao4, co4, eo4⟩ := Kd.V_slice HO_0.out
    subst eo4
    go_upto_region 4 with (fail)
    repeat (go_quiet (fail); go_upto_region 4 with (fail))
    go_cut [32] (fun v32 wc => ∃ (kq : Nat) (x32_2 : Bool), v32 = .bool x32_2 ∧ Aside0 (key_Unpack.j1 kq x0_1 x4_1 x5_1 x32_2 = some (r1, r2)) ∧ Aside0 (kq ≤ k1) ∧ Aside0 (Kd.V (Kd.int .u8) 5 wc w.heap.size (fun k_ => (P0_ k_ ∨ w.heap.size ≤ k_) ∧ some k_ ≠ (u4 : Value).ownBlock) (.slice Ao4 x0_1.length co4) x0_1) ∧ Aside0 (Kd.R Kd.string 9 wc w.heap.size (fun k_ => (w.heap.size ≤ k_)) u4 x4_1) ∧ Aside0 (Below w.heap.size w wc))
    case first =>
     have H := HC3.out
     clear HC3
     by_cases c5 : (x0_1.length : Int) < 2
     ·rw [if_pos c5] at H
      have c5b0 : decide ((x0_1.length : Int) < 2) = true := decide_eq_true c5
      have c5b1 : decide (x0_1.length < 2) = true := decide_eq_true (by omega)
      clear c5
      (first | rw [c5b0] | (simp only [i64_w, i32_w]; rw [c5b0]) | skip)
      have H' := Aside0.mk H
      clear H
      go_wp2
      repeat (go_quiet (fail); try go_wp2)
      go_meet
      case rel => exact ⟨_, (true), (by first | rfl | (simp; done) | (simp [*]; done)), H', ⟨by have := HK1.out; first | omega | exact Nat.le_refl _⟩, ⟨by (with_reducible repeat (first | apply Kd.V_alloc | apply Kd.V_drewN | apply Kd.V_drew)); exact HO_0.out⟩, ⟨by (with_reducible repeat (first | apply Kd.R_alloc | apply Kd.R_drewN | apply Kd.R_drew)); exact HO_4.out⟩, ⟨by repeat (first | (with_reducible first | exact HB.out | apply below_alloc | apply pw_below_drewN | apply below_drew1) | exact HB.out)⟩⟩
     ·rw [if_neg c5] at H
      have c5b0 : decide ((x0_1.length : Int) < 2) = false := decide_eq_false c5
      have c5b1 : decide (x0_1.length < 2) = false := decide_eq_false (by omega)
      clear c5
      (first | rw [c5b0] | (simp only [i64_w, i32_w]; rw [c5b0]) | skip)
      by_cases c6 : 0 < (x0_1.length : Int)
      ·rw [if_pos c6] at H
       have c6b0 : decide (0 < (x0_1.length : Int)) = true := decide_eq_true c6
       have c6b1 : decide (0 < x0_1.length) = true := decide_eq_true (by omega)
       clear c6
       by_cases c7 : (wrap64 (rd x0_1 0)) > (x5_1.size : Int)
       ·rw [if_pos c7] at H
        have c7b0 : decide ((x5_1.size : Int) < (wrap64 (rd x0_1 0))) = true := decide_eq_true c7
        clear c7
        have H' := Aside0.mk H
        clear H
        have p163 : 0 ≤ (0 : Int) := (by omega)
        have q163 : 0 < (x0_1.length : Int) := of_decide_eq_true (by first | (with_reducible assumption) | assumption)
        obtain ⟨ad163, e163, hx163_0⟩ := Kd.at_int (Kd.V_reads' HO_0.out).2.2 0 p163 q163
        cases e163
        have qi163 : (0 < x0_1.length) = True := eq_true (by omega)
        (try rw [show ((0 : Int)).toNat = 0 from rfl] at hx163_0)
        (try rw [Addr.add_zero'] at hx163_0)
        replace p163 := eq_true p163
        replace q163 := eq_true q163
        go_wp2
        repeat (go_quiet (fail); try go_wp2)
        go_meet
        case rel => exact ⟨_, (true), (by first | rfl | (simp; done) | (simp [*]; done)), H', ⟨by have := HK1.out; first | omega | exact Nat.le_refl _⟩, ⟨by (with_reducible repeat (first | apply Kd.V_alloc | apply Kd.V_drewN | apply Kd.V_drew)); exact HO_0.out⟩, ⟨by (with_reducible repeat (first | apply Kd.R_alloc | apply Kd.R_drewN | apply Kd.R_drew)); exact HO_4.out⟩, ⟨by repeat (first | (with_reducible first | exact HB.out | apply below_alloc | apply pw_below_drewN | apply below_drew1) | exact HB.out)⟩⟩
       ·rw [if_neg c7] at H
        have c7b0 : decide ((x5_1.size : Int) < (wrap64 (rd x0_1 0))) = false := decide_eq_false c7
        clear c7
        by_cases c8 : 1 < (x0_1.length : Int)
        ·rw [if_pos c8] at H
         have c8b0 : decide (1 < (x0_1.length : Int)) = true := decide_eq_true c8
         have c8b1 : decide (1 < x0_1.length) = true := decide_eq_true (by omega)
         clear c8
         have H' := Aside0.mk H
         clear H
         have p163 : 0 ≤ (0 : Int) := (by omega)
         have q163 : 0 < (x0_1.length : Int) := of_decide_eq_true (by first | (with_reducible assumption) | assumption)
         obtain ⟨ad163, e163, hx163_0⟩ := Kd.at_int (Kd.V_reads' HO_0.out).2.2 0 p163 q163
         cases e163
         have qi163 : (0 < x0_1.length) = True := eq_true (by omega)
         (try rw [show ((0 : Int)).toNat = 0 from rfl] at hx163_0)
         (try rw [Addr.add_zero'] at hx163_0)
         replace p163 := eq_true p163
         replace q163 := eq_true q163
         have p164 : 0 ≤ (1 : Int) := (by omega)
         have q164 : 1 < (x0_1.length : Int) := of_decide_eq_true (by first | (with_reducible assumption) | assumption)
         obtain ⟨ad164, e164, hx164_0⟩ := Kd.at_int (Kd.V_reads' HO_0.out).2.2 1 p164 q164
         obtain rfl : ad163 = ad164 := (by injection e164)
         (try simp only [show (1 : Int).toNat = 1 from rfl, Nat.reduceMul, Nat.reduceEqDiff, Go.Addr.add, ↓reduceIte] at hx164_0)
         have qi164 : (1 < x0_1.length) = True := eq_true (by omega)
         (try rw [show ((1 : Int)).toNat = 1 from rfl] at hx164_0)
         replace p164 := eq_true p164
         replace q164 := eq_true q164
         go_wp2
         repeat (go_quiet (fail); try go_wp2)
         go_meet
         case rel => exact ⟨_, (decide ((x0_1.length : Int) < (wrap64 (2 + (wrap64 (rd x0_1 1)))))), (by first | rfl | (simp; done) | (simp [*]; done)), H', ⟨by have := HK1.out; first | omega | exact Nat.le_refl _⟩, ⟨by (with_reducible repeat (first | apply Kd.V_alloc | apply Kd.V_drewN | apply Kd.V_drew)); exact HO_0.out⟩, ⟨by (with_reducible repeat (first | apply Kd.R_alloc | apply Kd.R_drewN | apply Kd.R_drew)); exact HO_4.out⟩, ⟨by repeat (first | (with_reducible first | exact HB.out | apply below_alloc | apply pw_below_drewN | apply below_drew1) | exact HB.out)⟩⟩
        ·rw [if_neg c8] at H
         exact absurd H (by simp)
      ·rw [if_neg c6] at H
       exact absurd H (by simp)
    case rest =>
     clear HC3
     try clear p1; try clear q1; try clear hx1; try clear qi1; try clear c2; try clear c2b0; try clear c2b1; try clear p2; try clear c4; try clear c5; try clear c5b0; try clear c5b1; try clear c6; try clear c6b0; try clear c6b1; try clear p6; try clear c7; try clear c7b0; try clear c8; try clear c8b0; try clear c8b1; try clear hx163_0; try clear hx164_0; try clear p163; try clear p164; try clear q163; try clear q164
     obtain ⟨kq, x32_2, rfl, HA, HJ2, HO_0, HO_4, HB⟩ := hcut
     cases kq with
     | zero => exact absurd HA.out (by simp [key_Unpack.j1])
     | succ kj2 =>
      have H := HA.out
      clear HA
      simp only [key_Unpack.j1] at H
      by_cases c9 : x32_2 = true
      ·subst c9
       have H1 : (some (([] : List ByteArray), 11)) = some (r1, r2) := by rw [if_pos rfl] at H; exact H
       clear H
       have H := H1
       clear H1
       simp only [Option.some.injEq, Prod.mk.injEq] at H
       obtain ⟨rfl, rfl⟩ := H
       go_wp2
       repeat (go_quiet (fail); try go_wp2)
       go_ret2
       exact ⟨_, by first | rfl | (simp [errW_none, errW_some] <;> rfl) | (simp [*, errW_none, errW_some] <;> rfl), by first | exact Kd.R_nil _ _ _ _ _ | exact Kd.N_nil _ _ _ _ _ | exact Kd.V_nil _ _ _ _ _ | exact Kd.Q_nil _ _ _ _ _ | exact Kd.S_nil _ _ _ _ _, by repeat (first | (with_reducible first | exact HB.out | apply below_alloc | apply pw_below_drewN | apply below_drew1) | exact HB.out)⟩
      ·replace c9 := Bool.eq_false_iff.mpr c9
       subst c9
       have H1 : (if 1 < (x0_1.length : Int) then (if 0 < (x0_1.length : Int) then (if 0 ≤ (rd x0_1 0) then (if (rd x0_1 0) ≤ (x5_1.size : Int) then (if 2 ≤ (wrap64 (2 + (wrap64 (rd x0_1 1)))) then (if (wrap64 (2 + (wrap64 (rd x0_1 1)))) ≤ (x0_1.length : Int) then ((some ((x0_1.take ((wrap64 (2 + (wrap64 (rd x0_1 1)))) : Int).toNat).drop 2 : List Int)).bind fun y167 => (if (x5_1.extract 0 ((rd x0_1 0) : Int).toNat).size + (strOfNums y167).size ≤ 9223372036854775807 then (if (Op.bytesLess (((x5_1.extract 0 ((rd x0_1 0) : Int).toNat) ++ (strOfNums y167)).toList) x5_1.toList) = true then (some (([] : List ByteArray), 11)) else (if (((x5_1.extract 0 ((rd x0_1 0) : Int).toNat) ++ (strOfNums y167)).size : Int) > 100 then (some (([] : List ByteArray), 11)) else ((key_common.f kj2 x5_1 ((x5_1.extract 0 ((rd x0_1 0) : Int).toNat) ++ (strOfNums y167))).bind fun t172 => (if t172 = (wrap64 (rd x0_1 0)) then (if (x4_1.length : Int) = 300 then (some (([] : List ByteArray), 11)) else (if x4_1.length < 8796093022208 then (if 0 ≤ (wrap64 (2 + (wrap64 (rd x0_1 1)))) then (key_Unpack.l0 kj2 (x0_1.drop ((wrap64 (2 + (wrap64 (rd x0_1 1)))) : Int).toNat) (x4_1 ++ [(x5_1.extract 0 ((rd x0_1 0) : Int).toNat) ++ (strOfNums y167)]) ((x5_1.extract 0 ((rd x0_1 0) : Int).toNat) ++ (strOfNums y167))) else (none)) else (none))) else (some (([] : List ByteArray), 11)))))) else (none))) else (none)) else (none)) else (none)) else (none)) else (none)) else (none)) = some (r1, r2) := by rw [if_neg (show ¬ (false = true) by decide)] at H; exact H
       clear H
       have H := H1
       clear H1
       by_cases c10 : 1 < (x0_1.length : Int)
       ·rw [if_pos c10] at H
        have c10b0 : decide (1 < (x0_1.length : Int)) = true := decide_eq_true c10
        have c10b1 : decide (1 < x0_1.length) = true := decide_eq_true (by omega)
        clear c10
        by_cases c11 : 0 < (x0_1.length : Int)
        ·rw [if_pos c11] at H
         have c11b0 : decide (0 < (x0_1.length : Int)) = true := decide_eq_true c11
         have c11b1 : decide (0 < x0_1.length) = true := decide_eq_true (by omega)
         clear c11
         by_cases c12 : 0 ≤ (rd x0_1 0)
         ·rw [if_pos c12] at H
          have c12b0 := eq_true c12
          have c12b1 : decide (0 ≤ (rd x0_1 0)) = true := decide_eq_true c12
          clear c12
          by_cases c13 : (rd x0_1 0) ≤ (x5_1.size : Int)
          ·rw [if_pos c13] at H
           have c13b0 := eq_true c13
           have c13b1 : decide ((rd x0_1 0) ≤ (x5_1.size : Int)) = true := decide_eq_true c13
           clear c13
           by_cases c14 : 2 ≤ (wrap64 (2 + (wrap64 (rd x0_1 1))))
           ·rw [if_pos c14] at H
            have c14b0 := eq_true c14
            have c14b1 : decide (2 ≤ (wrap64 (2 + (wrap64 (rd x0_1 1))))) = true := decide_eq_true c14
            by_cases c15 : (wrap64 (2 + (wrap64 (rd x0_1 1)))) ≤ (x0_1.length : Int)
            ·rw [if_pos c15] at H
             have c15b0 := eq_true c15
             have c15b1 : decide ((wrap64 (2 + (wrap64 (rd x0_1 1)))) ≤ (x0_1.length : Int)) = true := decide_eq_true c15
             obtain ⟨y167, hy167⟩ : ∃ y_ : List Int, y_ = ((x0_1.take ((wrap64 (2 + (wrap64 (rd x0_1 1)))) : Int).toNat).drop 2) := ⟨_, rfl⟩
             replace H : (if (x5_1.extract 0 ((rd x0_1 0) : Int).toNat).size + (strOfNums y167).size ≤ 9223372036854775807 then (if (Op.bytesLess (((x5_1.extract 0 ((rd x0_1 0) : Int).toNat) ++ (strOfNums y167)).toList) x5_1.toList) = true then (some (([] : List ByteArray), 11)) else (if (((x5_1.extract 0 ((rd x0_1 0) : Int).toNat) ++ (strOfNums y167)).size : Int) > 100 then (some (([] : List ByteArray), 11)) else ((key_common.f kj2 x5_1 ((x5_1.extract 0 ((rd x0_1 0) : Int).toNat) ++ (strOfNums y167))).bind fun t172 => (if t172 = (wrap64 (rd x0_1 0)) then (if (x4_1.length : Int) = 300 then (some (([] : List ByteArray), 11)) else (if x4_1.length < 8796093022208 then (if 0 ≤ (wrap64 (2 + (wrap64 (rd x0_1 1)))) then (key_Unpack.l0 kj2 (x0_1.drop ((wrap64 (2 + (wrap64 (rd x0_1 1)))) : Int).toNat) (x4_1 ++ [(x5_1.extract 0 ((rd x0_1 0) : Int).toNat) ++ (strOfNums y167)]) ((x5_1.extract 0 ((rd x0_1 0) : Int).toNat) ++ (strOfNums y167))) else (none)) else (none))) else (some (([] : List ByteArray), 11)))))) else (none)) = some (r1, r2) := by first | (rw [hy167]; with_reducible exact H) | (have H2_ := (Option.bind_some _ _).symm.trans H; rw [hy167]; with_reducible exact H2_) | (have H2_ := (Option.bind_some _ _).symm.trans H; with_reducible exact H2_) | with_reducible exact H | (rw [hy167]; exact H) | exact H
             have Ny167 := Aside0.mk hy167
             clear hy167
             by_cases c16 : (x5_1.extract 0 ((rd x0_1 0) : Int).toNat).size + (strOfNums y167).size ≤ 9223372036854775807
             ·rw [if_pos c16] at H
              have c16b0 := eq_true c16
              have c16b1 : decide ((x5_1.extract 0 ((rd x0_1 0) : Int).toNat).size + (strOfNums y167).size ≤ 9223372036854775807) = true := decide_eq_true c16
              try have c16b2 : (9223372036854775807 < (x5_1.extract 0 ((rd x0_1 0) : Int).toNat).size + (strOfNums y167).size) = False := eq_false (Nat.not_lt.2 c16)
              try have c16b3 : (9223372036854775807 < (rd x0_1 0).toNat + (strOfNums y167).size) = False := eq_false (by have z := c16; simp only [eq_iff_iff, iff_true, iff_false, Nat.not_lt] at *; simp only [ByteArray.size_append, ByteArray.size_extract] at z; omega)
              by_cases c17 : (Op.bytesLess (((x5_1.extract 0 ((rd x0_1 0) : Int).toNat) ++ (strOfNums y167)).toList) x5_1.toList) = true
              ·rw [if_pos c17] at H
               have c17b0 : (Op.bytesLess (((x5_1.extract 0 ((rd x0_1 0) : Int).toNat) ++ (strOfNums y167)).toList) x5_1.toList) = true := c17
               have c17b9 : (!(Op.bytesLess (((x5_1.extract 0 ((rd x0_1 0) : Int).toNat) ++ (strOfNums y167)).toList) x5_1.toList)) = false := by rw [c17b0]; rfl
               clear c17
               simp only [Option.some.injEq, Prod.mk.injEq] at H
               obtain ⟨rfl, rfl⟩ := H
               have p165 : 0 ≤ (1 : Int) := (by omega)
               have q165 : 1 < (x0_1.length : Int) := of_decide_eq_true (by first | (with_reducible assumption) | assumption)
               obtain ⟨ad165, e165, hx165_0⟩ := Kd.at_int (Kd.V_reads' HO_0.out).2.2 1 p165 q165
               cases e165
               (try simp only [show (1 : Int).toNat = 1 from rfl, Nat.reduceMul, Nat.reduceEqDiff, Go.Addr.add, ↓reduceIte] at hx165_0)
               have qi165 : (1 < x0_1.length) = True := eq_true (by omega)
               (try rw [show ((1 : Int)).toNat = 1 from rfl] at hx165_0)
               replace p165 := eq_true p165
               replace q165 := eq_true q165
               have p166 : 0 ≤ (0 : Int) := (by omega)
               have q166 : 0 < (x0_1.length : Int) := of_decide_eq_true (by first | (with_reducible assumption) | assumption)
               obtain ⟨ad166, e166, hx166_0⟩ := Kd.at_int (Kd.V_reads' HO_0.out).2.2 0 p166 q166
               obtain rfl : ad165 = ad166 := (by injection e166)
               have qi166 : (0 < x0_1.length) = True := eq_true (by omega)
               (try rw [show ((0 : Int)).toNat = 0 from rfl] at hx166_0)
               (try rw [Addr.add_zero'] at hx166_0)
               replace p166 := eq_true p166
               replace q166 := eq_true q166
               have q18 : ((wrap64 (2 + (wrap64 (rd x0_1 1)))) : Int) ≤ ((x0_1.length : Int) : Int) := of_decide_eq_true (by first | (with_reducible assumption) | assumption)
               obtain ⟨i018, hi018, _, hsz18, _⟩ := info_parts info5
               have hroom18 : x0_1.length ≤ co4 := (Kd.V_reads' HO_0.out).2.1
               have hC18 : Kd.F (Kd.int .u8) _ _ (some ad165) x0_1.length x0_1 := (Kd.V_at (base := w.heap.size) HO_0.out).2.2
               have ql18 : (2 : Int) ≤ ((wrap64 (2 + (wrap64 (rd x0_1 1)))) : Int) := of_decide_eq_true (by first | (with_reducible assumption) | assumption)
               have hcut18 := cut_mid (P := Tryd.prog) 62 5 .i64 .i64 Tryd.underlying62 hi018 1 hsz18 (some ad165) x0_1.length co4 2 (wrap64 (2 + (wrap64 (rd x0_1 1)))) (by omega) ql18 q18 hroom18
               have hr18 := Kd.F_mid (lo := (2 : Int).toNat) (hi := ((wrap64 (2 + (wrap64 (rd x0_1 1)))) : Int).toNat) (c := co4) hC18 (by omega) (by omega) hroom18
               obtain ⟨A18, hA18⟩ : ∃ A1, A1 = (if co4 = (2 : Int).toNat then (some ad165) else ((some ad165) : Option Addr).map (·.add ((2 : Int).toNat * 1))) := ⟨_, rfl⟩
               obtain ⟨c18, hc18⟩ : ∃ c1, c1 = co4 - (2 : Int).toNat := ⟨_, rfl⟩
               have hy18 : y167.length = ((wrap64 (2 + (wrap64 (rd x0_1 1)))) : Int).toNat - (2 : Int).toNat := (by rw [Ny167.out, List.length_drop, List.length_take] <;> omega)
               rw [show ((x0_1).take ((wrap64 (2 + (wrap64 (rd x0_1 1)))) : Int).toNat).drop (2 : Int).toNat = y167 from Ny167.out.symm] at hr18
               replace hr18 : Kd.F (Kd.int .u8) _ _ A18 y167.length y167 := (by rw [hA18]; exact hr18)
               rw [← hy18, ← hA18, ← hc18] at hcut18
               have HO171 := Aside0.mk (show Kd.V (Kd.int .u8) 5 _ w.heap.size _ (.slice A18 y167.length c18) y167 from Kd.V_mk (by rw [hy18, hc18]; exact Nat.sub_le_sub_right (Nat.le_trans (by omega) hroom18) _) hr18)
               have HC171 := Aside0.mk (show y167.length ≤ c18 from by rw [hy18, hc18]; exact Nat.sub_le_sub_right (Nat.le_trans (by omega) hroom18) _)
               clear hr18 hC18 hroom18 hi018 hsz18 hc18
               have KY18 := Aside0.mk hy18
               have KA18 := Aside0.mk hA18
               clear hy18 hA18
               replace q18 := eq_true q18
               have hcv19 := Kf.V_string (P := Tryd.prog) Tryd.underlying62 Tryd.underlying5 Tryd.underlying9 HO171.out; have hcv19q := fun n_ => Kf.V_string (P := Tryd.prog) Tryd.underlying62 Tryd.underlying5 Tryd.underlying9 (Kd.V_drewN HO171.out n_)
               go_wp2
               repeat (go_quiet (fail); try go_wp2)
               go_ret2
               exact ⟨_, by first | rfl | (simp [errW_none, errW_some] <;> rfl) | (simp [*, errW_none, errW_some] <;> rfl), by first | exact Kd.R_nil _ _ _ _ _ | exact Kd.N_nil _ _ _ _ _ | exact Kd.V_nil _ _ _ _ _ | exact Kd.Q_nil _ _ _ _ _ | exact Kd.S_nil _ _ _ _ _, by repeat (first | (with_reducible first | exact HB.out | apply below_alloc | apply pw_below_drewN | apply below_drew1) | exact HB.out)⟩
              ·rw [if_neg c17] at H
               have c17b0 : (Op.bytesLess (((x5_1.extract 0 ((rd x0_1 0) : Int).toNat) ++ (strOfNums y167)).toList) x5_1.toList) = false := by simpa using c17
               have c17b9 : (!(Op.bytesLess (((x5_1.extract 0 ((rd x0_1 0) : Int).toNat) ++ (strOfNums y167)).toList) x5_1.toList)) = true := by rw [c17b0]; rfl
               clear c17
               by_cases c20 : (((x5_1.extract 0 ((rd x0_1 0) : Int).toNat) ++ (strOfNums y167)).size : Int) > 100
               ·rw [if_pos c20] at H
                have c20b0 : decide (100 < (((x5_1.extract 0 ((rd x0_1 0) : Int).toNat) ++ (strOfNums y167)).size : Int)) = true := decide_eq_true c20
                have c20b8 : decide (100 < max (rd x0_1 0) 0 + ((strOfNums y167).size : Int)) = true := by have h1 := of_decide_eq_true (by assumption : decide (0 ≤ rd x0_1 0) = true); have h2 := of_decide_eq_true (by assumption : decide (rd x0_1 0 ≤ (x5_1.size : Int)) = true); have h3 := of_decide_eq_true c20b0; rw [ByteArray.size_append, ByteArray.size_extract] at h3; apply decide_eq_true; omega
                have c20b1 : decide (100 < ((x5_1.extract 0 ((rd x0_1 0) : Int).toNat) ++ (strOfNums y167)).size) = true := decide_eq_true (by omega)
                clear c20
                simp only [Option.some.injEq, Prod.mk.injEq] at H
                obtain ⟨rfl, rfl⟩ := H
                have p165 : 0 ≤ (1 : Int) := (by omega)
                have q165 : 1 < (x0_1.length : Int) := of_decide_eq_true (by first | (with_reducible assumption) | assumption)
                obtain ⟨ad165, e165, hx165_0⟩ := Kd.at_int (Kd.V_reads' HO_0.out).2.2 1 p165 q165
                cases e165
                (try simp only [show (1 : Int).toNat = 1 from rfl, Nat.reduceMul, Nat.reduceEqDiff, Go.Addr.add, ↓reduceIte] at hx165_0)
                have qi165 : (1 < x0_1.length) = True := eq_true (by omega)
                (try rw [show ((1 : Int)).toNat = 1 from rfl] at hx165_0)
                replace p165 := eq_true p165
                replace q165 := eq_true q165
                have p166 : 0 ≤ (0 : Int) := (by omega)
                have q166 : 0 < (x0_1.length : Int) := of_decide_eq_true (by first | (with_reducible assumption) | assumption)
                obtain ⟨ad166, e166, hx166_0⟩ := Kd.at_int (Kd.V_reads' HO_0.out).2.2 0 p166 q166
                obtain rfl : ad165 = ad166 := (by injection e166)
                have qi166 : (0 < x0_1.length) = True := eq_true (by omega)
                (try rw [show ((0 : Int)).toNat = 0 from rfl] at hx166_0)
                (try rw [Addr.add_zero'] at hx166_0)
                replace p166 := eq_true p166
                replace q166 := eq_true q166
                have q21 : ((wrap64 (2 + (wrap64 (rd x0_1 1)))) : Int) ≤ ((x0_1.length : Int) : Int) := of_decide_eq_true (by first | (with_reducible assumption) | assumption)
                obtain ⟨i021, hi021, _, hsz21, _⟩ := info_parts info5
                have hroom21 : x0_1.length ≤ co4 := (Kd.V_reads' HO_0.out).2.1
                have hC21 : Kd.F (Kd.int .u8) _ _ (some ad165) x0_1.length x0_1 := (Kd.V_at (base := w.heap.size) HO_0.out).2.2
                have ql21 : (2 : Int) ≤ ((wrap64 (2 + (wrap64 (rd x0_1 1)))) : Int) := of_decide_eq_true (by first | (with_reducible assumption) | assumption)
                have hcut21 := cut_mid (P := Tryd.prog) 62 5 .i64 .i64 Tryd.underlying62 hi021 1 hsz21 (some ad165) x0_1.length co4 2 (wrap64 (2 + (wrap64 (rd x0_1 1)))) (by omega) ql21 q21 hroom21
                have hr21 := Kd.F_mid (lo := (2 : Int).toNat) (hi := ((wrap64 (2 + (wrap64 (rd x0_1 1)))) : Int).toNat) (c := co4) hC21 (by omega) (by omega) hroom21
                obtain ⟨A21, hA21⟩ : ∃ A1, A1 = (if co4 = (2 : Int).toNat then (some ad165) else ((some ad165) : Option Addr).map (·.add ((2 : Int).toNat * 1))) := ⟨_, rfl⟩
                obtain ⟨c21, hc21⟩ : ∃ c1, c1 = co4 - (2 : Int).toNat := ⟨_, rfl⟩
                have hy21 : y167.length = ((wrap64 (2 + (wrap64 (rd x0_1 1)))) : Int).toNat - (2 : Int).toNat := (by rw [Ny167.out, List.length_drop, List.length_take] <;> omega)
                rw [show ((x0_1).take ((wrap64 (2 + (wrap64 (rd x0_1 1)))) : Int).toNat).drop (2 : Int).toNat = y167 from Ny167.out.symm] at hr21
                replace hr21 : Kd.F (Kd.int .u8) _ _ A21 y167.length y167 := (by rw [hA21]; exact hr21)
                rw [← hy21, ← hA21, ← hc21] at hcut21
                have HO171 := Aside0.mk (show Kd.V (Kd.int .u8) 5 _ w.heap.size _ (.slice A21 y167.length c21) y167 from Kd.V_mk (by rw [hy21, hc21]; exact Nat.sub_le_sub_right (Nat.le_trans (by omega) hroom21) _) hr21)
                have HC171 := Aside0.mk (show y167.length ≤ c21 from by rw [hy21, hc21]; exact Nat.sub_le_sub_right (Nat.le_trans (by omega) hroom21) _)
                clear hr21 hC21 hroom21 hi021 hsz21 hc21
                have KY21 := Aside0.mk hy21
                have KA21 := Aside0.mk hA21
                clear hy21 hA21
                replace q21 := eq_true q21
                have hcv22 := Kf.V_string (P := Tryd.prog) Tryd.underlying62 Tryd.underlying5 Tryd.underlying9 HO171.out; have hcv22q := fun n_ => Kf.V_string (P := Tryd.prog) Tryd.underlying62 Tryd.underlying5 Tryd.underlying9 (Kd.V_drewN HO171.out n_)
                go_wp2
                repeat (go_quiet (fail); try go_wp2)
                go_ret2
                exact ⟨_, by first | rfl | (simp [errW_none, errW_some] <;> rfl) | (simp [*, errW_none, errW_some] <;> rfl), by first | exact Kd.R_nil _ _ _ _ _ | exact Kd.N_nil _ _ _ _ _ | exact Kd.V_nil _ _ _ _ _ | exact Kd.Q_nil _ _ _ _ _ | exact Kd.S_nil _ _ _ _ _, by repeat (first | (with_reducible first | exact HB.out | apply below_alloc | apply pw_below_drewN | apply below_drew1) | exact HB.out)⟩
               ·rw [if_neg c20] at H
                have c20b0 : decide (100 < (((x5_1.extract 0 ((rd x0_1 0) : Int).toNat) ++ (strOfNums y167)).size : Int)) = false := decide_eq_false c20
                have c20b8 : decide (100 < max (rd x0_1 0) 0 + ((strOfNums y167).size : Int)) = false := by have h1 := of_decide_eq_true (by assumption : decide (0 ≤ rd x0_1 0) = true); have h2 := of_decide_eq_true (by assumption : decide (rd x0_1 0 ≤ (x5_1.size : Int)) = true); have h3 := of_decide_eq_false c20b0; rw [ByteArray.size_append, ByteArray.size_extract] at h3; apply decide_eq_false; omega
                have c20b1 : decide (100 < ((x5_1.extract 0 ((rd x0_1 0) : Int).toNat) ++ (strOfNums y167)).size) = false := decide_eq_false (by omega)
                clear c20
                replace H := Option.bind_eq_some_iff.mp H
                obtain ⟨t172, A230, H⟩ := H
                replace H : (if t172 = (wrap64 (rd x0_1 0)) then (if (x4_1.length : Int) = 300 then (some (([] : List ByteArray), 11)) else (if x4_1.length < 8796093022208 then (if 0 ≤ (wrap64 (2 + (wrap64 (rd x0_1 1)))) then (key_Unpack.l0 kj2 (x0_1.drop ((wrap64 (2 + (wrap64 (rd x0_1 1)))) : Int).toNat) (x4_1 ++ [(x5_1.extract 0 ((rd x0_1 0) : Int).toNat) ++ (strOfNums y167)]) ((x5_1.extract 0 ((rd x0_1 0) : Int).toNat) ++ (strOfNums y167))) else (none)) else (none))) else (some (([] : List ByteArray), 11))) = some (r1, r2) := H
                have A23 := Aside0.mk A230
                clear A230
                by_cases c24 : t172 = (wrap64 (rd x0_1 0))
                ·rw [if_pos c24] at H
                 have c24b0 : (t172 == (wrap64 (rd x0_1 0))) = true := beq_iff_eq.mpr c24
                 have c24b0w : (t172 == Go.IntKind.i64.wrap (rd x0_1 0)) = true := by have h1 := c24b0; rw [← i64_w] at h1; exact h1
                 have c24b1 : (t172 != (wrap64 (rd x0_1 0))) = false := bne_eq_false_iff_eq.mpr c24
                 have c24b1w : (t172 != Go.IntKind.i64.wrap (rd x0_1 0)) = false := by have h1 := c24b1; rw [← i64_w] at h1; exact h1
                 clear c24
                 by_cases c25 : (x4_1.length : Int) = 300
                 ·rw [if_pos c25] at H
                  have c25b0 : ((x4_1.length : Int) == 300) = true := beq_iff_eq.mpr c25
                  have c25b1 : ((x4_1.length : Int) != 300) = false := bne_eq_false_iff_eq.mpr c25
                  clear c25
                  simp only [Option.some.injEq, Prod.mk.injEq] at H
                  obtain ⟨rfl, rfl⟩ := H
                  have p165 : 0 ≤ (1 : Int) := (by omega)
                  have q165 : 1 < (x0_1.length : Int) := of_decide_eq_true (by first | (with_reducible assumption) | assumption)
                  obtain ⟨ad165, e165, hx165_0⟩ := Kd.at_int (Kd.V_reads' HO_0.out).2.2 1 p165 q165
                  cases e165
                  (try simp only [show (1 : Int).toNat = 1 from rfl, Nat.reduceMul, Nat.reduceEqDiff, Go.Addr.add, ↓reduceIte] at hx165_0)
                  have qi165 : (1 < x0_1.length) = True := eq_true (by omega)
                  (try rw [show ((1 : Int)).toNat = 1 from rfl] at hx165_0)
                  replace p165 := eq_true p165
                  replace q165 := eq_true q165
                  have p166 : 0 ≤ (0 : Int) := (by omega)
                  have q166 : 0 < (x0_1.length : Int) := of_decide_eq_true (by first | (with_reducible assumption) | assumption)
                  obtain ⟨ad166, e166, hx166_0⟩ := Kd.at_int (Kd.V_reads' HO_0.out).2.2 0 p166 q166
                  obtain rfl : ad165 = ad166 := (by injection e166)
                  have qi166 : (0 < x0_1.length) = True := eq_true (by omega)
                  (try rw [show ((0 : Int)).toNat = 0 from rfl] at hx166_0)
                  (try rw [Addr.add_zero'] at hx166_0)
                  replace p166 := eq_true p166
                  replace q166 := eq_true q166
                  have q26 : ((wrap64 (2 + (wrap64 (rd x0_1 1)))) : Int) ≤ ((x0_1.length : Int) : Int) := of_decide_eq_true (by first | (with_reducible assumption) | assumption)
                  obtain ⟨i026, hi026, _, hsz26, _⟩ := info_parts info5
                  have hroom26 : x0_1.length ≤ co4 := (Kd.V_reads' HO_0.out).2.1
                  have hC26 : Kd.F (Kd.int .u8) _ _ (some ad165) x0_1.length x0_1 := (Kd.V_at (base := w.heap.size) HO_0.out).2.2
                  have ql26 : (2 : Int) ≤ ((wrap64 (2 + (wrap64 (rd x0_1 1)))) : Int) := of_decide_eq_true (by first | (with_reducible assumption) | assumption)
                  have hcut26 := cut_mid (P := Tryd.prog) 62 5 .i64 .i64 Tryd.underlying62 hi026 1 hsz26 (some ad165) x0_1.length co4 2 (wrap64 (2 + (wrap64 (rd x0_1 1)))) (by omega) ql26 q26 hroom26
                  have hr26 := Kd.F_mid (lo := (2 : Int).toNat) (hi := ((wrap64 (2 + (wrap64 (rd x0_1 1)))) : Int).toNat) (c := co4) hC26 (by omega) (by omega) hroom26
                  obtain ⟨A26, hA26⟩ : ∃ A1, A1 = (if co4 = (2 : Int).toNat then (some ad165) else ((some ad165) : Option Addr).map (·.add ((2 : Int).toNat * 1))) := ⟨_, rfl⟩
                  obtain ⟨c26, hc26⟩ : ∃ c1, c1 = co4 - (2 : Int).toNat := ⟨_, rfl⟩
                  have hy26 : y167.length = ((wrap64 (2 + (wrap64 (rd x0_1 1)))) : Int).toNat - (2 : Int).toNat := (by rw [Ny167.out, List.length_drop, List.length_take] <;> omega)
                  rw [show ((x0_1).take ((wrap64 (2 + (wrap64 (rd x0_1 1)))) : Int).toNat).drop (2 : Int).toNat = y167 from Ny167.out.symm] at hr26
                  replace hr26 : Kd.F (Kd.int .u8) _ _ A26 y167.length y167 := (by rw [hA26]; exact hr26)
                  rw [← hy26, ← hA26, ← hc26] at hcut26
                  have HO171 := Aside0.mk (show Kd.V (Kd.int .u8) 5 _ w.heap.size _ (.slice A26 y167.length c26) y167 from Kd.V_mk (by rw [hy26, hc26]; exact Nat.sub_le_sub_right (Nat.le_trans (by omega) hroom26) _) hr26)
                  have HC171 := Aside0.mk (show y167.length ≤ c26 from by rw [hy26, hc26]; exact Nat.sub_le_sub_right (Nat.le_trans (by omega) hroom26) _)
                  clear hr26 hC26 hroom26 hi026 hsz26 hc26
                  have KY26 := Aside0.mk hy26
                  have KA26 := Aside0.mk hA26
                  clear hy26 hA26
                  replace q26 := eq_true q26
                  have hcv27 := Kf.V_string (P := Tryd.prog) Tryd.underlying62 Tryd.underlying5 Tryd.underlying9 HO171.out; have hcv27q := fun n_ => Kf.V_string (P := Tryd.prog) Tryd.underlying62 Tryd.underlying5 Tryd.underlying9 (Kd.V_drewN HO171.out n_)
                  go_wp2_with (first | (go_at_call 70; (with_reducible refine (key_common.calls kj2 x5_1 ((x5_1.extract 0 ((rd x0_1 0) : Int).toNat) ++ (strOfNums y167)) t172 _ A23.out).mono ?_); rintro e w' ⟨rfl, ⟨nd, rfl⟩⟩; (try first | exact ⟨rfl, _, World.drewN_drewN _ _ _⟩ | exact ⟨rfl, _, Eq.trans (World.drewN_drewN _ _ _) (congrArg (World.drewN _) (Nat.add_assoc _ _ _))⟩); have p173 : 0 ≤ (0 : Int) := (by omega); have q173 : 0 < (x0_1.length : Int) := of_decide_eq_true (by first | (with_reducible assumption) | assumption); obtain ⟨ad173, e173, hx173_0⟩ := Kd.at_int (Kd.V_reads' HO_0.out).2.2 0 p173 q173; obtain rfl : ad165 = ad173 := (by injection e173); have qi173 : (0 < x0_1.length) = True := eq_true (by omega); (try rw [show ((0 : Int)).toNat = 0 from rfl] at hx173_0); (try rw [Addr.add_zero'] at hx173_0); replace p173 := eq_true p173; replace q173 := eq_true q173; obtain ⟨Ao28, co28, eo28⟩ := Kd.R_slice HO_4.out; subst eo28))
                  repeat (go_quiet (first | (go_at_call 70; (with_reducible refine (key_common.calls kj2 x5_1 ((x5_1.extract 0 ((rd x0_1 0) : Int).toNat) ++ (strOfNums y167)) t172 _ A23.out).mono ?_); rintro e w' ⟨rfl, ⟨nd, rfl⟩⟩; (try first | exact ⟨rfl, _, World.drewN_drewN _ _ _⟩ | exact ⟨rfl, _, Eq.trans (World.drewN_drewN _ _ _) (congrArg (World.drewN _) (Nat.add_assoc _ _ _))⟩); have p173 : 0 ≤ (0 : Int) := (by omega); have q173 : 0 < (x0_1.length : Int) := of_decide_eq_true (by first | (with_reducible assumption) | assumption); obtain ⟨ad173, e173, hx173_0⟩ := Kd.at_int (Kd.V_reads' HO_0.out).2.2 0 p173 q173; obtain rfl : ad165 = ad173 := (by injection e173); have qi173 : (0 < x0_1.length) = True := eq_true (by omega); (try rw [show ((0 : Int)).toNat = 0 from rfl] at hx173_0); (try rw [Addr.add_zero'] at hx173_0); replace p173 := eq_true p173; replace q173 := eq_true q173; obtain ⟨Ao28, co28, eo28⟩ := Kd.R_slice HO_4.out; subst eo28)); try go_wp2_with (first | (go_at_call 70; (with_reducible refine (key_common.calls kj2 x5_1 ((x5_1.extract 0 ((rd x0_1 0) : Int).toNat) ++ (strOfNums y167)) t172 _ A23.out).mono ?_); rintro e w' ⟨rfl, ⟨nd, rfl⟩⟩; (try first | exact ⟨rfl, _, World.drewN_drewN _ _ _⟩ | exact ⟨rfl, _, Eq.trans (World.drewN_drewN _ _ _) (congrArg (World.drewN _) (Nat.add_assoc _ _ _))⟩); have p173 : 0 ≤ (0 : Int) := (by omega); have q173 : 0 < (x0_1.length : Int) := of_decide_eq_true (by first | (with_reducible assumption) | assumption); obtain ⟨ad173, e173, hx173_0⟩ := Kd.at_int (Kd.V_reads' HO_0.out).2.2 0 p173 q173; obtain rfl : ad165 = ad173 := (by injection e173); have qi173 : (0 < x0_1.length) = True := eq_true (by omega); (try rw [show ((0 : Int)).toNat = 0 from rfl] at hx173_0); (try rw [Addr.add_zero'] at hx173_0); replace p173 := eq_true p173; replace q173 := eq_true q173; obtain ⟨Ao28, co28, eo28⟩ := Kd.R_slice HO_4.out; subst eo28)))
                  go_ret2
                  exact ⟨_, by first | rfl | (simp [errW_none, errW_some] <;> rfl) | (simp [*, errW_none, errW_some] <;> rfl), by first | exact Kd.R_nil _ _ _ _ _ | exact Kd.N_nil _ _ _ _ _ | exact Kd.V_nil _ _ _ _ _ | exact Kd.Q_nil _ _ _ _ _ | exact Kd.S_nil _ _ _ _ _, by repeat (first | (with_reducible first | exact HB.out | apply below_alloc | apply pw_below_drewN | apply below_drew1) | exact HB.out)⟩
                 ·rw [if_neg c25] at H
                  have c25b0 : ((x4_1.length : Int) == 300) = false := beq_eq_false_iff_ne.mpr c25
                  have c25b1 : ((x4_1.length : Int) != 300) = true := bne_iff_ne.mpr c25
                  by_cases c29 : x4_1.length < 8796093022208
                  ·rw [if_pos c29] at H
                   have LMc29 := Aside0.mk c29
                   clear c29
                   obtain ⟨y174, hy174⟩ : ∃ y_ : List ByteArray, y_ = (x4_1 ++ [(x5_1.extract 0 ((rd x0_1 0) : Int).toNat) ++ (strOfNums y167)]) := ⟨_, rfl⟩
                   replace H : (if 0 ≤ (wrap64 (2 + (wrap64 (rd x0_1 1)))) then (key_Unpack.l0 kj2 (x0_1.drop ((wrap64 (2 + (wrap64 (rd x0_1 1)))) : Int).toNat) y174 ((x5_1.extract 0 ((rd x0_1 0) : Int).toNat) ++ (strOfNums y167))) else (none)) = some (r1, r2) := by first | (rw [hy174]; with_reducible exact H) | (have H2_ := (Option.bind_some _ _).symm.trans H; rw [hy174]; with_reducible exact H2_) | (have H2_ := (Option.bind_some _ _).symm.trans H; with_reducible exact H2_) | with_reducible exact H | (rw [hy174]; exact H) | exact H
                   have Ny174 := Aside0.mk hy174
                   clear hy174
                   obtain ⟨ji30, hji30⟩ : ∃ j_ : Int, (wrap64 (2 + (wrap64 (rd x0_1 1)))) = j_ := ⟨_, rfl⟩
                   replace H : (if 0 ≤ (ji30) then (key_Unpack.l0 kj2 (x0_1.drop ((ji30) : Int).toNat) y174 ((x5_1.extract 0 ((rd x0_1 0) : Int).toNat) ++ (strOfNums y167))) else (none)) = some (r1, r2) := by first | (rw [hji30] at H; exact H) | (simp only [hji30] at H ⊢; exact H)
                   (try rw [hji30] at c14b0)
                   (try rw [hji30] at c14b1)
                   (try rw [hji30] at c14)
                   (try rw [hji30] at c15b0)
                   (try rw [hji30] at c15b1)
                   (try rw [hji30] at c15)
                   (try rw [hji30] at Ny167)
                   (try rw [hji30] at Ny167)
                   (try rw [hji30] at A23)
                   have hji30w : (IntKind.i64.wrap (2 + (wrap64 (rd x0_1 1)))) = ji30 := (i64_w _).trans hji30
                   by_cases c31 : 0 ≤ (ji30)
                   ·rw [if_pos c31] at H
                    have c31b0 := eq_true c31
                    have c31b1 : decide (0 ≤ (ji30)) = true := decide_eq_true c31
                    clear c31
                    have c32b0 := eq_true (of_decide_eq_true (by first | (with_reducible assumption) | assumption) : (ji30) ≤ (x0_1.length : Int))
                    obtain ⟨y177, hy177⟩ : ∃ y_ : List Int, y_ = (x0_1.drop ((ji30) : Int).toNat) := ⟨_, rfl⟩
                    replace H : (key_Unpack.l0 kj2 y177 y174 ((x5_1.extract 0 ((rd x0_1 0) : Int).toNat) ++ (strOfNums y167))) = some (r1, r2) := by first | (rw [hy177]; with_reducible exact H) | (have H2_ := (Option.bind_some _ _).symm.trans H; rw [hy177]; with_reducible exact H2_) | (have H2_ := (Option.bind_some _ _).symm.trans H; with_reducible exact H2_) | with_reducible exact H | (rw [hy177]; exact H) | exact H
                    have Ny177 := Aside0.mk hy177
                    clear hy177
                    have H' := Aside0.mk H
                    clear H
                    have p165 : 0 ≤ (1 : Int) := (by omega)
                    have q165 : 1 < (x0_1.length : Int) := of_decide_eq_true (by first | (with_reducible assumption) | assumption)
                    obtain ⟨ad165, e165, hx165_0⟩ := Kd.at_int (Kd.V_reads' HO_0.out).2.2 1 p165 q165
                    cases e165
                    (try simp only [show (1 : Int).toNat = 1 from rfl, Nat.reduceMul, Nat.reduceEqDiff, Go.Addr.add, ↓reduceIte] at hx165_0)
                    have qi165 : (1 < x0_1.length) = True := eq_true (by omega)
                    (try rw [show ((1 : Int)).toNat = 1 from rfl] at hx165_0)
                    replace p165 := eq_true p165
                    replace q165 := eq_true q165
                    have p166 : 0 ≤ (0 : Int) := (by omega)
                    have q166 : 0 < (x0_1.length : Int) := of_decide_eq_true (by first | (with_reducible assumption) | assumption)
                    obtain ⟨ad166, e166, hx166_0⟩ := Kd.at_int (Kd.V_reads' HO_0.out).2.2 0 p166 q166
                    obtain rfl : ad165 = ad166 := (by injection e166)
                    have qi166 : (0 < x0_1.length) = True := eq_true (by omega)
                    (try rw [show ((0 : Int)).toNat = 0 from rfl] at hx166_0)
                    (try rw [Addr.add_zero'] at hx166_0)
                    replace p166 := eq_true p166
                    replace q166 := eq_true q166
                    have q33 : ((ji30) : Int) ≤ ((x0_1.length : Int) : Int) := of_decide_eq_true (by first | (with_reducible assumption) | assumption)
                    obtain ⟨i033, hi033, _, hsz33, _⟩ := info_parts info5
                    have hroom33 : x0_1.length ≤ co4 := (Kd.V_reads' HO_0.out).2.1
                    have hC33 : Kd.F (Kd.int .u8) _ _ (some ad165) x0_1.length x0_1 := (Kd.V_at (base := w.heap.size) HO_0.out).2.2
                    have ql33 : (2 : Int) ≤ ((ji30) : Int) := of_decide_eq_true (by first | (with_reducible assumption) | assumption)
                    have hcut33 := cut_mid (P := Tryd.prog) 62 5 .i64 .i64 Tryd.underlying62 hi033 1 hsz33 (some ad165) x0_1.length co4 2 (ji30) (by omega) ql33 q33 hroom33
                    have hr33 := Kd.F_mid (lo := (2 : Int).toNat) (hi := ((ji30) : Int).toNat) (c := co4) hC33 (by omega) (by omega) hroom33
                    obtain ⟨A33, hA33⟩ : ∃ A1, A1 = (if co4 = (2 : Int).toNat then (some ad165) else ((some ad165) : Option Addr).map (·.add ((2 : Int).toNat * 1))) := ⟨_, rfl⟩
                    obtain ⟨c33, hc33⟩ : ∃ c1, c1 = co4 - (2 : Int).toNat := ⟨_, rfl⟩
                    have hy33 : y167.length = ((ji30) : Int).toNat - (2 : Int).toNat := (by rw [Ny167.out, List.length_drop, List.length_take] <;> omega)
                    rw [show ((x0_1).take ((ji30) : Int).toNat).drop (2 : Int).toNat = y167 from Ny167.out.symm] at hr33
                    replace hr33 : Kd.F (Kd.int .u8) _ _ A33 y167.length y167 := (by rw [hA33]; exact hr33)
                    rw [← hy33, ← hA33, ← hc33] at hcut33
                    have HO171 := Aside0.mk (show Kd.V (Kd.int .u8) 5 _ w.heap.size _ (.slice A33 y167.length c33) y167 from Kd.V_mk (by rw [hy33, hc33]; exact Nat.sub_le_sub_right (Nat.le_trans (by omega) hroom33) _) hr33)
                    have HC171 := Aside0.mk (show y167.length ≤ c33 from by rw [hy33, hc33]; exact Nat.sub_le_sub_right (Nat.le_trans (by omega) hroom33) _)
                    clear hr33 hC33 hroom33 hi033 hsz33 hc33
                    have KY33 := Aside0.mk hy33
                    have KA33 := Aside0.mk hA33
                    clear hy33 hA33
                    replace q33 := eq_true q33
                    have hcv34 := Kf.V_string (P := Tryd.prog) Tryd.underlying62 Tryd.underlying5 Tryd.underlying9 HO171.out; have hcv34q := fun n_ => Kf.V_string (P := Tryd.prog) Tryd.underlying62 Tryd.underlying5 Tryd.underlying9 (Kd.V_drewN HO171.out n_)
                    go_wp2_with (first | (go_at_call 70; (with_reducible refine (key_common.calls kj2 x5_1 ((x5_1.extract 0 ((rd x0_1 0) : Int).toNat) ++ (strOfNums y167)) t172 _ A23.out).mono ?_); rintro e w' ⟨rfl, ⟨nd, rfl⟩⟩; (try first | exact ⟨rfl, _, World.drewN_drewN _ _ _⟩ | exact ⟨rfl, _, Eq.trans (World.drewN_drewN _ _ _) (congrArg (World.drewN _) (Nat.add_assoc _ _ _))⟩); have p173 : 0 ≤ (0 : Int) := (by omega); have q173 : 0 < (x0_1.length : Int) := of_decide_eq_true (by first | (with_reducible assumption) | assumption); obtain ⟨ad173, e173, hx173_0⟩ := Kd.at_int (Kd.V_reads' HO_0.out).2.2 0 p173 q173; obtain rfl : ad165 = ad173 := (by injection e173); have qi173 : (0 < x0_1.length) = True := eq_true (by omega); (try rw [show ((0 : Int)).toNat = 0 from rfl] at hx173_0); (try rw [Addr.add_zero'] at hx173_0); replace p173 := eq_true p173; replace q173 := eq_true q173; obtain ⟨Ao35, co35, eo35⟩ := Kd.R_slice HO_4.out; subst eo35) | ((with_reducible refine gate_builtin (b := .append) (xs := #[.tmp 71, .tmp 73]) rfl ?_); (try (refine gate_guard (by rfl) ?_; dsimp only)); at_builtin; refine Kd.R_append Kd.string (w0 := w) w.heap.size rfl (.tmp 71) (.tmp 73) 41 9 (.string ⟨#[]⟩) 16 rfl Tryd.underlying41 info9 rfl (by decide) (by omega) (.slice Ao35 x4_1.length co35) x4_1 ((x5_1.extract 0 ((rd x0_1 0) : Int).toNat) ++ (strOfNums y167)) [.string ((x5_1.extract 0 ((rd x0_1 0) : Int).toNat) ++ (strOfNums y167))] (fun k_ => (w.heap.size ≤ k_)) (fun _ => False) rfl rfl ?aP (fun _ hk => hk.elim) ?aF ?aO ?aB ?aS ?aL ?_; (case aP => exact rfl); (case aB => exact (by repeat (first | (with_reducible first | exact HB.out | apply below_alloc | apply pw_below_drewN | apply below_drew1) | exact HB.out))); (case aF => exact (fun k_ hk => (Nat.le_trans (below_size (by repeat (first | (with_reducible first | exact HB.out | apply below_alloc | apply pw_below_drewN | apply below_drew1) | exact HB.out))) hk))); (case aO => exact (by (with_reducible repeat (first | apply Kd.R_alloc | apply Kd.R_drewN | apply Kd.R_drew)); exact HO_4.out)); (case aS => exact (below_size (by repeat (first | (with_reducible first | exact HB.out | apply below_alloc | apply pw_below_drewN | apply below_drew1) | exact HB.out)))); (case aL => have := LMc29.out; omega); intro v175 w36 ho hb hg hat; rw [← Ny174.out] at ho; have n0_ := Aside0.mk (Kd.V_afterv (ok := (fun k_ => (P0_ k_ ∨ w.heap.size ≤ k_))) (by (with_reducible repeat (first | apply Kd.V_alloc | apply Kd.V_drewN | apply Kd.V_drew)); exact HO_0.out) hg hat); have n1_ := Aside0.mk (Kd.V_afterv (ok := (fun k_ => (P0_ k_ ∨ w.heap.size ≤ k_))) (by (with_reducible repeat (first | apply Kd.V_alloc | apply Kd.V_drewN | apply Kd.V_drew)); exact HO171.out) hg hat); have n2_ := Aside0.mk (hb); have n3_ := Aside0.mk (ho); clear HO_0; clear HO171; clear HB; clear HO_4; have HO_0 := n0_; have HO171 := n1_; have HB := n2_; have HO176 := n3_; clear n0_ n1_ n2_ n3_; clear ho hb hg hat; have q37 : ((ji30) : Int) ≤ ((x0_1.length : Int) : Int) := of_decide_eq_true (by first | (with_reducible assumption) | assumption); obtain ⟨i037, hi037, _, hsz37, _⟩ := info_parts info5; have hroom37 : x0_1.length ≤ co4 := (Kd.V_reads' HO_0.out).2.1; have hC37 : Kd.F (Kd.int .u8) _ _ (some ad165) x0_1.length x0_1 := (Kd.V_at (base := w.heap.size) HO_0.out).2.2; have q037 : (0 : Int) ≤ ((ji30) : Int) := of_decide_eq_true (by first | (with_reducible assumption) | assumption); have hcut37 := cut_from (P := Tryd.prog) 62 5 .i64 Tryd.underlying62 hi037 1 hsz37 (some ad165) x0_1.length co4 (ji30) q037 q37; have hr37 := Kd.F_cut (m := ((ji30) : Int).toNat) (c := co4) hC37 (by omega) hroom37; obtain ⟨A37, hA37⟩ : ∃ A1, A1 = (if co4 = ((ji30) : Int).toNat then (some ad165) else ((some ad165) : Option Addr).map (·.add (((ji30) : Int).toNat * 1))) := ⟨_, rfl⟩; obtain ⟨c37, hc37⟩ : ∃ c1, c1 = co4 - ((ji30) : Int).toNat := ⟨_, rfl⟩; have hy37 : y177.length = x0_1.length - ((ji30) : Int).toNat := (by rw [Ny177.out, List.length_drop] <;> omega); rw [show (x0_1).drop ((ji30) : Int).toNat = y177 from Ny177.out.symm] at hr37; replace hr37 : Kd.F (Kd.int .u8) _ _ A37 y177.length y177 := (by rw [hA37]; exact hr37); rw [← hy37, ← hA37, ← hc37] at hcut37; have HO181 := Aside0.mk (show Kd.V (Kd.int .u8) 5 _ w.heap.size _ (.slice A37 y177.length c37) y177 from Kd.V_mk (by rw [hy37, hc37]; exact Nat.sub_le_sub_right hroom37 _) hr37); have HC181 := Aside0.mk (show y177.length ≤ c37 from by rw [hy37, hc37]; exact Nat.sub_le_sub_right hroom37 _); clear hr37 hC37 hroom37 hi037 hsz37 hc37; have KY37 := Aside0.mk hy37; have KA37 := Aside0.mk hA37; clear hy37 hA37; replace q37 := eq_true q37))
                    repeat (go_quiet (first | (go_at_call 70; (with_reducible refine (key_common.calls kj2 x5_1 ((x5_1.extract 0 ((rd x0_1 0) : Int).toNat) ++ (strOfNums y167)) t172 _ A23.out).mono ?_); rintro e w' ⟨rfl, ⟨nd, rfl⟩⟩; (try first | exact ⟨rfl, _, World.drewN_drewN _ _ _⟩ | exact ⟨rfl, _, Eq.trans (World.drewN_drewN _ _ _) (congrArg (World.drewN _) (Nat.add_assoc _ _ _))⟩); have p173 : 0 ≤ (0 : Int) := (by omega); have q173 : 0 < (x0_1.length : Int) := of_decide_eq_true (by first | (with_reducible assumption) | assumption); obtain ⟨ad173, e173, hx173_0⟩ := Kd.at_int (Kd.V_reads' HO_0.out).2.2 0 p173 q173; obtain rfl : ad165 = ad173 := (by injection e173); have qi173 : (0 < x0_1.length) = True := eq_true (by omega); (try rw [show ((0 : Int)).toNat = 0 from rfl] at hx173_0); (try rw [Addr.add_zero'] at hx173_0); replace p173 := eq_true p173; replace q173 := eq_true q173; obtain ⟨Ao35, co35, eo35⟩ := Kd.R_slice HO_4.out; subst eo35) | ((with_reducible refine gate_builtin (b := .append) (xs := #[.tmp 71, .tmp 73]) rfl ?_); (try (refine gate_guard (by rfl) ?_; dsimp only)); at_builtin; refine Kd.R_append Kd.string (w0 := w) w.heap.size rfl (.tmp 71) (.tmp 73) 41 9 (.string ⟨#[]⟩) 16 rfl Tryd.underlying41 info9 rfl (by decide) (by omega) (.slice Ao35 x4_1.length co35) x4_1 ((x5_1.extract 0 ((rd x0_1 0) : Int).toNat) ++ (strOfNums y167)) [.string ((x5_1.extract 0 ((rd x0_1 0) : Int).toNat) ++ (strOfNums y167))] (fun k_ => (w.heap.size ≤ k_)) (fun _ => False) rfl rfl ?aP (fun _ hk => hk.elim) ?aF ?aO ?aB ?aS ?aL ?_; (case aP => exact rfl); (case aB => exact (by repeat (first | (with_reducible first | exact HB.out | apply below_alloc | apply pw_below_drewN | apply below_drew1) | exact HB.out))); (case aF => exact (fun k_ hk => (Nat.le_trans (below_size (by repeat (first | (with_reducible first | exact HB.out | apply below_alloc | apply pw_below_drewN | apply below_drew1) | exact HB.out))) hk))); (case aO => exact (by (with_reducible repeat (first | apply Kd.R_alloc | apply Kd.R_drewN | apply Kd.R_drew)); exact HO_4.out)); (case aS => exact (below_size (by repeat (first | (with_reducible first | exact HB.out | apply below_alloc | apply pw_below_drewN | apply below_drew1) | exact HB.out)))); (case aL => have := LMc29.out; omega); intro v175 w36 ho hb hg hat; rw [← Ny174.out] at ho; have n0_ := Aside0.mk (Kd.V_afterv (ok := (fun k_ => (P0_ k_ ∨ w.heap.size ≤ k_))) (by (with_reducible repeat (first | apply Kd.V_alloc | apply Kd.V_drewN | apply Kd.V_drew)); exact HO_0.out) hg hat); have n1_ := Aside0.mk (Kd.V_afterv (ok := (fun k_ => (P0_ k_ ∨ w.heap.size ≤ k_))) (by (with_reducible repeat (first | apply Kd.V_alloc | apply Kd.V_drewN | apply Kd.V_drew)); exact HO171.out) hg hat); have n2_ := Aside0.mk (hb); have n3_ := Aside0.mk (ho); clear HO_0; clear HO171; clear HB; clear HO_4; have HO_0 := n0_; have HO171 := n1_; have HB := n2_; have HO176 := n3_; clear n0_ n1_ n2_ n3_; clear ho hb hg hat; have q37 : ((ji30) : Int) ≤ ((x0_1.length : Int) : Int) := of_decide_eq_true (by first | (with_reducible assumption) | assumption); obtain ⟨i037, hi037, _, hsz37, _⟩ := info_parts info5; have hroom37 : x0_1.length ≤ co4 := (Kd.V_reads' HO_0.out).2.1; have hC37 : Kd.F (Kd.int .u8) _ _ (some ad165) x0_1.length x0_1 := (Kd.V_at (base := w.heap.size) HO_0.out).2.2; have q037 : (0 : Int) ≤ ((ji30) : Int) := of_decide_eq_true (by first | (with_reducible assumption) | assumption); have hcut37 := cut_from (P := Tryd.prog) 62 5 .i64 Tryd.underlying62 hi037 1 hsz37 (some ad165) x0_1.length co4 (ji30) q037 q37; have hr37 := Kd.F_cut (m := ((ji30) : Int).toNat) (c := co4) hC37 (by omega) hroom37; obtain ⟨A37, hA37⟩ : ∃ A1, A1 = (if co4 = ((ji30) : Int).toNat then (some ad165) else ((some ad165) : Option Addr).map (·.add (((ji30) : Int).toNat * 1))) := ⟨_, rfl⟩; obtain ⟨c37, hc37⟩ : ∃ c1, c1 = co4 - ((ji30) : Int).toNat := ⟨_, rfl⟩; have hy37 : y177.length = x0_1.length - ((ji30) : Int).toNat := (by rw [Ny177.out, List.length_drop] <;> omega); rw [show (x0_1).drop ((ji30) : Int).toNat = y177 from Ny177.out.symm] at hr37; replace hr37 : Kd.F (Kd.int .u8) _ _ A37 y177.length y177 := (by rw [hA37]; exact hr37); rw [← hy37, ← hA37, ← hc37] at hcut37; have HO181 := Aside0.mk (show Kd.V (Kd.int .u8) 5 _ w.heap.size _ (.slice A37 y177.length c37) y177 from Kd.V_mk (by rw [hy37, hc37]; exact Nat.sub_le_sub_right hroom37 _) hr37); have HC181 := Aside0.mk (show y177.length ≤ c37 from by rw [hy37, hc37]; exact Nat.sub_le_sub_right hroom37 _); clear hr37 hC37 hroom37 hi037 hsz37 hc37; have KY37 := Aside0.mk hy37; have KA37 := Aside0.mk hA37; clear hy37 hA37; replace q37 := eq_true q37)); try go_wp2_with (first | (go_at_call 70; (with_reducible refine (key_common.calls kj2 x5_1 ((x5_1.extract 0 ((rd x0_1 0) : Int).toNat) ++ (strOfNums y167)) t172 _ A23.out).mono ?_); rintro e w' ⟨rfl, ⟨nd, rfl⟩⟩; (try first | exact ⟨rfl, _, World.drewN_drewN _ _ _⟩ | exact ⟨rfl, _, Eq.trans (World.drewN_drewN _ _ _) (congrArg (World.drewN _) (Nat.add_assoc _ _ _))⟩); have p173 : 0 ≤ (0 : Int) := (by omega); have q173 : 0 < (x0_1.length : Int) := of_decide_eq_true (by first | (with_reducible assumption) | assumption); obtain ⟨ad173, e173, hx173_0⟩ := Kd.at_int (Kd.V_reads' HO_0.out).2.2 0 p173 q173; obtain rfl : ad165 = ad173 := (by injection e173); have qi173 : (0 < x0_1.length) = True := eq_true (by omega); (try rw [show ((0 : Int)).toNat = 0 from rfl] at hx173_0); (try rw [Addr.add_zero'] at hx173_0); replace p173 := eq_true p173; replace q173 := eq_true q173; obtain ⟨Ao35, co35, eo35⟩ := Kd.R_slice HO_4.out; subst eo35) | ((with_reducible refine gate_builtin (b := .append) (xs := #[.tmp 71, .tmp 73]) rfl ?_); (try (refine gate_guard (by rfl) ?_; dsimp only)); at_builtin; refine Kd.R_append Kd.string (w0 := w) w.heap.size rfl (.tmp 71) (.tmp 73) 41 9 (.string ⟨#[]⟩) 16 rfl Tryd.underlying41 info9 rfl (by decide) (by omega) (.slice Ao35 x4_1.length co35) x4_1 ((x5_1.extract 0 ((rd x0_1 0) : Int).toNat) ++ (strOfNums y167)) [.string ((x5_1.extract 0 ((rd x0_1 0) : Int).toNat) ++ (strOfNums y167))] (fun k_ => (w.heap.size ≤ k_)) (fun _ => False) rfl rfl ?aP (fun _ hk => hk.elim) ?aF ?aO ?aB ?aS ?aL ?_; (case aP => exact rfl); (case aB => exact (by repeat (first | (with_reducible first | exact HB.out | apply below_alloc | apply pw_below_drewN | apply below_drew1) | exact HB.out))); (case aF => exact (fun k_ hk => (Nat.le_trans (below_size (by repeat (first | (with_reducible first | exact HB.out | apply below_alloc | apply pw_below_drewN | apply below_drew1) | exact HB.out))) hk))); (case aO => exact (by (with_reducible repeat (first | apply Kd.R_alloc | apply Kd.R_drewN | apply Kd.R_drew)); exact HO_4.out)); (case aS => exact (below_size (by repeat (first | (with_reducible first | exact HB.out | apply below_alloc | apply pw_below_drewN | apply below_drew1) | exact HB.out)))); (case aL => have := LMc29.out; omega); intro v175 w36 ho hb hg hat; rw [← Ny174.out] at ho; have n0_ := Aside0.mk (Kd.V_afterv (ok := (fun k_ => (P0_ k_ ∨ w.heap.size ≤ k_))) (by (with_reducible repeat (first | apply Kd.V_alloc | apply Kd.V_drewN | apply Kd.V_drew)); exact HO_0.out) hg hat); have n1_ := Aside0.mk (Kd.V_afterv (ok := (fun k_ => (P0_ k_ ∨ w.heap.size ≤ k_))) (by (with_reducible repeat (first | apply Kd.V_alloc | apply Kd.V_drewN | apply Kd.V_drew)); exact HO171.out) hg hat); have n2_ := Aside0.mk (hb); have n3_ := Aside0.mk (ho); clear HO_0; clear HO171; clear HB; clear HO_4; have HO_0 := n0_; have HO171 := n1_; have HB := n2_; have HO176 := n3_; clear n0_ n1_ n2_ n3_; clear ho hb hg hat; have q37 : ((ji30) : Int) ≤ ((x0_1.length : Int) : Int) := of_decide_eq_true (by first | (with_reducible assumption) | assumption); obtain ⟨i037, hi037, _, hsz37, _⟩ := info_parts info5; have hroom37 : x0_1.length ≤ co4 := (Kd.V_reads' HO_0.out).2.1; have hC37 : Kd.F (Kd.int .u8) _ _ (some ad165) x0_1.length x0_1 := (Kd.V_at (base := w.heap.size) HO_0.out).2.2; have q037 : (0 : Int) ≤ ((ji30) : Int) := of_decide_eq_true (by first | (with_reducible assumption) | assumption); have hcut37 := cut_from (P := Tryd.prog) 62 5 .i64 Tryd.underlying62 hi037 1 hsz37 (some ad165) x0_1.length co4 (ji30) q037 q37; have hr37 := Kd.F_cut (m := ((ji30) : Int).toNat) (c := co4) hC37 (by omega) hroom37; obtain ⟨A37, hA37⟩ : ∃ A1, A1 = (if co4 = ((ji30) : Int).toNat then (some ad165) else ((some ad165) : Option Addr).map (·.add (((ji30) : Int).toNat * 1))) := ⟨_, rfl⟩; obtain ⟨c37, hc37⟩ : ∃ c1, c1 = co4 - ((ji30) : Int).toNat := ⟨_, rfl⟩; have hy37 : y177.length = x0_1.length - ((ji30) : Int).toNat := (by rw [Ny177.out, List.length_drop] <;> omega); rw [show (x0_1).drop ((ji30) : Int).toNat = y177 from Ny177.out.symm] at hr37; replace hr37 : Kd.F (Kd.int .u8) _ _ A37 y177.length y177 := (by rw [hA37]; exact hr37); rw [← hy37, ← hA37, ← hc37] at hcut37; have HO181 := Aside0.mk (show Kd.V (Kd.int .u8) 5 _ w.heap.size _ (.slice A37 y177.length c37) y177 from Kd.V_mk (by rw [hy37, hc37]; exact Nat.sub_le_sub_right hroom37 _) hr37); have HC181 := Aside0.mk (show y177.length ≤ c37 from by rw [hy37, hc37]; exact Nat.sub_le_sub_right hroom37 _); clear hr37 hC37 hroom37 hi037 hsz37 hc37; have KY37 := Aside0.mk hy37; have KA37 := Aside0.mk hA37; clear hy37 hA37; replace q37 := eq_true q37)))
                    go_roundg kj2
                    case measure => have := HK1.out; have := HJ2.out; omega
                    case rel => exact ⟨(y177), (y174), ((x5_1.extract 0 ((rd x0_1 0) : Int).toNat) ++ (strOfNums y167)), (by first | rfl | (simp; done) | (simp [*]; done)), H', ⟨by have := HK1.out; have := HJ2.out; omega⟩, ⟨by (with_reducible repeat (first | apply Kd.V_alloc | apply Kd.V_drewN | apply Kd.V_drew)); exact HO181.out⟩, ⟨by (with_reducible repeat (first | apply Kd.R_alloc | apply Kd.R_drewN | apply Kd.R_drew)); exact HO176.out⟩, ⟨by repeat (first | (with_reducible first | exact HB.out | apply below_alloc | apply pw_below_drewN | apply below_drew1) | exact HB.out)⟩⟩
                   ·rw [if_neg c31] at H
                    exact absurd H (by simp)
                  ·rw [if_neg c29] at H
                   exact absurd H (by simp)
                ·rw [if_neg c24] at H
                 have c24b0 : (t172 == (wrap64 (rd x0_1 0))) = false := beq_eq_false_iff_ne.mpr c24
                 have c24b0w : (t172 == Go.IntKind.i64.wrap (rd x0_1 0)) = false := by have h1 := c24b0; rw [← i64_w] at h1; exact h1
                 have c24b1 : (t172 != (wrap64 (rd x0_1 0))) = true := bne_iff_ne.mpr c24
                 have c24b1w : (t172 != Go.IntKind.i64.wrap (rd x0_1 0)) = true := by have h1 := c24b1; rw [← i64_w] at h1; exact h1
                 simp only [Option.some.injEq, Prod.mk.injEq] at H
                 obtain ⟨rfl, rfl⟩ := H
                 have p165 : 0 ≤ (1 : Int) := (by omega)
                 have q165 : 1 < (x0_1.length : Int) := of_decide_eq_true (by first | (with_reducible assumption) | assumption)
                 obtain ⟨ad165, e165, hx165_0⟩ := Kd.at_int (Kd.V_reads' HO_0.out).2.2 1 p165 q165
                 cases e165
                 (try simp only [show (1 : Int).toNat = 1 from rfl, Nat.reduceMul, Nat.reduceEqDiff, Go.Addr.add, ↓reduceIte] at hx165_0)
                 have qi165 : (1 < x0_1.length) = True := eq_true (by omega)
                 (try rw [show ((1 : Int)).toNat = 1 from rfl] at hx165_0)
                 replace p165 := eq_true p165
                 replace q165 := eq_true q165
                 have p166 : 0 ≤ (0 : Int) := (by omega)
                 have q166 : 0 < (x0_1.length : Int) := of_decide_eq_true (by first | (with_reducible assumption) | assumption)
                 obtain ⟨ad166, e166, hx166_0⟩ := Kd.at_int (Kd.V_reads' HO_0.out).2.2 0 p166 q166
                 obtain rfl : ad165 = ad166 := (by injection e166)
                 have qi166 : (0 < x0_1.length) = True := eq_true (by omega)
                 (try rw [show ((0 : Int)).toNat = 0 from rfl] at hx166_0)
                 (try rw [Addr.add_zero'] at hx166_0)
                 replace p166 := eq_true p166
                 replace q166 := eq_true q166
                 have q38 : ((wrap64 (2 + (wrap64 (rd x0_1 1)))) : Int) ≤ ((x0_1.length : Int) : Int) := of_decide_eq_true (by first | (with_reducible assumption) | assumption)
                 obtain ⟨i038, hi038, _, hsz38, _⟩ := info_parts info5
                 have hroom38 : x0_1.length ≤ co4 := (Kd.V_reads' HO_0.out).2.1
                 have hC38 : Kd.F (Kd.int .u8) _ _ (some ad165) x0_1.length x0_1 := (Kd.V_at (base := w.heap.size) HO_0.out).2.2
                 have ql38 : (2 : Int) ≤ ((wrap64 (2 + (wrap64 (rd x0_1 1)))) : Int) := of_decide_eq_true (by first | (with_reducible assumption) | assumption)
                 have hcut38 := cut_mid (P := Tryd.prog) 62 5 .i64 .i64 Tryd.underlying62 hi038 1 hsz38 (some ad165) x0_1.length co4 2 (wrap64 (2 + (wrap64 (rd x0_1 1)))) (by omega) ql38 q38 hroom38
                 have hr38 := Kd.F_mid (lo := (2 : Int).toNat) (hi := ((wrap64 (2 + (wrap64 (rd x0_1 1)))) : Int).toNat) (c := co4) hC38 (by omega) (by omega) hroom38
                 obtain ⟨A38, hA38⟩ : ∃ A1, A1 = (if co4 = (2 : Int).toNat then (some ad165) else ((some ad165) : Option Addr).map (·.add ((2 : Int).toNat * 1))) := ⟨_, rfl⟩
                 obtain ⟨c38, hc38⟩ : ∃ c1, c1 = co4 - (2 : Int).toNat := ⟨_, rfl⟩
                 have hy38 : y167.length = ((wrap64 (2 + (wrap64 (rd x0_1 1)))) : Int).toNat - (2 : Int).toNat := (by rw [Ny167.out, List.length_drop, List.length_take] <;> omega)
                 rw [show ((x0_1).take ((wrap64 (2 + (wrap64 (rd x0_1 1)))) : Int).toNat).drop (2 : Int).toNat = y167 from Ny167.out.symm] at hr38
                 replace hr38 : Kd.F (Kd.int .u8) _ _ A38 y167.length y167 := (by rw [hA38]; exact hr38)
                 rw [← hy38, ← hA38, ← hc38] at hcut38
                 have HO171 := Aside0.mk (show Kd.V (Kd.int .u8) 5 _ w.heap.size _ (.slice A38 y167.length c38) y167 from Kd.V_mk (by rw [hy38, hc38]; exact Nat.sub_le_sub_right (Nat.le_trans (by omega) hroom38) _) hr38)
                 have HC171 := Aside0.mk (show y167.length ≤ c38 from by rw [hy38, hc38]; exact Nat.sub_le_sub_right (Nat.le_trans (by omega) hroom38) _)
                 clear hr38 hC38 hroom38 hi038 hsz38 hc38
                 have KY38 := Aside0.mk hy38
                 have KA38 := Aside0.mk hA38
                 clear hy38 hA38
                 replace q38 := eq_true q38
                 have hcv39 := Kf.V_string (P := Tryd.prog) Tryd.underlying62 Tryd.underlying5 Tryd.underlying9 HO171.out; have hcv39q := fun n_ => Kf.V_string (P := Tryd.prog) Tryd.underlying62 Tryd.underlying5 Tryd.underlying9 (Kd.V_drewN HO171.out n_)
                 go_wp2_with (first | (go_at_call 70; (with_reducible refine (key_common.calls kj2 x5_1 ((x5_1.extract 0 ((rd x0_1 0) : Int).toNat) ++ (strOfNums y167)) t172 _ A23.out).mono ?_); rintro e w' ⟨rfl, ⟨nd, rfl⟩⟩; (try first | exact ⟨rfl, _, World.drewN_drewN _ _ _⟩ | exact ⟨rfl, _, Eq.trans (World.drewN_drewN _ _ _) (congrArg (World.drewN _) (Nat.add_assoc _ _ _))⟩); have p173 : 0 ≤ (0 : Int) := (by omega); have q173 : 0 < (x0_1.length : Int) := of_decide_eq_true (by first | (with_reducible assumption) | assumption); obtain ⟨ad173, e173, hx173_0⟩ := Kd.at_int (Kd.V_reads' HO_0.out).2.2 0 p173 q173; obtain rfl : ad165 = ad173 := (by injection e173); have qi173 : (0 < x0_1.length) = True := eq_true (by omega); (try rw [show ((0 : Int)).toNat = 0 from rfl] at hx173_0); (try rw [Addr.add_zero'] at hx173_0); replace p173 := eq_true p173; replace q173 := eq_true q173))
                 repeat (go_quiet (first | (go_at_call 70; (with_reducible refine (key_common.calls kj2 x5_1 ((x5_1.extract 0 ((rd x0_1 0) : Int).toNat) ++ (strOfNums y167)) t172 _ A23.out).mono ?_); rintro e w' ⟨rfl, ⟨nd, rfl⟩⟩; (try first | exact ⟨rfl, _, World.drewN_drewN _ _ _⟩ | exact ⟨rfl, _, Eq.trans (World.drewN_drewN _ _ _) (congrArg (World.drewN _) (Nat.add_assoc _ _ _))⟩); have p173 : 0 ≤ (0 : Int) := (by omega); have q173 : 0 < (x0_1.length : Int) := of_decide_eq_true (by first | (with_reducible assumption) | assumption); obtain ⟨ad173, e173, hx173_0⟩ := Kd.at_int (Kd.V_reads' HO_0.out).2.2 0 p173 q173; obtain rfl : ad165 = ad173 := (by injection e173); have qi173 : (0 < x0_1.length) = True := eq_true (by omega); (try rw [show ((0 : Int)).toNat = 0 from rfl] at hx173_0); (try rw [Addr.add_zero'] at hx173_0); replace p173 := eq_true p173; replace q173 := eq_true q173)); try go_wp2_with (first | (go_at_call 70; (with_reducible refine (key_common.calls kj2 x5_1 ((x5_1.extract 0 ((rd x0_1 0) : Int).toNat) ++ (strOfNums y167)) t172 _ A23.out).mono ?_); rintro e w' ⟨rfl, ⟨nd, rfl⟩⟩; (try first | exact ⟨rfl, _, World.drewN_drewN _ _ _⟩ | exact ⟨rfl, _, Eq.trans (World.drewN_drewN _ _ _) (congrArg (World.drewN _) (Nat.add_assoc _ _ _))⟩); have p173 : 0 ≤ (0 : Int) := (by omega); have q173 : 0 < (x0_1.length : Int) := of_decide_eq_true (by first | (with_reducible assumption) | assumption); obtain ⟨ad173, e173, hx173_0⟩ := Kd.at_int (Kd.V_reads' HO_0.out).2.2 0 p173 q173; obtain rfl : ad165 = ad173 := (by injection e173); have qi173 : (0 < x0_1.length) = True := eq_true (by omega); (try rw [show ((0 : Int)).toNat = 0 from rfl] at hx173_0); (try rw [Addr.add_zero'] at hx173_0); replace p173 := eq_true p173; replace q173 := eq_true q173)))
                 go_ret2
                 exact ⟨_, by first | rfl | (simp [errW_none, errW_some] <;> rfl) | (simp [*, errW_none, errW_some] <;> rfl), by first | exact Kd.R_nil _ _ _ _ _ | exact Kd.N_nil _ _ _ _ _ | exact Kd.V_nil _ _ _ _ _ | exact Kd.Q_nil _ _ _ _ _ | exact Kd.S_nil _ _ _ _ _, by repeat (first | (with_reducible first | exact HB.out | apply below_alloc | apply pw_below_drewN | apply below_drew1) | exact HB.out)⟩
             ·rw [if_neg c16] at H
              exact absurd H (by simp)
            ·rw [if_neg c15] at H
             exact absurd H (by simp)
           ·rw [if_neg c14] at H
            exact absurd H (by simp)
          ·rw [if_neg c13] at H
           exact absurd H (by simp)
         ·rw [if_neg c12] at H
          exact absurd H (by simp)
        ·rw [if_neg c11] at H
         exact absurd H (by simp)
       ·rw [if_neg c10] at H
        exact absurd H (by simp)
   ·rw [if_neg c2] at H
    have c2b0 : decide (0 < (x0_1.length : Int)) = false := decide_eq_false c2
    have c2b1 : decide (0 < x0_1.length) = false := decide_eq_false (by omega)
    clear c2
    simp only [Option.some.injEq, Prod.mk.injEq] at H
    obtain ⟨rfl, rfl⟩ := H
    obtain ⟨Ao40, co40, eo40⟩ := Kd.V_slice HO_0.out
    subst eo40
    go_wp2
    repeat (go_quiet (fail); try go_wp2)
    go_ret2
    exact ⟨_, by first | rfl | (simp [errW_none, errW_some] <;> rfl) | (simp [*, errW_none, errW_some] <;> rfl), by (with_reducible repeat (first | apply Kd.R_alloc | apply Kd.R_drewN | apply Kd.R_drew)); exact HO_4.out, by repeat (first | (with_reducible first | exact HB.out | apply below_alloc | apply pw_below_drewN | apply below_drew1) | exact HB.out)⟩
end Go.Proofs.YtnkejhfbkgfedaaDoor.PC
