-- Written by a program of this session (wip/merge.py): the texts of this claim, joined.
import Derived.Test.YtnkejhfbkgfedaaDoorMKeyPacks0
import Derived.Test.YtnkejhfbkgfedaaDoorMKeyPacks1
import Derived.Test.YtnkejhfbkgfedaaDoorMKeyPacks2
import Derived.Test.YtnkejhfbkgfedaaDoorMKeyPacks3
import Derived.Test.YtnkejhfbkgfedaaDoorMKeyPacks4
import Derived.Test.YtnkejhfbkgfedaaDoorMKeyPacks5
import Derived.Test.YtnkejhfbkgfedaaDoorMKeyPacks6
import Derived.Test.YtnkejhfbkgfedaaDoorMKeyPacks7
import Derived.Test.YtnkejhfbkgfedaaDoorMKeyPacks8
import Derived.Test.YtnkejhfbkgfedaaDoorMKeyPacks9
import Derived.Test.YtnkejhfbkgfedaaDoorMKeyPacks10
import Derived.Test.YtnkejhfbkgfedaaDoorMKeyPacks11
import Derived.Test.YtnkejhfbkgfedaaDoorMKeyPacks12
import Derived.Test.YtnkejhfbkgfedaaDoorMKeyPacks13
import Derived.Test.YtnkejhfbkgfedaaDoorMKeyPacks14
import Derived.Test.YtnkejhfbkgfedaaDoorMKeyPacks15
import Derived.Test.YtnkejhfbkgfedaaDoorMKeyPacks16
namespace Go.Proofs.YtnkejhfbkgfedaaDoor.PA
end Go.Proofs.YtnkejhfbkgfedaaDoor.PA
namespace Go.Proofs.YtnkejhfbkgfedaaDoor.PB
end Go.Proofs.YtnkejhfbkgfedaaDoor.PB
namespace Go.Proofs.YtnkejhfbkgfedaaDoor.PC
end Go.Proofs.YtnkejhfbkgfedaaDoor.PC
namespace Go.Proofs.YtnkejhfbkgfedaaDoor.H1
end Go.Proofs.YtnkejhfbkgfedaaDoor.H1
namespace Go.Proofs.YtnkejhfbkgfedaaDoor.L1
end Go.Proofs.YtnkejhfbkgfedaaDoor.L1
namespace Go.Proofs.YtnkejhfbkgfedaaDoor.PC
open Go.RowKit Go.Proofs.YtnkejhfbkgfedaaDoorW.PrintWords Go.Proofs.YtnkejhfbkgfedaaDoorW.PrintLast Go.Proofs.YtnkejhfbkgfedaaDoorW.PrintMore Go.Proofs.YtnkejhfbkgfedaaDoor.PA Go.Proofs.YtnkejhfbkgfedaaDoor.H1 Go.Proofs.YtnkejhfbkgfedaaDoor.PB
attribute [local go_sem] max2_int min2_int max_two min_two max_three min_three max_four min_four   -- for this text's walks alone
set_option linter.unusedVariables false
set_option linter.unusedSimpArgs false
def cabinetryref09_Unpack.l0 : Nat → List Int → List ByteArray → ByteArray → Int → Option (List ByteArray × Int)
 | 0, _, _, _, _ => none
 | k + 1, x0, x4, x5, x6 => if x6 < (x0.length : Int) then (if (wrap64 (x6 + 2)) > (x0.length : Int) then (some (([] : List ByteArray), 11)) else (if 0 ≤ x6 then (if (wrap64 (rd x0 x6)) > (x5.size : Int) then (some (([] : List ByteArray), 11)) else (if 0 ≤ (wrap64 (x6 + 1)) then (if (wrap64 (x6 + 1)) < (x0.length : Int) then (if (wrap64 ((wrap64 (x6 + 2)) + (wrap64 (rd x0 (wrap64 (x6 + 1)))))) > (x0.length : Int) then (some (([] : List ByteArray), 11)) else (if 0 ≤ (rd x0 x6) then (if (rd x0 x6) ≤ (x5.size : Int) then (if 0 ≤ (wrap64 (x6 + 2)) then (if (wrap64 (x6 + 2)) ≤ (wrap64 ((wrap64 (x6 + 2)) + (wrap64 (rd x0 (wrap64 (x6 + 1)))))) then (if (wrap64 ((wrap64 (x6 + 2)) + (wrap64 (rd x0 (wrap64 (x6 + 1)))))) ≤ (x0.length : Int) then (if (x5.extract 0 ((rd x0 x6) : Int).toNat).size + (strOfNums ((x0.take ((wrap64 ((wrap64 (x6 + 2)) + (wrap64 (rd x0 (wrap64 (x6 + 1)))))) : Int).toNat).drop ((wrap64 (x6 + 2)) : Int).toNat)).size ≤ 9223372036854775807 then (if x4.length < 8796093022208 then (cabinetryref09_Unpack.l0 k x0 (x4 ++ [(x5.extract 0 ((rd x0 x6) : Int).toNat) ++ (strOfNums ((x0.take ((wrap64 ((wrap64 (x6 + 2)) + (wrap64 (rd x0 (wrap64 (x6 + 1)))))) : Int).toNat).drop ((wrap64 (x6 + 2)) : Int).toNat))]) ((x5.extract 0 ((rd x0 x6) : Int).toNat) ++ (strOfNums ((x0.take ((wrap64 ((wrap64 (x6 + 2)) + (wrap64 (rd x0 (wrap64 (x6 + 1)))))) : Int).toNat).drop ((wrap64 (x6 + 2)) : Int).toNat))) (wrap64 ((wrap64 (x6 + 2)) + (wrap64 (rd x0 (wrap64 (x6 + 1))))))) else (none)) else (none)) else (none)) else (none)) else (none)) else (none)) else (none))) else (none)) else (none))) else (none))) else ((cabinetryref09_Pack.f k x4).bind fun bt190 => (if bt190.2 = 0 then (if (strOfNums bt190.1).toList = (strOfNums x0).toList then (some (x4, 0)) else (some (([] : List ByteArray), 11))) else (some (([] : List ByteArray), 11))))
def cabinetryref09_Unpack.f (k : Nat) (l0 : List Int) : Option (List ByteArray × Int) := cabinetryref09_Unpack.l0 k l0 ([] : List ByteArray) (⟨#[]⟩ : ByteArray) 0
set_option maxHeartbeats 8000000 in
set_option maxRecDepth 100000 in
theorem cabinetryref09_Unpack.calls (k : Nat) (A0 : Option Addr) (c0 : Nat) (l0 : List Int) (r1 : List ByteArray) (r2 : Int) (w : World) (hr0 : Kd.C (Kd.int .u8) w A0 l0.length l0) (hc0 : l0.length ≤ c0) (h : cabinetryref09_Unpack.f k l0 = some (r1, r2)) :
  Calls Tryd.prog 43 #[.slice A0 l0.length c0] w fun e w' => ∃ v0_ : Value, e = .returned (.tuple #[v0_, .int .i64 r2]) ∧ Kd.R Kd.string 9 w' w.heap.size (fun _ => True) v0_ r1 ∧ Below w.heap.size w w' := by
 have HR0 := Aside0.mk hr0
 have HC0 := Aside0.mk hc0
 clear hr0 hc0
 have HB := Aside0.mk (Below.refl w.heap.size w)
 have H : (cabinetryref09_Unpack.l0 k l0 ([] : List ByteArray) (⟨#[]⟩ : ByteArray) 0) = some (r1, r2) := h
 clear h
 have H' := Aside0.mk H
 clear H
 go_enter Tryd.func43, Tryd.ntmps43
 go_wp2
 repeat (go_quiet (fail); try go_wp2)
 go_loopg [4, 5, 6] k (fun kq v4 v5 v6 w' => ∃ (x4_1 : List ByteArray) (x5_1 : ByteArray) (x6_1 : Int), v5 = .string x5_1 ∧ v6 = .int .i64 x6_1 ∧ Aside0 (cabinetryref09_Unpack.l0 kq l0 x4_1 x5_1 x6_1 = some (r1, r2)) ∧ Aside0 (kq ≤ k) ∧ Aside0 (Kd.R Kd.string 9 w' w.heap.size (fun _ => True) v4 x4_1) ∧ Aside0 (Below w.heap.size w w'))
 case atStart => exact ⟨(([] : List ByteArray)), ((⟨#[]⟩ : ByteArray)), (0), (by first | rfl | (simp; done) | (simp [*]; done)), (by first | rfl | (simp; done) | (simp [*]; done)), H', ⟨Nat.le_refl _⟩, ⟨by first | exact Kd.R_nil _ _ _ _ _ | exact Kd.N_nil _ _ _ _ _ | exact Kd.V_nil _ _ _ _ _ | exact Kd.Q_nil _ _ _ _ _ | exact Kd.S_nil _ _ _ _ _⟩, ⟨by repeat (first | (with_reducible first | exact HB.out | apply below_alloc | apply pw_below_drewN | apply below_drew1) | exact HB.out)⟩⟩
 case round =>
  clear H'
  obtain ⟨x4_1, x5_1, x6_1, rfl, rfl, HA, HK1, HO_4, HB⟩ := hrel
  cases gk with
  | zero => exact absurd HA.out (by simp [cabinetryref09_Unpack.l0])
  | succ k1 =>
   have H := HA.out
   clear HA
   simp only [cabinetryref09_Unpack.l0] at H
   by_cases c2 : x6_1 < (l0.length : Int)
   ·rw [if_pos c2] at H
    have c2b0 : decide (x6_1 < (l0.length : Int)) = true := decide_eq_true c2
    clear c2
    by_cases c3 : (wrap64 (x6_1 + 2)) > (l0.length : Int)
    ·rw [if_pos c3] at H
     have c3b0 : decide ((l0.length : Int) < (wrap64 (x6_1 + 2))) = true := decide_eq_true c3
     clear c3
     simp only [Option.some.injEq, Prod.mk.injEq] at H
     obtain ⟨rfl, rfl⟩ := H
     go_wp2
     repeat (go_quiet (fail); try go_wp2)
     go_ret2
     exact ⟨_, by first | rfl | (simp [errW_none, errW_some] <;> rfl) | (simp [*, errW_none, errW_some] <;> rfl), by first | exact Kd.R_nil _ _ _ _ _ | exact Kd.N_nil _ _ _ _ _ | exact Kd.V_nil _ _ _ _ _ | exact Kd.Q_nil _ _ _ _ _ | exact Kd.S_nil _ _ _ _ _, by repeat (first | (with_reducible first | exact HB.out | apply below_alloc | apply pw_below_drewN | apply below_drew1) | exact HB.out)⟩
    ·rw [if_neg c3] at H
     have c3b0 : decide ((l0.length : Int) < (wrap64 (x6_1 + 2))) = false := decide_eq_false c3
     clear c3
     by_cases c4 : 0 ≤ x6_1
     ·rw [if_pos c4] at H
      have c4b0 : decide (0 ≤ x6_1) = true := decide_eq_true c4
      clear c4
      by_cases c5 : (wrap64 (rd l0 x6_1)) > (x5_1.size : Int)
      ·rw [if_pos c5] at H
       have c5b0 : decide ((x5_1.size : Int) < (wrap64 (rd l0 x6_1))) = true := decide_eq_true c5
       clear c5
       simp only [Option.some.injEq, Prod.mk.injEq] at H
       obtain ⟨rfl, rfl⟩ := H
       have p182 : 0 ≤ (x6_1 : Int) := of_decide_eq_true (by first | (with_reducible assumption) | assumption)
       have q182 : x6_1 < (l0.length : Int) := of_decide_eq_true (by first | (with_reducible assumption) | assumption)
       obtain ⟨ad182, e182, hx182_0⟩ := Kd.at_int HR0.out x6_1 p182 q182
       cases e182
       replace hx182_0 := (HB.out.cell (World.block_lt_of_cell? w _ hx182_0)).trans hx182_0
       replace p182 := eq_true p182
       replace q182 := eq_true q182
       go_wp2
       repeat (go_quiet (fail); try go_wp2)
       go_ret2
       exact ⟨_, by first | rfl | (simp [errW_none, errW_some] <;> rfl) | (simp [*, errW_none, errW_some] <;> rfl), by first | exact Kd.R_nil _ _ _ _ _ | exact Kd.N_nil _ _ _ _ _ | exact Kd.V_nil _ _ _ _ _ | exact Kd.Q_nil _ _ _ _ _ | exact Kd.S_nil _ _ _ _ _, by repeat (first | (with_reducible first | exact HB.out | apply below_alloc | apply pw_below_drewN | apply below_drew1) | exact HB.out)⟩
      ·rw [if_neg c5] at H
       have c5b0 : decide ((x5_1.size : Int) < (wrap64 (rd l0 x6_1))) = false := decide_eq_false c5
       clear c5
       obtain ⟨ji6, hji6⟩ : ∃ j_ : Int, (wrap64 (x6_1 + 1)) = j_ := ⟨_, rfl⟩
       replace H : (if 0 ≤ (ji6) then (if (ji6) < (l0.length : Int) then (if (wrap64 ((wrap64 (x6_1 + 2)) + (wrap64 (rd l0 (ji6))))) > (l0.length : Int) then (some (([] : List ByteArray), 11)) else (if 0 ≤ (rd l0 x6_1) then (if (rd l0 x6_1) ≤ (x5_1.size : Int) then (if 0 ≤ (wrap64 (x6_1 + 2)) then (if (wrap64 (x6_1 + 2)) ≤ (wrap64 ((wrap64 (x6_1 + 2)) + (wrap64 (rd l0 (ji6))))) then (if (wrap64 ((wrap64 (x6_1 + 2)) + (wrap64 (rd l0 (ji6))))) ≤ (l0.length : Int) then (if (x5_1.extract 0 ((rd l0 x6_1) : Int).toNat).size + (strOfNums ((l0.take ((wrap64 ((wrap64 (x6_1 + 2)) + (wrap64 (rd l0 (ji6))))) : Int).toNat).drop ((wrap64 (x6_1 + 2)) : Int).toNat)).size ≤ 9223372036854775807 then (if x4_1.length < 8796093022208 then (cabinetryref09_Unpack.l0 k1 l0 (x4_1 ++ [(x5_1.extract 0 ((rd l0 x6_1) : Int).toNat) ++ (strOfNums ((l0.take ((wrap64 ((wrap64 (x6_1 + 2)) + (wrap64 (rd l0 (ji6))))) : Int).toNat).drop ((wrap64 (x6_1 + 2)) : Int).toNat))]) ((x5_1.extract 0 ((rd l0 x6_1) : Int).toNat) ++ (strOfNums ((l0.take ((wrap64 ((wrap64 (x6_1 + 2)) + (wrap64 (rd l0 (ji6))))) : Int).toNat).drop ((wrap64 (x6_1 + 2)) : Int).toNat))) (wrap64 ((wrap64 (x6_1 + 2)) + (wrap64 (rd l0 (ji6)))))) else (none)) else (none)) else (none)) else (none)) else (none)) else (none)) else (none))) else (none)) else (none)) = some (r1, r2) := by first | (rw [hji6] at H; exact H) | (simp only [hji6] at H ⊢; exact H)
       have hji6w : (IntKind.i64.wrap (x6_1 + 1)) = ji6 := (i64_w _).trans hji6
       by_cases c7 : 0 ≤ (ji6)
       ·rw [if_pos c7] at H
        have c7b0 : decide (0 ≤ (ji6)) = true := decide_eq_true c7
        clear c7
        by_cases c8 : (ji6) < (l0.length : Int)
        ·rw [if_pos c8] at H
         have c8b0 : decide ((ji6) < (l0.length : Int)) = true := decide_eq_true c8
         clear c8
         by_cases c9 : (wrap64 ((wrap64 (x6_1 + 2)) + (wrap64 (rd l0 (ji6))))) > (l0.length : Int)
         ·rw [if_pos c9] at H
          have c9b0 : decide ((l0.length : Int) < (wrap64 ((wrap64 (x6_1 + 2)) + (wrap64 (rd l0 (ji6)))))) = true := decide_eq_true c9
          clear c9
          simp only [Option.some.injEq, Prod.mk.injEq] at H
          obtain ⟨rfl, rfl⟩ := H
          have p182 : 0 ≤ (x6_1 : Int) := of_decide_eq_true (by first | (with_reducible assumption) | assumption)
          have q182 : x6_1 < (l0.length : Int) := of_decide_eq_true (by first | (with_reducible assumption) | assumption)
          obtain ⟨ad182, e182, hx182_0⟩ := Kd.at_int HR0.out x6_1 p182 q182
          cases e182
          replace hx182_0 := (HB.out.cell (World.block_lt_of_cell? w _ hx182_0)).trans hx182_0
          replace p182 := eq_true p182
          replace q182 := eq_true q182
          have p183 : 0 ≤ ((ji6) : Int) := of_decide_eq_true (by first | (with_reducible assumption) | assumption)
          have q183 : (ji6) < (l0.length : Int) := of_decide_eq_true (by first | (with_reducible assumption) | assumption)
          obtain ⟨ad183, e183, hx183_0⟩ := Kd.at_int HR0.out (ji6) p183 q183
          obtain rfl : ad182 = ad183 := (by injection e183)
          replace hx183_0 := (HB.out.cell (World.block_lt_of_cell? w _ hx183_0)).trans hx183_0
          replace p183 := eq_true p183
          replace q183 := eq_true q183
          go_wp2
          repeat (go_quiet (fail); try go_wp2)
          go_ret2
          exact ⟨_, by first | rfl | (simp [errW_none, errW_some] <;> rfl) | (simp only [← hji6]; first | rfl | (simp [errW_none, errW_some] <;> rfl)) | (simp [*, errW_none, errW_some] <;> rfl), by first | exact Kd.R_nil _ _ _ _ _ | exact Kd.N_nil _ _ _ _ _ | exact Kd.V_nil _ _ _ _ _ | exact Kd.Q_nil _ _ _ _ _ | exact Kd.S_nil _ _ _ _ _, by repeat (first | (with_reducible first | exact HB.out | apply below_alloc | apply pw_below_drewN | apply below_drew1) | exact HB.out)⟩
         ·rw [if_neg c9] at H
          have c9b0 : decide ((l0.length : Int) < (wrap64 ((wrap64 (x6_1 + 2)) + (wrap64 (rd l0 (ji6)))))) = false := decide_eq_false c9
          clear c9
          by_cases c10 : 0 ≤ (rd l0 x6_1)
          ·rw [if_pos c10] at H
           have c10b0 := eq_true c10
           have c10b1 : decide (0 ≤ (rd l0 x6_1)) = true := decide_eq_true c10
           clear c10
           by_cases c11 : (rd l0 x6_1) ≤ (x5_1.size : Int)
           ·rw [if_pos c11] at H
            have c11b0 := eq_true c11
            have c11b1 : decide ((rd l0 x6_1) ≤ (x5_1.size : Int)) = true := decide_eq_true c11
            clear c11
            obtain ⟨ji12, hji12⟩ : ∃ j_ : Int, (wrap64 (x6_1 + 2)) = j_ := ⟨_, rfl⟩
            replace H : (if 0 ≤ (ji12) then (if (ji12) ≤ (wrap64 ((ji12) + (wrap64 (rd l0 (ji6))))) then (if (wrap64 ((ji12) + (wrap64 (rd l0 (ji6))))) ≤ (l0.length : Int) then (if (x5_1.extract 0 ((rd l0 x6_1) : Int).toNat).size + (strOfNums ((l0.take ((wrap64 ((ji12) + (wrap64 (rd l0 (ji6))))) : Int).toNat).drop ((ji12) : Int).toNat)).size ≤ 9223372036854775807 then (if x4_1.length < 8796093022208 then (cabinetryref09_Unpack.l0 k1 l0 (x4_1 ++ [(x5_1.extract 0 ((rd l0 x6_1) : Int).toNat) ++ (strOfNums ((l0.take ((wrap64 ((ji12) + (wrap64 (rd l0 (ji6))))) : Int).toNat).drop ((ji12) : Int).toNat))]) ((x5_1.extract 0 ((rd l0 x6_1) : Int).toNat) ++ (strOfNums ((l0.take ((wrap64 ((ji12) + (wrap64 (rd l0 (ji6))))) : Int).toNat).drop ((ji12) : Int).toNat))) (wrap64 ((ji12) + (wrap64 (rd l0 (ji6)))))) else (none)) else (none)) else (none)) else (none)) else (none)) = some (r1, r2) := by first | (rw [hji12] at H; exact H) | (simp only [hji12] at H ⊢; exact H)
            (try rw [hji12] at c3b0)
            (try rw [hji12] at c9b0)
            have hji12w : (IntKind.i64.wrap (x6_1 + 2)) = ji12 := (i64_w _).trans hji12
            by_cases c13 : 0 ≤ (ji12)
            ·rw [if_pos c13] at H
             have c13b0 := eq_true c13
             have c13b1 : decide (0 ≤ (ji12)) = true := decide_eq_true c13
             clear c13
             by_cases c14 : (ji12) ≤ (wrap64 ((ji12) + (wrap64 (rd l0 (ji6)))))
             ·rw [if_pos c14] at H
              have c14b0 := eq_true c14
              have c14b1 : decide ((ji12) ≤ (wrap64 ((ji12) + (wrap64 (rd l0 (ji6)))))) = true := decide_eq_true c14
              by_cases c15 : (wrap64 ((ji12) + (wrap64 (rd l0 (ji6))))) ≤ (l0.length : Int)
              ·rw [if_pos c15] at H
               have c15b0 := eq_true c15
               have c15b1 : decide ((wrap64 ((ji12) + (wrap64 (rd l0 (ji6))))) ≤ (l0.length : Int)) = true := decide_eq_true c15
               by_cases c16 : (x5_1.extract 0 ((rd l0 x6_1) : Int).toNat).size + (strOfNums ((l0.take ((wrap64 ((ji12) + (wrap64 (rd l0 (ji6))))) : Int).toNat).drop ((ji12) : Int).toNat)).size ≤ 9223372036854775807
               ·rw [if_pos c16] at H
                have c16b0 := eq_true c16
                have c16b1 : decide ((x5_1.extract 0 ((rd l0 x6_1) : Int).toNat).size + (strOfNums ((l0.take ((wrap64 ((ji12) + (wrap64 (rd l0 (ji6))))) : Int).toNat).drop ((ji12) : Int).toNat)).size ≤ 9223372036854775807) = true := decide_eq_true c16
                try have c16b2 : (9223372036854775807 < (x5_1.extract 0 ((rd l0 x6_1) : Int).toNat).size + (strOfNums ((l0.take ((wrap64 ((ji12) + (wrap64 (rd l0 (ji6))))) : Int).toNat).drop ((ji12) : Int).toNat)).size) = False := eq_false (Nat.not_lt.2 c16)
                try have c16b3 : (9223372036854775807 < (rd l0 x6_1).toNat + (strOfNums ((l0.take ((wrap64 ((ji12) + (wrap64 (rd l0 (ji6))))) : Int).toNat).drop ((ji12) : Int).toNat)).size) = False := eq_false (by have z := c16; simp only [eq_iff_iff, iff_true, iff_false, Nat.not_lt] at *; simp only [ByteArray.size_append, ByteArray.size_extract] at z; omega)
                by_cases c17 : x4_1.length < 8796093022208
                ·rw [if_pos c17] at H
                 have LMc17 := Aside0.mk c17
                 clear c17
                 obtain ⟨y187, hy187⟩ : ∃ y_ : List ByteArray, y_ = (x4_1 ++ [(x5_1.extract 0 ((rd l0 x6_1) : Int).toNat) ++ (strOfNums ((l0.take ((wrap64 ((ji12) + (wrap64 (rd l0 (ji6))))) : Int).toNat).drop ((ji12) : Int).toNat))]) := ⟨_, rfl⟩
                 replace H : (cabinetryref09_Unpack.l0 k1 l0 y187 ((x5_1.extract 0 ((rd l0 x6_1) : Int).toNat) ++ (strOfNums ((l0.take ((wrap64 ((ji12) + (wrap64 (rd l0 (ji6))))) : Int).toNat).drop ((ji12) : Int).toNat))) (wrap64 ((ji12) + (wrap64 (rd l0 (ji6)))))) = some (r1, r2) := by first | (rw [hy187]; with_reducible exact H) | (have H2_ := (Option.bind_some _ _).symm.trans H; rw [hy187]; with_reducible exact H2_) | (have H2_ := (Option.bind_some _ _).symm.trans H; with_reducible exact H2_) | with_reducible exact H | (rw [hy187]; exact H) | exact H
                 have Ny187 := Aside0.mk hy187
                 clear hy187
                 have H' := Aside0.mk H
                 clear H
                 have p182 : 0 ≤ (x6_1 : Int) := of_decide_eq_true (by first | (with_reducible assumption) | assumption)
                 have q182 : x6_1 < (l0.length : Int) := of_decide_eq_true (by first | (with_reducible assumption) | assumption)
                 obtain ⟨ad182, e182, hx182_0⟩ := Kd.at_int HR0.out x6_1 p182 q182
                 cases e182
                 replace hx182_0 := (HB.out.cell (World.block_lt_of_cell? w _ hx182_0)).trans hx182_0
                 replace p182 := eq_true p182
                 replace q182 := eq_true q182
                 have p183 : 0 ≤ ((ji6) : Int) := of_decide_eq_true (by first | (with_reducible assumption) | assumption)
                 have q183 : (ji6) < (l0.length : Int) := of_decide_eq_true (by first | (with_reducible assumption) | assumption)
                 obtain ⟨ad183, e183, hx183_0⟩ := Kd.at_int HR0.out (ji6) p183 q183
                 obtain rfl : ad182 = ad183 := (by injection e183)
                 replace hx183_0 := (HB.out.cell (World.block_lt_of_cell? w _ hx183_0)).trans hx183_0
                 replace p183 := eq_true p183
                 replace q183 := eq_true q183
                 have p184 : 0 ≤ ((ji6) : Int) := of_decide_eq_true (by first | (with_reducible assumption) | assumption)
                 have q184 : (ji6) < (l0.length : Int) := of_decide_eq_true (by first | (with_reducible assumption) | assumption)
                 obtain ⟨ad184, e184, hx184_0⟩ := Kd.at_int HR0.out (ji6) p184 q184
                 obtain rfl : ad182 = ad184 := (by injection e184)
                 replace hx184_0 := (HB.out.cell (World.block_lt_of_cell? w _ hx184_0)).trans hx184_0
                 replace p184 := eq_true p184
                 replace q184 := eq_true q184
                 have p185 : 0 ≤ (x6_1 : Int) := of_decide_eq_true (by first | (with_reducible assumption) | assumption)
                 have q185 : x6_1 < (l0.length : Int) := of_decide_eq_true (by first | (with_reducible assumption) | assumption)
                 obtain ⟨ad185, e185, hx185_0⟩ := Kd.at_int HR0.out x6_1 p185 q185
                 obtain rfl : ad182 = ad185 := (by injection e185)
                 replace hx185_0 := (HB.out.cell (World.block_lt_of_cell? w _ hx185_0)).trans hx185_0
                 replace p185 := eq_true p185
                 replace q185 := eq_true q185
                 obtain ⟨i018, hi018, _, hsz18, _⟩ := info_parts info5
                 obtain ⟨A18, hcut18, hA18, hC18⟩ := print_mid_of (P := Tryd.prog) (Value.int .u8) 0 62 5 .i64 .i64 Tryd.underlying62 hi018 hsz18 (some ad182) c0 l0 (ji12) (wrap64 ((ji12) + (wrap64 (rd l0 (ji6))))) (of_decide_eq_true (by first | (with_reducible assumption) | assumption)) (by first | omega | exact of_decide_eq_true (by first | (with_reducible assumption) | assumption)) (of_decide_eq_true (by first | (with_reducible assumption) | assumption)) HC0.out
                 have HR186 := Aside0.mk (Kd.C_of_reads (h1 := fun _ => rfl) (hA18 _ (Kd.reads_of_C HR0.out)))
                 have HC186 := Aside0.mk hC18
                 clear hA18 hC18 hi018 hsz18
                 have hcv19 := Kd.C_string (P := Tryd.prog) (A := A18) (c := (c0 - (ji12).toNat)) Tryd.underlying62 Tryd.underlying5 Tryd.underlying9 (Kd.C_below HR186.out HB.out); have hcv19q := fun n_ => Kd.C_string (P := Tryd.prog) (A := A18) (c := (c0 - (ji12).toNat)) Tryd.underlying62 Tryd.underlying5 Tryd.underlying9 (Kd.C_drewN (Kd.C_below HR186.out HB.out) n_)
                 have hlv19 : (List.drop (ji12).toNat (List.take (wrap64 ((ji12) + (wrap64 (rd l0 (ji6))))).toNat l0)).length = (wrap64 ((ji12) + (wrap64 (rd l0 (ji6))))).toNat - (ji12).toNat := (by have h_ : (wrap64 ((ji12) + (wrap64 (rd l0 (ji6))))) ≤ (l0.length : Int) := of_decide_eq_true (by first | (with_reducible assumption) | assumption); rw [List.length_drop, List.length_take]; omega)
                 rw [hlv19] at hcv19; simp only [hlv19] at hcv19q
                 go_wp2_with (first | ((with_reducible refine gate_builtin (b := .append) (xs := #[.tmp 65, .tmp 67]) rfl ?_); (try (refine gate_guard (by rfl) ?_; dsimp only)); at_builtin; refine Kd.R_append Kd.string (w0 := w) w.heap.size rfl (.tmp 65) (.tmp 67) 41 9 (.string ⟨#[]⟩) 16 rfl Tryd.underlying41 info9 rfl (by decide) (by omega) u4 x4_1 ((x5_1.extract 0 ((rd l0 x6_1) : Int).toNat) ++ (strOfNums ((l0.take ((wrap64 ((ji12) + (wrap64 (rd l0 (ji6))))) : Int).toNat).drop ((ji12) : Int).toNat))) [.string ((x5_1.extract 0 ((rd l0 x6_1) : Int).toNat) ++ (strOfNums ((l0.take ((wrap64 ((ji12) + (wrap64 (rd l0 (ji6))))) : Int).toNat).drop ((ji12) : Int).toNat)))] (fun _ => True) (fun _ => False) rfl rfl ?aP (fun _ hk => hk.elim) ?aF ?aO ?aB ?aS ?aL ?_; (case aP => exact rfl); (case aB => exact (by repeat (first | (with_reducible first | exact HB.out | apply below_alloc | apply pw_below_drewN | apply below_drew1) | exact HB.out))); (case aF => exact (fun _ _ => trivial)); (case aO => exact (by (with_reducible repeat (first | apply Kd.R_alloc | apply Kd.R_drewN | apply Kd.R_drew)); exact HO_4.out)); (case aS => exact (below_size (by repeat (first | (with_reducible first | exact HB.out | apply below_alloc | apply pw_below_drewN | apply below_drew1) | exact HB.out)))); (case aL => have := LMc17.out; omega); intro v188 w20 ho hb hg hat; rw [← Ny187.out] at ho; have n0_ := Aside0.mk (hb); have n1_ := Aside0.mk (ho); clear HB; clear HO_4; have HB := n0_; have HO189 := n1_; clear n0_ n1_; clear ho hb hg hat))
                 repeat (go_quiet (first | ((with_reducible refine gate_builtin (b := .append) (xs := #[.tmp 65, .tmp 67]) rfl ?_); (try (refine gate_guard (by rfl) ?_; dsimp only)); at_builtin; refine Kd.R_append Kd.string (w0 := w) w.heap.size rfl (.tmp 65) (.tmp 67) 41 9 (.string ⟨#[]⟩) 16 rfl Tryd.underlying41 info9 rfl (by decide) (by omega) u4 x4_1 ((x5_1.extract 0 ((rd l0 x6_1) : Int).toNat) ++ (strOfNums ((l0.take ((wrap64 ((ji12) + (wrap64 (rd l0 (ji6))))) : Int).toNat).drop ((ji12) : Int).toNat))) [.string ((x5_1.extract 0 ((rd l0 x6_1) : Int).toNat) ++ (strOfNums ((l0.take ((wrap64 ((ji12) + (wrap64 (rd l0 (ji6))))) : Int).toNat).drop ((ji12) : Int).toNat)))] (fun _ => True) (fun _ => False) rfl rfl ?aP (fun _ hk => hk.elim) ?aF ?aO ?aB ?aS ?aL ?_; (case aP => exact rfl); (case aB => exact (by repeat (first | (with_reducible first | exact HB.out | apply below_alloc | apply pw_below_drewN | apply below_drew1) | exact HB.out))); (case aF => exact (fun _ _ => trivial)); (case aO => exact (by (with_reducible repeat (first | apply Kd.R_alloc | apply Kd.R_drewN | apply Kd.R_drew)); exact HO_4.out)); (case aS => exact (below_size (by repeat (first | (with_reducible first | exact HB.out | apply below_alloc | apply pw_below_drewN | apply below_drew1) | exact HB.out)))); (case aL => have := LMc17.out; omega); intro v188 w20 ho hb hg hat; rw [← Ny187.out] at ho; have n0_ := Aside0.mk (hb); have n1_ := Aside0.mk (ho); clear HB; clear HO_4; have HB := n0_; have HO189 := n1_; clear n0_ n1_; clear ho hb hg hat)); try go_wp2_with (first | ((with_reducible refine gate_builtin (b := .append) (xs := #[.tmp 65, .tmp 67]) rfl ?_); (try (refine gate_guard (by rfl) ?_; dsimp only)); at_builtin; refine Kd.R_append Kd.string (w0 := w) w.heap.size rfl (.tmp 65) (.tmp 67) 41 9 (.string ⟨#[]⟩) 16 rfl Tryd.underlying41 info9 rfl (by decide) (by omega) u4 x4_1 ((x5_1.extract 0 ((rd l0 x6_1) : Int).toNat) ++ (strOfNums ((l0.take ((wrap64 ((ji12) + (wrap64 (rd l0 (ji6))))) : Int).toNat).drop ((ji12) : Int).toNat))) [.string ((x5_1.extract 0 ((rd l0 x6_1) : Int).toNat) ++ (strOfNums ((l0.take ((wrap64 ((ji12) + (wrap64 (rd l0 (ji6))))) : Int).toNat).drop ((ji12) : Int).toNat)))] (fun _ => True) (fun _ => False) rfl rfl ?aP (fun _ hk => hk.elim) ?aF ?aO ?aB ?aS ?aL ?_; (case aP => exact rfl); (case aB => exact (by repeat (first | (with_reducible first | exact HB.out | apply below_alloc | apply pw_below_drewN | apply below_drew1) | exact HB.out))); (case aF => exact (fun _ _ => trivial)); (case aO => exact (by (with_reducible repeat (first | apply Kd.R_alloc | apply Kd.R_drewN | apply Kd.R_drew)); exact HO_4.out)); (case aS => exact (below_size (by repeat (first | (with_reducible first | exact HB.out | apply below_alloc | apply pw_below_drewN | apply below_drew1) | exact HB.out)))); (case aL => have := LMc17.out; omega); intro v188 w20 ho hb hg hat; rw [← Ny187.out] at ho; have n0_ := Aside0.mk (hb); have n1_ := Aside0.mk (ho); clear HB; clear HO_4; have HB := n0_; have HO189 := n1_; clear n0_ n1_; clear ho hb hg hat)))
                 go_roundg k1
                 case measure => have := HK1.out; omega
                 case rel => exact ⟨(y187), ((x5_1.extract 0 ((rd l0 x6_1) : Int).toNat) ++ (strOfNums ((l0.take ((wrap64 ((ji12) + (wrap64 (rd l0 (ji6))))) : Int).toNat).drop ((ji12) : Int).toNat))), (wrap64 ((ji12) + (wrap64 (rd l0 (ji6))))), (by first | rfl | (simp; done) | (simp only [← hji6, ← hji12] <;> (first | rfl | simp)) | (simp [*]; done)), (by first | rfl | (simp; done) | (simp only [← hji6, ← hji12] <;> (first | rfl | simp)) | (simp [*]; done)), H', ⟨by have := HK1.out; omega⟩, ⟨by (with_reducible repeat (first | apply Kd.R_alloc | apply Kd.R_drewN | apply Kd.R_drew)); exact HO189.out⟩, ⟨by repeat (first | (with_reducible first | exact HB.out | apply below_alloc | apply pw_below_drewN | apply below_drew1) | exact HB.out)⟩⟩
                ·rw [if_neg c17] at H
                 exact absurd H (by simp)
               ·rw [if_neg c16] at H
                exact absurd H (by simp)
              ·rw [if_neg c15] at H
               exact absurd H (by simp)
             ·rw [if_neg c14] at H
              exact absurd H (by simp)
            ·rw [if_neg c13] at H
             exact absurd H (by simp)
           ·rw [if_neg c11] at H
            exact absurd H (by simp)
          ·rw [if_neg c10] at H
           exact absurd H (by simp)
        ·rw [if_neg c8] at H
         exact absurd H (by simp)
       ·rw [if_neg c7] at H
        exact absurd H (by simp)
     ·rw [if_neg c4] at H
      exact absurd H (by simp)
   ·rw [if_neg c2] at H
    have c2b0 : decide (x6_1 < (l0.length : Int)) = false := decide_eq_false c2
    clear c2
    replace H := Option.bind_eq_some_iff.mp H
    obtain ⟨⟨t190, t191⟩, A210, H⟩ := H
    replace H : (if t191 = 0 then (if (strOfNums t190).toList = (strOfNums l0).toList then (some (x4_1, 0)) else (some (([] : List ByteArray), 11))) else (some (([] : List ByteArray), 11))) = some (r1, r2) := H
    have A21 := Aside0.mk A210
    clear A210
    by_cases c22 : t191 = 0
    ·rw [if_pos c22] at H
     have c22b0 : (t191 == 0) = true := beq_iff_eq.mpr c22
     have c22b1 : (t191 != 0) = false := bne_eq_false_iff_eq.mpr c22
     clear c22
     by_cases c23 : (strOfNums t190).toList = (strOfNums l0).toList
     ·rw [if_pos c23] at H
      have c23b0 : ((strOfNums t190).toList == (strOfNums l0).toList) = true := beq_iff_eq.mpr c23
      have c23b1 : ((strOfNums t190).toList != (strOfNums l0).toList) = false := bne_eq_false_iff_eq.mpr c23
      clear c23
      simp only [Option.some.injEq, Prod.mk.injEq] at H
      obtain ⟨rfl, rfl⟩ := H
      obtain ⟨Ao24, co24, eo24⟩ := Kd.R_slice HO_4.out
      subst eo24
      go_wp2_with (first | (go_at_call 41; (with_reducible refine (cabinetryref09_Pack.calls k1 _ _ x4_1 t190 t191 _ ?side1 ?side2 A21.out).mono ?_); (case side1 => repeat (first | exact (Kd.R_reads' HO_4.out).2.2 | (with_reducible refine Kd.C_alloc ?_ _) | (with_reducible refine Kd.C_drewN ?_ _) | (with_reducible refine Kd.C_drew ?_))); (case side2 => exact (Kd.R_reads' HO_4.out).2.1); rintro e w25 ⟨v192, rfl, ho0, hb⟩; have n0_ := Aside0.mk (Kd.R_below (by (with_reducible repeat (first | apply Kd.R_alloc | apply Kd.R_drewN | apply Kd.R_drew)); exact HO_4.out) hb); have n1_ := Aside0.mk (Kd.R_lower ho0 (below_size (by repeat (first | (with_reducible first | exact HB.out | apply below_alloc | apply pw_below_drewN | apply below_drew1) | exact HB.out)))); have n2_ := Aside0.mk (below_step (by repeat (first | (with_reducible first | exact HB.out | apply below_alloc | apply pw_below_drewN | apply below_drew1) | exact HB.out)) hb); clear HO_4; clear HB; have HO_4 := n0_; have HO193 := n1_; have HB := n2_; clear n0_ n1_ n2_; (try clear hb); (try clear hb2); (try clear hk); (try clear hi); (try clear ho0); have hcv26 := own_string (P := Tryd.prog) Tryd.underlying62 Tryd.underlying5 Tryd.underlying9 (Kd.own_of_R HO193.out); have hcv27 := Kd.C_string (P := Tryd.prog) (A := A0) (c := c0) Tryd.underlying62 Tryd.underlying5 Tryd.underlying9 (Kd.C_below HR0.out HB.out)))
      repeat (go_quiet (first | (go_at_call 41; (with_reducible refine (cabinetryref09_Pack.calls k1 _ _ x4_1 t190 t191 _ ?side1 ?side2 A21.out).mono ?_); (case side1 => repeat (first | exact (Kd.R_reads' HO_4.out).2.2 | (with_reducible refine Kd.C_alloc ?_ _) | (with_reducible refine Kd.C_drewN ?_ _) | (with_reducible refine Kd.C_drew ?_))); (case side2 => exact (Kd.R_reads' HO_4.out).2.1); rintro e w25 ⟨v192, rfl, ho0, hb⟩; have n0_ := Aside0.mk (Kd.R_below (by (with_reducible repeat (first | apply Kd.R_alloc | apply Kd.R_drewN | apply Kd.R_drew)); exact HO_4.out) hb); have n1_ := Aside0.mk (Kd.R_lower ho0 (below_size (by repeat (first | (with_reducible first | exact HB.out | apply below_alloc | apply pw_below_drewN | apply below_drew1) | exact HB.out)))); have n2_ := Aside0.mk (below_step (by repeat (first | (with_reducible first | exact HB.out | apply below_alloc | apply pw_below_drewN | apply below_drew1) | exact HB.out)) hb); clear HO_4; clear HB; have HO_4 := n0_; have HO193 := n1_; have HB := n2_; clear n0_ n1_ n2_; (try clear hb); (try clear hb2); (try clear hk); (try clear hi); (try clear ho0); have hcv26 := own_string (P := Tryd.prog) Tryd.underlying62 Tryd.underlying5 Tryd.underlying9 (Kd.own_of_R HO193.out); have hcv27 := Kd.C_string (P := Tryd.prog) (A := A0) (c := c0) Tryd.underlying62 Tryd.underlying5 Tryd.underlying9 (Kd.C_below HR0.out HB.out))); try go_wp2_with (first | (go_at_call 41; (with_reducible refine (cabinetryref09_Pack.calls k1 _ _ x4_1 t190 t191 _ ?side1 ?side2 A21.out).mono ?_); (case side1 => repeat (first | exact (Kd.R_reads' HO_4.out).2.2 | (with_reducible refine Kd.C_alloc ?_ _) | (with_reducible refine Kd.C_drewN ?_ _) | (with_reducible refine Kd.C_drew ?_))); (case side2 => exact (Kd.R_reads' HO_4.out).2.1); rintro e w25 ⟨v192, rfl, ho0, hb⟩; have n0_ := Aside0.mk (Kd.R_below (by (with_reducible repeat (first | apply Kd.R_alloc | apply Kd.R_drewN | apply Kd.R_drew)); exact HO_4.out) hb); have n1_ := Aside0.mk (Kd.R_lower ho0 (below_size (by repeat (first | (with_reducible first | exact HB.out | apply below_alloc | apply pw_below_drewN | apply below_drew1) | exact HB.out)))); have n2_ := Aside0.mk (below_step (by repeat (first | (with_reducible first | exact HB.out | apply below_alloc | apply pw_below_drewN | apply below_drew1) | exact HB.out)) hb); clear HO_4; clear HB; have HO_4 := n0_; have HO193 := n1_; have HB := n2_; clear n0_ n1_ n2_; (try clear hb); (try clear hb2); (try clear hk); (try clear hi); (try clear ho0); have hcv26 := own_string (P := Tryd.prog) Tryd.underlying62 Tryd.underlying5 Tryd.underlying9 (Kd.own_of_R HO193.out); have hcv27 := Kd.C_string (P := Tryd.prog) (A := A0) (c := c0) Tryd.underlying62 Tryd.underlying5 Tryd.underlying9 (Kd.C_below HR0.out HB.out))))
      go_ret2
      exact ⟨_, by first | rfl | (simp [errW_none, errW_some] <;> rfl) | (simp [*, errW_none, errW_some] <;> rfl), by (with_reducible repeat (first | apply Kd.R_alloc | apply Kd.R_drewN | apply Kd.R_drew)); exact HO_4.out, by repeat (first | (with_reducible first | exact HB.out | apply below_alloc | apply pw_below_drewN | apply below_drew1) | exact HB.out)⟩
     ·rw [if_neg c23] at H
      have c23b0 : ((strOfNums t190).toList == (strOfNums l0).toList) = false := beq_eq_false_iff_ne.mpr c23
      have c23b1 : ((strOfNums t190).toList != (strOfNums l0).toList) = true := bne_iff_ne.mpr c23
      simp only [Option.some.injEq, Prod.mk.injEq] at H
      obtain ⟨rfl, rfl⟩ := H
      obtain ⟨Ao28, co28, eo28⟩ := Kd.R_slice HO_4.out
      subst eo28
      go_wp2_with (first | (go_at_call 41; (with_reducible refine (cabinetryref09_Pack.calls k1 _ _ x4_1 t190 t191 _ ?side1 ?side2 A21.out).mono ?_); (case side1 => repeat (first | exact (Kd.R_reads' HO_4.out).2.2 | (with_reducible refine Kd.C_alloc ?_ _) | (with_reducible refine Kd.C_drewN ?_ _) | (with_reducible refine Kd.C_drew ?_))); (case side2 => exact (Kd.R_reads' HO_4.out).2.1); rintro e w29 ⟨v192, rfl, ho0, hb⟩; have n0_ := Aside0.mk (Kd.R_below (by (with_reducible repeat (first | apply Kd.R_alloc | apply Kd.R_drewN | apply Kd.R_drew)); exact HO_4.out) hb); have n1_ := Aside0.mk (Kd.R_lower ho0 (below_size (by repeat (first | (with_reducible first | exact HB.out | apply below_alloc | apply pw_below_drewN | apply below_drew1) | exact HB.out)))); have n2_ := Aside0.mk (below_step (by repeat (first | (with_reducible first | exact HB.out | apply below_alloc | apply pw_below_drewN | apply below_drew1) | exact HB.out)) hb); clear HO_4; clear HB; have HO_4 := n0_; have HO193 := n1_; have HB := n2_; clear n0_ n1_ n2_; (try clear hb); (try clear hb2); (try clear hk); (try clear hi); (try clear ho0); have hcv30 := own_string (P := Tryd.prog) Tryd.underlying62 Tryd.underlying5 Tryd.underlying9 (Kd.own_of_R HO193.out); have hcv31 := Kd.C_string (P := Tryd.prog) (A := A0) (c := c0) Tryd.underlying62 Tryd.underlying5 Tryd.underlying9 (Kd.C_below HR0.out HB.out)))
      repeat (go_quiet (first | (go_at_call 41; (with_reducible refine (cabinetryref09_Pack.calls k1 _ _ x4_1 t190 t191 _ ?side1 ?side2 A21.out).mono ?_); (case side1 => repeat (first | exact (Kd.R_reads' HO_4.out).2.2 | (with_reducible refine Kd.C_alloc ?_ _) | (with_reducible refine Kd.C_drewN ?_ _) | (with_reducible refine Kd.C_drew ?_))); (case side2 => exact (Kd.R_reads' HO_4.out).2.1); rintro e w29 ⟨v192, rfl, ho0, hb⟩; have n0_ := Aside0.mk (Kd.R_below (by (with_reducible repeat (first | apply Kd.R_alloc | apply Kd.R_drewN | apply Kd.R_drew)); exact HO_4.out) hb); have n1_ := Aside0.mk (Kd.R_lower ho0 (below_size (by repeat (first | (with_reducible first | exact HB.out | apply below_alloc | apply pw_below_drewN | apply below_drew1) | exact HB.out)))); have n2_ := Aside0.mk (below_step (by repeat (first | (with_reducible first | exact HB.out | apply below_alloc | apply pw_below_drewN | apply below_drew1) | exact HB.out)) hb); clear HO_4; clear HB; have HO_4 := n0_; have HO193 := n1_; have HB := n2_; clear n0_ n1_ n2_; (try clear hb); (try clear hb2); (try clear hk); (try clear hi); (try clear ho0); have hcv30 := own_string (P := Tryd.prog) Tryd.underlying62 Tryd.underlying5 Tryd.underlying9 (Kd.own_of_R HO193.out); have hcv31 := Kd.C_string (P := Tryd.prog) (A := A0) (c := c0) Tryd.underlying62 Tryd.underlying5 Tryd.underlying9 (Kd.C_below HR0.out HB.out))); try go_wp2_with (first | (go_at_call 41; (with_reducible refine (cabinetryref09_Pack.calls k1 _ _ x4_1 t190 t191 _ ?side1 ?side2 A21.out).mono ?_); (case side1 => repeat (first | exact (Kd.R_reads' HO_4.out).2.2 | (with_reducible refine Kd.C_alloc ?_ _) | (with_reducible refine Kd.C_drewN ?_ _) | (with_reducible refine Kd.C_drew ?_))); (case side2 => exact (Kd.R_reads' HO_4.out).2.1); rintro e w29 ⟨v192, rfl, ho0, hb⟩; have n0_ := Aside0.mk (Kd.R_below (by (with_reducible repeat (first | apply Kd.R_alloc | apply Kd.R_drewN | apply Kd.R_drew)); exact HO_4.out) hb); have n1_ := Aside0.mk (Kd.R_lower ho0 (below_size (by repeat (first | (with_reducible first | exact HB.out | apply below_alloc | apply pw_below_drewN | apply below_drew1) | exact HB.out)))); have n2_ := Aside0.mk (below_step (by repeat (first | (with_reducible first | exact HB.out | apply below_alloc | apply pw_below_drewN | apply below_drew1) | exact HB.out)) hb); clear HO_4; clear HB; have HO_4 := n0_; have HO193 := n1_; have HB := n2_; clear n0_ n1_ n2_; (try clear hb); (try clear hb2); (try clear hk); (try clear hi); (try clear ho0); have hcv30 := own_string (P := Tryd.prog) Tryd.underlying62 Tryd.underlying5 Tryd.underlying9 (Kd.own_of_R HO193.out); have hcv31 := Kd.C_string (P := Tryd.prog) (A := A0) (c := c0) Tryd.underlying62 Tryd.underlying5 Tryd.underlying9 (Kd.C_below HR0.out HB.out))))
      go_ret2
      exact ⟨_, by first | rfl | (simp [errW_none, errW_some] <;> rfl) | (simp [*, errW_none, errW_some] <;> rfl), by first | exact Kd.R_nil _ _ _ _ _ | exact Kd.N_nil _ _ _ _ _ | exact Kd.V_nil _ _ _ _ _ | exact Kd.Q_nil _ _ _ _ _ | exact Kd.S_nil _ _ _ _ _, by repeat (first | (with_reducible first | exact HB.out | apply below_alloc | apply pw_below_drewN | apply below_drew1) | exact HB.out)⟩
    ·rw [if_neg c22] at H
     have c22b0 : (t191 == 0) = false := beq_eq_false_iff_ne.mpr c22
     have c22b1 : (t191 != 0) = true := bne_iff_ne.mpr c22
     simp only [Option.some.injEq, Prod.mk.injEq] at H
     obtain ⟨rfl, rfl⟩ := H
     obtain ⟨Ao32, co32, eo32⟩ := Kd.R_slice HO_4.out
     subst eo32
     go_wp2_with (first | (go_at_call 41; (with_reducible refine (cabinetryref09_Pack.calls k1 _ _ x4_1 t190 t191 _ ?side1 ?side2 A21.out).mono ?_); (case side1 => repeat (first | exact (Kd.R_reads' HO_4.out).2.2 | (with_reducible refine Kd.C_alloc ?_ _) | (with_reducible refine Kd.C_drewN ?_ _) | (with_reducible refine Kd.C_drew ?_))); (case side2 => exact (Kd.R_reads' HO_4.out).2.1); rintro e w33 ⟨v192, rfl, ho0, hb⟩; have n0_ := Aside0.mk (Kd.R_below (by (with_reducible repeat (first | apply Kd.R_alloc | apply Kd.R_drewN | apply Kd.R_drew)); exact HO_4.out) hb); have n1_ := Aside0.mk (Kd.R_lower ho0 (below_size (by repeat (first | (with_reducible first | exact HB.out | apply below_alloc | apply pw_below_drewN | apply below_drew1) | exact HB.out)))); have n2_ := Aside0.mk (below_step (by repeat (first | (with_reducible first | exact HB.out | apply below_alloc | apply pw_below_drewN | apply below_drew1) | exact HB.out)) hb); clear HO_4; clear HB; have HO_4 := n0_; have HO193 := n1_; have HB := n2_; clear n0_ n1_ n2_; (try clear hb); (try clear hb2); (try clear hk); (try clear hi); (try clear ho0)))
     repeat (go_quiet (first | (go_at_call 41; (with_reducible refine (cabinetryref09_Pack.calls k1 _ _ x4_1 t190 t191 _ ?side1 ?side2 A21.out).mono ?_); (case side1 => repeat (first | exact (Kd.R_reads' HO_4.out).2.2 | (with_reducible refine Kd.C_alloc ?_ _) | (with_reducible refine Kd.C_drewN ?_ _) | (with_reducible refine Kd.C_drew ?_))); (case side2 => exact (Kd.R_reads' HO_4.out).2.1); rintro e w33 ⟨v192, rfl, ho0, hb⟩; have n0_ := Aside0.mk (Kd.R_below (by (with_reducible repeat (first | apply Kd.R_alloc | apply Kd.R_drewN | apply Kd.R_drew)); exact HO_4.out) hb); have n1_ := Aside0.mk (Kd.R_lower ho0 (below_size (by repeat (first | (with_reducible first | exact HB.out | apply below_alloc | apply pw_below_drewN | apply below_drew1) | exact HB.out)))); have n2_ := Aside0.mk (below_step (by repeat (first | (with_reducible first | exact HB.out | apply below_alloc | apply pw_below_drewN | apply below_drew1) | exact HB.out)) hb); clear HO_4; clear HB; have HO_4 := n0_; have HO193 := n1_; have HB := n2_; clear n0_ n1_ n2_; (try clear hb); (try clear hb2); (try clear hk); (try clear hi); (try clear ho0))); try go_wp2_with (first | (go_at_call 41; (with_reducible refine (cabinetryref09_Pack.calls k1 _ _ x4_1 t190 t191 _ ?side1 ?side2 A21.out).mono ?_); (case side1 => repeat (first | exact (Kd.R_reads' HO_4.out).2.2 | (with_reducible refine Kd.C_alloc ?_ _) | (with_reducible refine Kd.C_drewN ?_ _) | (with_reducible refine Kd.C_drew ?_))); (case side2 => exact (Kd.R_reads' HO_4.out).2.1); rintro e w33 ⟨v192, rfl, ho0, hb⟩; have n0_ := Aside0.mk (Kd.R_below (by (with_reducible repeat (first | apply Kd.R_alloc | apply Kd.R_drewN | apply Kd.R_drew)); exact HO_4.out) hb); have n1_ := Aside0.mk (Kd.R_lower ho0 (below_size (by repeat (first | (with_reducible first | exact HB.out | apply below_alloc | apply pw_below_drewN | apply below_drew1) | exact HB.out)))); have n2_ := Aside0.mk (below_step (by repeat (first | (with_reducible first | exact HB.out | apply below_alloc | apply pw_below_drewN | apply below_drew1) | exact HB.out)) hb); clear HO_4; clear HB; have HO_4 := n0_; have HO193 := n1_; have HB := n2_; clear n0_ n1_ n2_; (try clear hb); (try clear hb2); (try clear hk); (try clear hi); (try clear ho0))))
     go_ret2
     exact ⟨_, by first | rfl | (simp [errW_none, errW_some] <;> rfl) | (simp [*, errW_none, errW_some] <;> rfl), by first | exact Kd.R_nil _ _ _ _ _ | exact Kd.N_nil _ _ _ _ _ | exact Kd.V_nil _ _ _ _ _ | exact Kd.Q_nil _ _ _ _ _ | exact Kd.S_nil _ _ _ _ _, by repeat (first | (with_reducible first | exact HB.out | apply below_alloc | apply pw_below_drewN | apply below_drew1) | exact HB.out)⟩
end Go.Proofs.YtnkejhfbkgfedaaDoor.PC
namespace Go.Proofs.YtnkejhfbkgfedaaDoor.L1
open Go.RowKit Go.Proofs.YtnkejhfbkgfedaaDoorW.PrintWords Go.Proofs.YtnkejhfbkgfedaaDoor.PA Go.Proofs.YtnkejhfbkgfedaaDoor.H1 Go.Proofs.YtnkejhfbkgfedaaDoor.PB Go.Proofs.YtnkejhfbkgfedaaDoor.PC
set_option linter.unusedVariables false
set_option linter.unusedSimpArgs false
def endV (B : List UInt8) (l : List ByteArray) : List ByteArray × Int := if (packV l).2 = 0 then (if (packV l).1 = B then (l, 0) else ([], 11)) else ([], 11)
theorem refUnpackL (B : List UInt8) (hB : B.length ≤ 8796093022207) : ∀ (n i : Nat) (bf : List UInt8) (acc : List ByteArray) (k : Nat), B.length - i < n → i ≤ B.length → bf.length ≤ 600 → acc.length ≤ i → 150000 + 2 * (B.length - i) ≤ k →
    cabinetryref09_Unpack.l0 k (B.map toI) acc ⟨bf.toArray⟩ (i : Int) = some (match un n bf (B.drop i) with | some l => endV B (acc ++ l.map mkB) | none => ([], 11)) := by
  intro n
  induction n with
  | zero => intro i bf acc k h; omega
  | succ n ih =>
    intro i bf acc k h hi hb ha hk
    obtain ⟨k, rfl⟩ : ∃ m, k = m + 1 := ⟨k - 1, by omega⟩
    simp only [cabinetryref09_Unpack.l0]
    rw [List.length_map]
    by_cases h0 : i < B.length
    · rw [if_pos (by omega), w64 (x := (i : Int) + 2) (by omega) (by omega), w64 (x := (i : Int) + 1) (by omega) (by omega)]
      by_cases h1 : i + 1 < B.length
      · have e : B.drop i = B[i] :: B[i + 1] :: B.drop (i + 2) := by
          rw [List.drop_eq_getElem_cons h0, List.drop_eq_getElem_cons h1]
        have rx : rd (B.map toI) (i : Int) = toI B[i] := rd_map B i h0
        have ry : rd (B.map toI) ((i : Int) + 1) = toI B[i + 1] := by
          have := rd_map B (i + 1) h1
          rwa [show (((i + 1 : Nat) : Nat) : Int) = (i : Int) + 1 by omega] at this
        rw [if_neg (by omega), if_pos (by omega), rx, ry, e]
        generalize B[i] = x at *
        generalize B[i + 1] = y at *
        have r1 := toI_range x
        have r2 := toI_range y
        have ex : toI x = (x.toNat : Int) := rfl
        have ey : toI y = (y.toNat : Int) := rfl
        have hrl : (B.drop (i + 2)).length = B.length - (i + 2) := List.length_drop
        simp only [un]
        rw [w64 (x := toI x) (by omega) (by omega), ba_size]
        by_cases h2 : bf.length < x.toNat
        · rw [if_pos (by omega), if_pos (Or.inl h2)]
        · rw [if_neg (by omega), if_pos (by omega), if_pos (by omega), w64 (x := toI y) (by omega) (by omega), w64 (x := (i : Int) + 2 + toI y) (by omega) (by omega)]
          by_cases h3 : (B.drop (i + 2)).length < y.toNat
          · rw [if_pos (by omega), if_pos (Or.inr h3)]
          · have e1 : (((i : Int) + 2 + toI y).toNat) = i + 2 + y.toNat := by omega
            have e2 : (((i : Int) + 2).toNat) = i + 2 := by omega
            have e3 : ((B.map toI).take (i + 2 + y.toNat)).drop (i + 2) = ((B.drop (i + 2)).take y.toNat).map toI := by
              rw [← List.map_take, ← List.map_drop, List.drop_take]
              congr 2; omega
            have zt : ((B.drop (i + 2)).take y.toNat).length = y.toNat := by rw [List.length_take]; omega
            have zb : (bf.take x.toNat).length = x.toNat := by rw [List.length_take]; omega
            have eK : (⟨bf.toArray⟩ : ByteArray).extract 0 x.toNat ++ (⟨((B.drop (i + 2)).take y.toNat).toArray⟩ : ByteArray) = mkB (bf.take x.toNat ++ (B.drop (i + 2)).take y.toNat) := by
              rw [ba_take, ba_mk, ba_app3]; rfl
            rw [if_neg (by omega), if_pos (by omega), if_pos (by omega), if_pos (by omega), if_pos (by omega), if_pos (by omega), e1, e2, e3, toI_nat, strOf_map, eK, if_pos (by rw [ByteArray.size_extract, ba_size, ba_size]; omega), if_pos (by omega), if_neg (fun hh => hh.elim h2 h3)]
            have := ih (i + 2 + y.toNat) (bf.take x.toNat ++ (B.drop (i + 2)).take y.toNat) (acc ++ [mkB (bf.take x.toNat ++ (B.drop (i + 2)).take y.toNat)]) k (by omega) (by omega) (by rw [List.length_append]; have := x.toNat_lt; have := y.toNat_lt; omega) (by rw [List.length_append]; simp only [List.length_cons, List.length_nil]; omega) (by omega)
            rw [show (((i + 2 + y.toNat : Nat) : Nat) : Int) = (i : Int) + 2 + toI y by omega] at this
            have em : (⟨(bf.take x.toNat ++ (B.drop (i + 2)).take y.toNat).toArray⟩ : ByteArray) = mkB (bf.take x.toNat ++ (B.drop (i + 2)).take y.toNat) := rfl
            rw [em] at this
            rw [this, List.drop_drop]
            cases un n (bf.take x.toNat ++ (B.drop (i + 2)).take y.toNat) (B.drop (i + 2 + y.toNat)) with
            | none => rfl
            | some l => simp
      · have e : ∃ z, B.drop i = [z] := by
          rw [List.drop_eq_getElem_cons h0, List.drop_eq_nil_of_le (by omega)]
          exact ⟨_, rfl⟩
        obtain ⟨z, e⟩ := e
        rw [if_pos (by omega), e]
        rfl
    · rw [if_neg (by omega), List.drop_eq_nil_of_le (by omega), refPack_f acc k (by omega)]
      simp only [Option.bind_some, un, List.map_nil, List.append_nil]
      rw [strOf_map, strOf_map, ByteArray.toList_eq, ByteArray.toList_eq, ba_mk, ba_mk]
      unfold endV
      split
      · split <;> rfl
      · rfl
theorem map_back (l : List (List UInt8)) : tl (l.map mkB) = l := by
  unfold tl
  rw [List.map_map]
  conv => rhs; rw [← List.map_id l]
  apply List.map_congr_left
  intro a _
  exact ba_mk a
theorem any_small (l : List (List UInt8)) : (l.map mkB).any (fun s => decide (100 < s.size)) = false ↔ small l := by
  rw [List.any_eq_false]
  unfold small
  constructor
  · intro h k hk
    have := h (mkB k) (List.mem_map.2 ⟨k, hk, rfl⟩)
    have hz : (mkB k).size = k.length := ba_size k
    rw [decide_eq_true_eq, hz] at this
    omega
  · intro h s hs
    obtain ⟨k, hk, rfl⟩ := List.mem_map.1 hs
    have := h k hk
    have hz : (mkB k).size = k.length := ba_size k
    rw [decide_eq_true_eq, hz]
    omega
theorem packV_ok (l : List (List UInt8)) (B : List UInt8) : (packV (l.map mkB)).2 = 0 ∧ (packV (l.map mkB)).1 = B ↔ l.length ≤ 300 ∧ small l ∧ pk [] l = some B := by
  unfold packV
  rw [List.length_map, map_back]
  by_cases h1 : 300 < l.length
  · rw [if_pos h1]
    exact ⟨fun h => absurd h.1 (by decide), fun h => by omega⟩
  · rw [if_neg h1]
    by_cases h2 : (l.map mkB).any (fun s => decide (100 < s.size)) = true
    · rw [if_pos h2]
      refine ⟨fun h => absurd h.1 (by decide), fun h => ?_⟩
      rw [(any_small l).2 h.2.1] at h2
      cases h2
    · rw [if_neg h2]
      have hs := (any_small l).1 (by simpa using h2)
      cases hp : pk [] l with
      | none => exact ⟨fun h => absurd h.1 (by decide), fun h => by cases h.2.2⟩
      | some o => exact ⟨fun h => ⟨by omega, hs, by rw [← h.2]⟩, fun h => ⟨rfl, Option.some.inj h.2.2⟩⟩
theorem end_un (B : List UInt8) : (match un (B.length + 1) [] B with | some l => endV B ([] ++ l.map mkB) | none => (([] : List ByteArray), (11 : Int))) = unV B := by
  unfold unV
  cases hu : uk (B.length + 1) 0 [] B with
  | some l =>
    obtain ⟨h1, h2, h3, h4⟩ := uk_some _ _ _ _ _ (by decide) hu
    rw [h1]
    have := (packV_ok l B).2 ⟨by omega, h3, h2⟩
    simp only [List.nil_append]
    unfold endV
    rw [if_pos this.1, if_pos this.2]
  | none =>
    cases hv : un (B.length + 1) [] B with
    | none => rfl
    | some l =>
      simp only [List.nil_append]
      unfold endV
      by_cases h1 : (packV (l.map mkB)).2 = 0
      · rw [if_pos h1]
        by_cases h2 : (packV (l.map mkB)).1 = B
        · obtain ⟨h3, h4, h5⟩ := (packV_ok l B).1 ⟨h1, h2⟩
          rw [uk_of _ 0 _ _ l hv h5 h4 (by omega)] at hu
          cases hu
        · rw [if_neg h2]
      · rw [if_neg h1]
theorem refUnpack_f (B : List UInt8) (hB : B.length ≤ 8796093022207) (k : Nat) (hk : 150000 + 2 * B.length ≤ k) : cabinetryref09_Unpack.f k (B.map toI) = some (unV B) := by
  have := refUnpackL B hB (B.length + 1) 0 [] [] k (by omega) (by omega) (by simp) (by simp) (by omega)
  rw [List.drop_zero, end_un] at this
  exact this
end Go.Proofs.YtnkejhfbkgfedaaDoor.L1
