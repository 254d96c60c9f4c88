/-
  ValTrims of package cabinetry/cabinetrylaw01: for every input the call returns true, and each argument reads afterwards as it read before. Conditions: the package-level variables that the row lists (of unicode/utf8) hold what the program's text lays, which the card ties; nothing else.
-/
-- Written by a program of this session (wip/merge.py): the texts of this claim, joined.
import Derived.Test.YtplbjaandkdhjaaDoorRows
import Derived.Test.YtplbjaandkdhjaaDoorCards
import Derived.Test.YtplbjaandkdhjaaDoorTie
import Derived.WalkKit
import Derived.ProofKit
import Derived.OpenShut
import Derived.ShutString
import Derived.ChangeOld
import Derived.Below
import Derived.SizedLaws
import Derived.LaidMore
import Derived.Lay
import Derived.SevenTiedAt
import Derived.Stop.Joined
import Derived.Test.YtplbjaandkdhjaaDoorMValTrims0
import Derived.Test.YtplbjaandkdhjaaDoorMValTrims1
import Derived.Test.YtplbjaandkdhjaaDoorMValTrims2
import Derived.Test.YtplbjaandkdhjaaDoorMValTrims3
import Derived.Test.YtplbjaandkdhjaaDoorMValTrims4
import Derived.Test.YtplbjaandkdhjaaDoorMValTrims5
import Derived.Test.YtplbjaandkdhjaaDoorMValTrims6
import Derived.Test.YtplbjaandkdhjaaDoorMValTrims7
import Derived.Test.YtplbjaandkdhjaaDoorMValTrims8
import Derived.Test.YtplbjaandkdhjaaDoorMValTrims9
import Derived.Test.YtplbjaandkdhjaaDoorMValTrims10
import Derived.Test.YtplbjaandkdhjaaDoorMValTrims11
import Derived.Test.YtplbjaandkdhjaaDoorMValTrims12
import Derived.Test.YtplbjaandkdhjaaDoorMValTrims13
namespace Go.Proofs.YtplbjaandkdhjaaDoor.PA
end Go.Proofs.YtplbjaandkdhjaaDoor.PA
namespace Go.Proofs.YtplbjaandkdhjaaDoor.PB
end Go.Proofs.YtplbjaandkdhjaaDoor.PB
namespace Go.Proofs.YtplbjaandkdhjaaDoor.PC
end Go.Proofs.YtplbjaandkdhjaaDoor.PC
namespace Go.Proofs.YtplbjaandkdhjaaDoor.H1
end Go.Proofs.YtplbjaandkdhjaaDoor.H1
namespace Go.Proofs.YtplbjaandkdhjaaDoor.L1
end Go.Proofs.YtplbjaandkdhjaaDoor.L1
namespace Go.Proofs.YtplbjaandkdhjaaDoor.PF
open Go.RowKit Go.Proofs.YtplbjaandkdhjaaDoorW.PrintWords Go.Proofs.YtplbjaandkdhjaaDoorW.PrintLast Go.Proofs.YtplbjaandkdhjaaDoorW.PrintMore Go.Proofs.YtplbjaandkdhjaaDoor.PA Go.Proofs.YtplbjaandkdhjaaDoor.H1 Go.Proofs.YtplbjaandkdhjaaDoor.PB Go.Proofs.YtplbjaandkdhjaaDoor.PC
attribute [local go_sem] max2_int min2_int max_two min_two max_three min_three max_four min_four   -- for this text's walks alone
set_option linter.unusedVariables false
set_option linter.unusedSimpArgs false
def cabinetrylaw01_ValTrims.f (k : Nat) (a0 : ByteArray) (a1 : Int) (a2 : Int) : Option (Bool) := if (a0.size : Int) > 20000 then ((cabinetrylaw01_known.f k).bind fun t101 => (some t101)) else ((val_Trim.f k a0 a2).bind fun bt102 => ((cabinetryref01_Trim.f k a0 a2).bind fun bt104 => ((val_Pad.f k a0 a1 a2).bind fun bt106 => ((cabinetryref01_Pad.f k a0 a1 a2).bind fun bt108 => (if bt102.1.toList = bt104.1.toList then (if bt102.2 = bt104.2 then (if bt106.1.toList = bt108.1.toList then (if bt106.2 = bt108.2 then ((cabinetrylaw01_known.f k).bind fun t110 => (some t110)) else (some false)) else (some false)) else (some false)) else (some false))))))
set_option maxHeartbeats 8000000 in
set_option maxRecDepth 100000 in
theorem cabinetrylaw01_ValTrims.calls (k : Nat) (a0 : ByteArray) (a1 : Int) (a2 : Int) (r : Bool) (w : World) (h : cabinetrylaw01_ValTrims.f k a0 a1 a2 = some r) (hr_ : Aside0 (r = true)) :
  Calls Tryd.prog 14 #[.string a0, .int .i64 a1, .int .i64 a2] w fun e w' => e = .returned (.bool r) ∧ Below w.heap.size w w' := by
 have HB := Aside0.mk (Below.refl w.heap.size w)
 have H : (if (a0.size : Int) > 20000 then ((cabinetrylaw01_known.f k).bind fun t101 => (some t101)) else ((val_Trim.f k a0 a2).bind fun bt102 => ((cabinetryref01_Trim.f k a0 a2).bind fun bt104 => ((val_Pad.f k a0 a1 a2).bind fun bt106 => ((cabinetryref01_Pad.f k a0 a1 a2).bind fun bt108 => (if bt102.1.toList = bt104.1.toList then (if bt102.2 = bt104.2 then (if bt106.1.toList = bt108.1.toList then (if bt106.2 = bt108.2 then ((cabinetrylaw01_known.f k).bind fun t110 => (some t110)) else (some false)) else (some false)) else (some false)) else (some false))))))) = some r := h
 clear h
 by_cases c4 : (a0.size : Int) > 20000
 ·rw [if_pos c4] at H
  have c4b0 : decide (20000 < (a0.size : Int)) = true := decide_eq_true c4
  have c4b1 : decide (20000 < a0.size) = true := decide_eq_true (by omega)
  clear c4
  replace H := Option.bind_eq_some_iff.mp H
  obtain ⟨t101, A50, H⟩ := H
  replace H : (some t101) = some r := H
  have A5 := Aside0.mk A50
  clear A50
  obtain rfl := Option.some.inj H
  simp only [Option.some.injEq, Prod.mk.injEq] at H
  obtain ⟨rfl⟩ := H
  go_enter Tryd.func14, Tryd.ntmps14
  go_wp2_with (first | ((with_reducible refine gate_callee (f := 16) rfl ?_); refine goesL_ (some 18) rfl rfl Tryd.func16 (by kernel_rfl) rfl #[] rfl (by (try simp only [List.map_toArray, List.map_cons, List.map_nil]); first | done | rfl | (simp only [List.length_drop, List.length_take]; rfl)) ?_; (with_reducible refine (cabinetrylaw01_known.calls k  t101 _ A5.out hr_).mono ?_); rintro e w6 ⟨rfl, hb⟩; refine ⟨_, rfl, ?_⟩; have n0_ := Aside0.mk (below_step (by repeat (first | (with_reducible first | exact HB.out | apply below_alloc | apply pw_below_drewN | apply below_drew1) | exact HB.out)) hb); clear HB; have HB := n0_; clear n0_; (try clear hb); (try clear hb2); (try clear hk); (try clear hi)))
  go_ret
  exact ⟨by first | rfl | (simp [errW_none, errW_some] <;> rfl) | (simp [*, errW_none, errW_some] <;> rfl), by repeat (first | (with_reducible first | exact HB.out | apply below_alloc | apply pw_below_drewN | apply below_drew1) | exact HB.out)⟩
 ·rw [if_neg c4] at H
  have c4b0 : decide (20000 < (a0.size : Int)) = false := decide_eq_false c4
  have c4b1 : decide (20000 < a0.size) = false := decide_eq_false (by omega)
  clear c4
  replace H := Option.bind_eq_some_iff.mp H
  obtain ⟨⟨t102, t103⟩, A70, H⟩ := H
  replace H : ((cabinetryref01_Trim.f k a0 a2).bind fun bt104 => ((val_Pad.f k a0 a1 a2).bind fun bt106 => ((cabinetryref01_Pad.f k a0 a1 a2).bind fun bt108 => (if t102.toList = bt104.1.toList then (if t103 = bt104.2 then (if bt106.1.toList = bt108.1.toList then (if bt106.2 = bt108.2 then ((cabinetrylaw01_known.f k).bind fun t110 => (some t110)) else (some false)) else (some false)) else (some false)) else (some false))))) = some r := H
  have A7 := Aside0.mk A70
  clear A70
  replace H := Option.bind_eq_some_iff.mp H
  obtain ⟨⟨t104, t105⟩, A80, H⟩ := H
  replace H : ((val_Pad.f k a0 a1 a2).bind fun bt106 => ((cabinetryref01_Pad.f k a0 a1 a2).bind fun bt108 => (if t102.toList = t104.toList then (if t103 = t105 then (if bt106.1.toList = bt108.1.toList then (if bt106.2 = bt108.2 then ((cabinetrylaw01_known.f k).bind fun t110 => (some t110)) else (some false)) else (some false)) else (some false)) else (some false)))) = some r := H
  have A8 := Aside0.mk A80
  clear A80
  replace H := Option.bind_eq_some_iff.mp H
  obtain ⟨⟨t106, t107⟩, A90, H⟩ := H
  replace H : ((cabinetryref01_Pad.f k a0 a1 a2).bind fun bt108 => (if t102.toList = t104.toList then (if t103 = t105 then (if t106.toList = bt108.1.toList then (if t107 = bt108.2 then ((cabinetrylaw01_known.f k).bind fun t110 => (some t110)) else (some false)) else (some false)) else (some false)) else (some false))) = some r := H
  have A9 := Aside0.mk A90
  clear A90
  replace H := Option.bind_eq_some_iff.mp H
  obtain ⟨⟨t108, t109⟩, A100, H⟩ := H
  replace H : (if t102.toList = t104.toList then (if t103 = t105 then (if t106.toList = t108.toList then (if t107 = t109 then ((cabinetrylaw01_known.f k).bind fun t110 => (some t110)) else (some false)) else (some false)) else (some false)) else (some false)) = some r := H
  have A10 := Aside0.mk A100
  clear A100
  by_cases c11 : t102.toList = t104.toList
  ·rw [if_pos c11] at H
   have c11b0 : (t102.toList == t104.toList) = true := beq_iff_eq.mpr c11
   have c11b1 : (t102.toList != t104.toList) = false := bne_eq_false_iff_eq.mpr c11
   clear c11
   by_cases c12 : t103 = t105
   ·rw [if_pos c12] at H
    have c12b0 : (t103 == t105) = true := beq_iff_eq.mpr c12
    have c12b1 : (t103 != t105) = false := bne_eq_false_iff_eq.mpr c12
    clear c12
    by_cases c13 : t106.toList = t108.toList
    ·rw [if_pos c13] at H
     have c13b0 : (t106.toList == t108.toList) = true := beq_iff_eq.mpr c13
     have c13b1 : (t106.toList != t108.toList) = false := bne_eq_false_iff_eq.mpr c13
     clear c13
     by_cases c14 : t107 = t109
     ·rw [if_pos c14] at H
      have c14b0 : (t107 == t109) = true := beq_iff_eq.mpr c14
      have c14b1 : (t107 != t109) = false := bne_eq_false_iff_eq.mpr c14
      clear c14
      replace H := Option.bind_eq_some_iff.mp H
      obtain ⟨t110, A150, H⟩ := H
      replace H : (some t110) = some r := H
      have A15 := Aside0.mk A150
      clear A150
      obtain rfl := Option.some.inj H
      simp only [Option.some.injEq, Prod.mk.injEq] at H
      obtain ⟨rfl⟩ := H
      go_enter Tryd.func14, Tryd.ntmps14
      go_wp2_with (first | ((with_reducible refine gate_callee (f := 52) rfl ?_); refine goesL_ (some 22) rfl rfl Tryd.func52 (by kernel_rfl) rfl #[.string a0, .int .i64 a2] rfl (by (try simp only [List.map_toArray, List.map_cons, List.map_nil]); first | done | rfl | (simp only [List.length_drop, List.length_take]; rfl)) ?_; (with_reducible refine (val_Trim.calls k a0 a2 t102 t103 _ A7.out).mono ?_); rintro e w16 ⟨rfl, hb⟩; refine ⟨_, rfl, ?_⟩; have n0_ := Aside0.mk (below_step (by repeat (first | (with_reducible first | exact HB.out | apply below_alloc | apply pw_below_drewN | apply below_drew1) | exact HB.out)) hb); clear HB; have HB := n0_; clear n0_; (try clear hb); (try clear hb2); (try clear hk); (try clear hi)) | ((with_reducible refine gate_callee (f := 53) rfl ?_); refine goesL_ (some 28) rfl rfl Tryd.func53 (by kernel_rfl) rfl #[.string a0, .int .i64 a2] rfl (by (try simp only [List.map_toArray, List.map_cons, List.map_nil]); first | done | rfl | (simp only [List.length_drop, List.length_take]; rfl)) ?_; (with_reducible refine (cabinetryref01_Trim.calls k a0 a2 t104 t105 _ A8.out).mono ?_); rintro e w' ⟨rfl, ⟨nd, rfl⟩⟩; refine ⟨_, rfl, ?_⟩) | ((with_reducible refine gate_callee (f := 54) rfl ?_); refine goesL_ (some 35) rfl rfl Tryd.func54 (by kernel_rfl) rfl #[.string a0, .int .i64 a1, .int .i64 a2] rfl (by (try simp only [List.map_toArray, List.map_cons, List.map_nil]); first | done | rfl | (simp only [List.length_drop, List.length_take]; rfl)) ?_; (with_reducible refine (val_Pad.calls k a0 a1 a2 t106 t107 _ A9.out).mono ?_); rintro e w17 ⟨rfl, hb⟩; refine ⟨_, rfl, ?_⟩; have n0_ := Aside0.mk (below_step (by repeat (first | (with_reducible first | exact HB.out | apply below_alloc | apply pw_below_drewN | apply below_drew1) | exact HB.out)) hb); clear HB; have HB := n0_; clear n0_; (try clear hb); (try clear hb2); (try clear hk); (try clear hi)) | ((with_reducible refine gate_callee (f := 55) rfl ?_); refine goesL_ (some 42) rfl rfl Tryd.func55 (by kernel_rfl) rfl #[.string a0, .int .i64 a1, .int .i64 a2] rfl (by (try simp only [List.map_toArray, List.map_cons, List.map_nil]); first | done | rfl | (simp only [List.length_drop, List.length_take]; rfl)) ?_; (with_reducible refine (cabinetryref01_Pad.calls k a0 a1 a2 t108 t109 _ A10.out).mono ?_); rintro e w' ⟨rfl, ⟨nd, rfl⟩⟩; refine ⟨_, rfl, ?_⟩) | (go_at_call 16; (with_reducible refine (cabinetrylaw01_known.calls k  t110 _ A15.out hr_).mono ?_); rintro e w18 ⟨rfl, hb⟩; have n0_ := Aside0.mk (below_step (by repeat (first | (with_reducible first | exact HB.out | apply below_alloc | apply pw_below_drewN | apply below_drew1) | exact HB.out)) hb); clear HB; have HB := n0_; clear n0_; (try clear hb); (try clear hb2); (try clear hk); (try clear hi)))
      go_ret
      exact ⟨by first | rfl | (simp [errW_none, errW_some] <;> rfl) | (simp [*, errW_none, errW_some] <;> rfl), by repeat (first | (with_reducible first | exact HB.out | apply below_alloc | apply pw_below_drewN | apply below_drew1) | exact HB.out)⟩
     ·rw [if_neg c14] at H
      have c14b0 : (t107 == t109) = false := beq_eq_false_iff_ne.mpr c14
      have c14b1 : (t107 != t109) = true := bne_iff_ne.mpr c14
      obtain rfl := Option.some.inj H
      exact absurd hr_.out (by decide)
    ·rw [if_neg c13] at H
     have c13b0 : (t106.toList == t108.toList) = false := beq_eq_false_iff_ne.mpr c13
     have c13b1 : (t106.toList != t108.toList) = true := bne_iff_ne.mpr c13
     obtain rfl := Option.some.inj H
     exact absurd hr_.out (by decide)
   ·rw [if_neg c12] at H
    have c12b0 : (t103 == t105) = false := beq_eq_false_iff_ne.mpr c12
    have c12b1 : (t103 != t105) = true := bne_iff_ne.mpr c12
    obtain rfl := Option.some.inj H
    exact absurd hr_.out (by decide)
  ·rw [if_neg c11] at H
   have c11b0 : (t102.toList == t104.toList) = false := beq_eq_false_iff_ne.mpr c11
   have c11b1 : (t102.toList != t104.toList) = true := bne_iff_ne.mpr c11
   obtain rfl := Option.some.inj H
   exact absurd hr_.out (by decide)
end Go.Proofs.YtplbjaandkdhjaaDoor.PF
namespace Go.Proofs.YtplbjaandkdhjaaDoor.LValTrims
open Go.RowKit Go.Proofs.YtplbjaandkdhjaaDoorW.PrintWords Go.Proofs.YtplbjaandkdhjaaDoor Go.Proofs.YtplbjaandkdhjaaDoor.PA Go.Proofs.YtplbjaandkdhjaaDoor.PB Go.Proofs.YtplbjaandkdhjaaDoor.PC Go.Proofs.YtplbjaandkdhjaaDoor.PF Go.Proofs.YtplbjaandkdhjaaDoor.H1 Go.Proofs.YtplbjaandkdhjaaDoor.L1
set_option linter.unusedVariables false
theorem trimRight_cons (x : UInt8) (l : List UInt8) : Lib.trimRightS (x :: l) [32] = if Lib.trimRightS l [32] = [] then (if x = 32 then [] else [x]) else x :: Lib.trimRightS l [32] := by
  unfold Lib.trimRightS
  rw [List.reverse_cons, List.dropWhile_append]
  by_cases h : List.dropWhile (([32] : List UInt8).contains ·) l.reverse = []
  · rw [h, if_pos (by simp), if_pos (by simp)]
    by_cases hx : x = 32
    · simp [hx]
    · simp [hx]
  · rw [if_neg (by simpa using h), if_neg (by simpa using h)]
    simp
theorem trim_both : ∀ (l : List UInt8), Lib.trimS l [32] = Lib.trimRightS (Lib.trimLeftS l [32]) [32]
  | [] => rfl
  | x :: l => by
    have ih := trim_both l
    unfold Lib.trimS at ih ⊢
    rw [trimRight_cons, trim_cons x l]
    by_cases hx : x = 32
    · rw [if_pos hx, if_pos hx, ← ih]
      by_cases h : Lib.trimRightS l [32] = []
      · rw [if_pos h, h]
      · rw [if_neg h, trim_cons, if_pos hx]
    · rw [if_neg hx, if_neg hx, trimRight_cons]
      by_cases h : Lib.trimRightS l [32] = []
      · rw [if_pos h, if_pos h, if_neg hx, trim_cons, if_neg hx]
      · rw [if_neg h, if_neg h, trim_cons, if_neg hx]
theorem front_l : ∀ (l : List UInt8) (k : Nat), l.length < k → l.length ≤ 140737488351232 → cabinetryref01_front.l0 k ⟨l.toArray⟩ = some ⟨(Lib.trimLeftS l [32]).toArray⟩
  | [], k, h, _ => by
    obtain ⟨k, rfl⟩ : ∃ m, k = m + 1 := ⟨k - 1, by omega⟩
    simp only [cabinetryref01_front.l0]
    rw [if_pos (by rw [ByteArray.toList_eq])]
    rfl
  | x :: l, k, h, hl => by
    obtain ⟨k, rfl⟩ : ∃ m, k = m + 1 := ⟨k - 1, by omega⟩
    simp only [List.length_cons] at h hl
    have hs : (⟨(x :: l).toArray⟩ : ByteArray).size = l.length + 1 := by rw [ba_size]; rfl
    simp only [cabinetryref01_front.l0]
    rw [if_neg (by rw [ByteArray.toList_eq, ba_mk]; simp), if_pos (by omega), trim_cons]
    have hb : bt (⟨(x :: l).toArray⟩ : ByteArray) 0 = (x.toNat : Int) := by
      have := bt_get ⟨(x :: l).toArray⟩ 0 (by omega)
      simpa using this
    rw [hb]
    by_cases h32 : x = 32
    · rw [if_pos ((u8_32 x).2 h32), if_pos (by omega), if_pos h32, ba_drop, ba_mk]
      exact front_l l k (by omega) (by omega)
    · rw [if_neg (fun hh => h32 ((u8_32 x).1 hh)), if_neg h32]
theorem front_f (s : ByteArray) (hs : s.size ≤ 20000) (k : Nat) (hk : s.size < k) : cabinetryref01_front.f k s = some ⟨(Lib.trimLeftS s.data.toList [32]).toArray⟩ := by
  have := front_l s.data.toList k (by rw [ba_len]; exact hk) (by rw [ba_len]; omega)
  rwa [ba_self] at this
theorem trim_same (s : ByteArray) (hs : s.size ≤ 20000) (n : Int) (k : Nat) (hk : 30000 ≤ k) : ∃ v, val_Trim.f k s n = some v ∧ cabinetryref01_Trim.f k s n = some v := by
  unfold val_Trim.f cabinetryref01_Trim.f
  rw [long_f [s] (by simp) k (by omega), refLong_f]
  simp only [Option.bind_some, List.any_cons, List.any_nil, Bool.or_false]
  by_cases h : 2048 < s.size
  · simp [h]
  · simp only [h, decide_false, Bool.false_eq_true, if_false, if_true]
    rw [trimL_f, bare_f s (by omega) k (by omega), front_f s hs k (by omega)]
    have e1 : strings_TrimRight.f s (⟨#[32]⟩ : ByteArray) = some ⟨(Lib.trimRightS s.data.toList [32]).toArray⟩ := trim_f s (by omega)
    have e2 : strings_Trim.f s (⟨#[32]⟩ : ByteArray) = some ⟨(Lib.trimS s.data.toList [32]).toArray⟩ := by
      unfold strings_Trim.f
      rw [if_pos ⟨by decide, by decide, by omega⟩]
    have hl := trimLeft_len s.data.toList
    rw [ba_len] at hl
    rw [e1, e2]
    simp only [Option.bind_some]
    rw [bare_f _ (by rw [ba_size]; omega) k (by rw [ba_size]; omega), ba_mk]
    simp only [Option.bind_some]
    have e3 : Lib.trimS s.data.toList [32] = Lib.trimRightS (Lib.trimLeftS s.data.toList [32]) [32] := trim_both _
    rw [e3]
    by_cases n0 : n = 0
    · rw [if_pos n0]; exact ⟨_, rfl, rfl⟩
    · rw [if_neg n0]
      by_cases n1 : n = 1
      · rw [if_pos n1]; exact ⟨_, rfl, rfl⟩
      · rw [if_neg n1]
        by_cases n2 : n = 2
        · rw [if_pos n2]; exact ⟨_, rfl, rfl⟩
        · rw [if_neg n2]; exact ⟨_, rfl, rfl⟩
theorem times_g (n : Int) (h0 : 0 ≤ n) (h1 : n ≤ 3000) {k : Nat} (hk : 4000 ≤ k) : cabinetryref01_Times.f k (⟨#[32]⟩ : ByteArray) n = some ⟨(List.replicate n.toNat 32).toArray⟩ := by
  have := times_l 32 n.toNat (by omega) n.toNat 0 k (by omega) (by omega)
  rw [show ((n.toNat : Nat) : Int) = n by omega] at this
  exact this
def padV (s : ByteArray) (n b : Int) : ByteArray × Int :=
  if (s.size : Int) ≥ n then (s.extract 0 n.toNat, 0) else ((⟨(List.replicate b.toNat 32).toArray⟩ ++ s) ++ ⟨(List.replicate (n - (s.size : Int) - b).toNat 32).toArray⟩, 0)
theorem pad_body (s : ByteArray) (hs : s.size ≤ 2048) (n b : Int) (h0 : 0 ≤ n) (h1 : n ≤ 2048) (hb : (s.size : Int) < n → 0 ≤ b ∧ b ≤ n - (s.size : Int)) (F G : Int → Option ByteArray) (hF : ∀ x, 0 ≤ x → x ≤ 3000 → F x = some ⟨(List.replicate x.toNat 32).toArray⟩) (b' r' : Int) (hb' : (s.size : Int) < n → b' = b) (hr : (s.size : Int) < n → r' = n - (s.size : Int) - b) :
    (if (s.size : Int) ≥ n then (if 0 ≤ n then (if n ≤ (s.size : Int) then (some (s.extract 0 (n : Int).toNat, (0 : Int))) else (none)) else (none)) else ((F b').bind fun t126 => (if t126.size + s.size ≤ 9223372036854775807 then ((F r').bind fun t127 => (if (t126 ++ s).size + t127.size ≤ 9223372036854775807 then (some ((t126 ++ s) ++ t127, 0)) else (none))) else (none)))) = some (padV s n b) := by
  unfold padV
  by_cases h : (s.size : Int) ≥ n
  · rw [if_pos h, if_pos h0, if_pos (by omega), if_pos h]
  · rw [if_neg h, if_neg h]
    have hb2 := hb (by omega)
    rw [hb' (by omega), hr (by omega), hF b hb2.1 (by omega), hF _ (by omega) (by omega)]
    simp only [Option.bind_some]
    have z1 : (⟨(List.replicate b.toNat (32 : UInt8)).toArray⟩ : ByteArray).size = b.toNat := by rw [ba_size, List.length_replicate]
    have z2 : (⟨(List.replicate (n - (s.size : Int) - b).toNat (32 : UInt8)).toArray⟩ : ByteArray).size = (n - (s.size : Int) - b).toNat := by rw [ba_size, List.length_replicate]
    rw [if_pos (by rw [z1]; omega), if_pos (by rw [ByteArray.size_append, z1, z2]; omega)]
theorem pad_same (s : ByteArray) (hs : s.size ≤ 20000) (n z : Int) (k : Nat) (hk : 30001 ≤ k) : ∃ v, val_Pad.f k s n z = some v ∧ cabinetryref01_Pad.f k s n z = some v := by
  obtain ⟨k, rfl⟩ : ∃ m, k = m + 1 := ⟨k - 1, by omega⟩
  have rF : ∀ x, 0 ≤ x → x ≤ 3000 → strings_Repeat.f (⟨#[32]⟩ : ByteArray) x = some ⟨(List.replicate x.toNat 32).toArray⟩ := fun x h0 h1 => repeat_f 32 x h0 (by omega)
  have tF : ∀ x, 0 ≤ x → x ≤ 3000 → cabinetryref01_Times.f k (⟨#[32]⟩ : ByteArray) x = some ⟨(List.replicate x.toNat 32).toArray⟩ := fun x h0 h1 => times_g x h0 h1 (by omega)
  have lf := long_f [s] (by simp) (k + 1) (by omega)
  simp only [List.any_cons, List.any_nil, Bool.or_false] at lf
  unfold val_Pad.f cabinetryref01_Pad.f PD0.val_Pad.f PD1.val_Pad.f PD2.val_Pad.f PDG.val_Pad.f
  rw [lf, refLong_f]
  simp only [Option.bind_some]
  by_cases h : 2048 < s.size
  · refine ⟨((⟨#[]⟩ : ByteArray), 3), ?_, ?_⟩
    · simp [h]
    · simp [h]
  simp only [h, decide_false, Bool.false_eq_true, if_false, if_true]
  have b1 : PD0.val_Pad.j0 (k + 1) s n true = some ((⟨#[]⟩ : ByteArray), 1) := by simp [PD0.val_Pad.j0]
  have b2 : PD1.val_Pad.j0 (k + 1) s n true = some ((⟨#[]⟩ : ByteArray), 1) := by simp [PD1.val_Pad.j0]
  have b3 : PD2.val_Pad.j0 (k + 1) s n true = some ((⟨#[]⟩ : ByteArray), 1) := by simp [PD2.val_Pad.j0]
  have b4 : PDG.val_Pad.j0 (k + 1) s n true = some ((⟨#[]⟩ : ByteArray), 1) := by simp [PDG.val_Pad.j0]
  have b5 : cabinetryref01_Pad.j0 (k + 1) s n z true = some ((⟨#[]⟩ : ByteArray), 1) := by simp [cabinetryref01_Pad.j0]
  rw [b1, b2, b3, b4, b5]
  by_cases n0 : n < 0
  · rw [if_pos n0, if_pos n0, if_pos n0, if_pos n0, if_pos n0]
    refine ⟨_, ?_, rfl⟩
    split <;> (try split) <;> (try split) <;> rfl
  rw [if_neg n0, if_neg n0, if_neg n0, if_neg n0, if_neg n0]
  by_cases n1 : n > 2048
  · rw [if_pos n1, if_pos n1, if_pos n1, if_pos n1, if_pos n1]
    refine ⟨_, ?_, rfl⟩
    split <;> (try split) <;> (try split) <;> rfl
  rw [if_neg n1, if_neg n1, if_neg n1, if_neg n1, if_neg n1]
  have hw : wrap64 (n - (s.size : Int)) = n - (s.size : Int) := w64 (by omega) (by omega)
  by_cases z0 : z = 0
  · subst z0
    rw [if_pos rfl, if_neg (by decide), decide_eq_false (show ¬ ((0 : Int) > 2) by decide)]
    simp only [PD0.val_Pad.j0, cabinetryref01_Pad.j0, decide_false, Bool.false_eq_true, if_false, show ¬ ((0 : Nat) > 2) from by decide, show ¬ ((0 : Int) = 1) from by decide, show ¬ ((0 : Int) = 2) from by decide]
    refine ⟨padV s n 0, ?_, ?_⟩
    · exact pad_body s (by omega) n 0 (by omega) (by omega) (fun _ => by omega) _ (fun _ => none) rF 0 _ (fun _ => rfl) (fun _ => by rw [hw, w64 (by omega) (by omega)])
    · exact pad_body s (by omega) n 0 (by omega) (by omega) (fun _ => by omega) _ (fun _ => none) tF 0 _ (fun _ => rfl) (fun _ => by rw [hw, w64 (by omega) (by omega)])
  rw [if_neg z0]
  by_cases z1 : z = 1
  · subst z1
    rw [if_pos rfl, if_neg (by decide), decide_eq_false (show ¬ ((1 : Int) > 2) by decide)]
    simp only [PD1.val_Pad.j0, cabinetryref01_Pad.j0, decide_false, Bool.false_eq_true, if_false, show ¬ ((1 : Nat) > 2) from by decide, if_true]
    refine ⟨padV s n (n - (s.size : Int)), ?_, ?_⟩
    · exact pad_body s (by omega) n (n - (s.size : Int)) (by omega) (by omega) (fun _ => by omega) _ (fun _ => none) rF _ _ (fun _ => hw) (fun _ => by rw [hw, w64 (by omega) (by omega)])
    · exact pad_body s (by omega) n (n - (s.size : Int)) (by omega) (by omega) (fun _ => by omega) _ (fun _ => none) tF _ _ (fun _ => hw) (fun _ => by rw [hw, w64 (by omega) (by omega)])
  rw [if_neg z1]
  by_cases z2 : z = 2
  · subst z2
    rw [if_pos rfl, if_neg (by decide), decide_eq_false (show ¬ ((2 : Int) > 2) by decide)]
    simp only [PD2.val_Pad.j0, cabinetryref01_Pad.j0, decide_false, Bool.false_eq_true, if_false, show ¬ ((2 : Nat) > 2) from by decide, if_true, show ¬ ((2 : Int) = 1) from by decide]
    have hd : (s.size : Int) < n → wrap64 (Int.tdiv (wrap64 (n - (s.size : Int))) 2) = (n - (s.size : Int)) / 2 := fun _ => by
      rw [hw, Int.tdiv_eq_ediv_of_nonneg (by omega), w64 (by omega) (by omega)]
    refine ⟨padV s n ((n - (s.size : Int)) / 2), ?_, ?_⟩
    · exact pad_body s (by omega) n ((n - (s.size : Int)) / 2) (by omega) (by omega) (fun _ => by omega) _ (fun _ => none) rF _ _ hd (fun h' => by rw [hd h', hw, w64 (by omega) (by omega)])
    · exact pad_body s (by omega) n ((n - (s.size : Int)) / 2) (by omega) (by omega) (fun _ => by omega) _ (fun _ => none) tF _ _ hd (fun h' => by rw [hd h', hw, w64 (by omega) (by omega)])
  rw [if_neg z2]
  refine ⟨((⟨#[]⟩ : ByteArray), 1), ?_, ?_⟩
  · by_cases zn : z < 0
    · rw [if_pos zn]
    · rw [if_neg zn, decide_eq_true (by omega), b4]
  · by_cases zn : z < 0
    · rw [if_pos zn]
    · rw [if_neg zn, decide_eq_true (by omega), b5]
theorem law (a0 : ByteArray) (a1 a2 : Int) (h0 : a0.size ≤ 140737488351232) (h1 : -9223372036854775808 ≤ a1 ∧ a1 ≤ 9223372036854775807) (h2 : -9223372036854775808 ≤ a2 ∧ a2 ≤ 9223372036854775807) :
    ∃ k, cabinetrylaw01_ValTrims.f k a0 a1 a2 = some true := by
  refine ⟨40000, ?_⟩
  unfold cabinetrylaw01_ValTrims.f
  rw [known_ev 40000 (by decide)]
  by_cases hs : (a0.size : Int) > 20000
  · rw [if_pos hs]; rfl
  · rw [if_neg hs]
    obtain ⟨v, h3, h4⟩ := trim_same a0 (by omega) a2 40000 (by decide)
    obtain ⟨u, h5, h6⟩ := pad_same a0 (by omega) a1 a2 40000 (by decide)
    rw [h3, h4, h5, h6]
    simp
end Go.Proofs.YtplbjaandkdhjaaDoor.LValTrims
namespace Go.Proofs.YtplbjaandkdhjaaDoor.valTrims
open Go.ChangeShapes Go.WideShapes Go.ChangeAt Go.RowKit
open Go.ChangeMaps (open_string shut_string)
set_option linter.unusedVariables false
theorem own : ownKnob Tryd.prog.godebug = none := by kernel_rfl
set_option maxRecDepth 100000 in
theorem lifted (os : Os) (started : os.Started) (H : Type) (enc : TypeId × Value → H) :
    ReturnsInHanded {} Tryd.checked os 14 .any (fun w args => (Rows.valTrimsSpec.pre enc Tryd.prog Tryd.f14 Rows.valTrimsRow.domain false w args ∧ laidMetH Tryd.prog Rows.valTrimsRow.laid w) ∧ sizedMet enc Tryd.prog Tryd.f14 (OpenSpec.ofChange Rows.valTrimsSpec) false w args)
      (Rows.valTrimsSpec.post enc Tryd.prog Tryd.f14 false true false false) := by
  refine returnsInHanded_of_change_and (C := Tryd.checked) (X := fun w _ => laidMetH Tryd.prog Rows.valTrimsRow.laid w) (fun _ _ _ hh h => h.of_heap hh) own started (by kernel_rfl) Tryd.func14
    (ChangeSpec.witness_shaped (enc := enc) (C := Tryd.checked) (os := os) (X := fun w _ => laidMetH Tryd.prog Rows.valTrimsRow.laid w) false (World.laidAll Tryd.prog os Rows.valTrimsRow.laid) #[.string ByteArray.empty, .int .i64 0, .int .i64 0] 8 (World.laidAll_os _ _ _)
      (World.shaped_of_ZipB (by kernel_rfl) (by kernel_rfl)) (by kernel_rfl) (by kernel_rfl) (by kernel_rfl)
      (by rw [MakeChecks.laidMetH_plain _ _ _ (by kernel_rfl)]; exact laidMet_laidAll _ (by kernel_rfl) (by kernel_rfl))) ?_
  intro W base args ds gs before hval0 hW hcnd hsz0 hL _
  have hsz : (DataW.weightsEach Tryd.prog (Tryd.f14.params.toList ++ Rows.valTrimsSpec.plain.varTypes Tryd.prog) (ds ++ gs)).all (· ≤ reachBytes) = true := hsz0
  have hval : ∀ (j : Nat) t v, Tryd.f14.params[j]? = some t → args[j]? = some v → Value.okWide Tryd.prog W .any base t v := hval0
  have hW' := hW
  obtain ⟨p, q, hA0, hV, rfl, hfz, hnd⟩ := hW
  have hA : DataW.TrodAll enc Tryd.prog W 0 (fun _ => true) true Tryd.f14.params.toList args.toList ds p := hA0
  rw [Tryd.params14] at hA hval hsz
  obtain ⟨v0, vs0, d0, ds0, p0, q0, hargs, rfl, rfl, h0, r0⟩ := trodAll_cons hA
  obtain ⟨v1, vs1, d1, ds1, p1, q1, rfl, rfl, rfl, h1, r1⟩ := trodAll_cons r0
  obtain ⟨v2, vs2, d2, ds2, p2, q2, rfl, rfl, rfl, h2, r2⟩ := trodAll_cons r1
  obtain ⟨rfl, rfl, rfl⟩ := trodAll_nil r2
  obtain rfl : args = #[v0, v1, v2] := by cases args; simp_all
  obtain ⟨rfl, rfl⟩ := trodVars_none hV
  obtain ⟨a0, rfl, rfl, rfl, y0⟩ := open_string Tryd.underlying9 (hval 0 9 v0 rfl rfl) h0
  have w0 : a0.size ≤ 140737488351232 := by
    have z := sized_string hsz (j := 0) (t := 9) rfl rfl
    rw [Array.length_toList] at z
    exact z
  obtain ⟨a1, rfl, rfl, rfl, w1⟩ := open_int Tryd.underlying3 (hval 1 3 v1 rfl rfl) h1
  obtain ⟨a2, rfl, rfl, rfl, w2⟩ := open_int Tryd.underlying3 (hval 2 3 v2 rfl rfl) h2
  clear hA0 hval0 hsz0 hsz
  obtain ⟨k, h⟩ := LValTrims.law a0 a1 a2 w0 (bounds_i64 w1) (bounds_i64 w2)
  refine (PF.cabinetrylaw01_ValTrims.calls k a0 a1 a2 true W h ⟨rfl⟩).mono fun e W' ⟨he, bel⟩ => ?_
  subst he
  exact ⟨_, rfl, _, _, _, [], _, [], hW', trodAll_mk1 (shut_bool Tryd.underlying4 _), (trodAll_cons_mk (shut_string Tryd.underlying9 y0) (trodAll_cons_mk (shut_int Tryd.underlying3 w1) (trodAll_cons_mk (shut_int Tryd.underlying3 w2) trodAll_mk0))), rfl, bel.frame _, fun h => by cases h⟩
theorem valTrims_holds : Rows.ValTrimsSaid :=
  OpenClaim.holds_of_wide 14 Tryd.f14 rfl rfl rfl rfl rfl rfl rfl ⟨rfl, rfl, rfl, rfl, rfl⟩ rfl rfl rfl rfl rfl (by kernel_rfl) Tryd.func14 (by kernel_rfl)
    (of_decide_eq_true (by kernel_rfl)) (by unfold Func.isWrapper; first | (rw [if_pos (by decide +kernel)]; kernel_rfl) | (rw [if_neg (by decide +kernel)]; exact ⟨rfl, rfl⟩))
    (fun os started H enc _ => lifted os started H enc)
end Go.Proofs.YtplbjaandkdhjaaDoor.valTrims
namespace Go.Proofs.YtplbjaandkdhjaaDoor
theorem valTrims_card : Rows.ValTrimsCardSaid :=
  Claim7.holds_tied_plain_at .later [] [.data, .pinned] true (true, "b0e2575192d11b15c47babb91c45279908020743339f46d5cad88154cf757604") false
    valTrims.valTrims_holds (fun _ h => by cases h) (by kernel_rfl) (fun _ h => by cases h) valTrims_row_tie rfl ⟨rfl, rfl⟩ (by kernel_rfl) rfl
    (fun f fn hf hfn => by
      obtain rfl : f = 14 := Option.some.inj ((show Tryd.prog.funcNamed "cabinetry/cabinetrylaw01.ValTrims" = some 14 by kernel_rfl).symm.trans hf) |>.symm
      obtain rfl : fn = Tryd.f14 := (Option.some.inj (Tryd.func14.symm.trans hfn)).symm
      exact ⟨by kernel_rfl, fun j t ht => by
        rw [Tryd.params14] at ht
        have hm : t ∈ [9, 3, 3] := by simpa using Array.mem_of_getElem? ht
        have hall : ([9, 3, 3].all fun u => !Tryd.prog.wantsStandIn u) = true := by kernel_rfl
        exact (show Tryd.prog.wantsStandIn t = false by simpa using List.all_eq_true.1 hall t hm)⟩)
    (by kernel_rfl)
#print axioms valTrims_card
end Go.Proofs.YtplbjaandkdhjaaDoor
