/-
  KeyShorts of package cabinetry/cabinetrylaw09: for every input the call returns true, and each argument reads afterwards as it read before. Conditions: the package-level variables that the row lists (of unicode/utf8) hold what the program's text lays, which the card ties; nothing else.
-/
-- Written by a program of this session (wip/merge.py): the texts of this claim, joined.
import Derived.Test.YtnkejhfbkgfedaaDoorRows
import Derived.Test.YtnkejhfbkgfedaaDoorCards
import Derived.Test.YtnkejhfbkgfedaaDoorTie
import Derived.WalkKit
import Derived.ProofKit
import Derived.OpenShut
import Derived.ShutString
import Derived.ChangeOld
import Derived.Below
import Derived.SizedLaws
import Derived.LaidMore
import Derived.Lay
import Derived.SevenTiedAt
import Derived.Stop.Joined
import Derived.Test.YtnkejhfbkgfedaaDoorMKeyShorts0
import Derived.Test.YtnkejhfbkgfedaaDoorMKeyShorts1
import Derived.Test.YtnkejhfbkgfedaaDoorMKeyShorts2
import Derived.Test.YtnkejhfbkgfedaaDoorMKeyShorts3
import Derived.Test.YtnkejhfbkgfedaaDoorMKeyShorts4
import Derived.Test.YtnkejhfbkgfedaaDoorMKeyShorts5
import Derived.Test.YtnkejhfbkgfedaaDoorMKeyShorts6
import Derived.Test.YtnkejhfbkgfedaaDoorMKeyShorts7
import Derived.Test.YtnkejhfbkgfedaaDoorMKeyShorts8
import Derived.Test.YtnkejhfbkgfedaaDoorMKeyShorts9
import Derived.Test.YtnkejhfbkgfedaaDoorMKeyShorts10
import Derived.Test.YtnkejhfbkgfedaaDoorMKeyShorts11
import Derived.Test.YtnkejhfbkgfedaaDoorMKeyShorts12
namespace Go.Proofs.YtnkejhfbkgfedaaDoor.PA
end Go.Proofs.YtnkejhfbkgfedaaDoor.PA
namespace Go.Proofs.YtnkejhfbkgfedaaDoor.PB
end Go.Proofs.YtnkejhfbkgfedaaDoor.PB
namespace Go.Proofs.YtnkejhfbkgfedaaDoor.PC
end Go.Proofs.YtnkejhfbkgfedaaDoor.PC
namespace Go.Proofs.YtnkejhfbkgfedaaDoor.H1
end Go.Proofs.YtnkejhfbkgfedaaDoor.H1
namespace Go.Proofs.YtnkejhfbkgfedaaDoor.L1
end Go.Proofs.YtnkejhfbkgfedaaDoor.L1
namespace Go.Proofs.YtnkejhfbkgfedaaDoor.PA
open Go.RowKit Go.Proofs.YtnkejhfbkgfedaaDoorW.PrintWords Go.Proofs.YtnkejhfbkgfedaaDoorW.PrintLast Go.Proofs.YtnkejhfbkgfedaaDoorW.PrintMore
attribute [local go_sem] max2_int min2_int max_two min_two max_three min_three max_four min_four   -- for this text's walks alone
set_option linter.unusedVariables false
set_option linter.unusedSimpArgs false
def cabinetryref09_Short.l0 : Nat → ByteArray → ByteArray → Int → Option (ByteArray × Int)
 | 0, _, _, _ => none
 | k + 1, x0, x1, x6 => if x6 ≤ (x0.size : Int) then (if 0 ≤ x6 then ((cabinetryref09_further.f k (x0.extract 0 (x6 : Int).toNat)).bind fun bt331 => (if bt331.2 = true then ((cabinetryref01_CompareTexts.f k bt331.1 x1).bind fun t333 => (if t333 ≤ 0 then (some (bt331.1, 0)) else (cabinetryref09_Short.l0 k x0 x1 (wrap64 (x6 + 1))))) else (cabinetryref09_Short.l0 k x0 x1 (wrap64 (x6 + 1))))) else (none)) else (if x0.size + 1 ≤ 9223372036854775807 then (some (x0 ++ (⟨#[0]⟩ : ByteArray), 0)) else (none))
def cabinetryref09_Short.f (k : Nat) (a0 : ByteArray) (a1 : ByteArray) : Option (ByteArray × Int) := (cabinetryref01_CompareTexts.f k a0 a1).bind fun t330 => (if t330 ≥ 0 then (some ((⟨#[]⟩ : ByteArray), 1)) else (cabinetryref09_Short.l0 k a0 a1 1))
set_option maxHeartbeats 8000000 in
set_option maxRecDepth 100000 in
theorem cabinetryref09_Short.calls (k : Nat) (a0 : ByteArray) (a1 : ByteArray) (r1 : ByteArray) (r2 : Int) (w : World) (h : cabinetryref09_Short.f k a0 a1 = some (r1, r2)) :
  Calls Tryd.prog 31 #[.string a0, .string a1] w fun e w' => e = .returned (.tuple #[.string r1, .int .i64 r2]) ∧ Below w.heap.size w w' := by
 have HB := Aside0.mk (Below.refl w.heap.size w)
 have H : ((cabinetryref01_CompareTexts.f k a0 a1).bind fun t330 => (if t330 ≥ 0 then (some ((⟨#[]⟩ : ByteArray), 1)) else (cabinetryref09_Short.l0 k a0 a1 1))) = some (r1, r2) := h
 clear h
 replace H := Option.bind_eq_some_iff.mp H
 obtain ⟨t330, A30, H⟩ := H
 replace H : (if t330 ≥ 0 then (some ((⟨#[]⟩ : ByteArray), 1)) else (cabinetryref09_Short.l0 k a0 a1 1)) = some (r1, r2) := H
 have A3 := Aside0.mk A30
 clear A30
 by_cases c4 : t330 ≥ 0
 ·rw [if_pos c4] at H
  have c4b0 : decide (0 ≤ t330) = true := decide_eq_true c4
  clear c4
  simp only [Option.some.injEq, Prod.mk.injEq] at H
  obtain ⟨rfl, rfl⟩ := H
  go_enter Tryd.func31, Tryd.ntmps31
  go_wp2_with (first | ((with_reducible refine gate_callee (f := 23) rfl ?_); refine goesL_ (some 11) rfl rfl Tryd.func23 (by kernel_rfl) rfl #[.string a0, .string a1] rfl (by (try simp only [List.map_toArray, List.map_cons, List.map_nil]); first | done | rfl | (simp only [List.length_drop, List.length_take]; rfl)) ?_; (with_reducible refine (cabinetryref01_CompareTexts.calls k a0 a1 t330 _ A3.out).mono ?_); rintro e w' ⟨rfl, ⟨nd, rfl⟩⟩; refine ⟨_, rfl, ?_⟩))
  go_ret2
  exact ⟨by first | rfl | (simp [errW_none, errW_some] <;> rfl) | (simp [*, errW_none, errW_some] <;> rfl), by repeat (first | (with_reducible first | exact HB.out | apply below_alloc | apply pw_below_drewN | apply below_drew1) | exact HB.out)⟩
 ·rw [if_neg c4] at H
  have c4b0 : decide (0 ≤ t330) = false := decide_eq_false c4
  clear c4
  have H' := Aside0.mk H
  clear H
  go_enter Tryd.func31, Tryd.ntmps31
  go_wp2_with (first | ((with_reducible refine gate_callee (f := 23) rfl ?_); refine goesL_ (some 11) rfl rfl Tryd.func23 (by kernel_rfl) rfl #[.string a0, .string a1] rfl (by (try simp only [List.map_toArray, List.map_cons, List.map_nil]); first | done | rfl | (simp only [List.length_drop, List.length_take]; rfl)) ?_; (with_reducible refine (cabinetryref01_CompareTexts.calls k a0 a1 t330 _ A3.out).mono ?_); rintro e w' ⟨rfl, ⟨nd, rfl⟩⟩; refine ⟨_, rfl, ?_⟩))
  go_loopg [6] k (fun kq v6 w' => ∃ (x6_1 : Int), v6 = .int .i64 x6_1 ∧ Aside0 (cabinetryref09_Short.l0 kq a0 a1 x6_1 = some (r1, r2)) ∧ Aside0 (kq ≤ k) ∧ Aside0 (Below w.heap.size w w'))
  case atStart => exact ⟨(1), (by first | rfl | (simp; done) | (simp [*]; done)), H', ⟨Nat.le_refl _⟩, ⟨by repeat (first | (with_reducible first | exact HB.out | apply below_alloc | apply pw_below_drewN | apply below_drew1) | exact HB.out)⟩⟩
  case round =>
   clear H'
   try clear c2; try clear p2; try clear c3; try clear c4; try clear c4b0
   obtain ⟨x6_1, rfl, HA, HK1, HB⟩ := hrel
   cases gk with
   | zero => exact absurd HA.out (by simp [cabinetryref09_Short.l0])
   | succ k1 =>
    have H := HA.out
    clear HA
    simp only [cabinetryref09_Short.l0] at H
    by_cases c5 : x6_1 ≤ (a0.size : Int)
    ·rw [if_pos c5] at H
     have c5b0 : decide (x6_1 ≤ (a0.size : Int)) = true := decide_eq_true c5
     clear c5
     by_cases c6 : 0 ≤ x6_1
     ·rw [if_pos c6] at H
      have c6b0 := eq_true c6
      have c6b1 : decide (0 ≤ x6_1) = true := decide_eq_true c6
      clear c6
      have c7b0 := eq_true (of_decide_eq_true (by first | (with_reducible assumption) | assumption) : x6_1 ≤ (a0.size : Int))
      replace H := Option.bind_eq_some_iff.mp H
      obtain ⟨⟨t331, t332⟩, A80, H⟩ := H
      replace H : (if t332 = true then ((cabinetryref01_CompareTexts.f k1 t331 a1).bind fun t333 => (if t333 ≤ 0 then (some (t331, 0)) else (cabinetryref09_Short.l0 k1 a0 a1 (wrap64 (x6_1 + 1))))) else (cabinetryref09_Short.l0 k1 a0 a1 (wrap64 (x6_1 + 1)))) = some (r1, r2) := H
      have A8 := Aside0.mk A80
      clear A80
      by_cases c9 : t332 = true
      ·subst c9
       have H1 : ((cabinetryref01_CompareTexts.f k1 t331 a1).bind fun t333 => (if t333 ≤ 0 then (some (t331, 0)) else (cabinetryref09_Short.l0 k1 a0 a1 (wrap64 (x6_1 + 1))))) = some (r1, r2) := by rw [if_pos rfl] at H; exact H
       clear H
       have H := H1
       clear H1
       replace H := Option.bind_eq_some_iff.mp H
       obtain ⟨t333, A100, H⟩ := H
       replace H : (if t333 ≤ 0 then (some (t331, 0)) else (cabinetryref09_Short.l0 k1 a0 a1 (wrap64 (x6_1 + 1)))) = some (r1, r2) := H
       have A10 := Aside0.mk A100
       clear A100
       by_cases c11 : t333 ≤ 0
       ·rw [if_pos c11] at H
        have c11b0 : decide (t333 ≤ 0) = true := decide_eq_true c11
        clear c11
        simp only [Option.some.injEq, Prod.mk.injEq] at H
        obtain ⟨rfl, rfl⟩ := H
        go_wp2_with (first | ((with_reducible refine gate_callee (f := 67) rfl ?_); refine goesL_ (some 23) rfl rfl Tryd.func67 (by kernel_rfl) rfl #[.string (a0.extract 0 (x6_1 : Int).toNat)] rfl (by (try simp only [List.map_toArray, List.map_cons, List.map_nil]); first | done | rfl | (simp only [List.length_drop, List.length_take]; rfl)) ?_; (with_reducible refine (cabinetryref09_further.calls k1 (a0.extract 0 (x6_1 : Int).toNat) t331 true _ A8.out).mono ?_); rintro e w12 ⟨rfl, hb⟩; refine ⟨_, rfl, ?_⟩; have n0_ := Aside0.mk (below_step (by repeat (first | (with_reducible first | exact HB.out | apply below_alloc | apply pw_below_drewN | apply below_drew1) | exact HB.out)) hb); clear HB; have HB := n0_; clear n0_; (try clear hb); (try clear hb2); (try clear hk); (try clear hi)) | (go_at_call 23; (with_reducible refine (cabinetryref01_CompareTexts.calls k1 t331 a1 t333 _ A10.out).mono ?_); rintro e w' ⟨rfl, ⟨nd, rfl⟩⟩))
        go_ret2
        exact ⟨by first | rfl | (simp [errW_none, errW_some] <;> rfl) | (simp [*, errW_none, errW_some] <;> rfl), by repeat (first | (with_reducible first | exact HB.out | apply below_alloc | apply pw_below_drewN | apply below_drew1) | exact HB.out)⟩
       ·rw [if_neg c11] at H
        have c11b0 : decide (t333 ≤ 0) = false := decide_eq_false c11
        clear c11
        have H' := Aside0.mk H
        clear H
        go_wp2_with (first | ((with_reducible refine gate_callee (f := 67) rfl ?_); refine goesL_ (some 23) rfl rfl Tryd.func67 (by kernel_rfl) rfl #[.string (a0.extract 0 (x6_1 : Int).toNat)] rfl (by (try simp only [List.map_toArray, List.map_cons, List.map_nil]); first | done | rfl | (simp only [List.length_drop, List.length_take]; rfl)) ?_; (with_reducible refine (cabinetryref09_further.calls k1 (a0.extract 0 (x6_1 : Int).toNat) t331 true _ A8.out).mono ?_); rintro e w13 ⟨rfl, hb⟩; refine ⟨_, rfl, ?_⟩; have n0_ := Aside0.mk (below_step (by repeat (first | (with_reducible first | exact HB.out | apply below_alloc | apply pw_below_drewN | apply below_drew1) | exact HB.out)) hb); clear HB; have HB := n0_; clear n0_; (try clear hb); (try clear hb2); (try clear hk); (try clear hi)) | (go_at_call 23; (with_reducible refine (cabinetryref01_CompareTexts.calls k1 t331 a1 t333 _ A10.out).mono ?_); rintro e w' ⟨rfl, ⟨nd, rfl⟩⟩))
        go_roundg k1
        case measure => have := HK1.out; omega
        case rel => exact ⟨(wrap64 (x6_1 + 1)), (by first | rfl | (simp; done) | (simp [*]; done)), H', ⟨by have := HK1.out; omega⟩, ⟨by repeat (first | (with_reducible first | exact HB.out | apply below_alloc | apply pw_below_drewN | apply below_drew1) | exact HB.out)⟩⟩
      ·replace c9 := Bool.eq_false_iff.mpr c9
       subst c9
       have H1 : (cabinetryref09_Short.l0 k1 a0 a1 (wrap64 (x6_1 + 1))) = some (r1, r2) := by rw [if_neg (show ¬ (false = true) by decide)] at H; exact H
       clear H
       have H := H1
       clear H1
       have H' := Aside0.mk H
       clear H
       go_wp2_with (first | ((with_reducible refine gate_callee (f := 67) rfl ?_); refine goesL_ (some 23) rfl rfl Tryd.func67 (by kernel_rfl) rfl #[.string (a0.extract 0 (x6_1 : Int).toNat)] rfl (by (try simp only [List.map_toArray, List.map_cons, List.map_nil]); first | done | rfl | (simp only [List.length_drop, List.length_take]; rfl)) ?_; (with_reducible refine (cabinetryref09_further.calls k1 (a0.extract 0 (x6_1 : Int).toNat) t331 false _ A8.out).mono ?_); rintro e w14 ⟨rfl, hb⟩; refine ⟨_, rfl, ?_⟩; have n0_ := Aside0.mk (below_step (by repeat (first | (with_reducible first | exact HB.out | apply below_alloc | apply pw_below_drewN | apply below_drew1) | exact HB.out)) hb); clear HB; have HB := n0_; clear n0_; (try clear hb); (try clear hb2); (try clear hk); (try clear hi)))
       go_roundg k1
       case measure => have := HK1.out; omega
       case rel => exact ⟨(wrap64 (x6_1 + 1)), (by first | rfl | (simp; done) | (simp [*]; done)), H', ⟨by have := HK1.out; omega⟩, ⟨by repeat (first | (with_reducible first | exact HB.out | apply below_alloc | apply pw_below_drewN | apply below_drew1) | exact HB.out)⟩⟩
     ·rw [if_neg c6] at H
      exact absurd H (by simp)
    ·rw [if_neg c5] at H
     have c5b0 : decide (x6_1 ≤ (a0.size : Int)) = false := decide_eq_false c5
     clear c5
     by_cases c15 : a0.size + 1 ≤ 9223372036854775807
     ·rw [if_pos c15] at H
      have c15b0 := eq_true c15
      have c15b1 : decide (a0.size + 1 ≤ 9223372036854775807) = true := decide_eq_true c15
      try have c15b2 : (9223372036854775807 < a0.size + 1) = False := eq_false (Nat.not_lt.2 c15)
      simp only [Option.some.injEq, Prod.mk.injEq] at H
      obtain ⟨rfl, rfl⟩ := H
      go_wp2
      go_ret2
      exact ⟨by first | rfl | (simp [errW_none, errW_some] <;> rfl) | (simp [*, errW_none, errW_some] <;> rfl), by repeat (first | (with_reducible first | exact HB.out | apply below_alloc | apply pw_below_drewN | apply below_drew1) | exact HB.out)⟩
     ·rw [if_neg c15] at H
      exact absurd H (by simp)
end Go.Proofs.YtnkejhfbkgfedaaDoor.PA
namespace Go.Proofs.YtnkejhfbkgfedaaDoor.L1
open Go.RowKit Go.Proofs.YtnkejhfbkgfedaaDoorW.PrintWords Go.Proofs.YtnkejhfbkgfedaaDoor.PA Go.Proofs.YtnkejhfbkgfedaaDoor.H1 Go.Proofs.YtnkejhfbkgfedaaDoor.PB
set_option linter.unusedVariables false
set_option linter.unusedSimpArgs false
theorem cmp_cons (x y : UInt8) (a b : List UInt8) : Lib.compareBytes (x :: a) (y :: b) = if x.toNat < y.toNat then -1 else if y.toNat < x.toNat then 1 else Lib.compareBytes a b := by
  simp only [Lib.compareBytes, UInt8.lt_iff_toNat_lt]
theorem cmp_app (p a b : List UInt8) : Lib.compareBytes (p ++ a) (p ++ b) = Lib.compareBytes a b := by
  induction p with
  | nil => rfl
  | cons x p ih => rw [List.cons_append, List.cons_append, cmp_cons, if_neg (by omega), if_neg (by omega), ih]
theorem cmp_nil_le (b : List UInt8) : Lib.compareBytes [] b ≤ 0 := by cases b <;> simp [Lib.compareBytes]
theorem less_cmp : ∀ (a b : List UInt8), Op.bytesLess a b = decide (Lib.compareBytes a b < 0)
  | [], [] => rfl
  | [], _ :: _ => rfl
  | _ :: _, [] => rfl
  | x :: a, y :: b => by
    have ih := less_cmp a b
    rw [cmp_cons]
    simp only [Op.bytesLess]
    by_cases h1 : x.toNat < y.toNat
    · have : x < y := h1
      simp [this, h1]
    · have h1' : ¬ x < y := h1
      by_cases h2 : y.toNat < x.toNat
      · have h3 : ¬ x = y := fun e => by subst e; exact absurd h2 (Nat.lt_irrefl _)
        simp [h1, h1', h2, h3]
      · have h3 : x = y := UInt8.toNat_inj.1 (by omega)
        subst h3
        simp [ih]
def sh : List UInt8 → List UInt8 → List UInt8
  | [], _ => [0]
  | x :: a, [] => []
  | x :: a, y :: b => if x = y then x :: sh a b else [UInt8.ofNat (x.toNat + 1)]
theorem toI_succ (x : UInt8) (h : x.toNat < 255) : (toI x + 1) % 256 = toI (UInt8.ofNat (x.toNat + 1)) := by
  rw [toI_ofNat _ (by omega)]
  unfold toI
  omega
theorem str1 (x : UInt8) : strOfNums [toI x] = ⟨#[x]⟩ := by
  have := strOf_map [x]
  simpa using this
theorem getI (l : List UInt8) (i j : Nat) (h : i < l.length) : (l.drop i) = l[i] :: l.drop (i + 1) := List.drop_eq_getElem_cons h
theorem short_j (a b : ByteArray) (ha : a.size ≤ 140737488351232) (hb : b.size ≤ 140737488351232) (i k : Nat) (hk : 1 ≤ k) (hi : i ≤ a.size) (hib : i ≤ b.size) (hp : a.data.toList.take i = b.data.toList.take i) (hl : Lib.compareBytes (a.data.toList.drop i) (b.data.toList.drop i) < 0)
    (hs : i = a.size ∨ ∃ (h1 : i < a.data.toList.length) (h2 : i < b.data.toList.length), a.data.toList[i] ≠ b.data.toList[i]) :
    key_Short.j1 k a b (i : Int) = some (⟨(a.data.toList.take i ++ sh (a.data.toList.drop i) (b.data.toList.drop i)).toArray⟩, 0) := by
  obtain ⟨k, rfl⟩ : ∃ m, k = m + 1 := ⟨k - 1, by omega⟩
  simp only [key_Short.j1]
  have la := ba_len a
  have lb := ba_len b
  by_cases he : i = a.size
  · have hd : a.data.toList.drop i = [] := List.drop_eq_nil_of_le (by omega)
    rw [if_pos (by omega), if_pos (by omega), if_pos (by omega), Int.toNat_natCast, hd]
    rw [hd] at hl
    have hbn : i < b.size := by
      rcases Nat.lt_or_ge i b.size with h | h
      · exact h
      · rw [List.drop_eq_nil_of_le (by omega)] at hl; exact absurd hl (by decide)
    have hz : (b.extract i b.size).size = b.size - i := by rw [ByteArray.size_extract]; omega
    have hm : mn 1 ((b.extract i b.size).size : Int) = 1 := by unfold mn; rw [hz]; split <;> omega
    unfold key_shortest.f
    rw [hm, if_pos (by decide), if_pos (by decide)]
    simp only [Option.bind_some]
    have hx : (⟨#[0]⟩ : ByteArray).extract 0 (1 : Int).toNat = ⟨#[0]⟩ := by rfl
    rw [hx, sz1, if_pos (by omega)]
    congr 2
    apply ba_ext
    rw [ba_app, List.take_of_length_le (by omega), sh]
  · obtain ⟨h1, h2, hne⟩ := hs.resolve_left he
    have hlt : a.data.toList[i].toNat < b.data.toList[i].toNat := by
      rw [getI _ i 0 h1, getI _ i 0 h2, cmp_cons] at hl
      rcases Nat.lt_trichotomy a.data.toList[i].toNat b.data.toList[i].toNat with h | h | h
      · exact h
      · exact absurd (UInt8.toNat_inj.1 h) hne
      · rw [if_neg (by omega), if_pos h] at hl; exact absurd hl (by decide)
    have h255 := b.data.toList[i].toNat_lt
    rw [if_neg (by omega), w64 (by omega) (by omega), if_pos (by omega), if_pos (by omega), if_pos (by omega), if_pos (by omega), bt_toI a i (by omega)]
    simp only [Option.bind_some]
    rw [toI_succ _ (by omega), str1, Int.toNat_natCast, sz1, if_pos (by rw [ByteArray.size_extract]; omega)]
    congr 2
    apply ba_ext
    rw [ba_app, ba_extract b 0 i hib, List.drop_zero, ← hp]
    rw [getI _ i 0 h1, getI _ i 0 h2, sh, if_neg hne]
theorem short_l (a b : ByteArray) (ha : a.size ≤ 140737488351232) (hb : b.size ≤ 140737488351232) : ∀ (n i k : Nat), a.size - i = n → n + 2 ≤ k → i ≤ a.size → i ≤ b.size → a.data.toList.take i = b.data.toList.take i → Lib.compareBytes (a.data.toList.drop i) (b.data.toList.drop i) < 0 →
    key_Short.l0 k a b (i : Int) = some (⟨(a.data.toList.take i ++ sh (a.data.toList.drop i) (b.data.toList.drop i)).toArray⟩, 0) := by
  intro n
  have la := ba_len a
  have lb := ba_len b
  induction n with
  | zero =>
    intro i k hn hk hi hib hp hl
    obtain ⟨k, rfl⟩ : ∃ m, k = m + 1 := ⟨k - 1, by omega⟩
    simp only [key_Short.l0]
    rw [if_neg (by omega)]
    exact short_j a b ha hb i k (by omega) hi hib hp hl (Or.inl (by omega))
  | succ n ih =>
    intro i k hn hk hi hib hp hl
    obtain ⟨k, rfl⟩ : ∃ m, k = m + 1 := ⟨k - 1, by omega⟩
    have h1 : i < a.data.toList.length := by omega
    have h2 : i < b.data.toList.length := by
      rcases Nat.lt_or_ge i b.size with h | h
      · omega
      · rw [List.drop_eq_nil_of_le (show b.data.toList.length ≤ i by omega), getI _ i 0 h1] at hl
        exact absurd hl (by simp [Lib.compareBytes])
    simp only [key_Short.l0]
    rw [if_pos (by omega), if_pos (by omega), if_pos (by omega), bt_toI a i (by omega), bt_toI b i (by omega)]
    by_cases he : a.data.toList[i] = b.data.toList[i]
    · rw [if_pos (by rw [he]), w64 (by omega) (by omega)]
      have hl' := hl
      rw [getI _ i 0 h1, getI _ i 0 h2, he, cmp_cons, if_neg (by omega), if_neg (by omega)] at hl'
      have := ih (i + 1) k (by omega) (by omega) (by omega) (by omega) (by rw [List.take_succ_eq_append_getElem h1, List.take_succ_eq_append_getElem h2, hp, he]) hl'
      rw [show ((i : Int) + 1) = ((i + 1 : Nat) : Int) by omega, this]
      rw [getI _ i 0 h1, getI _ i 0 h2, he, sh, if_pos rfl, List.take_succ_eq_append_getElem h1, he]
      simp
    · rw [if_neg (fun e => he (toI_inj e))]
      exact short_j a b ha hb i k (by omega) hi hib hp hl (Or.inr ⟨h1, h2, he⟩)
def shortV (a b : ByteArray) : ByteArray × Int := if Lib.compareBytes a.data.toList b.data.toList < 0 then (⟨(sh a.data.toList b.data.toList).toArray⟩, 0) else ((⟨#[]⟩ : ByteArray), 1)
theorem key_Short_f (k : Nat) (a b : ByteArray) (ha : a.size ≤ 140737488351232) (hb : b.size ≤ 140737488351232) (hk : a.size + 2 ≤ k) : key_Short.f k a b = some (shortV a b) := by
  unfold key_Short.f shortV
  rw [ByteArray.toList_eq, ByteArray.toList_eq, less_cmp]
  by_cases h : Lib.compareBytes a.data.toList b.data.toList < 0
  · rw [if_pos (decide_eq_true h), if_pos h]
    have := short_l a b ha hb a.size 0 k (by omega) hk (by omega) (by omega) (by simp) (by simpa using h)
    simpa using this
  · rw [if_neg (by rw [decide_eq_false h]; decide), if_neg h]
def fur : List UInt8 → Option (List UInt8)
  | [] => none
  | x :: l => match fur l with
    | some m => some (x :: m)
    | none => if x.toNat < 255 then some (UInt8.ofNat (x.toNat + 1) :: List.replicate l.length 0) else none
theorem fur_gt : ∀ (t x r : List UInt8), fur t = some x → 0 < Lib.compareBytes x (t ++ r)
  | [], x, r, h => by simp [fur] at h
  | y :: l, x, r, h => by
    unfold fur at h
    cases hf : fur l with
    | some m =>
      rw [hf] at h
      obtain rfl := Option.some.inj h
      rw [List.cons_append, cmp_cons, if_neg (by omega), if_neg (by omega)]
      exact fur_gt l m r hf
    | none =>
      rw [hf] at h
      simp only at h
      split at h
      · rename_i hy
        obtain rfl := Option.some.inj h
        have : (UInt8.ofNat (y.toNat + 1)).toNat = y.toNat + 1 := by rw [UInt8.toNat_ofNat']; omega
        rw [List.cons_append, cmp_cons, if_neg (by omega), if_pos (by omega)]
        decide
      · cases h
theorem fur_snoc (z : UInt8) (hz : z.toNat < 255) : ∀ l, fur (l ++ [z]) = some (l ++ [UInt8.ofNat (z.toNat + 1)])
  | [] => by simp [fur, hz]
  | x :: l => by
    rw [List.cons_append]
    unfold fur
    rw [fur_snoc z hz l]
    rfl
theorem fur_snoc255 (z : UInt8) (hz : ¬ z.toNat < 255) : ∀ l, fur (l ++ [z]) = (fur l).map (· ++ [0])
  | [] => by simp [fur, hz]
  | x :: l => by
    rw [List.cons_append]
    unfold fur
    rw [fur_snoc255 z hz l]
    cases hf : fur l with
    | some m => simp
    | none =>
      simp only [Option.map_none]
      split
      · rename_i hx
        simp only [Option.map_some, List.length_append, List.length_cons, List.length_nil, List.cons_append]
        rw [List.replicate_succ']
      · rfl
def furV (l : List UInt8) (n : Nat) : ByteArray × Bool := match fur l with
  | some m => (⟨(m ++ List.replicate n 0).toArray⟩, true)
  | none => ((⟨#[]⟩ : ByteArray), false)
theorem further_l : ∀ (r l : List UInt8) (n k : Nat), l.reverse = r → l.length < k → l.length + n ≤ 140737488351232 →
    cabinetryref09_further.l0 k ((l ++ List.replicate n 0).map toI) ((l.length : Int) - 1) = some (furV l n)
  | [], l, n, k, hr, hk, hl => by
    obtain rfl : l = [] := by simpa using hr
    obtain ⟨k, rfl⟩ : ∃ m, k = m + 1 := ⟨k - 1, by omega⟩
    simp only [cabinetryref09_further.l0]
    rw [if_neg (by simp)]
    rfl
  | z :: r, l, n, k, hr, hk, hl => by
    obtain ⟨k, rfl⟩ : ∃ m, k = m + 1 := ⟨k - 1, by omega⟩
    obtain ⟨l, rfl⟩ : ∃ m, l = m ++ [z] := ⟨r.reverse, by have := congrArg List.reverse hr; simpa using this⟩
    have hr' : l.reverse = r := by simpa using hr
    have e : (((l ++ [z]).length : Int) - 1) = (l.length : Int) := by simp
    have hll : (l ++ [z]).length = l.length + 1 := by simp
    rw [hll] at hk hl
    have hlen : ((l ++ [z]) ++ List.replicate n 0).length = l.length + 1 + n := by simp [List.length_append]; omega
    have hget : ((l ++ [z]) ++ List.replicate n 0)[l.length]'(by omega) = z := by simp [List.getElem_append]
    simp only [cabinetryref09_further.l0]
    rw [e, if_pos (by omega), if_pos (by omega), if_pos (by rw [List.length_map, hlen]; omega), rd_map _ _ (by omega), hget]
    by_cases hz : z.toNat < 255
    · rw [if_pos (by unfold toI; omega), toI_succ z hz, Int.toNat_natCast, set_map, strOf_map]
      unfold furV
      rw [fur_snoc z hz]
      simp
    · rw [if_neg (by unfold toI; omega), Int.toNat_natCast, show (0 : Int) = toI 0 from rfl, set_map, w64 (by omega) (by omega)]
      have es : ((l ++ [z]) ++ List.replicate n (0 : UInt8)).set l.length 0 = l ++ List.replicate (n + 1) 0 := by
        rw [List.append_assoc, List.set_append_right _ _ (by omega)]
        simp [List.replicate_succ]
      rw [es, further_l r l (n + 1) k hr' (by omega) (by omega)]
      unfold furV
      rw [fur_snoc255 z hz]
      cases fur l with
      | some m => simp [List.replicate_succ]
      | none => rfl
theorem further_f (k : Nat) (s : ByteArray) (hs : s.size ≤ 140737488351232) (hk : s.size < k) : cabinetryref09_further.f k s = some (furV s.data.toList 0) := by
  unfold cabinetryref09_further.f
  rw [if_pos hs]
  simp only [Option.bind_some]
  have := further_l s.data.toList.reverse s.data.toList 0 k rfl (by rw [ba_len]; exact hk) (by rw [ba_len]; omega)
  rw [bytesOf_map, List.length_map, w64 (by omega) (by rw [ba_len]; omega)]
  simpa using this
theorem refShort_l (a b : ByteArray) (ha : a.size ≤ 4000) (hb : b.size ≤ 4000) (P ra rb : List UInt8) (hA : a.data.toList = P ++ ra) (hB : b.data.toList = P ++ rb) (hd : ra = [] ∨ ∃ x y u v, ra = x :: u ∧ rb = y :: v ∧ x.toNat < y.toNat) :
    ∀ (n i k : Nat), P.length + 1 - i = n → 1 ≤ i → i ≤ P.length + 1 → n + 9000 ≤ k →
    cabinetryref09_Short.l0 k a b (i : Int) = some (⟨(P ++ sh ra rb).toArray⟩, 0) := by
  intro n
  have la := ba_len a
  have lb := ba_len b
  have lA : a.data.toList.length = P.length + ra.length := by rw [hA, List.length_append]
  induction n with
  | zero =>
    intro i k hn h1 hi hk
    obtain ⟨k, rfl⟩ : ∃ m, k = m + 1 := ⟨k - 1, by omega⟩
    have ei : i = P.length + 1 := by omega
    simp only [cabinetryref09_Short.l0]
    rcases hd with rfl | ⟨x, y, u, v, rfl, rfl, hxy⟩
    · rw [if_neg (by simp at lA; omega), if_pos (by omega)]
      congr 2
      apply ba_ext
      rw [ba_app, hA, List.append_nil, sh]
    · have hy := y.toNat_lt
      have hle : i ≤ a.size := by simp only [List.length_cons] at lA; omega
      rw [if_pos (by omega), if_pos (by omega), Int.toNat_natCast]
      have hx : (a.extract 0 i).data.toList = P ++ [x] := by
        rw [ba_extract a 0 i hle, List.drop_zero, hA, ei, List.take_append]
        simp [List.take_of_length_le]
      have hxs : (a.extract 0 i).size ≤ 4000 := by rw [ByteArray.size_extract]; omega
      rw [further_f k _ (by omega) (by omega), hx]
      unfold furV
      rw [fur_snoc x (by omega)]
      simp only [Option.bind_some, if_true, List.replicate_zero, List.append_nil]
      have hsz : (⟨(P ++ [UInt8.ofNat (x.toNat + 1)]).toArray⟩ : ByteArray).size ≤ 4001 := by rw [ba_size, List.length_append, List.length_cons, List.length_nil]; omega
      rw [compareTexts_f _ b (by omega) k (by omega), ba_mk, hB, cmp_app]
      have hx1 : (UInt8.ofNat (x.toNat + 1)).toNat = x.toNat + 1 := by rw [UInt8.toNat_ofNat']; omega
      have hc : Lib.compareBytes [UInt8.ofNat (x.toNat + 1)] (y :: v) ≤ 0 := by
        rw [cmp_cons]
        split
        · decide
        · rw [if_neg (by omega)]
          exact cmp_nil_le v
      simp only [Option.bind_some]
      have hne : ¬ x = y := fun e => by subst e; omega
      rw [if_pos hc, sh, if_neg hne]
  | succ n ih =>
    intro i k hn h1 hi hk
    obtain ⟨k, rfl⟩ : ∃ m, k = m + 1 := ⟨k - 1, by omega⟩
    have hle : i ≤ P.length := by omega
    simp only [cabinetryref09_Short.l0]
    rw [if_pos (by omega), if_pos (by omega), Int.toNat_natCast]
    have hx : (a.extract 0 i).data.toList = P.take i := by
      rw [ba_extract a 0 i (by omega), List.drop_zero, hA, List.take_append_of_le_length hle]
    have hxs : (a.extract 0 i).size ≤ 4000 := by rw [ByteArray.size_extract]; omega
    rw [further_f k _ (by omega) (by omega), hx]
    have hnext := ih (i + 1) k (by omega) (by omega) (by omega) (by omega)
    rw [show (((i + 1 : Nat)) : Int) = (i : Int) + 1 by omega] at hnext
    unfold furV
    cases hf : fur (P.take i) with
    | none =>
      simp only [Option.bind_some, Bool.false_eq_true, if_false]
      rw [w64 (by omega) (by omega), hnext]
    | some m =>
      simp only [Option.bind_some, if_true, List.replicate_zero, List.append_nil]
      have hml : m.length ≤ 4000 ∨ True := Or.inr trivial
      have hg := fur_gt (P.take i) m (P.drop i ++ rb) hf
      rw [← List.append_assoc, List.take_append_drop, ← hB] at hg
      have hlen : ∀ (t m : List UInt8), fur t = some m → m.length = t.length := by
        intro t
        induction t with
        | nil => intro m h; simp [fur] at h
        | cons y l ihl =>
          intro m h
          unfold fur at h
          cases hq : fur l with
          | some q =>
            rw [hq] at h
            obtain rfl := Option.some.inj h
            simp [ihl q hq]
          | none =>
            rw [hq] at h
            simp only at h
            split at h
            · obtain rfl := Option.some.inj h
              simp
            · cases h
      have hmm := hlen _ _ hf
      rw [List.length_take] at hmm
      have hsz : (⟨m.toArray⟩ : ByteArray).size ≤ 4000 := by rw [ba_size]; omega
      rw [compareTexts_f _ b (by omega) k (by omega), ba_mk]
      simp only [Option.bind_some]
      rw [if_neg (by omega), w64 (by omega) (by omega), hnext]
theorem split_less : ∀ (a b : List UInt8), Lib.compareBytes a b < 0 → ∃ P ra rb, a = P ++ ra ∧ b = P ++ rb ∧ (ra = [] ∨ ∃ x y u v, ra = x :: u ∧ rb = y :: v ∧ x.toNat < y.toNat)
  | [], b, _ => ⟨[], [], b, rfl, rfl, Or.inl rfl⟩
  | _ :: _, [], h => by simp [Lib.compareBytes] at h
  | x :: a, y :: b, h => by
    rw [cmp_cons] at h
    by_cases h1 : x.toNat < y.toNat
    · exact ⟨[], x :: a, y :: b, rfl, rfl, Or.inr ⟨x, y, a, b, rfl, rfl, h1⟩⟩
    · rw [if_neg h1] at h
      by_cases h2 : y.toNat < x.toNat
      · rw [if_pos h2] at h; exact absurd h (by decide)
      · rw [if_neg h2] at h
        have e : x = y := UInt8.toNat_inj.1 (by omega)
        subst e
        obtain ⟨P, ra, rb, h3, h4, h5⟩ := split_less a b h
        exact ⟨x :: P, ra, rb, by rw [h3]; rfl, by rw [h4]; rfl, h5⟩
theorem sh_app (P a b : List UInt8) : sh (P ++ a) (P ++ b) = P ++ sh a b := by
  induction P with
  | nil => rfl
  | cons x P ih => rw [List.cons_append, List.cons_append, sh, if_pos rfl, ih]; rfl
theorem refShort_f (k : Nat) (a b : ByteArray) (ha : a.size ≤ 4000) (hb : b.size ≤ 4000) (hk : 20000 ≤ k) : cabinetryref09_Short.f k a b = some (shortV a b) := by
  unfold cabinetryref09_Short.f shortV
  rw [compareTexts_f a b (by omega) k (by omega)]
  simp only [Option.bind_some]
  by_cases h : Lib.compareBytes a.data.toList b.data.toList < 0
  · rw [if_neg (by omega), if_pos h]
    obtain ⟨P, ra, rb, h1, h2, h3⟩ := split_less _ _ h
    have hl : P.length ≤ 4000 := by have := ba_len a; rw [h1, List.length_append] at this; omega
    have := refShort_l a b ha hb P ra rb h1 h2 h3 P.length 1 k (by omega) (by omega) (by omega) (by omega)
    rw [h1, h2, sh_app]
    exact this
  · rw [if_pos (by omega), if_neg h]
end Go.Proofs.YtnkejhfbkgfedaaDoor.L1
namespace Go.Proofs.YtnkejhfbkgfedaaDoor.PB
open Go.RowKit Go.Proofs.YtnkejhfbkgfedaaDoorW.PrintWords Go.Proofs.YtnkejhfbkgfedaaDoorW.PrintLast Go.Proofs.YtnkejhfbkgfedaaDoorW.PrintMore Go.Proofs.YtnkejhfbkgfedaaDoor.PA Go.Proofs.YtnkejhfbkgfedaaDoor.H1
attribute [local go_sem] max2_int min2_int max_two min_two max_three min_three max_four min_four   -- for this text's walks alone
set_option linter.unusedVariables false
set_option linter.unusedSimpArgs false
def cabinetrylaw09_KeyShorts.f (k : Nat) (a0 : ByteArray) (a1 : ByteArray) : Option (Bool) := if (wrap64 ((a0.size : Int) + (a1.size : Int))) > 4000 then ((cabinetrylaw09_known.f k).bind fun t208 => (some t208)) else ((key_Short.f k a0 a1).bind fun bt209 => ((cabinetryref09_Short.f k a0 a1).bind fun bt211 => (if bt209.1.toList = bt211.1.toList then (if bt209.2 = bt211.2 then ((cabinetrylaw09_known.f k).bind fun t213 => (some t213)) else (some false)) else (some false))))
set_option maxHeartbeats 8000000 in
set_option maxRecDepth 100000 in
theorem cabinetrylaw09_KeyShorts.calls (k : Nat) (a0 : ByteArray) (a1 : ByteArray) (r : Bool) (w : World) (h : cabinetrylaw09_KeyShorts.f k a0 a1 = some r) (hr_ : Aside0 (r = true)) (hm_ : Aside0 (Hm.HM w)) :
  Calls Tryd.prog 6 #[.string a0, .string a1] w fun e w' => e = .returned (.bool r) ∧ Below w.heap.size w w' := by
 have HB := Aside0.mk (Below.refl w.heap.size w)
 have H : (if (wrap64 ((a0.size : Int) + (a1.size : Int))) > 4000 then ((cabinetrylaw09_known.f k).bind fun t208 => (some t208)) else ((key_Short.f k a0 a1).bind fun bt209 => ((cabinetryref09_Short.f k a0 a1).bind fun bt211 => (if bt209.1.toList = bt211.1.toList then (if bt209.2 = bt211.2 then ((cabinetrylaw09_known.f k).bind fun t213 => (some t213)) else (some false)) else (some false))))) = some r := h
 clear h
 by_cases c3 : (wrap64 ((a0.size : Int) + (a1.size : Int))) > 4000
 ·rw [if_pos c3] at H
  have c3b0 : decide (4000 < (wrap64 ((a0.size : Int) + (a1.size : Int)))) = true := decide_eq_true c3
  clear c3
  replace H := Option.bind_eq_some_iff.mp H
  obtain ⟨t208, A40, H⟩ := H
  replace H : (some t208) = some r := H
  have A4 := Aside0.mk A40
  clear A40
  obtain rfl := Option.some.inj H
  simp only [Option.some.injEq, Prod.mk.injEq] at H
  obtain ⟨rfl⟩ := H
  go_enter Tryd.func6, Tryd.ntmps6
  go_wp2_with (first | ((with_reducible refine gate_callee (f := 15) rfl ?_); refine goesL_ (some 15) rfl rfl Tryd.func15 (by kernel_rfl) rfl #[] rfl (by (try simp only [List.map_toArray, List.map_cons, List.map_nil]); first | done | rfl | (simp only [List.length_drop, List.length_take]; rfl)) ?_; (with_reducible refine (cabinetrylaw09_known.calls k  t208 _ A4.out hr_ (Hm.keep hm_ (by repeat (first | (with_reducible first | exact HB.out | apply below_alloc | apply pw_below_drewN | apply below_drew1) | exact HB.out)))).mono ?_); rintro e w5 ⟨rfl, hb⟩; refine ⟨_, rfl, ?_⟩; have n0_ := Aside0.mk (below_step (by repeat (first | (with_reducible first | exact HB.out | apply below_alloc | apply pw_below_drewN | apply below_drew1) | exact HB.out)) hb); clear HB; have HB := n0_; clear n0_; (try clear hb); (try clear hb2); (try clear hk); (try clear hi)))
  go_ret
  exact ⟨by first | rfl | (simp [errW_none, errW_some] <;> rfl) | (simp [*, errW_none, errW_some] <;> rfl), by repeat (first | (with_reducible first | exact HB.out | apply below_alloc | apply pw_below_drewN | apply below_drew1) | exact HB.out)⟩
 ·rw [if_neg c3] at H
  have c3b0 : decide (4000 < (wrap64 ((a0.size : Int) + (a1.size : Int)))) = false := decide_eq_false c3
  clear c3
  replace H := Option.bind_eq_some_iff.mp H
  obtain ⟨⟨t209, t210⟩, A60, H⟩ := H
  replace H : ((cabinetryref09_Short.f k a0 a1).bind fun bt211 => (if t209.toList = bt211.1.toList then (if t210 = bt211.2 then ((cabinetrylaw09_known.f k).bind fun t213 => (some t213)) else (some false)) else (some false))) = some r := H
  have A6 := Aside0.mk A60
  clear A60
  replace H := Option.bind_eq_some_iff.mp H
  obtain ⟨⟨t211, t212⟩, A70, H⟩ := H
  replace H : (if t209.toList = t211.toList then (if t210 = t212 then ((cabinetrylaw09_known.f k).bind fun t213 => (some t213)) else (some false)) else (some false)) = some r := H
  have A7 := Aside0.mk A70
  clear A70
  by_cases c8 : t209.toList = t211.toList
  ·rw [if_pos c8] at H
   have c8b0 : (t209.toList == t211.toList) = true := beq_iff_eq.mpr c8
   have c8b1 : (t209.toList != t211.toList) = false := bne_eq_false_iff_eq.mpr c8
   clear c8
   by_cases c9 : t210 = t212
   ·rw [if_pos c9] at H
    have c9b0 : (t210 == t212) = true := beq_iff_eq.mpr c9
    have c9b1 : (t210 != t212) = false := bne_eq_false_iff_eq.mpr c9
    clear c9
    replace H := Option.bind_eq_some_iff.mp H
    obtain ⟨t213, A100, H⟩ := H
    replace H : (some t213) = some r := H
    have A10 := Aside0.mk A100
    clear A100
    obtain rfl := Option.some.inj H
    simp only [Option.some.injEq, Prod.mk.injEq] at H
    obtain ⟨rfl⟩ := H
    go_enter Tryd.func6, Tryd.ntmps6
    go_wp2_with (first | ((with_reducible refine gate_callee (f := 30) rfl ?_); refine goesL_ (some 19) rfl rfl Tryd.func30 (by kernel_rfl) rfl #[.string a0, .string a1] rfl (by (try simp only [List.map_toArray, List.map_cons, List.map_nil]); first | done | rfl | (simp only [List.length_drop, List.length_take]; rfl)) ?_; (with_reducible refine (key_Short.calls k a0 a1 t209 t210 _ A6.out).mono ?_); rintro e w11 ⟨rfl, hb⟩; refine ⟨_, rfl, ?_⟩; have n0_ := Aside0.mk (below_step (by repeat (first | (with_reducible first | exact HB.out | apply below_alloc | apply pw_below_drewN | apply below_drew1) | exact HB.out)) hb); clear HB; have HB := n0_; clear n0_; (try clear hb); (try clear hb2); (try clear hk); (try clear hi)) | ((with_reducible refine gate_callee (f := 31) rfl ?_); refine goesL_ (some 25) rfl rfl Tryd.func31 (by kernel_rfl) rfl #[.string a0, .string a1] rfl (by (try simp only [List.map_toArray, List.map_cons, List.map_nil]); first | done | rfl | (simp only [List.length_drop, List.length_take]; rfl)) ?_; (with_reducible refine (cabinetryref09_Short.calls k a0 a1 t211 t212 _ A7.out).mono ?_); rintro e w12 ⟨rfl, hb⟩; refine ⟨_, rfl, ?_⟩; have n0_ := Aside0.mk (below_step (by repeat (first | (with_reducible first | exact HB.out | apply below_alloc | apply pw_below_drewN | apply below_drew1) | exact HB.out)) hb); clear HB; have HB := n0_; clear n0_; (try clear hb); (try clear hb2); (try clear hk); (try clear hi)) | (go_at_call 15; (with_reducible refine (cabinetrylaw09_known.calls k  t213 _ A10.out hr_ (Hm.keep hm_ (by repeat (first | (with_reducible first | exact HB.out | apply below_alloc | apply pw_below_drewN | apply below_drew1) | exact HB.out)))).mono ?_); rintro e w13 ⟨rfl, hb⟩; have n0_ := Aside0.mk (below_step (by repeat (first | (with_reducible first | exact HB.out | apply below_alloc | apply pw_below_drewN | apply below_drew1) | exact HB.out)) hb); clear HB; have HB := n0_; clear n0_; (try clear hb); (try clear hb2); (try clear hk); (try clear hi)))
    go_ret
    exact ⟨by first | rfl | (simp [errW_none, errW_some] <;> rfl) | (simp [*, errW_none, errW_some] <;> rfl), by repeat (first | (with_reducible first | exact HB.out | apply below_alloc | apply pw_below_drewN | apply below_drew1) | exact HB.out)⟩
   ·rw [if_neg c9] at H
    have c9b0 : (t210 == t212) = false := beq_eq_false_iff_ne.mpr c9
    have c9b1 : (t210 != t212) = true := bne_iff_ne.mpr c9
    obtain rfl := Option.some.inj H
    exact absurd hr_.out (by decide)
  ·rw [if_neg c8] at H
   have c8b0 : (t209.toList == t211.toList) = false := beq_eq_false_iff_ne.mpr c8
   have c8b1 : (t209.toList != t211.toList) = true := bne_iff_ne.mpr c8
   obtain rfl := Option.some.inj H
   exact absurd hr_.out (by decide)
end Go.Proofs.YtnkejhfbkgfedaaDoor.PB
namespace Go.Proofs.YtnkejhfbkgfedaaDoor.LKeyShorts
open Go.RowKit Go.Proofs.YtnkejhfbkgfedaaDoorW.PrintWords Go.Proofs.YtnkejhfbkgfedaaDoor.PA Go.Proofs.YtnkejhfbkgfedaaDoor.H1 Go.Proofs.YtnkejhfbkgfedaaDoor.PB Go.Proofs.YtnkejhfbkgfedaaDoor.L1
set_option linter.unusedVariables false
theorem law (a0 a1 : ByteArray) (_ : a0.size ≤ 140737488351232) (_ : a1.size ≤ 140737488351232) : ∃ k, cabinetrylaw09_KeyShorts.f k a0 a1 = some true := by
  refine ⟨30000, ?_⟩
  unfold cabinetrylaw09_KeyShorts.f
  rw [known_ev 30000 (by decide), w64 (by omega) (by omega)]
  by_cases h : (a0.size : Int) + (a1.size : Int) > 4000
  · rw [if_pos h]; rfl
  · rw [if_neg h, key_Short_f 30000 a0 a1 (by omega) (by omega) (by omega), refShort_f 30000 a0 a1 (by omega) (by omega) (by decide)]
    simp
end Go.Proofs.YtnkejhfbkgfedaaDoor.LKeyShorts
namespace Go.Proofs.YtnkejhfbkgfedaaDoor.keyShorts
open Go.ChangeShapes Go.WideShapes Go.ChangeAt Go.RowKit
open Go.ChangeMaps (open_string shut_string)
set_option linter.unusedVariables false
theorem own : ownKnob Tryd.prog.godebug = none := by kernel_rfl
set_option maxRecDepth 100000 in
theorem lifted (os : Os) (started : os.Started) (H : Type) (enc : TypeId × Value → H) :
    ReturnsInHanded {} Tryd.checked os 6 .any (fun w args => (Rows.keyShortsSpec.pre enc Tryd.prog Tryd.f6 Rows.keyShortsRow.domain false w args ∧ laidMetH Tryd.prog Rows.keyShortsRow.laid w) ∧ sizedMet enc Tryd.prog Tryd.f6 (OpenSpec.ofChange Rows.keyShortsSpec) false w args)
      (Rows.keyShortsSpec.post enc Tryd.prog Tryd.f6 false true false false) := by
  refine L0.handed_and_shaped (C := Tryd.checked) (X := fun w _ => laidMetH Tryd.prog Rows.keyShortsRow.laid w) (fun _ _ _ hh h => h.of_heap hh) own started (by kernel_rfl) Tryd.func6
    (ChangeSpec.witness_shaped (enc := enc) (C := Tryd.checked) (os := os) (X := fun w _ => laidMetH Tryd.prog Rows.keyShortsRow.laid w) false (World.laidAll Tryd.prog os Rows.keyShortsRow.laid) #[.string ByteArray.empty, .string ByteArray.empty] 8 (World.laidAll_os _ _ _)
      (World.shaped_of_ZipB (by kernel_rfl) (by kernel_rfl)) (by kernel_rfl) (by kernel_rfl) (by kernel_rfl)
      (by rw [MakeChecks.laidMetH_plain _ _ _ (by kernel_rfl)]; exact laidMet_laidAll _ (by kernel_rfl) (by kernel_rfl))) ?_
  intro W base args ds gs before hval0 hW hcnd hsz0 hL hsh _
  have hsz : (DataW.weightsEach Tryd.prog (Tryd.f6.params.toList ++ Rows.keyShortsSpec.plain.varTypes Tryd.prog) (ds ++ gs)).all (· ≤ reachBytes) = true := hsz0
  have hval : ∀ (j : Nat) t v, Tryd.f6.params[j]? = some t → args[j]? = some v → Value.okWide Tryd.prog W .any base t v := hval0
  have hW' := hW
  obtain ⟨p, q, hA0, hV, rfl, hfz, hnd⟩ := hW
  have hA : DataW.TrodAll enc Tryd.prog W 0 (fun _ => true) true Tryd.f6.params.toList args.toList ds p := hA0
  rw [Tryd.params6] at hA hval hsz
  obtain ⟨v0, vs0, d0, ds0, p0, q0, hargs, rfl, rfl, h0, r0⟩ := trodAll_cons hA
  obtain ⟨v1, vs1, d1, ds1, p1, q1, rfl, rfl, rfl, h1, r1⟩ := trodAll_cons r0
  obtain ⟨rfl, rfl, rfl⟩ := trodAll_nil r1
  obtain rfl : args = #[v0, v1] := by cases args; simp_all
  obtain ⟨rfl, rfl⟩ := trodVars_none hV
  obtain ⟨a0, rfl, rfl, rfl, y0⟩ := open_string Tryd.underlying9 (hval 0 9 v0 rfl rfl) h0
  have w0 : a0.size ≤ 140737488351232 := by
    have z := sized_string hsz (j := 0) (t := 9) rfl rfl
    rw [Array.length_toList] at z
    exact z
  obtain ⟨a1, rfl, rfl, rfl, y1⟩ := open_string Tryd.underlying9 (hval 1 9 v1 rfl rfl) h1
  have w1 : a1.size ≤ 140737488351232 := by
    have z := sized_string hsz (j := 1) (t := 9) rfl rfl
    rw [Array.length_toList] at z
    exact z
  clear hA0 hval0 hsz0 hsz
  obtain ⟨k, h⟩ := LKeyShorts.law a0 a1 w0 w1
  refine (PB.cabinetrylaw09_KeyShorts.calls k a0 a1 true W h ⟨rfl⟩ ⟨Tryd.laysM143.s1_3 W hsh⟩).mono fun e W' ⟨he, bel⟩ => ?_
  subst he
  exact ⟨_, rfl, _, _, _, [], _, [], hW', trodAll_mk1 (shut_bool Tryd.underlying4 _), (trodAll_cons_mk (shut_string Tryd.underlying9 y0) (trodAll_cons_mk (shut_string Tryd.underlying9 y1) trodAll_mk0)), rfl, bel.frame _, fun h => by cases h⟩
theorem keyShorts_holds : Rows.KeyShortsSaid :=
  OpenClaim.holds_of_wide 6 Tryd.f6 rfl rfl rfl rfl rfl rfl rfl ⟨rfl, rfl, rfl, rfl, rfl⟩ rfl rfl rfl rfl rfl (by kernel_rfl) Tryd.func6 (by kernel_rfl)
    (of_decide_eq_true (by kernel_rfl)) (by unfold Func.isWrapper; first | (rw [if_pos (by decide +kernel)]; kernel_rfl) | (rw [if_neg (by decide +kernel)]; exact ⟨rfl, rfl⟩))
    (fun os started H enc _ => lifted os started H enc)
end Go.Proofs.YtnkejhfbkgfedaaDoor.keyShorts
namespace Go.Proofs.YtnkejhfbkgfedaaDoor
theorem keyShorts_card : Rows.KeyShortsCardSaid :=
  Claim7.holds_tied_plain_at .later [] [.data, .pinned] true (true, "3ca090072f74d9576caed6164917b7ff82063396b7cf458c4b58db08244bc750") false
    keyShorts.keyShorts_holds (fun _ h => by cases h) (by kernel_rfl) (fun _ h => by cases h) keyShorts_row_tie rfl ⟨rfl, rfl⟩ (by kernel_rfl) rfl
    (fun f fn hf hfn => by
      obtain rfl : f = 6 := Option.some.inj ((show Tryd.prog.funcNamed "cabinetry/cabinetrylaw09.KeyShorts" = some 6 by kernel_rfl).symm.trans hf) |>.symm
      obtain rfl : fn = Tryd.f6 := (Option.some.inj (Tryd.func6.symm.trans hfn)).symm
      exact ⟨by kernel_rfl, fun j t ht => by
        rw [Tryd.params6] at ht
        have hm : t ∈ [9, 9] := by simpa using Array.mem_of_getElem? ht
        have hall : ([9, 9].all fun u => !Tryd.prog.wantsStandIn u) = true := by kernel_rfl
        exact (show Tryd.prog.wantsStandIn t = false by simpa using List.all_eq_true.1 hall t hm)⟩)
    (by kernel_rfl)
#print axioms keyShorts_card
end Go.Proofs.YtnkejhfbkgfedaaDoor
