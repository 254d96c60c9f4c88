-- Written by a program of this session (wip/merge.py): the texts of this claim, joined.
import Derived.Lib.Strings
import Derived.Lib.SmallJoins
import Derived.Lib.SlTrimSet
import Derived.Lib.IndexBytes
import Derived.Lib.IndexMore
import Derived.Lib.ReplaceLaws
import Derived.Lib.CountLaws
import Derived.Test.YtnkejhfbkgfedaaDoorMKeyAsks1
import Derived.Test.YtnkejhfbkgfedaaDoorMKeyAsks2
import Derived.Test.YtnkejhfbkgfedaaDoorMKeyAsks3
import Derived.Test.YtnkejhfbkgfedaaDoorMKeyAsks4
import Derived.Test.YtnkejhfbkgfedaaDoorMKeyAsks5
import Derived.Test.YtnkejhfbkgfedaaDoorMKeyAsks6
namespace Go.Proofs.YtnkejhfbkgfedaaDoor.PA
end Go.Proofs.YtnkejhfbkgfedaaDoor.PA
namespace Go.Proofs.YtnkejhfbkgfedaaDoor.PB
end Go.Proofs.YtnkejhfbkgfedaaDoor.PB
namespace Go.Proofs.YtnkejhfbkgfedaaDoor.PC
end Go.Proofs.YtnkejhfbkgfedaaDoor.PC
namespace Go.Proofs.YtnkejhfbkgfedaaDoor.H1
end Go.Proofs.YtnkejhfbkgfedaaDoor.H1
namespace Go.Proofs.YtnkejhfbkgfedaaDoor.L1
end Go.Proofs.YtnkejhfbkgfedaaDoor.L1
namespace Go.Proofs.YtnkejhfbkgfedaaDoor.L1
open Go.RowKit Go.Proofs.YtnkejhfbkgfedaaDoorW.PrintWords Go.Proofs.YtnkejhfbkgfedaaDoor.PA
def validV (a n : Int) (s : ByteArray) : Int :=
  if (s.size : Int) > 2048 then 3
  else if (a = 4 ∧ n = 0) ∨ (a ≠ 4 ∧ s.toList = [] ∧ ((a = 0 ∧ n = 0) ∨ (a = 1 ∧ (n = 0 ∨ n = 1)) ∨ (a = 2 ∧ -1000000000000000 ≤ n ∧ n ≤ 1000000000000000) ∨ (a = 3 ∧ 0 ≤ n ∧ n ≤ 3652059))) then 0 else 1
theorem isNum_f (n : Int) : val_isNum.f n = some (decide (-1000000000000000 ≤ n ∧ n ≤ 1000000000000000)) := by
  unfold val_isNum.f
  split
  · rename_i h
    have h' : -1000000000000000 ≤ n := h
    simp [h']
  · rename_i h
    have h' : ¬ (-1000000000000000 ≤ n) := h
    simp [h']
theorem isDay_f (n : Int) : val_isDay.f n = some (decide (0 ≤ n ∧ n ≤ 3652059)) := by
  unfold val_isDay.f
  split
  · rename_i h
    have h' : 0 ≤ n := h
    simp [h']
  · rename_i h
    have h' : ¬ (0 ≤ n) := h
    simp [h']
theorem inNum_f (n : Int) : cabinetryref01_InNum.f n = some (decide (-1000000000000000 ≤ n ∧ n ≤ 1000000000000000)) := by
  unfold cabinetryref01_InNum.f
  split
  · rename_i h
    have h' : -1000000000000000 ≤ n := h
    simp [h']
  · rename_i h
    have h' : ¬ (-1000000000000000 ≤ n) := h
    simp [h']
theorem validate_f (k : Nat) (a n : Int) (s : ByteArray) : val_Validate.f (k + 1) a n s = some (validV a n s) := by
  unfold val_Validate.f validV val_isValue.f
  by_cases h1 : (s.size : Int) > 2048
  · simp [h1]
  · simp only [if_neg h1, val_isValue.j0, isNum_f, isDay_f]
    by_cases h4 : a = 4
    · subst h4
      by_cases hn : n = 0 <;> simp [hn]
    · by_cases hs : s.toList = []
      · by_cases h0 : a = 0
        · subst h0; by_cases hn : n = 0 <;> simp [hn, hs]
        · by_cases ha1 : a = 1
          · subst ha1
            by_cases hn : n = 0
            · simp [hn, hs]
            · by_cases hn1 : n = 1 <;> simp [hn, hn1, hs]
          · by_cases ha2 : a = 2
            · subst ha2; simp [hs] <;> split <;> rfl
            · by_cases ha3 : a = 3
              · subst ha3; simp [hs] <;> split <;> rfl
              · simp [h4, hs, h0, ha1, ha2, ha3]
      · simp [h4, hs]
theorem refValidate_f (a n : Int) (s : ByteArray) : cabinetryref01_Validate.f a n s = some (validV a n s) := by
  unfold cabinetryref01_Validate.f validV
  by_cases h1 : (s.size : Int) > 2048
  · simp [h1]
  · simp only [if_neg h1, inNum_f]
    by_cases h4 : a = 4
    · subst h4
      by_cases hn : n = 0 <;> simp [hn]
    · by_cases hs : s.toList = []
      · by_cases h0 : a = 0
        · subst h0; by_cases hn : n = 0 <;> simp [hn, hs]
        · by_cases ha1 : a = 1
          · subst ha1
            by_cases hn : n = 0
            · simp [hn, hs]
            · by_cases hn1 : n = 1 <;> simp [hn, hn1, hs]
          · by_cases ha2 : a = 2
            · subst ha2; simp [hs] <;> split <;> rfl
            · by_cases ha3 : a = 3
              · subst ha3
                by_cases g1 : 0 ≤ n <;> by_cases g2 : n ≤ 3652059 <;> simp [hs, g1, g2]
              · simp [h4, h0, ha1, ha2, ha3]
      · by_cases h0 : a = 0
        · subst h0; by_cases hn : n = 0 <;> simp [hn, hs]
        · by_cases ha1 : a = 1
          · subst ha1
            by_cases hn : n = 0
            · simp [hn, hs]
            · by_cases hn1 : n = 1 <;> simp [hn1, hs, hn]
          · by_cases ha2 : a = 2
            · subst ha2; simp [hs] <;> split <;> rfl
            · by_cases ha3 : a = 3
              · subst ha3
                by_cases g1 : 0 ≤ n <;> by_cases g2 : n ≤ 3652059 <;> simp [hs, g1, g2]
              · simp [h4, h0, ha1, ha2, ha3, hs]
end Go.Proofs.YtnkejhfbkgfedaaDoor.L1
namespace Go.Proofs.YtnkejhfbkgfedaaDoor.L1
open Go.RowKit Go.Proofs.YtnkejhfbkgfedaaDoorW.PrintWords Go.Proofs.YtnkejhfbkgfedaaDoor.PA
theorem w64 {x : Int} (h0 : -9223372036854775808 ≤ x) (h1 : x ≤ 9223372036854775807) : wrap64 x = x := by
  unfold wrap64
  omega
theorem ba_ext {a b : ByteArray} (h : a.data.toList = b.data.toList) : a = b := by
  obtain ⟨⟨x⟩⟩ := a
  obtain ⟨⟨y⟩⟩ := b
  simp at h
  rw [h]
theorem ba_mk (l : List UInt8) : (⟨l.toArray⟩ : ByteArray).data.toList = l := by simp
theorem ba_self (s : ByteArray) : (⟨s.data.toList.toArray⟩ : ByteArray) = s := ba_ext (by simp)
theorem ba_size (l : List UInt8) : (⟨l.toArray⟩ : ByteArray).size = l.length := by simp [ByteArray.size]
theorem ba_len (s : ByteArray) : s.data.toList.length = s.size := (Lib.size_eq s).symm
theorem bt_get (s : ByteArray) (i : Nat) (h : i < s.size) : bt s (i : Int) = ((s.data.toList[i]'(by rw [ba_len]; exact h)).toNat : Int) := by
  unfold bt
  have h' : ((i : Int)).toNat < s.size := by simpa using h
  rw [dif_pos h']
  simp [ByteArray.getElem_eq_getElem_data]
theorem trimRight_prefix (l : List UInt8) : ∃ n, n ≤ l.length ∧ Lib.trimRightS l [32] = l.take n := by
  refine ⟨(Lib.trimRightS l [32]).length, ?_, ?_⟩
  · unfold Lib.trimRightS
    have := (List.dropWhile_sublist (p := (([32] : List UInt8).contains ·)) (l := l.reverse)).length_le
    simpa using this
  · unfold Lib.trimRightS
    have h := List.dropWhile_suffix (l := l.reverse) (([32] : List UInt8).contains ·)
    obtain ⟨t, ht⟩ := h
    have e : l = (l.reverse.dropWhile (([32] : List UInt8).contains ·)).reverse ++ t.reverse := by
      have := congrArg List.reverse ht
      simpa using this.symm
    have g : ∀ (D T : List UInt8), l = D ++ T → D = l.take D.length := by rintro D T rfl; simp
    exact g _ _ e
end Go.Proofs.YtnkejhfbkgfedaaDoor.L1
namespace Go.Proofs.YtnkejhfbkgfedaaDoor.PA
open Go.RowKit Go.Proofs.YtnkejhfbkgfedaaDoorW.PrintWords Go.Proofs.YtnkejhfbkgfedaaDoorW.PrintLast Go.Proofs.YtnkejhfbkgfedaaDoorW.PrintMore
attribute [local go_sem] max2_int min2_int max_two min_two max_three min_three max_four min_four   -- for this text's walks alone
set_option linter.unusedVariables false
set_option linter.unusedSimpArgs false
def key_turner_1.f (a0 : ByteArray) : Option (ByteArray) := some a0
set_option maxHeartbeats 8000000 in
set_option maxRecDepth 100000 in
theorem key_turner_1.calls (a0 : ByteArray) (r : ByteArray) (w : World) (h : key_turner_1.f a0 = some r) :
  Calls Tryd.prog 74 #[.string a0] w fun e w' => e = .returned (.string r) ∧ Drawn0 w w' := by
 have H : (some a0) = some r := h
 clear h
 obtain rfl := Option.some.inj H
 simp only [Option.some.injEq, Prod.mk.injEq] at H
 obtain ⟨rfl⟩ := H
 go_enter Tryd.func74, Tryd.ntmps74
 go_wp2
 go_ret
 exact ⟨by first | rfl | (simp; done) | (simp [*]; done), by repeat (first | exact Drawn0.refl _ | apply Drawn0.step)⟩
def key_turner_2.l0 : Nat → List Int → Int → Int → Option (ByteArray)
 | 0, _, _, _ => none
 | k + 1, x3, x8, x9 => if x9 < x8 then (if 0 ≤ x9 then (if x9 < (x3.length : Int) then (key_turner_2.l0 k (x3.set (x9 : Int).toNat ((255 - (rd x3 x9)) % 256)) x8 (wrap64 (x9 + 1))) else (none)) else (none)) else (some (strOfNums x3))
def key_turner_2.f (k : Nat) (a0 : ByteArray) : Option (ByteArray) := if a0.size ≤ 140737488351232 then ((some (bytesOf a0 : List Int)).bind fun y521 => (key_turner_2.l0 k y521 (y521.length : Int) 0)) else (none)
theorem key_turner_2.mono_l : ∀ k, (∀ y0 y1 y2, LeO (key_turner_2.l0 k y0 y1 y2) (key_turner_2.l0 (k + 1) y0 y1 y2))
 | 0 => fun _ _ _ r h => by simp [key_turner_2.l0] at h
 | k + 1 => by
  have ih0 := key_turner_2.mono_l k
  ·intro y0 y1 y2
   unfold key_turner_2.l0
   repeat' first
   | (with_reducible exact ih0 _ _ _)
   | (with_reducible exact LeO.refl _)
   | (with_reducible exact LeO.none _)
   | (with_reducible refine LeO.ite ?_ ?_)
   | (with_reducible refine LeO.bind ?_ (fun _ => ?_))
   | exact ih0 _ _ _
   | exact LeO.none _
   | refine LeO.ite ?_ ?_
   | refine LeO.bind ?_ (fun _ => ?_)
theorem key_turner_2.mono : ∀ a0 k, LeO (key_turner_2.f k a0) (key_turner_2.f (k + 1) a0) := by
 intro a0 k
 have ih0 := key_turner_2.mono_l k
 unfold key_turner_2.f
 repeat' first
   | (with_reducible exact ih0 _ _ _)
   | (with_reducible exact LeO.refl _)
   | (with_reducible exact LeO.none _)
   | (with_reducible refine LeO.ite ?_ ?_)
   | (with_reducible refine LeO.bind ?_ (fun _ => ?_))
   | exact ih0 _ _ _
   | exact LeO.none _
   | refine LeO.ite ?_ ?_
   | refine LeO.bind ?_ (fun _ => ?_)
set_option maxHeartbeats 8000000 in
set_option maxRecDepth 100000 in
theorem key_turner_2.calls (k : Nat) (a0 : ByteArray) (r : ByteArray) (w : World) (h : key_turner_2.f k a0 = some r) :
  Calls Tryd.prog 75 #[.string a0] w fun e w' => e = .returned (.string r) ∧ Below w.heap.size w w' := by
 have HB := Aside0.mk (Below.refl w.heap.size w)
 have H : (if a0.size ≤ 140737488351232 then ((some (bytesOf a0 : List Int)).bind fun y521 => (key_turner_2.l0 k y521 (y521.length : Int) 0)) else (none)) = some r := h
 clear h
 by_cases c2 : a0.size ≤ 140737488351232
 ·rw [if_pos c2] at H
  have c2b0 := eq_true c2
  have c2b1 : decide (a0.size ≤ 140737488351232) = true := decide_eq_true c2
  clear c2
  obtain ⟨y521, hy521⟩ : ∃ y_ : List Int, y_ = (bytesOf a0) := ⟨_, rfl⟩
  replace H : (key_turner_2.l0 k y521 (y521.length : Int) 0) = some r := by first | (rw [hy521]; with_reducible exact H) | (have H2_ := (Option.bind_some _ _).symm.trans H; rw [hy521]; with_reducible exact H2_) | (have H2_ := (Option.bind_some _ _).symm.trans H; with_reducible exact H2_) | with_reducible exact H | (rw [hy521]; exact H) | exact H
  have Ny521 := Aside0.mk hy521
  clear hy521
  have H' := Aside0.mk H
  clear H
  go_enter Tryd.func75, Tryd.ntmps75
  go_wp2_with (first | ((with_reducible refine gate_dst (N := 6) rfl ?_); refine Kf.R_ofstr _ 5 rfl (N := 6) rfl 9 62 _ rfl a0 rfl Tryd.underlying9 Tryd.underlying62 Tryd.underlying5 (of_decide_eq_true (by first | (with_reducible assumption) | assumption)) (Below.refl _ _) (Nat.le_refl _) ?_; intro v522 w3 ho4 hb hg_ hnew_; clear hg_ hnew_; (first | rw [← Ny521.out] at ho4 | (simp only [Int.reduceToNat] at ho4; rw [← Ny521.out] at ho4)); have n0_ := Aside0.mk (Kf.R_lower ho4 (below_size (by repeat (first | (with_reducible first | exact HB.out | apply below_alloc | apply pw_below_drewN | apply below_drew1) | exact HB.out)))); have n1_ := Aside0.mk (below_step (by repeat (first | (with_reducible first | exact HB.out | apply below_alloc | apply pw_below_drewN | apply below_drew1) | exact HB.out)) hb); clear HB; have HO523 := n0_; have HB := n1_; clear n0_ n1_; clear hb ho4; obtain ⟨Ao5, co5, eo5⟩ := Kf.R_slice HO523.out; subst eo5))
  go_loopg [9] k (fun kq v9 w' => ∃ (x3_1 : List Int) (x9_1 : Int), v9 = .int .i64 x9_1 ∧ Aside0 (key_turner_2.l0 kq x3_1 (y521.length : Int) x9_1 = some r) ∧ Aside0 (kq ≤ k) ∧ Aside0 (Kf.R (Kd.int .u8) 5 w' w.heap.size (fun _ => True) (.slice Ao5 y521.length co5) x3_1) ∧ Aside0 (Below w.heap.size w w'))
  case atStart => exact ⟨(y521), (0), (by first | rfl | (simp; done) | (simp [*]; done)), H', ⟨Nat.le_refl _⟩, ⟨by (with_reducible repeat (first | apply Kf.R_alloc | apply Kf.R_drewN | apply Kf.R_drew | apply Kd.R_alloc | apply Kd.R_drewN | apply Kd.R_drew)); exact HO523.out⟩, ⟨by repeat (first | (with_reducible first | exact HB.out | apply below_alloc | apply pw_below_drewN | apply below_drew1) | exact HB.out)⟩⟩
  case round =>
   clear H'
   try clear c2; try clear c2b0; try clear c2b1; try clear p2
   obtain ⟨x3_1, x9_1, rfl, HA, HK1, HO_3, HB⟩ := hrel
   have hl3_1 := (Kf.R_reads' HO_3.out).1
   rw [hl3_1] at HO_3
   (try simp only [hl3_1])
   cases gk with
   | zero => exact absurd HA.out (by simp [key_turner_2.l0])
   | succ k1 =>
    have H := HA.out
    clear HA
    simp only [key_turner_2.l0] at H
    by_cases c6 : x9_1 < (y521.length : Int)
    ·rw [if_pos c6] at H
     have c6b0 : decide (x9_1 < (y521.length : Int)) = true := decide_eq_true c6
     clear c6
     by_cases c7 : 0 ≤ x9_1
     ·rw [if_pos c7] at H
      have c7b0 : decide (0 ≤ x9_1) = true := decide_eq_true c7
      clear c7
      by_cases c8 : x9_1 < (x3_1.length : Int)
      ·rw [if_pos c8] at H
       have c8b0 : decide (x9_1 < (x3_1.length : Int)) = true := decide_eq_true c8
       clear c8
       obtain ⟨y525, hy525⟩ : ∃ y_ : List Int, y_ = (x3_1.set (x9_1 : Int).toNat ((255 - (rd x3_1 x9_1)) % 256)) := ⟨_, rfl⟩
       replace H : (key_turner_2.l0 k1 y525 (y521.length : Int) (wrap64 (x9_1 + 1))) = some r := by first | (rw [hy525]; with_reducible exact H) | (have H2_ := (Option.bind_some _ _).symm.trans H; rw [hy525]; with_reducible exact H2_) | (have H2_ := (Option.bind_some _ _).symm.trans H; with_reducible exact H2_) | with_reducible exact H | (rw [hy525]; exact H) | exact H
       have Ny525 := Aside0.mk hy525
       clear hy525
       have H' := Aside0.mk H
       clear H
       have p524 : 0 ≤ (x9_1 : Int) := of_decide_eq_true (by first | (with_reducible assumption) | assumption)
       have q524 : x9_1 < (x3_1.length : Int) := of_decide_eq_true (by first | (with_reducible assumption) | assumption)
       obtain ⟨ad524, e524, hx524_0⟩ := Kd.at_int (Kf.R_reads' HO_3.out).2.2 x9_1 p524 q524
       cases e524
       replace p524 := eq_true p524
       replace q524 := eq_true q524
       have p9 : 0 ≤ (x9_1 : Int) := of_decide_eq_true (by first | (with_reducible assumption) | assumption)
       have q9 : (x9_1 : Int) < ((x3_1.length : Int) : Int) := of_decide_eq_true (by first | (with_reducible assumption) | assumption)
       obtain ⟨go9, co9, eo9, gb9, gl9, cl9, HG9⟩ := Kf.R_form HO_3.out (by omega)
       (first | cases eo9 | (injection eo9 with ea_ en_ ec_; (first | subst ea_ | (injection ea_ with ea_; subst ea_)); subst ec_; clear en_))
       have GB9 := Aside0.mk gb9
       have GG9 := Aside0.mk HG9
       clear gb9 gl9 HG9
       (first | simp only [add_plain] at hx524_0 | skip)
       obtain ⟨hx9_0, hf9_0⟩ := Kf.R_celln 0 HO_3.out (x9_1 : Int) p9 q9
       replace p9 := eq_true p9
       replace q9 := eq_true q9
       have HP10 := Kf.R_putg HO_3.out (x9_1 : Int) ((255 - (rd x3_1 x9_1)) % 256)
       go_wp2_with (first | ((with_reducible refine gate_store (t := 5) (p := 19) rfl ?_); refine store_event (t := 5) (p := 19) (v := ?vo_w11) (w1 := (wr.setCell ⟨go9, (x9_1 : Int).toNat, none⟩ (.int .u8 ((255 - (rd x3_1 x9_1)) % 256)))) ?hg ?ho ?hn ?hr ?_; (case ho => rfl); (case hg => rfl); (case hn => rfl); (case hr => first | (go_simp; done) | (go_simp; rfl)); intro w11 hw; have hg : wr.grownBy w11 (some go9) := (by rw [hw]; exact HP10.2); have hp_ : Kf.R (Kd.int .u8) 5 w11 w.heap.size (fun _ => True) (.slice (some ⟨go9, 0, none⟩) x3_1.length co5) y525 := (by rw [hw, Ny525.out]; exact HP10.1); clear HP10; have n0_ := Aside0.mk (hp_); have n1_ := Aside0.mk ((by rw [hw]; exact below_set (HB.out) GB9.out : Below w.heap.size w w11)); clear HO_3; clear HB; have HO_3 := n0_; have HB := n1_; clear n0_ n1_; clear hg hw hp_))
       (try simp only [← hl3_1])
       go_roundg k1
       case measure => have := HK1.out; omega
       case rel => exact ⟨(y525), (wrap64 (x9_1 + 1)), (by first | rfl | (simp; done) | (simp [*]; done)), H', ⟨by have := HK1.out; omega⟩, ⟨by (try simp only [hl3_1]); (with_reducible repeat (first | apply Kf.R_alloc | apply Kf.R_drewN | apply Kf.R_drew | apply Kd.R_alloc | apply Kd.R_drewN | apply Kd.R_drew)); exact HO_3.out⟩, ⟨by repeat (first | (with_reducible first | exact HB.out | apply below_alloc | apply pw_below_drewN | apply below_drew1) | exact HB.out)⟩⟩
      ·rw [if_neg c8] at H
       exact absurd H (by simp)
     ·rw [if_neg c7] at H
      exact absurd H (by simp)
    ·rw [if_neg c6] at H
     have c6b0 : decide (x9_1 < (y521.length : Int)) = false := decide_eq_false c6
     (try rw [hl3_1] at c6b0)
     clear c6
     obtain rfl := Option.some.inj H
     simp only [Option.some.injEq, Prod.mk.injEq] at H
     obtain ⟨rfl⟩ := H
     have hcv12 := Kf.own_string (P := Tryd.prog) Tryd.underlying62 Tryd.underlying5 Tryd.underlying9 (Kf.own_of_R HO_3.out)
     go_wp2
     go_ret
     exact ⟨by first | rfl | (simp [errW_none, errW_some] <;> rfl) | (simp [*, errW_none, errW_some] <;> rfl), by repeat (first | (with_reducible first | exact HB.out | apply below_alloc | apply pw_below_drewN | apply below_drew1) | exact HB.out)⟩
 ·rw [if_neg c2] at H
  exact absurd H (by simp)
end Go.Proofs.YtnkejhfbkgfedaaDoor.PA
namespace Go.Proofs.YtnkejhfbkgfedaaDoor.H1
open Go.RowKit Go.Proofs.YtnkejhfbkgfedaaDoorW.PrintWords Go.Proofs.YtnkejhfbkgfedaaDoorW.PrintLast Go.Proofs.YtnkejhfbkgfedaaDoorW.PrintMore Go.Proofs.YtnkejhfbkgfedaaDoor.PA
set_option linter.unusedVariables false
set_option linter.unusedSimpArgs false
def turnF (d : Bool) : FuncId := match d with | true => 75 | false => 74
def turnV (d : Bool) : Value := .func (.func (turnF d)) #[] #[]
def key_turner.f (a0 : Bool) : Option Bool := some a0
set_option maxHeartbeats 4000000 in
set_option maxRecDepth 100000 in
theorem key_turner.calls (a0 : Bool) (r : Bool) (w : World) (h : key_turner.f a0 = some r) :
    Calls Tryd.prog 53 #[.bool a0] w fun e w' => e = .returned (turnV r) ∧ Drawn0 w w' := by
  obtain rfl := Option.some.inj h
  clear h
  cases a0
  all_goals
    go_enter Tryd.func53, Tryd.ntmps53
    go_wp2
    go_ret
    exact ⟨rfl, by repeat (first | exact Drawn0.refl _ | apply Drawn0.step)⟩
def key_turn.f (k : Nat) (d : Bool) (s : ByteArray) : Option ByteArray := match d with | true => key_turner_2.f k s | false => key_turner_1.f s
theorem key_turn.calls (k : Nat) (d : Bool) (s r : ByteArray) (w : World) (h : key_turn.f k d s = some r) :
    Calls Tryd.prog (turnF d) #[.string s] w fun e w' => e = .returned (.string r) ∧ Below w.heap.size w w' := by
  cases d
  · exact (key_turner_1.calls s r w h).mono fun e w' ⟨he, hd⟩ => ⟨he, by obtain ⟨n, rfl⟩ := hd; exact pw_below_drewN (Below.refl _ _) _⟩
  · exact key_turner_2.calls k s r w h
theorem key_turn.mono : ∀ d s k, LeO (key_turn.f k d s) (key_turn.f (k + 1) d s) := by
  intro d s k
  cases d
  · exact LeO.refl _
  · exact key_turner_2.mono _ _
section
variable {ops : Array Oper} {rest : List Oper} {o : Oper} {a : Act} {W : World} {Q : Exit → Act → World → Prop} {P : Program}
theorem gate_calleeV {c : Tmp} {as_ : Array Operand} {ts : Array TypeId} (_ho : o.op = .call { callee := .value (.tmp c), args := as_, argTypes := ts }) (h : wpList P ops Q (o :: rest) a W) : wpList P ops Q (o :: rest) a W := h
end
section
variable {ops : Array Oper} {Q : Exit → Act → World → Prop}
theorem goesV_ {rest : List Oper} {oi : Oper} {a : Act} {w : World} (N : Option Tmp) (hd : oi.dst = N) (hg : oi.guard = none) (d : Bool) {c : Tmp} {as_ : Array Operand} {ts : Array TypeId}
    (hop : oi.op = .call { callee := .value (.tmp c), args := as_, argTypes := ts }) (args : Array Value) (hc : a.eval (.tmp c) = turnV d) (hargs : as_.map a.eval = args)
    (h : Calls Tryd.prog (turnF d) args w fun e w' => ∃ v, e = .returned v ∧ wpList Tryd.prog ops Q rest (a.put N v) w') : wpList Tryd.prog ops Q (oi :: rest) a w := by
  refine wpList_plain hg fun K hK => ?_
  have he : (callFunc (turnF d) args).run Tryd.prog w = .ok (.enter (turnF d) args) w := by
    cases d
    · exact enters_ Tryd.func74 (by kernel_rfl) rfl args w
    · exact enters_ Tryd.func75 (by kernel_rfl) rfl args w
  have hrun : (execOp a.eval oi).run Tryd.prog w = .ok (.enter (turnF d) args) w := by
    unfold execOp
    simp [hop, resolve, Deferred.ofValue, invoke, hc, turnV, hargs, he]
  unfold Oper.wp
  rw [hrun, Oper.upon_enter]
  refine h.mono fun e w'' hh => ?_
  obtain ⟨v, rfl, hk⟩ := hh
  subst hd
  exact hK _ _ hk
theorem goesR_ {oi : Oper} {N : Option Tmp} {a : Act} {w : World} {K : Act → World → Prop} (d : Bool) {c : Tmp} {as_ : Array Operand} {ts : Array TypeId} (args : Array Value)
    (hw : Region.wanted oi (yielded ops a.tmps) = true) (hN : oi.dst = N) (hop : oi.op = .call { callee := .value (.tmp c), args := as_, argTypes := ts }) (hc : a.eval (.tmp c) = turnV d) (hargs : as_.map a.eval = args)
    (h : Calls Tryd.prog (turnF d) args w fun e w' => ∃ v, e = .returned v ∧ K (a.put N v) w') : if Region.wanted oi (yielded ops a.tmps) = true then Oper.wp Tryd.prog oi a w K Q else K (a.put N undef) w := by
  refine call_ (turnF d) args hw hN ?_ h
  have he : (callFunc (turnF d) args).run Tryd.prog w = .ok (.enter (turnF d) args) w := by
    cases d
    · exact enters_ Tryd.func74 (by kernel_rfl) rfl args w
    · exact enters_ Tryd.func75 (by kernel_rfl) rfl args w
  unfold execOp
  simp [hop, resolve, Deferred.ofValue, invoke, hc, turnV, hargs, he]
end
end Go.Proofs.YtnkejhfbkgfedaaDoor.H1
namespace Go.Proofs.YtnkejhfbkgfedaaDoor.L1
open Go.RowKit Go.Proofs.YtnkejhfbkgfedaaDoorW.PrintWords Go.Proofs.YtnkejhfbkgfedaaDoor.PA Go.Proofs.YtnkejhfbkgfedaaDoor.PB Go.Proofs.YtnkejhfbkgfedaaDoor.H1
set_option linter.unusedVariables false
set_option linter.unusedSimpArgs false
theorem ba_extract (s : ByteArray) (i j : Nat) (hj : j ≤ s.size) : (s.extract i j).data.toList = (s.data.toList.take j).drop i := by
  rw [Lib.extract_data]
  simp [List.drop_take]
end Go.Proofs.YtnkejhfbkgfedaaDoor.L1
namespace Go.Proofs.YtnkejhfbkgfedaaDoor.L1
open Go.RowKit Go.Proofs.YtnkejhfbkgfedaaDoorW.PrintWords Go.Proofs.YtnkejhfbkgfedaaDoor.PA Go.Proofs.YtnkejhfbkgfedaaDoor.PB Go.Proofs.YtnkejhfbkgfedaaDoor.H1
set_option linter.unusedVariables false
set_option linter.unusedSimpArgs false
def swapR (a b : List UInt8) : Nat → List UInt8 → List UInt8
  | 0, _ => []
  | _ + 1, [] => []
  | n + 1, x :: l => if a.isPrefixOf (x :: l) = true then b ++ swapR a b n ((x :: l).drop a.length) else x :: swapR a b n l
theorem swapR_self (a : List UInt8) (ha : a ≠ []) : ∀ (n : Nat) (l : List UInt8), l.length ≤ n → swapR a a n l = l
  | 0, l, h => by
    have : l = [] := List.length_eq_zero_iff.1 (by omega)
    rw [this]; rfl
  | n + 1, [], _ => rfl
  | n + 1, x :: l, h => by
    have hl : 0 < a.length := List.length_pos_iff.2 ha
    simp only [swapR]
    by_cases hp : a.isPrefixOf (x :: l) = true
    · rw [if_pos hp, swapR_self a ha n _ (by rw [List.length_drop]; simp only [List.length_cons] at h ⊢; omega)]
      have e := List.prefix_iff_eq_take.1 (List.isPrefixOf_iff_prefix.1 hp)
      conv => lhs; lhs; rw [e]
      exact List.take_append_drop _ _
    · rw [if_neg hp, swapR_self a ha n l (by simp only [List.length_cons] at h; omega)]
theorem swapR_count (a b : List UInt8) (ha : a ≠ []) : ∀ (n : Nat) (l : List UInt8), l.length ≤ n → swapR a b n l = Lib.replaceK a b (Lib.count l a) l
  | 0, l, h => by
    have : l = [] := List.length_eq_zero_iff.1 (by omega)
    rw [this, Lib.count_miss (by unfold Lib.index; cases a <;> simp at ha ⊢)]
    rfl
  | n + 1, [], _ => by
    rw [Lib.count_miss (by unfold Lib.index; cases a <;> simp at ha ⊢)]
    rfl
  | n + 1, x :: l, h => by
    have hl : 0 < a.length := List.length_pos_iff.2 ha
    have hn : l.length ≤ n := by simp only [List.length_cons] at h; omega
    simp only [swapR]
    by_cases hp : a.isPrefixOf (x :: l) = true
    · have hi : Lib.index (x :: l) a = ((0 : Nat) : Int) := by unfold Lib.index; rw [if_pos hp]; rfl
      rw [if_pos hp, Lib.count_hit ha hi, Nat.add_comm, Lib.replaceK_hit _ _ _ _ 0 hi]
      rw [swapR_count a b ha n _ (by rw [List.length_drop]; simp only [List.length_cons]; omega)]
      simp
    · rw [if_neg hp, swapR_count a b ha n l hn]
      have hx : Lib.index (x :: l) a = if Lib.index l a == -1 then -1 else Lib.index l a + 1 := by
        conv => lhs; unfold Lib.index
        rw [if_neg hp]
      by_cases hm : Lib.index l a = -1
      · have hm' : Lib.index (x :: l) a = -1 := by rw [hx, hm]; rfl
        rw [Lib.count_miss hm, Lib.count_miss hm']
        rfl
      · have hg := Lib.index_ge l a
        obtain ⟨i, hi⟩ : ∃ i : Nat, Lib.index l a = i := ⟨(Lib.index l a).toNat, by omega⟩
        have hi' : Lib.index (x :: l) a = ((i + 1 : Nat) : Int) := by
          rw [hx, if_neg (by simpa using hm), hi]; rfl
        rw [Lib.count_hit ha hi, Lib.count_hit ha hi', show i + 1 + a.length = (i + a.length) + 1 by omega, List.drop_succ_cons]
        rw [Nat.add_comm 1, Lib.replaceK_hit _ _ _ _ i hi, Lib.replaceK_hit _ _ _ _ (i + 1) hi', show i + 1 + a.length = (i + a.length) + 1 by omega, List.drop_succ_cons]
        simp
theorem replaceAll_eq (a b : List UInt8) (ha : a ≠ []) (n : Nat) (l : List UInt8) (h : l.length ≤ n) : Lib.replaceAll l a b = swapR a b n l := by
  unfold Lib.replaceAll Lib.replace
  by_cases e : a = b
  · rw [if_pos (by simpa using e), ← e, swapR_self a ha n l h]
  · rw [if_neg (by simpa using e), swapR_count a b ha n l h]
    unfold Lib.replaceNum
    rw [if_pos (Or.inl (by decide))]
theorem ba_app (a b : ByteArray) : (a ++ b).data.toList = a.data.toList ++ b.data.toList := by rw [ByteArray.data_append]; simp
end Go.Proofs.YtnkejhfbkgfedaaDoor.L1
namespace Go.Proofs.YtnkejhfbkgfedaaDoor.PA
open Go.RowKit Go.Proofs.YtnkejhfbkgfedaaDoorW.PrintWords Go.Proofs.YtnkejhfbkgfedaaDoorW.PrintLast Go.Proofs.YtnkejhfbkgfedaaDoorW.PrintMore
attribute [local go_sem] max2_int min2_int max_two min_two max_three min_three max_four min_four   -- for this text's walks alone
set_option linter.unusedVariables false
set_option linter.unusedSimpArgs false
def page_asked.l0 : Nat → Int → List ByteArray → Int → Int → Option (Int)
 | 0, _, _, _, _ => none
 | k + 1, x0, x7, x8, x9 => if x9 < x8 then (if 0 ≤ x9 then (if x9 < (x7.length : Int) then (if ((rdOf ByteArray.empty x7 x9).size : Int) > 2048 then (some 3) else (page_asked.l0 k x0 x7 x8 (wrap64 (x9 + 1)))) else (none)) else (none)) else (if x0 < 0 then (some 1) else (if x0 > 2 then (some 1) else (some 0)))
def page_asked.f (k : Nat) (a0 : Int) (l1 : List ByteArray) : Option (Int) := page_asked.l0 k a0 l1 (l1.length : Int) 0
theorem page_asked.mono_l : ∀ k, (∀ y0 y1 y2 y3, LeO (page_asked.l0 k y0 y1 y2 y3) (page_asked.l0 (k + 1) y0 y1 y2 y3))
 | 0 => fun _ _ _ _ r h => by simp [page_asked.l0] at h
 | k + 1 => by
  have ih0 := page_asked.mono_l k
  ·intro y0 y1 y2 y3
   unfold page_asked.l0
   repeat' first
   | (with_reducible exact ih0 _ _ _ _)
   | (with_reducible exact LeO.refl _)
   | (with_reducible exact LeO.none _)
   | (with_reducible refine LeO.ite ?_ ?_)
   | (with_reducible refine LeO.bind ?_ (fun _ => ?_))
   | exact ih0 _ _ _ _
   | exact LeO.none _
   | refine LeO.ite ?_ ?_
   | refine LeO.bind ?_ (fun _ => ?_)
theorem page_asked.mono : ∀ a0 a1 k, LeO (page_asked.f k a0 a1) (page_asked.f (k + 1) a0 a1) := by
 intro a0 a1 k
 have ih0 := page_asked.mono_l k
 unfold page_asked.f
 repeat' first
   | (with_reducible exact ih0 _ _ _ _)
   | (with_reducible exact LeO.refl _)
   | (with_reducible exact LeO.none _)
   | (with_reducible refine LeO.ite ?_ ?_)
   | (with_reducible refine LeO.bind ?_ (fun _ => ?_))
   | exact ih0 _ _ _ _
   | exact LeO.none _
   | refine LeO.ite ?_ ?_
   | refine LeO.bind ?_ (fun _ => ?_)
set_option maxHeartbeats 8000000 in
set_option maxRecDepth 100000 in
theorem page_asked.calls (k : Nat) (a0 : Int) (A1 : Option Addr) (c1 : Nat) (l1 : List ByteArray) (r : Int) (w : World) (hr1 : Kd.C Kd.string w A1 l1.length l1) (hc1 : l1.length ≤ c1) (h : page_asked.f k a0 l1 = some r) :
  Calls Tryd.prog 106 #[.int .i64 a0, .slice A1 l1.length c1] w fun e w' => e = .returned (.int .i64 r) ∧ Drawn0 w w' := by
 have HR1 := Aside0.mk hr1
 have HC1 := Aside0.mk hc1
 clear hr1 hc1
 have H : (page_asked.l0 k a0 l1 (l1.length : Int) 0) = some r := h
 clear h
 have H' := Aside0.mk H
 clear H
 go_enter Tryd.func106, Tryd.ntmps106
 go_wp2
 go_loopg [9] k (fun kq v9 w' => ∃ (x9_1 : Int), v9 = .int .i64 x9_1 ∧ Aside0 (page_asked.l0 kq a0 l1 (l1.length : Int) x9_1 = some r) ∧ Aside0 (kq ≤ k) ∧ Drawn0 w w')
 case atStart => exact ⟨(0), (by first | rfl | (simp; done) | (simp [*]; done)), H', ⟨Nat.le_refl _⟩, by repeat (first | exact Drawn0.refl _ | apply Drawn0.step)⟩
 case round =>
  clear H'
  try clear c1; try clear p2
  obtain ⟨x9_1, rfl, HA, HK1, ⟨m1, rfl⟩⟩ := hrel
  cases gk with
  | zero => exact absurd HA.out (by simp [page_asked.l0])
  | succ k1 =>
   have H := HA.out
   clear HA
   simp only [page_asked.l0] at H
   by_cases c3 : x9_1 < (l1.length : Int)
   ·rw [if_pos c3] at H
    have c3b0 : decide (x9_1 < (l1.length : Int)) = true := decide_eq_true c3
    clear c3
    by_cases c4 : 0 ≤ x9_1
    ·rw [if_pos c4] at H
     have c4b0 : decide (0 ≤ x9_1) = true := decide_eq_true c4
     clear c4
     by_cases c5 : x9_1 < (l1.length : Int)
     ·rw [if_pos c5] at H
      have c5b0 : decide (x9_1 < (l1.length : Int)) = true := decide_eq_true c5
      clear c5
      by_cases c6 : ((rdOf ByteArray.empty l1 x9_1).size : Int) > 2048
      ·rw [if_pos c6] at H
       have c6b0 : decide (2048 < ((rdOf ByteArray.empty l1 x9_1).size : Int)) = true := decide_eq_true c6
       have c6b1 : decide (2048 < (rdOf ByteArray.empty l1 x9_1).size) = true := decide_eq_true (by omega)
       clear c6
       obtain rfl := Option.some.inj H
       simp only [Option.some.injEq, Prod.mk.injEq] at H
       obtain ⟨rfl⟩ := H
       have p110 : 0 ≤ (x9_1 : Int) := of_decide_eq_true (by first | (with_reducible assumption) | assumption)
       have q110 : x9_1 < (l1.length : Int) := of_decide_eq_true (by first | (with_reducible assumption) | assumption)
       obtain ⟨ad110, e110, hx110_0⟩ := Kd.at_string HR1.out x9_1 p110 q110
       cases e110
       replace p110 := eq_true p110
       replace q110 := eq_true q110
       go_wp2
       go_ret
       exact ⟨by first | rfl | (simp; done) | (simp [*]; done), by repeat (first | exact Drawn0.refl _ | apply Drawn0.step)⟩
      ·rw [if_neg c6] at H
       have c6b0 : decide (2048 < ((rdOf ByteArray.empty l1 x9_1).size : Int)) = false := decide_eq_false c6
       have c6b1 : decide (2048 < (rdOf ByteArray.empty l1 x9_1).size) = false := decide_eq_false (by omega)
       clear c6
       have H' := Aside0.mk H
       clear H
       have p110 : 0 ≤ (x9_1 : Int) := of_decide_eq_true (by first | (with_reducible assumption) | assumption)
       have q110 : x9_1 < (l1.length : Int) := of_decide_eq_true (by first | (with_reducible assumption) | assumption)
       obtain ⟨ad110, e110, hx110_0⟩ := Kd.at_string HR1.out x9_1 p110 q110
       cases e110
       replace p110 := eq_true p110
       replace q110 := eq_true q110
       go_wp2
       go_roundg k1
       case measure => have := HK1.out; omega
       case rel => exact ⟨(wrap64 (x9_1 + 1)), (by first | rfl | (simp; done) | (simp [*]; done)), H', ⟨by have := HK1.out; omega⟩, by repeat (first | exact Drawn0.refl _ | apply Drawn0.step)⟩
     ·rw [if_neg c5] at H
      exact absurd H (by simp)
    ·rw [if_neg c4] at H
     exact absurd H (by simp)
   ·rw [if_neg c3] at H
    have c3b0 : decide (x9_1 < (l1.length : Int)) = false := decide_eq_false c3
    clear c3
    by_cases c7 : a0 < 0
    ·rw [if_pos c7] at H
     have c7b0 : decide (a0 < 0) = true := decide_eq_true c7
     clear c7
     obtain rfl := Option.some.inj H
     simp only [Option.some.injEq, Prod.mk.injEq] at H
     obtain ⟨rfl⟩ := H
     go_wp2
     go_ret
     exact ⟨by first | rfl | (simp; done) | (simp [*]; done), by repeat (first | exact Drawn0.refl _ | apply Drawn0.step)⟩
    ·rw [if_neg c7] at H
     have c7b0 : decide (a0 < 0) = false := decide_eq_false c7
     clear c7
     by_cases c8 : a0 > 2
     ·rw [if_pos c8] at H
      have c8b0 : decide (2 < a0) = true := decide_eq_true c8
      clear c8
      obtain rfl := Option.some.inj H
      simp only [Option.some.injEq, Prod.mk.injEq] at H
      obtain ⟨rfl⟩ := H
      go_wp2
      go_ret
      exact ⟨by first | rfl | (simp; done) | (simp [*]; done), by repeat (first | exact Drawn0.refl _ | apply Drawn0.step)⟩
     ·rw [if_neg c8] at H
      have c8b0 : decide (2 < a0) = false := decide_eq_false c8
      clear c8
      obtain rfl := Option.some.inj H
      simp only [Option.some.injEq, Prod.mk.injEq] at H
      obtain ⟨rfl⟩ := H
      go_wp2
      go_ret
      exact ⟨by first | rfl | (simp; done) | (simp [*]; done), by repeat (first | exact Drawn0.refl _ | apply Drawn0.step)⟩
end Go.Proofs.YtnkejhfbkgfedaaDoor.PA
namespace Go.Proofs.YtnkejhfbkgfedaaDoor.PA
open Go.RowKit Go.Proofs.YtnkejhfbkgfedaaDoorW.PrintWords Go.Proofs.YtnkejhfbkgfedaaDoorW.PrintLast Go.Proofs.YtnkejhfbkgfedaaDoorW.PrintMore
attribute [local go_sem] max2_int min2_int max_two min_two max_three min_three max_four min_four   -- for this text's walks alone
set_option linter.unusedVariables false
set_option linter.unusedSimpArgs false
def page_askedColl.f (k : Nat) (a0 : Int) (a1 : Int) (l2 : List ByteArray) : Option (Int) := (page_asked.f k a0 l2).bind fun t111 => (if t111 = 0 then (if a1 < 0 then (some 1) else (if a1 > 1 then (some 1) else (some 0))) else (some t111))
theorem page_askedColl.mono : ∀ a0 a1 a2 k, LeO (page_askedColl.f k a0 a1 a2) (page_askedColl.f (k + 1) a0 a1 a2) := by
 intro a0 a1 a2 k
 unfold page_askedColl.f
 repeat' first
   | (with_reducible exact page_asked.mono _ _ _)
   | (with_reducible exact LeO.refl _)
   | (with_reducible exact LeO.none _)
   | (with_reducible refine LeO.ite ?_ ?_)
   | (with_reducible refine LeO.bind ?_ (fun _ => ?_))
   | exact page_asked.mono _ _ _
   | exact LeO.none _
   | refine LeO.ite ?_ ?_
   | refine LeO.bind ?_ (fun _ => ?_)
set_option maxHeartbeats 8000000 in
set_option maxRecDepth 100000 in
theorem page_askedColl.calls (k : Nat) (a0 : Int) (a1 : Int) (A2 : Option Addr) (c2 : Nat) (l2 : List ByteArray) (r : Int) (w : World) (hr2 : Kd.C Kd.string w A2 l2.length l2) (hc2 : l2.length ≤ c2) (h : page_askedColl.f k a0 a1 l2 = some r) :
  Calls Tryd.prog 93 #[.int .i64 a0, .int .i64 a1, .slice A2 l2.length c2] w fun e w' => e = .returned (.int .i64 r) ∧ Drawn0 w w' := by
 have HR2 := Aside0.mk hr2
 have HC2 := Aside0.mk hc2
 clear hr2 hc2
 have H : ((page_asked.f k a0 l2).bind fun t111 => (if t111 = 0 then (if a1 < 0 then (some 1) else (if a1 > 1 then (some 1) else (some 0))) else (some t111))) = some r := h
 clear h
 replace H := Option.bind_eq_some_iff.mp H
 obtain ⟨t111, A40, H⟩ := H
 replace H : (if t111 = 0 then (if a1 < 0 then (some 1) else (if a1 > 1 then (some 1) else (some 0))) else (some t111)) = some r := H
 have A4 := Aside0.mk A40
 clear A40
 by_cases c5 : t111 = 0
 ·rw [if_pos c5] at H
  have c5b0 : (t111 == 0) = true := beq_iff_eq.mpr c5
  have c5b1 : (t111 != 0) = false := bne_eq_false_iff_eq.mpr c5
  clear c5
  by_cases c6 : a1 < 0
  ·rw [if_pos c6] at H
   have c6b0 : decide (a1 < 0) = true := decide_eq_true c6
   clear c6
   obtain rfl := Option.some.inj H
   simp only [Option.some.injEq, Prod.mk.injEq] at H
   obtain ⟨rfl⟩ := H
   go_enter Tryd.func93, Tryd.ntmps93
   go_wp2_with (first | ((with_reducible refine gate_callee (f := 106) rfl ?_); refine goesL_ (some 10) rfl rfl Tryd.func106 (by kernel_rfl) rfl #[.int .i64 a0, .slice A2 l2.length c2] rfl (by (try simp only [List.map_toArray, List.map_cons, List.map_nil]); first | done | rfl | (simp only [List.length_drop, List.length_take]; rfl)) ?_; (with_reducible refine (page_asked.calls k a0 _ _ l2 t111 _ ?side1 ?side2 A4.out).mono ?_); (case side1 => repeat (first | exact HR2.out | (with_reducible refine Kd.C_alloc ?_ _) | (with_reducible refine Kd.C_drewN ?_ _) | (with_reducible refine Kd.C_drew ?_))); (case side2 => exact HC2.out); rintro e w' ⟨rfl, ⟨nd, rfl⟩⟩; refine ⟨_, rfl, ?_⟩))
   go_ret
   exact ⟨by first | rfl | (simp; done) | (simp [*]; done), by repeat (first | exact Drawn0.refl _ | apply Drawn0.step)⟩
  ·rw [if_neg c6] at H
   have c6b0 : decide (a1 < 0) = false := decide_eq_false c6
   clear c6
   by_cases c7 : a1 > 1
   ·rw [if_pos c7] at H
    have c7b0 : decide (1 < a1) = true := decide_eq_true c7
    clear c7
    obtain rfl := Option.some.inj H
    simp only [Option.some.injEq, Prod.mk.injEq] at H
    obtain ⟨rfl⟩ := H
    go_enter Tryd.func93, Tryd.ntmps93
    go_wp2_with (first | ((with_reducible refine gate_callee (f := 106) rfl ?_); refine goesL_ (some 10) rfl rfl Tryd.func106 (by kernel_rfl) rfl #[.int .i64 a0, .slice A2 l2.length c2] rfl (by (try simp only [List.map_toArray, List.map_cons, List.map_nil]); first | done | rfl | (simp only [List.length_drop, List.length_take]; rfl)) ?_; (with_reducible refine (page_asked.calls k a0 _ _ l2 t111 _ ?side1 ?side2 A4.out).mono ?_); (case side1 => repeat (first | exact HR2.out | (with_reducible refine Kd.C_alloc ?_ _) | (with_reducible refine Kd.C_drewN ?_ _) | (with_reducible refine Kd.C_drew ?_))); (case side2 => exact HC2.out); rintro e w' ⟨rfl, ⟨nd, rfl⟩⟩; refine ⟨_, rfl, ?_⟩))
    go_ret
    exact ⟨by first | rfl | (simp; done) | (simp [*]; done), by repeat (first | exact Drawn0.refl _ | apply Drawn0.step)⟩
   ·rw [if_neg c7] at H
    have c7b0 : decide (1 < a1) = false := decide_eq_false c7
    clear c7
    obtain rfl := Option.some.inj H
    simp only [Option.some.injEq, Prod.mk.injEq] at H
    obtain ⟨rfl⟩ := H
    go_enter Tryd.func93, Tryd.ntmps93
    go_wp2_with (first | ((with_reducible refine gate_callee (f := 106) rfl ?_); refine goesL_ (some 10) rfl rfl Tryd.func106 (by kernel_rfl) rfl #[.int .i64 a0, .slice A2 l2.length c2] rfl (by (try simp only [List.map_toArray, List.map_cons, List.map_nil]); first | done | rfl | (simp only [List.length_drop, List.length_take]; rfl)) ?_; (with_reducible refine (page_asked.calls k a0 _ _ l2 t111 _ ?side1 ?side2 A4.out).mono ?_); (case side1 => repeat (first | exact HR2.out | (with_reducible refine Kd.C_alloc ?_ _) | (with_reducible refine Kd.C_drewN ?_ _) | (with_reducible refine Kd.C_drew ?_))); (case side2 => exact HC2.out); rintro e w' ⟨rfl, ⟨nd, rfl⟩⟩; refine ⟨_, rfl, ?_⟩))
    go_ret
    exact ⟨by first | rfl | (simp; done) | (simp [*]; done), by repeat (first | exact Drawn0.refl _ | apply Drawn0.step)⟩
 ·rw [if_neg c5] at H
  have c5b0 : (t111 == 0) = false := beq_eq_false_iff_ne.mpr c5
  have c5b1 : (t111 != 0) = true := bne_iff_ne.mpr c5
  obtain rfl := Option.some.inj H
  simp only [Option.some.injEq, Prod.mk.injEq] at H
  obtain ⟨rfl⟩ := H
  go_enter Tryd.func93, Tryd.ntmps93
  go_wp2_with (first | ((with_reducible refine gate_callee (f := 106) rfl ?_); refine goesL_ (some 10) rfl rfl Tryd.func106 (by kernel_rfl) rfl #[.int .i64 a0, .slice A2 l2.length c2] rfl (by (try simp only [List.map_toArray, List.map_cons, List.map_nil]); first | done | rfl | (simp only [List.length_drop, List.length_take]; rfl)) ?_; (with_reducible refine (page_asked.calls k a0 _ _ l2 t111 _ ?side1 ?side2 A4.out).mono ?_); (case side1 => repeat (first | exact HR2.out | (with_reducible refine Kd.C_alloc ?_ _) | (with_reducible refine Kd.C_drewN ?_ _) | (with_reducible refine Kd.C_drew ?_))); (case side2 => exact HC2.out); rintro e w' ⟨rfl, ⟨nd, rfl⟩⟩; refine ⟨_, rfl, ?_⟩))
  go_ret
  exact ⟨by first | rfl | (simp; done) | (simp [*]; done), by repeat (first | exact Drawn0.refl _ | apply Drawn0.step)⟩
def page_within.f (a0 : Int) (a1 : Int) (a2 : Int) : Option (Bool) := if a0 ≥ a1 then (some (decide (a0 ≤ a2))) else (some false)
set_option maxHeartbeats 8000000 in
set_option maxRecDepth 100000 in
theorem page_within.calls (a0 : Int) (a1 : Int) (a2 : Int) (r : Bool) (w : World) (h : page_within.f a0 a1 a2 = some r) :
  Calls Tryd.prog 130 #[.int .u8 a0, .int .u8 a1, .int .u8 a2] w fun e w' => e = .returned (.bool r) ∧ Drawn0 w w' := by
 have H : (if a0 ≥ a1 then (some (decide (a0 ≤ a2))) else (some false)) = some r := h
 clear h
 by_cases c4 : a0 ≥ a1
 ·rw [if_pos c4] at H
  have c4b0 : decide (a1 ≤ a0) = true := decide_eq_true c4
  clear c4
  obtain rfl := Option.some.inj H
  simp only [Option.some.injEq, Prod.mk.injEq] at H
  obtain ⟨rfl⟩ := H
  go_enter Tryd.func130, Tryd.ntmps130
  go_wp2
  go_ret
  exact ⟨by first | rfl | (simp; done) | (simp [*]; done), by repeat (first | exact Drawn0.refl _ | apply Drawn0.step)⟩
 ·rw [if_neg c4] at H
  have c4b0 : decide (a1 ≤ a0) = false := decide_eq_false c4
  clear c4
  obtain rfl := Option.some.inj H
  simp only [Option.some.injEq, Prod.mk.injEq] at H
  obtain ⟨rfl⟩ := H
  go_enter Tryd.func130, Tryd.ntmps130
  go_wp2
  go_ret
  exact ⟨by first | rfl | (simp; done) | (simp [*]; done), by repeat (first | exact Drawn0.refl _ | apply Drawn0.step)⟩
end Go.Proofs.YtnkejhfbkgfedaaDoor.PA
