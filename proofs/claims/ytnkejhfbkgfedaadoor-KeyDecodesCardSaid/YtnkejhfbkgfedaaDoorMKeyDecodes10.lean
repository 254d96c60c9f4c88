-- Written by a program of this session (wip/merge.py): the texts of this claim, joined.
import Derived.KernelRfl
import Derived.Test.YtnkejhfbkgfedaaDoorMKeyDecodes1
import Derived.Test.YtnkejhfbkgfedaaDoorMKeyDecodes2
import Derived.Test.YtnkejhfbkgfedaaDoorMKeyDecodes3
import Derived.Test.YtnkejhfbkgfedaaDoorMKeyDecodes4
import Derived.Test.YtnkejhfbkgfedaaDoorMKeyDecodes7
import Derived.Test.YtnkejhfbkgfedaaDoorMKeyDecodes8
import Derived.Test.YtnkejhfbkgfedaaDoorMKeyDecodes9
namespace Go.Proofs.YtnkejhfbkgfedaaDoor.PA
end Go.Proofs.YtnkejhfbkgfedaaDoor.PA
namespace Go.Proofs.YtnkejhfbkgfedaaDoor.PB
end Go.Proofs.YtnkejhfbkgfedaaDoor.PB
namespace Go.Proofs.YtnkejhfbkgfedaaDoor.PC
end Go.Proofs.YtnkejhfbkgfedaaDoor.PC
namespace Go.Proofs.YtnkejhfbkgfedaaDoor.H1
end Go.Proofs.YtnkejhfbkgfedaaDoor.H1
namespace Go.Proofs.YtnkejhfbkgfedaaDoor.L1
end Go.Proofs.YtnkejhfbkgfedaaDoor.L1
namespace Go.Proofs.YtnkejhfbkgfedaaDoor.PA
open Go.RowKit Go.Proofs.YtnkejhfbkgfedaaDoorW.PrintWords Go.Proofs.YtnkejhfbkgfedaaDoorW.PrintLast Go.Proofs.YtnkejhfbkgfedaaDoorW.PrintMore
attribute [local go_sem] max2_int min2_int max_two min_two max_three min_three max_four min_four   -- for this text's walks alone
set_option linter.unusedVariables false
set_option linter.unusedSimpArgs false
def cabinetryref09_turned.l0 : Nat → List Int → Int → Option (ByteArray)
 | 0, _, _ => none
 | k + 1, x5, x6 => if x6 < (x5.length : Int) then (if 0 ≤ x6 then (cabinetryref09_turned.l0 k (x5.set (x6 : Int).toNat ((255 - (rd x5 x6)) % 256)) (wrap64 (x6 + 1))) else (none)) else (some (strOfNums x5))
def cabinetryref09_turned.f (k : Nat) (a0 : ByteArray) (a1 : Bool) : Option (ByteArray) := if a1 = true then (if a0.size ≤ 140737488351232 then (cabinetryref09_turned.l0 k (bytesOf a0) 0) else (none)) else (some a0)
set_option maxHeartbeats 8000000 in
set_option maxRecDepth 100000 in
theorem cabinetryref09_turned.calls (k : Nat) (a0 : ByteArray) (a1 : Bool) (r : ByteArray) (w : World) (h : cabinetryref09_turned.f k a0 a1 = some r) :
  Calls Tryd.prog 64 #[.string a0, .bool a1] w fun e w' => e = .returned (.string r) ∧ Below w.heap.size w w' := by
 have HB := Aside0.mk (Below.refl w.heap.size w)
 have H : (if a1 = true then (if a0.size ≤ 140737488351232 then (cabinetryref09_turned.l0 k (bytesOf a0) 0) else (none)) else (some a0)) = some r := h
 clear h
 by_cases c3 : a1 = true
 ·subst c3
  have H1 : (if a0.size ≤ 140737488351232 then (cabinetryref09_turned.l0 k (bytesOf a0) 0) else (none)) = some r := by rw [if_pos rfl] at H; exact H
  clear H
  have H := H1
  clear H1
  by_cases c4 : a0.size ≤ 140737488351232
  ·rw [if_pos c4] at H
   have c4b0 := eq_true c4
   have c4b1 : decide (a0.size ≤ 140737488351232) = true := decide_eq_true c4
   clear c4
   obtain ⟨y215, hy215⟩ : ∃ y_ : List Int, y_ = (bytesOf a0) := ⟨_, rfl⟩
   replace H : (cabinetryref09_turned.l0 k y215 0) = some r := by first | (rw [hy215]; with_reducible exact H) | (have H2_ := (Option.bind_some _ _).symm.trans H; rw [hy215]; with_reducible exact H2_) | (have H2_ := (Option.bind_some _ _).symm.trans H; with_reducible exact H2_) | with_reducible exact H | (rw [hy215]; exact H) | exact H
   have Ny215 := Aside0.mk hy215
   clear hy215
   have H' := Aside0.mk H
   clear H
   go_enter Tryd.func64, Tryd.ntmps64
   go_wp2_with (first | ((with_reducible refine gate_dst (N := 11) rfl ?_); refine Kf.R_ofstr _ 5 rfl (N := 11) rfl 9 62 _ rfl a0 rfl Tryd.underlying9 Tryd.underlying62 Tryd.underlying5 (of_decide_eq_true (by first | (with_reducible assumption) | assumption)) (Below.refl _ _) (Nat.le_refl _) ?_; intro v216 w5 ho6 hb hg_ hnew_; clear hg_ hnew_; (first | rw [← Ny215.out] at ho6 | (simp only [Int.reduceToNat] at ho6; rw [← Ny215.out] at ho6)); have n0_ := Aside0.mk (Kf.R_lower ho6 (below_size (by repeat (first | (with_reducible first | exact HB.out | apply below_alloc | apply pw_below_drewN | apply below_drew1) | exact HB.out)))); have n1_ := Aside0.mk (below_step (by repeat (first | (with_reducible first | exact HB.out | apply below_alloc | apply pw_below_drewN | apply below_drew1) | exact HB.out)) hb); clear HB; have HO217 := n0_; have HB := n1_; clear n0_ n1_; clear hb ho6))
   go_loopg [6] k (fun kq v6 w' => ∃ (x5_1 : List Int) (x6_1 : Int), v6 = .int .i64 x6_1 ∧ Aside0 (cabinetryref09_turned.l0 kq x5_1 x6_1 = some r) ∧ Aside0 (kq ≤ k) ∧ Aside0 (Kf.R (Kd.int .u8) 5 w' w.heap.size (fun _ => True) v216 x5_1) ∧ Aside0 (Below w.heap.size w w'))
   case atStart => exact ⟨(y215), (0), (by first | rfl | (simp; done) | (simp [*]; done)), H', ⟨Nat.le_refl _⟩, ⟨by (with_reducible repeat (first | apply Kf.R_alloc | apply Kf.R_drewN | apply Kf.R_drew | apply Kd.R_alloc | apply Kd.R_drewN | apply Kd.R_drew)); exact HO217.out⟩, ⟨by repeat (first | (with_reducible first | exact HB.out | apply below_alloc | apply pw_below_drewN | apply below_drew1) | exact HB.out)⟩⟩
   case round =>
    clear H'
    try clear p2; try clear c3; try clear c4; try clear c4b0; try clear c4b1; try clear c6
    obtain ⟨x5_1, x6_1, rfl, HA, HK1, HO_5, HB⟩ := hrel
    cases gk with
    | zero => exact absurd HA.out (by simp [cabinetryref09_turned.l0])
    | succ k1 =>
     have H := HA.out
     clear HA
     simp only [cabinetryref09_turned.l0] at H
     by_cases c7 : x6_1 < (x5_1.length : Int)
     ·rw [if_pos c7] at H
      have c7b0 : decide (x6_1 < (x5_1.length : Int)) = true := decide_eq_true c7
      clear c7
      by_cases c8 : 0 ≤ x6_1
      ·rw [if_pos c8] at H
       have c8b0 : decide (0 ≤ x6_1) = true := decide_eq_true c8
       clear c8
       obtain ⟨y219, hy219⟩ : ∃ y_ : List Int, y_ = (x5_1.set (x6_1 : Int).toNat ((255 - (rd x5_1 x6_1)) % 256)) := ⟨_, rfl⟩
       replace H : (cabinetryref09_turned.l0 k1 y219 (wrap64 (x6_1 + 1))) = some r := by first | (rw [hy219]; with_reducible exact H) | (have H2_ := (Option.bind_some _ _).symm.trans H; rw [hy219]; with_reducible exact H2_) | (have H2_ := (Option.bind_some _ _).symm.trans H; with_reducible exact H2_) | with_reducible exact H | (rw [hy219]; exact H) | exact H
       have Ny219 := Aside0.mk hy219
       clear hy219
       have H' := Aside0.mk H
       clear H
       obtain ⟨Ao10, co10, eo10⟩ := Kf.R_slice HO_5.out
       subst eo10
       have p218 : 0 ≤ (x6_1 : Int) := of_decide_eq_true (by first | (with_reducible assumption) | assumption)
       have q218 : x6_1 < (x5_1.length : Int) := of_decide_eq_true (by first | (with_reducible assumption) | assumption)
       obtain ⟨ad218, e218, hx218_0⟩ := Kd.at_int (Kf.R_reads' HO_5.out).2.2 x6_1 p218 q218
       cases e218
       replace p218 := eq_true p218
       replace q218 := eq_true q218
       have p9 : 0 ≤ (x6_1 : Int) := of_decide_eq_true (by first | (with_reducible assumption) | assumption)
       have q9 : (x6_1 : Int) < ((x5_1.length : Int) : Int) := of_decide_eq_true (by first | (with_reducible assumption) | assumption)
       obtain ⟨go9, co9, eo9, gb9, gl9, cl9, HG9⟩ := Kf.R_form HO_5.out (by omega)
       (first | cases eo9 | (injection eo9 with ea_ en_ ec_; (first | subst ea_ | (injection ea_ with ea_; subst ea_)); subst ec_; clear en_))
       have GB9 := Aside0.mk gb9
       have GG9 := Aside0.mk HG9
       clear gb9 gl9 HG9
       (first | simp only [add_plain] at hx218_0 | skip)
       obtain ⟨hx9_0, hf9_0⟩ := Kf.R_celln 0 HO_5.out (x6_1 : Int) p9 q9
       replace p9 := eq_true p9
       replace q9 := eq_true q9
       have HP11 := Kf.R_putg HO_5.out (x6_1 : Int) ((255 - (rd x5_1 x6_1)) % 256)
       go_wp2_with (first | ((with_reducible refine gate_store (t := 5) (p := 25) rfl ?_); refine store_event (t := 5) (p := 25) (v := ?vo_w12) (w1 := (wr.setCell ⟨go9, (x6_1 : Int).toNat, none⟩ (.int .u8 ((255 - (rd x5_1 x6_1)) % 256)))) ?hg ?ho ?hn ?hr ?_; (case ho => rfl); (case hg => rfl); (case hn => rfl); (case hr => first | (go_simp; done) | (go_simp; rfl)); intro w12 hw; have hg : wr.grownBy w12 (some go9) := (by rw [hw]; exact HP11.2); have hp_ : Kf.R (Kd.int .u8) 5 w12 w.heap.size (fun _ => True) (.slice (some ⟨go9, 0, none⟩) x5_1.length co10) y219 := (by rw [hw, Ny219.out]; exact HP11.1); clear HP11; have n0_ := Aside0.mk (hp_); have n1_ := Aside0.mk ((by rw [hw]; exact below_set (HB.out) GB9.out : Below w.heap.size w w12)); clear HO_5; clear HB; have HO_5 := n0_; have HB := n1_; clear n0_ n1_; clear hg hw hp_))
       go_roundg k1
       case measure => have := HK1.out; omega
       case rel => exact ⟨(y219), (wrap64 (x6_1 + 1)), (by first | rfl | (simp; done) | (simp [*]; done)), H', ⟨by have := HK1.out; omega⟩, ⟨by (with_reducible repeat (first | apply Kf.R_alloc | apply Kf.R_drewN | apply Kf.R_drew | apply Kd.R_alloc | apply Kd.R_drewN | apply Kd.R_drew)); exact HO_5.out⟩, ⟨by repeat (first | (with_reducible first | exact HB.out | apply below_alloc | apply pw_below_drewN | apply below_drew1) | exact HB.out)⟩⟩
      ·rw [if_neg c8] at H
       exact absurd H (by simp)
     ·rw [if_neg c7] at H
      have c7b0 : decide (x6_1 < (x5_1.length : Int)) = false := decide_eq_false c7
      clear c7
      obtain rfl := Option.some.inj H
      simp only [Option.some.injEq, Prod.mk.injEq] at H
      obtain ⟨rfl⟩ := H
      obtain ⟨Ao13, co13, eo13⟩ := Kf.R_slice HO_5.out
      subst eo13
      have hcv14 := Kf.own_string (P := Tryd.prog) Tryd.underlying62 Tryd.underlying5 Tryd.underlying9 (Kf.own_of_R HO_5.out)
      go_wp2
      go_ret
      exact ⟨by first | rfl | (simp [errW_none, errW_some] <;> rfl) | (simp [*, errW_none, errW_some] <;> rfl), by repeat (first | (with_reducible first | exact HB.out | apply below_alloc | apply pw_below_drewN | apply below_drew1) | exact HB.out)⟩
  ·rw [if_neg c4] at H
   exact absurd H (by simp)
 ·replace c3 := Bool.eq_false_iff.mpr c3
  subst c3
  have H1 : (some a0) = some r := by rw [if_neg (show ¬ (false = true) by decide)] at H; exact H
  clear H
  have H := H1
  clear H1
  obtain rfl := Option.some.inj H
  simp only [Option.some.injEq, Prod.mk.injEq] at H
  obtain ⟨rfl⟩ := H
  go_enter Tryd.func64, Tryd.ntmps64
  go_wp2
  go_ret
  exact ⟨by first | rfl | (simp [errW_none, errW_some] <;> rfl) | (simp [*, errW_none, errW_some] <;> rfl), by repeat (first | (with_reducible first | exact HB.out | apply below_alloc | apply pw_below_drewN | apply below_drew1) | exact HB.out)⟩
end Go.Proofs.YtnkejhfbkgfedaaDoor.PA
namespace Go.Proofs.YtnkejhfbkgfedaaDoor.L1
open Go.RowKit Go.Proofs.YtnkejhfbkgfedaaDoorW.PrintWords Go.Proofs.YtnkejhfbkgfedaaDoor.PA Go.Proofs.YtnkejhfbkgfedaaDoor.H1 Go.Proofs.YtnkejhfbkgfedaaDoor.PB
set_option linter.unusedVariables false
set_option linter.unusedSimpArgs false
def toI (b : UInt8) : Int := (b.toNat : Int)
theorem toI_range (b : UInt8) : 0 ≤ toI b ∧ toI b < 256 := by have := b.toNat_lt; unfold toI; omega
theorem toI_inj {a b : UInt8} (h : toI a = toI b) : a = b := UInt8.toNat_inj.1 (by unfold toI at h; omega)
theorem bytesOf_map (s : ByteArray) : bytesOf s = s.data.toList.map toI := rfl
theorem strOf_map (l : List UInt8) : strOfNums (l.map toI) = ⟨l.toArray⟩ := by
  unfold strOfNums
  rw [List.map_map]
  congr 2
  conv => rhs; rw [← List.map_id l]
  apply List.map_congr_left
  intro b _
  simp [toI]
theorem rd_map (l : List UInt8) (i : Nat) (h : i < l.length) : rd (l.map toI) (i : Int) = toI l[i] := by
  unfold rd
  rw [Int.toNat_natCast, List.getD_eq_getElem?_getD, List.getElem?_map, List.getElem?_eq_getElem h]
  rfl
theorem set_map (l : List UInt8) (i : Nat) (b : UInt8) : (l.map toI).set i (toI b) = (l.set i b).map toI := by rw [List.map_set]
theorem bt_toI (s : ByteArray) (i : Nat) (h : i < s.size) : bt s (i : Int) = toI (s.data.toList[i]'(by rw [ba_len]; exact h)) := bt_get s i h
def upto_ (f : UInt8 → UInt8) (l : List UInt8) (i : Nat) : List UInt8 := (l.take i).map f ++ l.drop i
theorem upto_len (f : UInt8 → UInt8) (l : List UInt8) (i : Nat) (h : i ≤ l.length) : (upto_ f l i).length = l.length := by
  unfold upto_; rw [List.length_append, List.length_map, List.length_take, List.length_drop]; omega
theorem upto_get (f : UInt8 → UInt8) (l : List UInt8) (i : Nat) (h : i < l.length) : (upto_ f l i)[i]'(by rw [upto_len f l i (by omega)]; exact h) = l[i] := by
  unfold upto_
  rw [List.getElem_append_right (by simp; omega)]
  simp [List.length_take, Nat.min_eq_left (Nat.le_of_lt h)]
theorem upto_set (f : UInt8 → UInt8) (l : List UInt8) (i : Nat) (h : i < l.length) : (upto_ f l i).set i (f l[i]) = upto_ f l (i + 1) := by
  unfold upto_
  rw [List.set_append_right _ _ (by simp; omega)]
  have e : i - (List.map f (l.take i)).length = 0 := by simp [List.length_take, Nat.min_eq_left (Nat.le_of_lt h)]
  rw [e, List.drop_eq_getElem_cons h, List.set_cons_zero, List.take_succ_eq_append_getElem h, List.map_append]
  simp
theorem upto_zero (f : UInt8 → UInt8) (l : List UInt8) : upto_ f l 0 = l := by simp [upto_]
theorem upto_all (f : UInt8 → UInt8) (l : List UInt8) : upto_ f l l.length = l.map f := by simp [upto_]
def neg (b : UInt8) : UInt8 := 255 - b
theorem toI_neg (b : UInt8) : (255 - toI b) % 256 = toI (neg b) := by
  have h := b.toNat_lt
  have e : (neg b).toNat = 255 - b.toNat := by
    unfold neg
    rw [UInt8.toNat_sub_of_le _ _ (UInt8.le_iff_toNat_le.2 (show b.toNat ≤ 255 by omega))]
    rfl
  unfold toI
  rw [e]
  omega
theorem refTurned_l (l : List UInt8) (hl : l.length ≤ 140737488351232) : ∀ (n i k : Nat), l.length - i = n → i ≤ l.length → n < k →
    cabinetryref09_turned.l0 k ((upto_ neg l i).map toI) (i : Int) = some ⟨(l.map neg).toArray⟩ := by
  intro n
  induction n with
  | zero =>
    intro i k hn hi hk
    obtain ⟨k, rfl⟩ : ∃ m, k = m + 1 := ⟨k - 1, by omega⟩
    simp only [cabinetryref09_turned.l0]
    rw [if_neg (by rw [List.length_map, upto_len neg l i hi]; omega), show i = l.length by omega, upto_all, strOf_map]
  | succ n ih =>
    intro i k hn hi hk
    obtain ⟨k, rfl⟩ : ∃ m, k = m + 1 := ⟨k - 1, by omega⟩
    have hlt : i < l.length := by omega
    have hlu : i < (upto_ neg l i).length := by rw [upto_len neg l i hi]; exact hlt
    simp only [cabinetryref09_turned.l0]
    rw [if_pos (by rw [List.length_map]; omega), if_pos (by omega), Int.toNat_natCast, rd_map _ _ hlu, upto_get neg l i hlt, toI_neg, set_map, upto_set neg l i hlt, w64 (by omega) (by omega)]
    have := ih (i + 1) k (by omega) (by omega) (by omega)
    rwa [show ((i : Int) + 1) = ((i + 1 : Nat) : Int) by omega]
theorem keyTurned_l (l : List UInt8) (hl : l.length ≤ 140737488351232) : ∀ (n i k : Nat), l.length - i = n → i ≤ l.length → n < k →
    key_turner_2.l0 k ((upto_ neg l i).map toI) (l.length : Int) (i : Int) = some ⟨(l.map neg).toArray⟩ := by
  intro n
  induction n with
  | zero =>
    intro i k hn hi hk
    obtain ⟨k, rfl⟩ : ∃ m, k = m + 1 := ⟨k - 1, by omega⟩
    simp only [key_turner_2.l0]
    rw [if_neg (by omega), show i = l.length by omega, upto_all, strOf_map]
  | succ n ih =>
    intro i k hn hi hk
    obtain ⟨k, rfl⟩ : ∃ m, k = m + 1 := ⟨k - 1, by omega⟩
    have hlt : i < l.length := by omega
    have hlu : i < (upto_ neg l i).length := by rw [upto_len neg l i hi]; exact hlt
    simp only [key_turner_2.l0]
    rw [if_pos (by omega), if_pos (by omega), if_pos (by rw [List.length_map]; omega), Int.toNat_natCast, rd_map _ _ hlu, upto_get neg l i hlt, toI_neg, set_map, upto_set neg l i hlt, w64 (by omega) (by omega)]
    have := ih (i + 1) k (by omega) (by omega) (by omega)
    rwa [show ((i : Int) + 1) = ((i + 1 : Nat) : Int) by omega]
def negL (d : Bool) (l : List UInt8) : List UInt8 := if d = true then l.map neg else l
theorem negL_len (d : Bool) (l : List UInt8) : (negL d l).length = l.length := by unfold negL; split <;> simp
theorem turn_f (k : Nat) (d : Bool) (s : ByteArray) (hs : s.size ≤ 140737488351232) (hk : s.size < k) : key_turn.f k d s = some ⟨(negL d s.data.toList).toArray⟩ := by
  cases d
  · show some s = _
    rw [negL, if_neg (by decide), ba_self]
  · show key_turner_2.f k s = _
    unfold key_turner_2.f
    rw [if_pos hs]
    simp only [Option.bind_some]
    have := keyTurned_l s.data.toList (by rw [ba_len]; exact hs) s.size 0 k (by rw [ba_len]; omega) (by omega) hk
    rw [upto_zero] at this
    rw [bytesOf_map, List.length_map]
    exact this
theorem refTurned_f (k : Nat) (d : Bool) (s : ByteArray) (hs : s.size ≤ 140737488351232) (hk : s.size < k) : cabinetryref09_turned.f k s d = some ⟨(negL d s.data.toList).toArray⟩ := by
  unfold cabinetryref09_turned.f negL
  cases d
  · rw [if_neg (by decide), if_neg (by decide), ba_self]
  · rw [if_pos rfl, if_pos rfl, if_pos hs, bytesOf_map]
    have := refTurned_l s.data.toList (by rw [ba_len]; exact hs) s.size 0 k (by rw [ba_len]; omega) (by omega) hk
    rw [upto_zero] at this
    exact this
end Go.Proofs.YtnkejhfbkgfedaaDoor.L1
