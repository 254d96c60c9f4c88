/-
  ValSwaps of package cabinetry/cabinetrylaw01: for every input the call returns true, and each argument reads afterwards as it read before. Conditions: the package-level variables that the row lists (of unicode/utf8) hold what the program's text lays, which the card ties; nothing else.
-/
-- Written by a program of this session (wip/merge.py): the texts of this claim, joined.
import Derived.Lib.ReplaceLaws
import Derived.Lib.CountLaws
import Derived.Test.YtplbjaandkdhjaaDoorRows
import Derived.Test.YtplbjaandkdhjaaDoorCards
import Derived.Test.YtplbjaandkdhjaaDoorTie
import Derived.WalkKit
import Derived.ProofKit
import Derived.OpenShut
import Derived.ShutString
import Derived.ChangeOld
import Derived.Below
import Derived.SizedLaws
import Derived.LaidMore
import Derived.Lay
import Derived.SevenTiedAt
import Derived.Stop.Joined
import Derived.Test.YtplbjaandkdhjaaDoorMValSwaps0
import Derived.Test.YtplbjaandkdhjaaDoorMValSwaps1
import Derived.Test.YtplbjaandkdhjaaDoorMValSwaps2
import Derived.Test.YtplbjaandkdhjaaDoorMValSwaps3
import Derived.Test.YtplbjaandkdhjaaDoorMValSwaps4
import Derived.Test.YtplbjaandkdhjaaDoorMValSwaps5
import Derived.Test.YtplbjaandkdhjaaDoorMValSwaps6
import Derived.Test.YtplbjaandkdhjaaDoorMValSwaps7
import Derived.Test.YtplbjaandkdhjaaDoorMValSwaps8
import Derived.Test.YtplbjaandkdhjaaDoorMValSwaps9
import Derived.Test.YtplbjaandkdhjaaDoorMValSwaps10
import Derived.Test.YtplbjaandkdhjaaDoorMValSwaps11
import Derived.Test.YtplbjaandkdhjaaDoorMValSwaps12
import Derived.Test.YtplbjaandkdhjaaDoorMValSwaps13
namespace Go.Proofs.YtplbjaandkdhjaaDoor.PA
end Go.Proofs.YtplbjaandkdhjaaDoor.PA
namespace Go.Proofs.YtplbjaandkdhjaaDoor.PB
end Go.Proofs.YtplbjaandkdhjaaDoor.PB
namespace Go.Proofs.YtplbjaandkdhjaaDoor.PC
end Go.Proofs.YtplbjaandkdhjaaDoor.PC
namespace Go.Proofs.YtplbjaandkdhjaaDoor.H1
end Go.Proofs.YtplbjaandkdhjaaDoor.H1
namespace Go.Proofs.YtplbjaandkdhjaaDoor.L1
end Go.Proofs.YtplbjaandkdhjaaDoor.L1
namespace Go.Proofs.YtplbjaandkdhjaaDoor.L1
open Go.RowKit Go.Proofs.YtplbjaandkdhjaaDoorW.PrintWords Go.Proofs.YtplbjaandkdhjaaDoor.PA Go.Proofs.YtplbjaandkdhjaaDoor.PB Go.Proofs.YtplbjaandkdhjaaDoor.H1
set_option linter.unusedVariables false
set_option linter.unusedSimpArgs false
def swapR (a b : List UInt8) : Nat → List UInt8 → List UInt8
  | 0, _ => []
  | _ + 1, [] => []
  | n + 1, x :: l => if a.isPrefixOf (x :: l) = true then b ++ swapR a b n ((x :: l).drop a.length) else x :: swapR a b n l
theorem swapR_self (a : List UInt8) (ha : a ≠ []) : ∀ (n : Nat) (l : List UInt8), l.length ≤ n → swapR a a n l = l
  | 0, l, h => by
    have : l = [] := List.length_eq_zero_iff.1 (by omega)
    rw [this]; rfl
  | n + 1, [], _ => rfl
  | n + 1, x :: l, h => by
    have hl : 0 < a.length := List.length_pos_iff.2 ha
    simp only [swapR]
    by_cases hp : a.isPrefixOf (x :: l) = true
    · rw [if_pos hp, swapR_self a ha n _ (by rw [List.length_drop]; simp only [List.length_cons] at h ⊢; omega)]
      have e := List.prefix_iff_eq_take.1 (List.isPrefixOf_iff_prefix.1 hp)
      conv => lhs; lhs; rw [e]
      exact List.take_append_drop _ _
    · rw [if_neg hp, swapR_self a ha n l (by simp only [List.length_cons] at h; omega)]
theorem swapR_count (a b : List UInt8) (ha : a ≠ []) : ∀ (n : Nat) (l : List UInt8), l.length ≤ n → swapR a b n l = Lib.replaceK a b (Lib.count l a) l
  | 0, l, h => by
    have : l = [] := List.length_eq_zero_iff.1 (by omega)
    rw [this, Lib.count_miss (by unfold Lib.index; cases a <;> simp at ha ⊢)]
    rfl
  | n + 1, [], _ => by
    rw [Lib.count_miss (by unfold Lib.index; cases a <;> simp at ha ⊢)]
    rfl
  | n + 1, x :: l, h => by
    have hl : 0 < a.length := List.length_pos_iff.2 ha
    have hn : l.length ≤ n := by simp only [List.length_cons] at h; omega
    simp only [swapR]
    by_cases hp : a.isPrefixOf (x :: l) = true
    · have hi : Lib.index (x :: l) a = ((0 : Nat) : Int) := by unfold Lib.index; rw [if_pos hp]; rfl
      rw [if_pos hp, Lib.count_hit ha hi, Nat.add_comm, Lib.replaceK_hit _ _ _ _ 0 hi]
      rw [swapR_count a b ha n _ (by rw [List.length_drop]; simp only [List.length_cons]; omega)]
      simp
    · rw [if_neg hp, swapR_count a b ha n l hn]
      have hx : Lib.index (x :: l) a = if Lib.index l a == -1 then -1 else Lib.index l a + 1 := by
        conv => lhs; unfold Lib.index
        rw [if_neg hp]
      by_cases hm : Lib.index l a = -1
      · have hm' : Lib.index (x :: l) a = -1 := by rw [hx, hm]; rfl
        rw [Lib.count_miss hm, Lib.count_miss hm']
        rfl
      · have hg := Lib.index_ge l a
        obtain ⟨i, hi⟩ : ∃ i : Nat, Lib.index l a = i := ⟨(Lib.index l a).toNat, by omega⟩
        have hi' : Lib.index (x :: l) a = ((i + 1 : Nat) : Int) := by
          rw [hx, if_neg (by simpa using hm), hi]; rfl
        rw [Lib.count_hit ha hi, Lib.count_hit ha hi', show i + 1 + a.length = (i + a.length) + 1 by omega, List.drop_succ_cons]
        rw [Nat.add_comm 1, Lib.replaceK_hit _ _ _ _ i hi, Lib.replaceK_hit _ _ _ _ (i + 1) hi', show i + 1 + a.length = (i + a.length) + 1 by omega, List.drop_succ_cons]
        simp
theorem replaceAll_eq (a b : List UInt8) (ha : a ≠ []) (n : Nat) (l : List UInt8) (h : l.length ≤ n) : Lib.replaceAll l a b = swapR a b n l := by
  unfold Lib.replaceAll Lib.replace
  by_cases e : a = b
  · rw [if_pos (by simpa using e), ← e, swapR_self a ha n l h]
  · rw [if_neg (by simpa using e), swapR_count a b ha n l h]
    unfold Lib.replaceNum
    rw [if_pos (Or.inl (by decide))]
def fitV (l : List UInt8) : ByteArray × Int := if 2048 < l.length then ((⟨#[]⟩ : ByteArray), 3) else (⟨l.toArray⟩, 0)
theorem begins_f (s t : ByteArray) : cabinetryref01_Begins.f s t = some (t.data.toList.isPrefixOf s.data.toList) := by
  unfold cabinetryref01_Begins.f
  by_cases h : t.size ≤ s.size
  · rw [if_pos (by omega), if_pos (by omega), if_pos (by omega)]
    congr 1
    rw [ba_toList, ba_toList, Int.toNat_natCast, ba_extract s 0 _ h, List.drop_zero]
    rw [Bool.eq_iff_iff, beq_iff_eq, List.isPrefixOf_iff_prefix, List.prefix_iff_eq_take, ba_len]
    exact ⟨fun e => e.symm, fun e => e.symm⟩
  · rw [if_neg (by omega)]
    congr 1
    symm
    apply Bool.eq_false_iff.2
    intro hp
    have := (List.isPrefixOf_iff_prefix.1 hp).length_le
    rw [ba_len, ba_len] at this
    omega
theorem begins_drop (s t : ByteArray) (i : Nat) : cabinetryref01_Begins.f (s.extract i s.size) t = some (t.data.toList.isPrefixOf (s.data.toList.drop i)) := by
  rw [begins_f, ba_drop, ba_mk]
theorem ba_app (a b : ByteArray) : (a ++ b).data.toList = a.data.toList ++ b.data.toList := by rw [ByteArray.data_append]; simp
theorem swap_l (s a b : ByteArray) (hs : s.size ≤ 20000) (ha : 1 ≤ a.size) (ha2 : a.size ≤ 20000) (hb : b.size ≤ 20000) : ∀ (n i k : Nat) (out : ByteArray), s.size - i = n → i ≤ s.size → n < k → out.size ≤ 8192 →
    cabinetryref01_Swap.l0 k s a b out (i : Int) = some (fitV (out.data.toList ++ swapR a.data.toList b.data.toList n (s.data.toList.drop i))) := by
  intro n
  induction n using Nat.strongRecOn with
  | _ n ih =>
    intro i k out hn hi hk ho
    obtain ⟨k, rfl⟩ : ∃ m, k = m + 1 := ⟨k - 1, by omega⟩
    simp only [cabinetryref01_Swap.l0]
    by_cases hlt : i < s.size
    · have hl : i < s.data.toList.length := by rw [ba_len]; exact hlt
      rw [if_pos (by omega), if_pos (by omega), if_pos (by omega), Int.toNat_natCast, begins_drop]
      simp only [Option.bind_some]
      obtain ⟨n, rfl⟩ : ∃ m, n = m + 1 := ⟨n - 1, by omega⟩
      by_cases hp : a.data.toList.isPrefixOf (s.data.toList.drop i) = true
      · have hr := (List.isPrefixOf_iff_prefix.1 hp).length_le
        rw [List.length_drop, ba_len, ba_len] at hr
        rw [if_pos hp, if_pos (by omega)]
        have hsw : swapR a.data.toList b.data.toList (n + 1) (s.data.toList.drop i) = b.data.toList ++ swapR a.data.toList b.data.toList n (s.data.toList.drop (i + a.size)) := by
          rw [List.drop_eq_getElem_cons hl] at hp ⊢
          simp only [swapR]
          rw [if_pos hp, ← List.drop_eq_getElem_cons hl, List.drop_drop, ba_len]
        have hz : ∀ m, m ≤ n → swapR a.data.toList b.data.toList n (s.data.toList.drop (i + a.size)) = swapR a.data.toList b.data.toList n (s.data.toList.drop (i + a.size)) := fun _ _ => rfl
        rw [hsw]
        by_cases hbig : 8192 < (out ++ b).size
        · rw [if_pos (by omega)]
          unfold fitV
          rw [if_pos]
          rw [ByteArray.size_append] at hbig
          simp only [List.length_append, ba_len]
          omega
        · rw [if_neg (by omega), w64 (by omega) (by omega)]
          have := ih (s.size - (i + a.size)) (by omega) (i + a.size) k (out ++ b) rfl (by omega) (by omega) (by omega)
          rw [show ((i : Int) + (a.size : Int)) = ((i + a.size : Nat) : Int) by omega, this, ba_app, List.append_assoc]
          have hfuel : ∀ l : List UInt8, l.length ≤ s.size - (i + a.size) → s.size - (i + a.size) ≤ n → swapR a.data.toList b.data.toList (s.size - (i + a.size)) l = swapR a.data.toList b.data.toList n l := by
            intro l h1 h2
            have hne : a.data.toList ≠ [] := fun e => by have := ba_len a; rw [e] at this; simp at this; omega
            rw [← replaceAll_eq _ _ hne _ l h1, ← replaceAll_eq _ _ hne n l (by omega)]
          rw [hfuel _ (by rw [List.length_drop, ba_len]; omega) (by omega)]
      · have hsw : swapR a.data.toList b.data.toList (n + 1) (s.data.toList.drop i) = s.data.toList[i] :: swapR a.data.toList b.data.toList n (s.data.toList.drop (i + 1)) := by
          rw [List.drop_eq_getElem_cons hl] at hp ⊢
          simp only [swapR]
          rw [if_neg hp]
        rw [if_neg hp, w64 (by omega) (by omega), if_pos (by omega), if_pos (by omega)]
        have hx : (s.extract i ((i : Int) + 1).toNat).data.toList = [s.data.toList[i]] := by
          rw [show ((i : Int) + 1).toNat = i + 1 by omega, ba_extract s i (i + 1) (by omega), List.take_succ_eq_append_getElem hl, List.drop_append_of_le_length (by rw [List.length_take, ba_len]; omega), List.drop_eq_nil_of_le (by rw [List.length_take, ba_len]; omega)]
          rfl
        have hx1 : (s.extract i ((i : Int) + 1).toNat).size = 1 := by rw [← ba_len, hx]; rfl
        rw [if_pos (by omega), hsw]
        by_cases hbig : 8192 < (out ++ s.extract i ((i : Int) + 1).toNat).size
        · rw [if_pos (by omega)]
          unfold fitV
          rw [if_pos]
          rw [ByteArray.size_append, hx1] at hbig
          simp only [List.length_append, ba_len]
          omega
        · rw [if_neg (by omega)]
          have := ih n (by omega) (i + 1) k (out ++ s.extract i ((i : Int) + 1).toNat) (by omega) (by omega) (by omega) (by omega)
          rw [show ((i : Int) + 1) = ((i + 1 : Nat) : Int) by omega] at this hx ⊢
          rw [this, ba_app, hx]
          simp
    · have e : s.data.toList.drop i = [] := List.drop_eq_nil_of_le (by rw [ba_len]; omega)
      rw [if_neg (by omega), e]
      have e2 : swapR a.data.toList b.data.toList n [] = [] := by cases n <;> rfl
      rw [e2, List.append_nil]
      unfold cabinetryref01_fit.f fitV
      rw [refLong_f]
      simp only [Option.bind_some]
      by_cases hz : 2048 < out.size
      · rw [if_pos (decide_eq_true hz), if_pos (by rw [ba_len]; exact hz)]
        rfl
      · rw [if_neg (by rw [decide_eq_false hz]; decide), if_neg (by rw [ba_len]; exact hz), ba_self]
        rfl
theorem swap_same (s a b : ByteArray) (hs : s.size ≤ 20000) (ha : a.size ≤ 20000) (hb : b.size ≤ 20000) (k : Nat) (hk : 20003 ≤ k) : ∃ v, val_Swap.f k s a b = some v ∧ cabinetryref01_Swap.f k s a b = some v := by
  obtain ⟨k, rfl⟩ : ∃ m, k = m + 1 := ⟨k - 1, by omega⟩
  unfold val_Swap.f cabinetryref01_Swap.f
  rw [long_f [s, a, b] (by simp) (k + 1) (by omega), refLong_f, refLong_f, refLong_f]
  simp only [Option.bind_some, List.any_cons, List.any_nil, Bool.or_false, cabinetryref01_Swap.j0]
  by_cases h1 : 2048 < s.size
  · simp [h1]
  · by_cases h2 : 2048 < a.size
    · simp [h1, h2]
    · by_cases h3 : 2048 < b.size
      · simp [h1, h2, h3]
      · simp only [h1, h2, h3, decide_false, Bool.false_eq_true, if_false, if_true, Bool.or_self]
        by_cases he : a.toList = []
        · rw [if_pos he, if_pos he]
          exact ⟨_, rfl, rfl⟩
        · have h4 : 1 ≤ a.size := by
            have := mt (nil_iff a).2 he
            omega
          have hne : a.data.toList ≠ [] := fun e => he (by rw [ba_toList]; exact e)
          rw [if_neg he, if_neg he]
          have hm := Lib.countB_mul_le a h4 s.size s (Nat.le_refl _)
          have hc : Lib.countB s a ≤ 2048 := by
            have := Nat.le_mul_of_pos_right (Lib.countB s a) (show 0 < a.size by omega)
            omega
          have hz : Lib.countB s a * b.size ≤ 2048 * 2048 := Nat.mul_le_mul hc (by omega)
          have hr := swap_l s a b hs h4 (by omega) hb s.size 0 k ByteArray.empty (by omega) (by omega) (by omega) (by decide)
          refine ⟨_, ?_, hr⟩
          unfold strings_ReplaceAll.f
          rw [if_pos ⟨by omega, h4, by omega⟩]
          simp only [Option.bind_some, List.drop_zero]
          rw [replaceAll_eq _ _ hne s.size s.data.toList (by rw [ba_len]; exact Nat.le_refl _)]
          unfold val_kept.f fitV
          rw [ba_size]
          have e0 : (ByteArray.empty).data.toList = [] := rfl
          rw [e0, List.nil_append]
          by_cases hq : 2048 < (swapR a.data.toList b.data.toList s.size s.data.toList).length
          · rw [if_pos (by omega), if_pos hq]
            rfl
          · rw [if_neg (by omega), if_neg hq]
            rfl
end Go.Proofs.YtplbjaandkdhjaaDoor.L1
namespace Go.Proofs.YtplbjaandkdhjaaDoor.PC
open Go.RowKit Go.Proofs.YtplbjaandkdhjaaDoorW.PrintWords Go.Proofs.YtplbjaandkdhjaaDoorW.PrintLast Go.Proofs.YtplbjaandkdhjaaDoorW.PrintMore Go.Proofs.YtplbjaandkdhjaaDoor.PA Go.Proofs.YtplbjaandkdhjaaDoor.H1 Go.Proofs.YtplbjaandkdhjaaDoor.PB
attribute [local go_sem] max2_int min2_int max_two min_two max_three min_three max_four min_four   -- for this text's walks alone
set_option linter.unusedVariables false
set_option linter.unusedSimpArgs false
def cabinetrylaw01_ValSwaps.f (k : Nat) (a0 : ByteArray) (a1 : ByteArray) (a2 : ByteArray) : Option (Bool) := if (wrap64 ((wrap64 ((a0.size : Int) + (a1.size : Int))) + (a2.size : Int))) > 20000 then ((cabinetrylaw01_known.f k).bind fun t245 => (some t245)) else ((val_Swap.f k a0 a1 a2).bind fun bt246 => ((cabinetryref01_Swap.f k a0 a1 a2).bind fun bt248 => (if bt246.1.toList = bt248.1.toList then (if bt246.2 = bt248.2 then ((cabinetrylaw01_known.f k).bind fun t250 => (some t250)) else (some false)) else (some false))))
set_option maxHeartbeats 8000000 in
set_option maxRecDepth 100000 in
theorem cabinetrylaw01_ValSwaps.calls (k : Nat) (a0 : ByteArray) (a1 : ByteArray) (a2 : ByteArray) (r : Bool) (w : World) (h : cabinetrylaw01_ValSwaps.f k a0 a1 a2 = some r) (hr_ : Aside0 (r = true)) (hm_ : Aside0 (Hm.HM w)) :
  Calls Tryd.prog 12 #[.string a0, .string a1, .string a2] w fun e w' => e = .returned (.bool r) ∧ Below w.heap.size w w' := by
 have HB := Aside0.mk (Below.refl w.heap.size w)
 have H : (if (wrap64 ((wrap64 ((a0.size : Int) + (a1.size : Int))) + (a2.size : Int))) > 20000 then ((cabinetrylaw01_known.f k).bind fun t245 => (some t245)) else ((val_Swap.f k a0 a1 a2).bind fun bt246 => ((cabinetryref01_Swap.f k a0 a1 a2).bind fun bt248 => (if bt246.1.toList = bt248.1.toList then (if bt246.2 = bt248.2 then ((cabinetrylaw01_known.f k).bind fun t250 => (some t250)) else (some false)) else (some false))))) = some r := h
 clear h
 by_cases c4 : (wrap64 ((wrap64 ((a0.size : Int) + (a1.size : Int))) + (a2.size : Int))) > 20000
 ·rw [if_pos c4] at H
  have c4b0 : decide (20000 < (wrap64 ((wrap64 ((a0.size : Int) + (a1.size : Int))) + (a2.size : Int)))) = true := decide_eq_true c4
  clear c4
  replace H := Option.bind_eq_some_iff.mp H
  obtain ⟨t245, A50, H⟩ := H
  replace H : (some t245) = some r := H
  have A5 := Aside0.mk A50
  clear A50
  obtain rfl := Option.some.inj H
  simp only [Option.some.injEq, Prod.mk.injEq] at H
  obtain ⟨rfl⟩ := H
  go_enter Tryd.func12, Tryd.ntmps12
  go_wp2_with (first | ((with_reducible refine gate_callee (f := 16) rfl ?_); refine goesL_ (some 20) rfl rfl Tryd.func16 (by kernel_rfl) rfl #[] rfl (by (try simp only [List.map_toArray, List.map_cons, List.map_nil]); first | done | rfl | (simp only [List.length_drop, List.length_take]; rfl)) ?_; (with_reducible refine (cabinetrylaw01_known.calls k  t245 _ A5.out hr_).mono ?_); rintro e w6 ⟨rfl, hb⟩; refine ⟨_, rfl, ?_⟩; have n0_ := Aside0.mk (below_step (by repeat (first | (with_reducible first | exact HB.out | apply below_alloc | apply pw_below_drewN | apply below_drew1) | exact HB.out)) hb); clear HB; have HB := n0_; clear n0_; (try clear hb); (try clear hb2); (try clear hk); (try clear hi)))
  go_ret
  exact ⟨by first | rfl | (simp [errW_none, errW_some] <;> rfl) | (simp [*, errW_none, errW_some] <;> rfl), by repeat (first | (with_reducible first | exact HB.out | apply below_alloc | apply pw_below_drewN | apply below_drew1) | exact HB.out)⟩
 ·rw [if_neg c4] at H
  have c4b0 : decide (20000 < (wrap64 ((wrap64 ((a0.size : Int) + (a1.size : Int))) + (a2.size : Int)))) = false := decide_eq_false c4
  clear c4
  replace H := Option.bind_eq_some_iff.mp H
  obtain ⟨⟨t246, t247⟩, A70, H⟩ := H
  replace H : ((cabinetryref01_Swap.f k a0 a1 a2).bind fun bt248 => (if t246.toList = bt248.1.toList then (if t247 = bt248.2 then ((cabinetrylaw01_known.f k).bind fun t250 => (some t250)) else (some false)) else (some false))) = some r := H
  have A7 := Aside0.mk A70
  clear A70
  replace H := Option.bind_eq_some_iff.mp H
  obtain ⟨⟨t248, t249⟩, A80, H⟩ := H
  replace H : (if t246.toList = t248.toList then (if t247 = t249 then ((cabinetrylaw01_known.f k).bind fun t250 => (some t250)) else (some false)) else (some false)) = some r := H
  have A8 := Aside0.mk A80
  clear A80
  by_cases c9 : t246.toList = t248.toList
  ·rw [if_pos c9] at H
   have c9b0 : (t246.toList == t248.toList) = true := beq_iff_eq.mpr c9
   have c9b1 : (t246.toList != t248.toList) = false := bne_eq_false_iff_eq.mpr c9
   clear c9
   by_cases c10 : t247 = t249
   ·rw [if_pos c10] at H
    have c10b0 : (t247 == t249) = true := beq_iff_eq.mpr c10
    have c10b1 : (t247 != t249) = false := bne_eq_false_iff_eq.mpr c10
    clear c10
    replace H := Option.bind_eq_some_iff.mp H
    obtain ⟨t250, A110, H⟩ := H
    replace H : (some t250) = some r := H
    have A11 := Aside0.mk A110
    clear A110
    obtain rfl := Option.some.inj H
    simp only [Option.some.injEq, Prod.mk.injEq] at H
    obtain ⟨rfl⟩ := H
    go_enter Tryd.func12, Tryd.ntmps12
    go_wp2_with (first | ((with_reducible refine gate_callee (f := 46) rfl ?_); refine goesL_ (some 25) rfl rfl Tryd.func46 (by kernel_rfl) rfl #[.string a0, .string a1, .string a2] rfl (by (try simp only [List.map_toArray, List.map_cons, List.map_nil]); first | done | rfl | (simp only [List.length_drop, List.length_take]; rfl)) ?_; (with_reducible refine (val_Swap.calls k a0 a1 a2 t246 t247 _ A7.out (Hm.keep hm_ (by repeat (first | (with_reducible first | exact HB.out | apply below_alloc | apply pw_below_drewN | apply below_drew1) | exact HB.out)))).mono ?_); rintro e w12 ⟨rfl, hb⟩; refine ⟨_, rfl, ?_⟩; have n0_ := Aside0.mk (below_step (by repeat (first | (with_reducible first | exact HB.out | apply below_alloc | apply pw_below_drewN | apply below_drew1) | exact HB.out)) hb); clear HB; have HB := n0_; clear n0_; (try clear hb); (try clear hb2); (try clear hk); (try clear hi)) | ((with_reducible refine gate_callee (f := 47) rfl ?_); refine goesL_ (some 32) rfl rfl Tryd.func47 (by kernel_rfl) rfl #[.string a0, .string a1, .string a2] rfl (by (try simp only [List.map_toArray, List.map_cons, List.map_nil]); first | done | rfl | (simp only [List.length_drop, List.length_take]; rfl)) ?_; (with_reducible refine (cabinetryref01_Swap.calls k a0 a1 a2 t248 t249 _ A8.out).mono ?_); rintro e w' ⟨rfl, ⟨nd, rfl⟩⟩; refine ⟨_, rfl, ?_⟩) | (go_at_call 16; (with_reducible refine (cabinetrylaw01_known.calls k  t250 _ A11.out hr_).mono ?_); rintro e w13 ⟨rfl, hb⟩; have n0_ := Aside0.mk (below_step (by repeat (first | (with_reducible first | exact HB.out | apply below_alloc | apply pw_below_drewN | apply below_drew1) | exact HB.out)) hb); clear HB; have HB := n0_; clear n0_; (try clear hb); (try clear hb2); (try clear hk); (try clear hi)))
    go_ret
    exact ⟨by first | rfl | (simp [errW_none, errW_some] <;> rfl) | (simp [*, errW_none, errW_some] <;> rfl), by repeat (first | (with_reducible first | exact HB.out | apply below_alloc | apply pw_below_drewN | apply below_drew1) | exact HB.out)⟩
   ·rw [if_neg c10] at H
    have c10b0 : (t247 == t249) = false := beq_eq_false_iff_ne.mpr c10
    have c10b1 : (t247 != t249) = true := bne_iff_ne.mpr c10
    obtain rfl := Option.some.inj H
    exact absurd hr_.out (by decide)
  ·rw [if_neg c9] at H
   have c9b0 : (t246.toList == t248.toList) = false := beq_eq_false_iff_ne.mpr c9
   have c9b1 : (t246.toList != t248.toList) = true := bne_iff_ne.mpr c9
   obtain rfl := Option.some.inj H
   exact absurd hr_.out (by decide)
end Go.Proofs.YtplbjaandkdhjaaDoor.PC
namespace Go.Proofs.YtplbjaandkdhjaaDoor.LValSwaps
open Go.RowKit Go.Proofs.YtplbjaandkdhjaaDoorW.PrintWords Go.Proofs.YtplbjaandkdhjaaDoor.PA Go.Proofs.YtplbjaandkdhjaaDoor.PB Go.Proofs.YtplbjaandkdhjaaDoor.PC Go.Proofs.YtplbjaandkdhjaaDoor.H1 Go.Proofs.YtplbjaandkdhjaaDoor.L1
set_option linter.unusedVariables false
theorem law (a0 a1 a2 : ByteArray) (_ : a0.size ≤ 140737488351232) (_ : a1.size ≤ 140737488351232) (_ : a2.size ≤ 140737488351232) :
    ∃ k, cabinetrylaw01_ValSwaps.f k a0 a1 a2 = some true := by
  refine ⟨30000, ?_⟩
  unfold cabinetrylaw01_ValSwaps.f
  rw [known_ev 30000 (by decide), w64 (x := (a0.size : Int) + (a1.size : Int)) (by omega) (by omega), w64 (by omega) (by omega)]
  by_cases h : (a0.size : Int) + (a1.size : Int) + (a2.size : Int) > 20000
  · rw [if_pos h]; rfl
  · rw [if_neg h]
    obtain ⟨v, p1, p2⟩ := swap_same a0 a1 a2 (by omega) (by omega) (by omega) 30000 (by decide)
    rw [p1, p2]
    simp
end Go.Proofs.YtplbjaandkdhjaaDoor.LValSwaps
namespace Go.Proofs.YtplbjaandkdhjaaDoor.valSwaps
open Go.ChangeShapes Go.WideShapes Go.ChangeAt Go.RowKit
open Go.ChangeMaps (open_string shut_string)
set_option linter.unusedVariables false
theorem own : ownKnob Tryd.prog.godebug = none := by kernel_rfl
set_option maxRecDepth 100000 in
theorem lifted (os : Os) (started : os.Started) (H : Type) (enc : TypeId × Value → H) :
    ReturnsInHanded {} Tryd.checked os 12 .any (fun w args => (Rows.valSwapsSpec.pre enc Tryd.prog Tryd.f12 Rows.valSwapsRow.domain false w args ∧ laidMetH Tryd.prog Rows.valSwapsRow.laid w) ∧ sizedMet enc Tryd.prog Tryd.f12 (OpenSpec.ofChange Rows.valSwapsSpec) false w args)
      (Rows.valSwapsSpec.post enc Tryd.prog Tryd.f12 false true false false) := by
  refine L0.handed_and_shaped (C := Tryd.checked) (X := fun w _ => laidMetH Tryd.prog Rows.valSwapsRow.laid w) (fun _ _ _ hh h => h.of_heap hh) own started (by kernel_rfl) Tryd.func12
    (ChangeSpec.witness_shaped (enc := enc) (C := Tryd.checked) (os := os) (X := fun w _ => laidMetH Tryd.prog Rows.valSwapsRow.laid w) false (World.laidAll Tryd.prog os Rows.valSwapsRow.laid) #[.string ByteArray.empty, .string ByteArray.empty, .string ByteArray.empty] 8 (World.laidAll_os _ _ _)
      (World.shaped_of_ZipB (by kernel_rfl) (by kernel_rfl)) (by kernel_rfl) (by kernel_rfl) (by kernel_rfl)
      (by rw [MakeChecks.laidMetH_plain _ _ _ (by kernel_rfl)]; exact laidMet_laidAll _ (by kernel_rfl) (by kernel_rfl))) ?_
  intro W base args ds gs before hval0 hW hcnd hsz0 hL hsh _
  have hsz : (DataW.weightsEach Tryd.prog (Tryd.f12.params.toList ++ Rows.valSwapsSpec.plain.varTypes Tryd.prog) (ds ++ gs)).all (· ≤ reachBytes) = true := hsz0
  have hval : ∀ (j : Nat) t v, Tryd.f12.params[j]? = some t → args[j]? = some v → Value.okWide Tryd.prog W .any base t v := hval0
  have hW' := hW
  obtain ⟨p, q, hA0, hV, rfl, hfz, hnd⟩ := hW
  have hA : DataW.TrodAll enc Tryd.prog W 0 (fun _ => true) true Tryd.f12.params.toList args.toList ds p := hA0
  rw [Tryd.params12] at hA hval hsz
  obtain ⟨v0, vs0, d0, ds0, p0, q0, hargs, rfl, rfl, h0, r0⟩ := trodAll_cons hA
  obtain ⟨v1, vs1, d1, ds1, p1, q1, rfl, rfl, rfl, h1, r1⟩ := trodAll_cons r0
  obtain ⟨v2, vs2, d2, ds2, p2, q2, rfl, rfl, rfl, h2, r2⟩ := trodAll_cons r1
  obtain ⟨rfl, rfl, rfl⟩ := trodAll_nil r2
  obtain rfl : args = #[v0, v1, v2] := by cases args; simp_all
  obtain ⟨rfl, rfl⟩ := trodVars_none hV
  obtain ⟨a0, rfl, rfl, rfl, y0⟩ := open_string Tryd.underlying9 (hval 0 9 v0 rfl rfl) h0
  have w0 : a0.size ≤ 140737488351232 := by
    have z := sized_string hsz (j := 0) (t := 9) rfl rfl
    rw [Array.length_toList] at z
    exact z
  obtain ⟨a1, rfl, rfl, rfl, y1⟩ := open_string Tryd.underlying9 (hval 1 9 v1 rfl rfl) h1
  have w1 : a1.size ≤ 140737488351232 := by
    have z := sized_string hsz (j := 1) (t := 9) rfl rfl
    rw [Array.length_toList] at z
    exact z
  obtain ⟨a2, rfl, rfl, rfl, y2⟩ := open_string Tryd.underlying9 (hval 2 9 v2 rfl rfl) h2
  have w2 : a2.size ≤ 140737488351232 := by
    have z := sized_string hsz (j := 2) (t := 9) rfl rfl
    rw [Array.length_toList] at z
    exact z
  clear hA0 hval0 hsz0 hsz
  obtain ⟨k, h⟩ := LValSwaps.law a0 a1 a2 w0 w1 w2
  refine (PC.cabinetrylaw01_ValSwaps.calls k a0 a1 a2 true W h ⟨rfl⟩ ⟨Tryd.laysM143.s1_3 W hsh⟩).mono fun e W' ⟨he, bel⟩ => ?_
  subst he
  exact ⟨_, rfl, _, _, _, [], _, [], hW', trodAll_mk1 (shut_bool Tryd.underlying4 _), (trodAll_cons_mk (shut_string Tryd.underlying9 y0) (trodAll_cons_mk (shut_string Tryd.underlying9 y1) (trodAll_cons_mk (shut_string Tryd.underlying9 y2) trodAll_mk0))), rfl, bel.frame _, fun h => by cases h⟩
theorem valSwaps_holds : Rows.ValSwapsSaid :=
  OpenClaim.holds_of_wide 12 Tryd.f12 rfl rfl rfl rfl rfl rfl rfl ⟨rfl, rfl, rfl, rfl, rfl⟩ rfl rfl rfl rfl rfl (by kernel_rfl) Tryd.func12 (by kernel_rfl)
    (of_decide_eq_true (by kernel_rfl)) (by unfold Func.isWrapper; first | (rw [if_pos (by decide +kernel)]; kernel_rfl) | (rw [if_neg (by decide +kernel)]; exact ⟨rfl, rfl⟩))
    (fun os started H enc _ => lifted os started H enc)
end Go.Proofs.YtplbjaandkdhjaaDoor.valSwaps
namespace Go.Proofs.YtplbjaandkdhjaaDoor
theorem valSwaps_card : Rows.ValSwapsCardSaid :=
  Claim7.holds_tied_plain_at .later [] [.data, .pinned] true (true, "b0e2575192d11b15c47babb91c45279908020743339f46d5cad88154cf757604") false
    valSwaps.valSwaps_holds (fun _ h => by cases h) (by kernel_rfl) (fun _ h => by cases h) valSwaps_row_tie rfl ⟨rfl, rfl⟩ (by kernel_rfl) rfl
    (fun f fn hf hfn => by
      obtain rfl : f = 12 := Option.some.inj ((show Tryd.prog.funcNamed "cabinetry/cabinetrylaw01.ValSwaps" = some 12 by kernel_rfl).symm.trans hf) |>.symm
      obtain rfl : fn = Tryd.f12 := (Option.some.inj (Tryd.func12.symm.trans hfn)).symm
      exact ⟨by kernel_rfl, fun j t ht => by
        rw [Tryd.params12] at ht
        have hm : t ∈ [9, 9, 9] := by simpa using Array.mem_of_getElem? ht
        have hall : ([9, 9, 9].all fun u => !Tryd.prog.wantsStandIn u) = true := by kernel_rfl
        exact (show Tryd.prog.wantsStandIn t = false by simpa using List.all_eq_true.1 hall t hm)⟩)
    (by kernel_rfl)
#print axioms valSwaps_card
end Go.Proofs.YtplbjaandkdhjaaDoor
