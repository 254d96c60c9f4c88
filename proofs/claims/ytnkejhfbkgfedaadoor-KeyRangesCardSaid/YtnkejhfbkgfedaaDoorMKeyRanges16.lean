-- Written by a program of this session (wip/merge.py): the texts of this claim, joined.
import Derived.KernelRfl
import Derived.Test.YtnkejhfbkgfedaaDoorMKeyRanges1
import Derived.Test.YtnkejhfbkgfedaaDoorMKeyRanges2
import Derived.Test.YtnkejhfbkgfedaaDoorMKeyRanges3
import Derived.Test.YtnkejhfbkgfedaaDoorMKeyRanges4
import Derived.Test.YtnkejhfbkgfedaaDoorMKeyRanges7
import Derived.Test.YtnkejhfbkgfedaaDoorMKeyRanges8
import Derived.Test.YtnkejhfbkgfedaaDoorMKeyRanges9
import Derived.Test.YtnkejhfbkgfedaaDoorMKeyRanges10
import Derived.Test.YtnkejhfbkgfedaaDoorMKeyRanges11
import Derived.Test.YtnkejhfbkgfedaaDoorMKeyRanges12
import Derived.Test.YtnkejhfbkgfedaaDoorMKeyRanges13
import Derived.Test.YtnkejhfbkgfedaaDoorMKeyRanges14
import Derived.Test.YtnkejhfbkgfedaaDoorMKeyRanges15
namespace Go.Proofs.YtnkejhfbkgfedaaDoor.PA
end Go.Proofs.YtnkejhfbkgfedaaDoor.PA
namespace Go.Proofs.YtnkejhfbkgfedaaDoor.PB
end Go.Proofs.YtnkejhfbkgfedaaDoor.PB
namespace Go.Proofs.YtnkejhfbkgfedaaDoor.PC
end Go.Proofs.YtnkejhfbkgfedaaDoor.PC
namespace Go.Proofs.YtnkejhfbkgfedaaDoor.H1
end Go.Proofs.YtnkejhfbkgfedaaDoor.H1
namespace Go.Proofs.YtnkejhfbkgfedaaDoor.L1
end Go.Proofs.YtnkejhfbkgfedaaDoor.L1
namespace Go.Proofs.YtnkejhfbkgfedaaDoor.L1
open Go.RowKit Go.Proofs.YtnkejhfbkgfedaaDoorW.PrintWords Go.Proofs.YtnkejhfbkgfedaaDoor.PA Go.Proofs.YtnkejhfbkgfedaaDoor.H1 Go.Proofs.YtnkejhfbkgfedaaDoor.PB
set_option linter.unusedVariables false
set_option linter.unusedSimpArgs false
def wt (p c : Int) (b : UInt8) : UInt8 := if c = 0 then b else UInt8.ofNat ((page_weight.f 4 (toI b) p 1).getD 0).toNat
def pageOk (p c : Int) : Prop := (p = 0 ∨ p = 1 ∨ p = 2) ∧ (c = 0 ∨ c = 1)
def wtOk (n : Nat) (p : Int) : Bool := match page_weight.f 4 (n : Int) p 1, cabinetryref02_weight.f 20 (n : Int) p 1 with
  | some v, some u => decide (v = u) && decide (0 ≤ v) && decide (v < 256)
  | _, _ => false
theorem wt_check0 : (List.range 256).all (fun n => wtOk n 0) = true := by kernel_rfl
theorem wt_check1 : (List.range 256).all (fun n => wtOk n 1) = true := by kernel_rfl
theorem wt_check2 : (List.range 256).all (fun n => wtOk n 2) = true := by kernel_rfl
theorem wt_at (b : UInt8) (p : Int) (hp : p = 0 ∨ p = 1 ∨ p = 2) : page_weight.f 4 (toI b) p 1 = some (toI (wt p 1 b)) ∧ cabinetryref02_weight.f 20 (toI b) p 1 = some (toI (wt p 1 b)) := by
  have hm : b.toNat ∈ List.range 256 := List.mem_range.2 b.toNat_lt
  have h : wtOk b.toNat p = true := by
    rcases hp with rfl | rfl | rfl
    · exact List.all_eq_true.1 wt_check0 _ hm
    · exact List.all_eq_true.1 wt_check1 _ hm
    · exact List.all_eq_true.1 wt_check2 _ hm
  unfold wtOk at h
  have e : ((b.toNat : Nat) : Int) = toI b := rfl
  rw [e] at h
  unfold wt
  rw [if_neg (by decide)]
  cases h1 : page_weight.f 4 (toI b) p 1 with
  | none => rw [h1] at h; exact absurd h (by simp)
  | some v =>
    cases h2 : cabinetryref02_weight.f 20 (toI b) p 1 with
    | none => rw [h1, h2] at h; exact absurd h (by simp)
    | some u =>
      rw [h1, h2] at h
      simp only [Bool.and_eq_true, decide_eq_true_eq] at h
      obtain ⟨⟨rfl, h0⟩, h256⟩ := h
      rw [Option.getD_some]
      have : toI (UInt8.ofNat v.toNat) = v := by
        rw [toI_ofNat _ (by omega)]; omega
      rw [this]
      exact ⟨rfl, rfl⟩
theorem weight_f (k : Nat) (hk : 4 ≤ k) (b : UInt8) (p c : Int) (h : pageOk p c) : page_weight.f k (toI b) p c = some (toI (wt p c b)) := by
  obtain ⟨hp, rfl | rfl⟩ := h
  · unfold page_weight.f wt
    obtain ⟨k, rfl⟩ : ∃ m, k = m + 1 := ⟨k - 1, by omega⟩
    simp [page_weight.j0]
  · exact at_rounds (fun k => page_weight.mono _ _ _ k) hk (wt_at b p hp).1
theorem refWeight_f (k : Nat) (hk : 20 ≤ k) (b : UInt8) (p c : Int) (h : pageOk p c) : cabinetryref02_weight.f k (toI b) p c = some (toI (wt p c b)) := by
  obtain ⟨hp, rfl | rfl⟩ := h
  · unfold cabinetryref02_weight.f wt
    obtain ⟨k, rfl⟩ : ∃ m, k = m + 1 := ⟨k - 1, by omega⟩
    simp [cabinetryref02_weight.j0]
  · exact at_rounds (fun k => cabinetryref02_weight.mono _ _ _ k) hk (wt_at b p hp).2
theorem weights_l (p c : Int) (h : pageOk p c) (l : List UInt8) (hl : l.length ≤ 140737488351232) : ∀ (n i k : Nat), l.length - i = n → i ≤ l.length → n + 5 ≤ k →
    page_weights.l0 k p c ((upto_ (wt p c) l i).map toI) (l.length : Int) (i : Int) = some ⟨(l.map (wt p c)).toArray⟩ := by
  intro n
  induction n with
  | zero =>
    intro i k hn hi hk
    obtain ⟨k, rfl⟩ : ∃ m, k = m + 1 := ⟨k - 1, by omega⟩
    simp only [page_weights.l0]
    rw [if_neg (by omega), show i = l.length by omega, upto_all, strOf_map]
  | succ n ih =>
    intro i k hn hi hk
    obtain ⟨k, rfl⟩ : ∃ m, k = m + 1 := ⟨k - 1, by omega⟩
    have hlt : i < l.length := by omega
    have hlu : i < (upto_ (wt p c) l i).length := by rw [upto_len _ l i hi]; exact hlt
    simp only [page_weights.l0]
    rw [if_pos (by omega), if_pos (by omega), if_pos (by rw [List.length_map]; omega), rd_map _ _ hlu, upto_get _ l i hlt, weight_f k (by omega) _ p c h]
    simp only [Option.bind_some]
    rw [Int.toNat_natCast, set_map, upto_set _ l i hlt, w64 (by omega) (by omega)]
    have := ih (i + 1) k (by omega) (by omega) (by omega)
    rwa [show ((i : Int) + 1) = ((i + 1 : Nat) : Int) by omega]
theorem pageWeights_f (k : Nat) (s : ByteArray) (p c : Int) (h : pageOk p c) (hs : s.size ≤ 140737488351232) (hk : s.size + 5 ≤ k) : page_weights.f k s p c = some ⟨(s.data.toList.map (wt p c)).toArray⟩ := by
  unfold page_weights.f
  rw [if_pos hs]
  simp only [Option.bind_some]
  have := weights_l p c h s.data.toList (by rw [ba_len]; exact hs) s.size 0 k (by rw [ba_len]; omega) (by omega) hk
  rw [upto_zero] at this
  rw [bytesOf_map, List.length_map]
  exact this
theorem askedColl_f (k : Nat) (hk : 2 ≤ k) (s : ByteArray) (p c : Int) (h : pageOk p c) (hs : s.size ≤ 2048) : page_askedColl.f k p c [s] = some 0 := by
  obtain ⟨k, rfl⟩ : ∃ m, k = m + 1 + 1 := ⟨k - 2, by omega⟩
  unfold page_askedColl.f page_asked.f
  simp only [page_asked.l0]
  have e : rdOf ByteArray.empty [s] 0 = s := rfl
  obtain ⟨hp, hc⟩ := h
  rw [if_pos (by simp), if_pos (by omega), if_pos (by simp), e, if_neg (by omega), w64 (by omega) (by omega), if_neg (by simp), if_neg (by omega), if_neg (by omega)]
  simp only [Option.bind_some, if_true]
  rw [if_neg (by omega), if_neg (by omega)]
theorem pageWeightsF (k : Nat) (s : ByteArray) (p c : Int) (h : pageOk p c) (hs : s.size ≤ 2048) (hk : s.size + 5 ≤ k) : page_Weights.f k s p c = some (⟨(s.data.toList.map (wt p c)).toArray⟩, 0) := by
  unfold page_Weights.f
  rw [askedColl_f k (by omega) s p c h hs, pageWeights_f k s p c h (by omega) hk]
  simp
def escL : List UInt8 → List UInt8
  | [] => []
  | x :: l => if x = 0 then 0 :: 1 :: escL l else x :: escL l
theorem escL_len : ∀ l, (escL l).length ≤ 2 * l.length
  | [] => by simp [escL]
  | x :: l => by
    have := escL_len l
    unfold escL
    split <;> simp only [List.length_cons] <;> omega
theorem esc_swapR : ∀ (n : Nat) (l : List UInt8), l.length ≤ n → swapR [0] [0, 1] n l = escL l
  | 0, l, h => by
    have : l = [] := List.length_eq_zero_iff.1 (by omega)
    rw [this]; rfl
  | n + 1, [], _ => rfl
  | n + 1, x :: l, h => by
    have hn : l.length ≤ n := by simp only [List.length_cons] at h; omega
    simp only [swapR, escL]
    by_cases hx : x = 0
    · rw [if_pos hx, if_pos (by rw [hx]; rfl)]
      show [0, 1] ++ swapR [0] [0, 1] n l = _
      rw [esc_swapR n l hn]
      rfl
    · rw [if_neg hx, if_neg (by simpa using fun e : (0 : UInt8) = x => hx e.symm), esc_swapR n l hn]
def keyW (p c : Int) (s : List UInt8) : List UInt8 := escL ((s.take 48).map (wt p c))
theorem keyW_len (p c : Int) (s : List UInt8) : (keyW p c s).length ≤ 96 := by
  have := escL_len ((s.take 48).map (wt p c))
  rw [List.length_map, List.length_take] at this
  unfold keyW
  omega
theorem key_weights_f (k : Nat) (s : ByteArray) (p c : Int) (h : pageOk p c) (hs : s.size ≤ 140737488351232) (hk : 60 ≤ k) : key_weights.f k s p c = some ⟨(keyW p c s.data.toList).toArray⟩ := by
  have e : mn (s.size : Int) 48 = ((min s.size 48 : Nat) : Int) := by unfold mn; split <;> omega
  unfold key_weights.f
  rw [e, if_pos (by omega), if_pos (by omega), Int.toNat_natCast]
  have hz : (s.extract 0 (min s.size 48)).size ≤ 48 := by rw [ByteArray.size_extract]; omega
  rw [pageWeightsF k _ p c h (by omega) (by omega)]
  simp only [Option.bind_some]
  have et : (s.extract 0 (min s.size 48)).data.toList = s.data.toList.take 48 := by
    rw [ba_extract s 0 _ (by omega), List.drop_zero]
    by_cases h48 : s.size ≤ 48
    · rw [Nat.min_eq_left h48, List.take_of_length_le (by rw [ba_len]; omega), List.take_of_length_le (by rw [ba_len]; omega)]
    · rw [Nat.min_eq_right (by omega)]
  rw [et]
  have hl : ((s.data.toList.take 48).map (wt p c)).length ≤ 48 := by rw [List.length_map, List.length_take]; omega
  generalize hw : (s.data.toList.take 48).map (wt p c) = w at hl
  have hm := Lib.countB_mul_le (⟨#[0]⟩ : ByteArray) (show 1 ≤ (1 : Nat) by omega) (⟨w.toArray⟩ : ByteArray).size ⟨w.toArray⟩ (Nat.le_refl _)
  have e1 : (⟨#[0]⟩ : ByteArray).size = 1 := rfl
  have e2 : (⟨#[0, 1]⟩ : ByteArray).size = 2 := rfl
  rw [e1, ba_size] at hm
  unfold strings_ReplaceAll.f
  rw [if_pos ⟨by rw [ba_size]; omega, by rw [e1]; omega, by rw [ba_size, e2]; omega⟩]
  simp only [Option.bind_some]
  rw [ba_mk]
  have er := replaceAll_eq [0] [0, 1] (by simp) w.length w (Nat.le_refl _)
  rw [er, esc_swapR _ _ (Nat.le_refl _), ← hw]
  rfl
theorem refAsked1_f (k : Nat) (hk : 6 ≤ k) (s : ByteArray) (p c : Int) (h : pageOk p c) (hs : s.size ≤ 2048) : cabinetryref02_asked.f k 2048 [s] c [p] = some 0 := by
  obtain ⟨k, rfl⟩ : ∃ m, k = m + 1 + 1 + 1 + 1 := ⟨k - 4, by omega⟩
  unfold cabinetryref02_asked.f
  simp only [cabinetryref02_asked.l0, cabinetryref02_asked.l1]
  have e : rdOf ByteArray.empty [s] 0 = s := rfl
  have e2 : rd [p] 0 = p := rfl
  obtain ⟨hp, hc⟩ := h
  rw [if_pos (by simp), if_pos (by omega), e, if_neg (by omega), w64 (by omega) (by omega), if_neg (by simp), if_pos (by simp), if_pos (by omega), e2, if_neg (by omega), if_neg (by omega), if_neg (by simp)]
  rcases hc with rfl | rfl
  · rw [if_pos rfl]
  · rw [if_neg (by decide), if_pos rfl]
theorem refWeights_l (p c : Int) (h : pageOk p c) (s : ByteArray) (hl : s.size ≤ 140737488351232) : ∀ (n i k : Nat), s.size - i = n → i ≤ s.size → n + 21 ≤ k →
    cabinetryref02_Weights.l0 k s p c ((upto_ (wt p c) s.data.toList i).map toI) (i : Int) = some (⟨(s.data.toList.map (wt p c)).toArray⟩, 0) := by
  intro n
  induction n with
  | zero =>
    intro i k hn hi hk
    obtain ⟨k, rfl⟩ : ∃ m, k = m + 1 := ⟨k - 1, by omega⟩
    simp only [cabinetryref02_Weights.l0]
    rw [if_neg (by omega), show i = s.data.toList.length by rw [ba_len]; omega, upto_all, strOf_map]
  | succ n ih =>
    intro i k hn hi hk
    obtain ⟨k, rfl⟩ : ∃ m, k = m + 1 := ⟨k - 1, by omega⟩
    have hls : s.data.toList.length = s.size := ba_len s
    have hlt : i < s.data.toList.length := by omega
    simp only [cabinetryref02_Weights.l0]
    rw [if_pos (by omega), if_pos (by omega), bt_toI s i (by omega), refWeight_f k (by omega) _ p c h]
    simp only [Option.bind_some]
    rw [if_pos (by rw [List.length_map, upto_len _ _ i (by omega)]; omega), Int.toNat_natCast, set_map, upto_set _ _ i hlt, w64 (by omega) (by omega)]
    have := ih (i + 1) k (by omega) (by omega) (by omega)
    rwa [show ((i : Int) + 1) = ((i + 1 : Nat) : Int) by omega]
theorem refWeights_f (k : Nat) (s : ByteArray) (p c : Int) (h : pageOk p c) (hs : s.size ≤ 2048) (hk : s.size + 21 ≤ k) : cabinetryref02_Weights.f k s p c = some (⟨(s.data.toList.map (wt p c)).toArray⟩, 0) := by
  unfold cabinetryref02_Weights.f
  rw [refAsked1_f k (by omega) s p c h hs]
  simp only [Option.bind_some, if_true]
  rw [if_pos (by omega)]
  have := refWeights_l p c h s (by omega) s.size 0 k (by omega) (by omega) hk
  rw [upto_zero] at this
  rw [bytesOf_map]
  exact this
theorem weighed_l (w : ByteArray) (hl : w.size ≤ 2048) : ∀ (n i k : Nat) (t : List UInt8), w.size - i = n → i ≤ w.size → n < k → t.length + 2 * n ≤ 140737488351232 →
    cabinetryref09_weighed.l0 k w (t.map toI) (i : Int) = some ⟨(t ++ escL (w.data.toList.drop i)).toArray⟩ := by
  intro n
  induction n with
  | zero =>
    intro i k t hn hi hk ht
    obtain ⟨k, rfl⟩ : ∃ m, k = m + 1 := ⟨k - 1, by omega⟩
    simp only [cabinetryref09_weighed.l0]
    rw [if_neg (by omega), strOf_map, List.drop_eq_nil_of_le (by rw [ba_len]; omega)]
    simp [escL]
  | succ n ih =>
    intro i k t hn hi hk ht
    obtain ⟨k, rfl⟩ : ∃ m, k = m + 1 := ⟨k - 1, by omega⟩
    have hlt : i < w.data.toList.length := by rw [ba_len]; omega
    simp only [cabinetryref09_weighed.l0]
    rw [if_pos (by omega), if_pos (by omega), if_pos (by rw [List.length_map]; omega), bt_toI w i (by omega)]
    simp only [Option.bind_some]
    rw [List.drop_eq_getElem_cons hlt, w64 (by omega) (by omega)]
    have e1 : List.map toI t ++ [toI w.data.toList[i]] = (t ++ [w.data.toList[i]]).map toI := by simp
    by_cases h0 : w.data.toList[i] = 0
    · rw [if_pos (by rw [h0]; rfl), if_pos (by rw [e1, List.length_map, List.length_append]; simp; omega), e1]
      have e2 : (t ++ [w.data.toList[i]]).map toI ++ [1] = (t ++ [w.data.toList[i]] ++ [1]).map toI := by simp [toI]
      rw [e2]
      have := ih (i + 1) k (t ++ [w.data.toList[i]] ++ [1]) (by omega) (by omega) (by omega) (by simp; omega)
      rw [show ((i : Int) + 1) = ((i + 1 : Nat) : Int) by omega, this]
      rw [escL, if_pos h0, h0]
      simp
    · rw [if_neg (fun e => h0 (toI_inj (e.trans rfl))), e1]
      have := ih (i + 1) k (t ++ [w.data.toList[i]]) (by omega) (by omega) (by omega) (by simp; omega)
      rw [show ((i : Int) + 1) = ((i + 1 : Nat) : Int) by omega, this]
      rw [escL, if_neg h0]
      simp
theorem weighed_j (k : Nat) (s : ByteArray) (p c : Int) (h : pageOk p c) (hs : s.size ≤ 48) (hk : 80 ≤ k) : cabinetryref09_weighed.j0 k s p c = some ⟨(escL (s.data.toList.map (wt p c))).toArray⟩ := by
  obtain ⟨k, rfl⟩ : ∃ m, k = m + 1 := ⟨k - 1, by omega⟩
  simp only [cabinetryref09_weighed.j0]
  rw [refWeights_f k s p c h (by omega) (by omega)]
  simp only [Option.bind_some]
  have hz : (⟨(s.data.toList.map (wt p c)).toArray⟩ : ByteArray).size = s.size := by rw [ba_size, List.length_map, ba_len]
  have := weighed_l ⟨(s.data.toList.map (wt p c)).toArray⟩ (by omega) s.size 0 k [] (by omega) (by omega) (by omega) (by simp; omega)
  rw [List.drop_zero, ba_mk] at this
  simpa using this
theorem weighed_f (k : Nat) (s : ByteArray) (p c : Int) (h : pageOk p c) (hk : 80 ≤ k) : cabinetryref09_weighed.f k s p c = some ⟨(keyW p c s.data.toList).toArray⟩ := by
  unfold cabinetryref09_weighed.f keyW
  by_cases h48 : s.size ≤ 48
  · rw [if_neg (by omega), weighed_j k s p c h h48 hk, List.take_of_length_le (by rw [ba_len]; omega)]
  · rw [if_pos (by omega), if_pos (by decide), if_pos (by omega), weighed_j k _ p c h (by rw [ByteArray.size_extract]; omega) hk, ba_extract s 0 48 (by omega), List.drop_zero]
end Go.Proofs.YtnkejhfbkgfedaaDoor.L1
