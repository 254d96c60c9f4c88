-- Written by a program of this session (wip/merge.py): the texts of this claim, joined.
import Derived.KernelRfl
import Derived.Test.YtnkejhfbkgfedaaDoorMKeyBegins1
import Derived.Test.YtnkejhfbkgfedaaDoorMKeyBegins2
import Derived.Test.YtnkejhfbkgfedaaDoorMKeyBegins3
import Derived.Test.YtnkejhfbkgfedaaDoorMKeyBegins4
import Derived.Test.YtnkejhfbkgfedaaDoorMKeyBegins5
import Derived.Test.YtnkejhfbkgfedaaDoorMKeyBegins6
import Derived.Test.YtnkejhfbkgfedaaDoorMKeyBegins7
namespace Go.Proofs.YtnkejhfbkgfedaaDoor.PA
end Go.Proofs.YtnkejhfbkgfedaaDoor.PA
namespace Go.Proofs.YtnkejhfbkgfedaaDoor.PB
end Go.Proofs.YtnkejhfbkgfedaaDoor.PB
namespace Go.Proofs.YtnkejhfbkgfedaaDoor.PC
end Go.Proofs.YtnkejhfbkgfedaaDoor.PC
namespace Go.Proofs.YtnkejhfbkgfedaaDoor.H1
end Go.Proofs.YtnkejhfbkgfedaaDoor.H1
namespace Go.Proofs.YtnkejhfbkgfedaaDoor.L1
end Go.Proofs.YtnkejhfbkgfedaaDoor.L1
namespace Go.Proofs.YtnkejhfbkgfedaaDoor.L1
open Go.RowKit Go.Proofs.YtnkejhfbkgfedaaDoorW.PrintWords Go.Proofs.YtnkejhfbkgfedaaDoor.PA Go.Proofs.YtnkejhfbkgfedaaDoor.H1 Go.Proofs.YtnkejhfbkgfedaaDoor.PB
set_option linter.unusedVariables false
set_option linter.unusedSimpArgs false
def wt (p c : Int) (b : UInt8) : UInt8 := if c = 0 then b else UInt8.ofNat ((page_weight.f 4 (toI b) p 1).getD 0).toNat
def pageOk (p c : Int) : Prop := (p = 0 ∨ p = 1 ∨ p = 2) ∧ (c = 0 ∨ c = 1)
def wtOk (n : Nat) (p : Int) : Bool := match page_weight.f 4 (n : Int) p 1, cabinetryref02_weight.f 20 (n : Int) p 1 with
  | some v, some u => decide (v = u) && decide (0 ≤ v) && decide (v < 256)
  | _, _ => false
theorem wt_check0 : (List.range 256).all (fun n => wtOk n 0) = true := by kernel_rfl
theorem wt_check1 : (List.range 256).all (fun n => wtOk n 1) = true := by kernel_rfl
theorem wt_check2 : (List.range 256).all (fun n => wtOk n 2) = true := by kernel_rfl
theorem wt_at (b : UInt8) (p : Int) (hp : p = 0 ∨ p = 1 ∨ p = 2) : page_weight.f 4 (toI b) p 1 = some (toI (wt p 1 b)) ∧ cabinetryref02_weight.f 20 (toI b) p 1 = some (toI (wt p 1 b)) := by
  have hm : b.toNat ∈ List.range 256 := List.mem_range.2 b.toNat_lt
  have h : wtOk b.toNat p = true := by
    rcases hp with rfl | rfl | rfl
    · exact List.all_eq_true.1 wt_check0 _ hm
    · exact List.all_eq_true.1 wt_check1 _ hm
    · exact List.all_eq_true.1 wt_check2 _ hm
  unfold wtOk at h
  have e : ((b.toNat : Nat) : Int) = toI b := rfl
  rw [e] at h
  unfold wt
  rw [if_neg (by decide)]
  cases h1 : page_weight.f 4 (toI b) p 1 with
  | none => rw [h1] at h; exact absurd h (by simp)
  | some v =>
    cases h2 : cabinetryref02_weight.f 20 (toI b) p 1 with
    | none => rw [h1, h2] at h; exact absurd h (by simp)
    | some u =>
      rw [h1, h2] at h
      simp only [Bool.and_eq_true, decide_eq_true_eq] at h
      obtain ⟨⟨rfl, h0⟩, h256⟩ := h
      rw [Option.getD_some]
      have : toI (UInt8.ofNat v.toNat) = v := by
        rw [toI_ofNat _ (by omega)]; omega
      rw [this]
      exact ⟨rfl, rfl⟩
theorem weight_f (k : Nat) (hk : 4 ≤ k) (b : UInt8) (p c : Int) (h : pageOk p c) : page_weight.f k (toI b) p c = some (toI (wt p c b)) := by
  obtain ⟨hp, rfl | rfl⟩ := h
  · unfold page_weight.f wt
    obtain ⟨k, rfl⟩ : ∃ m, k = m + 1 := ⟨k - 1, by omega⟩
    simp [page_weight.j0]
  · exact at_rounds (fun k => page_weight.mono _ _ _ k) hk (wt_at b p hp).1
theorem weights_l (p c : Int) (h : pageOk p c) (l : List UInt8) (hl : l.length ≤ 140737488351232) : ∀ (n i k : Nat), l.length - i = n → i ≤ l.length → n + 5 ≤ k →
    page_weights.l0 k p c ((upto_ (wt p c) l i).map toI) (l.length : Int) (i : Int) = some ⟨(l.map (wt p c)).toArray⟩ := by
  intro n
  induction n with
  | zero =>
    intro i k hn hi hk
    obtain ⟨k, rfl⟩ : ∃ m, k = m + 1 := ⟨k - 1, by omega⟩
    simp only [page_weights.l0]
    rw [if_neg (by omega), show i = l.length by omega, upto_all, strOf_map]
  | succ n ih =>
    intro i k hn hi hk
    obtain ⟨k, rfl⟩ : ∃ m, k = m + 1 := ⟨k - 1, by omega⟩
    have hlt : i < l.length := by omega
    have hlu : i < (upto_ (wt p c) l i).length := by rw [upto_len _ l i hi]; exact hlt
    simp only [page_weights.l0]
    rw [if_pos (by omega), if_pos (by omega), if_pos (by rw [List.length_map]; omega), rd_map _ _ hlu, upto_get _ l i hlt, weight_f k (by omega) _ p c h]
    simp only [Option.bind_some]
    rw [Int.toNat_natCast, set_map, upto_set _ l i hlt, w64 (by omega) (by omega)]
    have := ih (i + 1) k (by omega) (by omega) (by omega)
    rwa [show ((i : Int) + 1) = ((i + 1 : Nat) : Int) by omega]
theorem pageWeights_f (k : Nat) (s : ByteArray) (p c : Int) (h : pageOk p c) (hs : s.size ≤ 140737488351232) (hk : s.size + 5 ≤ k) : page_weights.f k s p c = some ⟨(s.data.toList.map (wt p c)).toArray⟩ := by
  unfold page_weights.f
  rw [if_pos hs]
  simp only [Option.bind_some]
  have := weights_l p c h s.data.toList (by rw [ba_len]; exact hs) s.size 0 k (by rw [ba_len]; omega) (by omega) hk
  rw [upto_zero] at this
  rw [bytesOf_map, List.length_map]
  exact this
theorem askedColl_f (k : Nat) (hk : 2 ≤ k) (s : ByteArray) (p c : Int) (h : pageOk p c) (hs : s.size ≤ 2048) : page_askedColl.f k p c [s] = some 0 := by
  obtain ⟨k, rfl⟩ : ∃ m, k = m + 1 + 1 := ⟨k - 2, by omega⟩
  unfold page_askedColl.f page_asked.f
  simp only [page_asked.l0]
  have e : rdOf ByteArray.empty [s] 0 = s := rfl
  obtain ⟨hp, hc⟩ := h
  rw [if_pos (by simp), if_pos (by omega), if_pos (by simp), e, if_neg (by omega), w64 (by omega) (by omega), if_neg (by simp), if_neg (by omega), if_neg (by omega)]
  simp only [Option.bind_some, if_true]
  rw [if_neg (by omega), if_neg (by omega)]
theorem pageWeightsF (k : Nat) (s : ByteArray) (p c : Int) (h : pageOk p c) (hs : s.size ≤ 2048) (hk : s.size + 5 ≤ k) : page_Weights.f k s p c = some (⟨(s.data.toList.map (wt p c)).toArray⟩, 0) := by
  unfold page_Weights.f
  rw [askedColl_f k (by omega) s p c h hs, pageWeights_f k s p c h (by omega) hk]
  simp
def escL : List UInt8 → List UInt8
  | [] => []
  | x :: l => if x = 0 then 0 :: 1 :: escL l else x :: escL l
theorem escL_len : ∀ l, (escL l).length ≤ 2 * l.length
  | [] => by simp [escL]
  | x :: l => by
    have := escL_len l
    unfold escL
    split <;> simp only [List.length_cons] <;> omega
theorem esc_swapR : ∀ (n : Nat) (l : List UInt8), l.length ≤ n → swapR [0] [0, 1] n l = escL l
  | 0, l, h => by
    have : l = [] := List.length_eq_zero_iff.1 (by omega)
    rw [this]; rfl
  | n + 1, [], _ => rfl
  | n + 1, x :: l, h => by
    have hn : l.length ≤ n := by simp only [List.length_cons] at h; omega
    simp only [swapR, escL]
    by_cases hx : x = 0
    · rw [if_pos hx, if_pos (by rw [hx]; rfl)]
      show [0, 1] ++ swapR [0] [0, 1] n l = _
      rw [esc_swapR n l hn]
      rfl
    · rw [if_neg hx, if_neg (by simpa using fun e : (0 : UInt8) = x => hx e.symm), esc_swapR n l hn]
def keyW (p c : Int) (s : List UInt8) : List UInt8 := escL ((s.take 48).map (wt p c))
theorem keyW_len (p c : Int) (s : List UInt8) : (keyW p c s).length ≤ 96 := by
  have := escL_len ((s.take 48).map (wt p c))
  rw [List.length_map, List.length_take] at this
  unfold keyW
  omega
theorem key_weights_f (k : Nat) (s : ByteArray) (p c : Int) (h : pageOk p c) (hs : s.size ≤ 140737488351232) (hk : 60 ≤ k) : key_weights.f k s p c = some ⟨(keyW p c s.data.toList).toArray⟩ := by
  have e : mn (s.size : Int) 48 = ((min s.size 48 : Nat) : Int) := by unfold mn; split <;> omega
  unfold key_weights.f
  rw [e, if_pos (by omega), if_pos (by omega), Int.toNat_natCast]
  have hz : (s.extract 0 (min s.size 48)).size ≤ 48 := by rw [ByteArray.size_extract]; omega
  rw [pageWeightsF k _ p c h (by omega) (by omega)]
  simp only [Option.bind_some]
  have et : (s.extract 0 (min s.size 48)).data.toList = s.data.toList.take 48 := by
    rw [ba_extract s 0 _ (by omega), List.drop_zero]
    by_cases h48 : s.size ≤ 48
    · rw [Nat.min_eq_left h48, List.take_of_length_le (by rw [ba_len]; omega), List.take_of_length_le (by rw [ba_len]; omega)]
    · rw [Nat.min_eq_right (by omega)]
  rw [et]
  have hl : ((s.data.toList.take 48).map (wt p c)).length ≤ 48 := by rw [List.length_map, List.length_take]; omega
  generalize hw : (s.data.toList.take 48).map (wt p c) = w at hl
  have hm := Lib.countB_mul_le (⟨#[0]⟩ : ByteArray) (show 1 ≤ (1 : Nat) by omega) (⟨w.toArray⟩ : ByteArray).size ⟨w.toArray⟩ (Nat.le_refl _)
  have e1 : (⟨#[0]⟩ : ByteArray).size = 1 := rfl
  have e2 : (⟨#[0, 1]⟩ : ByteArray).size = 2 := rfl
  rw [e1, ba_size] at hm
  unfold strings_ReplaceAll.f
  rw [if_pos ⟨by rw [ba_size]; omega, by rw [e1]; omega, by rw [ba_size, e2]; omega⟩]
  simp only [Option.bind_some]
  rw [ba_mk]
  have er := replaceAll_eq [0] [0, 1] (by simp) w.length w (Nat.le_refl _)
  rw [er, esc_swapR _ _ (Nat.le_refl _), ← hw]
  rfl
end Go.Proofs.YtnkejhfbkgfedaaDoor.L1
namespace Go.Proofs.YtnkejhfbkgfedaaDoor.PA
open Go.RowKit Go.Proofs.YtnkejhfbkgfedaaDoorW.PrintWords Go.Proofs.YtnkejhfbkgfedaaDoorW.PrintLast Go.Proofs.YtnkejhfbkgfedaaDoorW.PrintMore
attribute [local go_sem] max2_int min2_int max_two min_two max_three min_three max_four min_four   -- for this text's walks alone
set_option linter.unusedVariables false
set_option linter.unusedSimpArgs false
def val_isNum.f (a0 : Int) : Option (Bool) := if a0 ≥ (-1000000000000000) then (some (decide (a0 ≤ 1000000000000000))) else (some false)
set_option maxHeartbeats 8000000 in
set_option maxRecDepth 100000 in
theorem val_isNum.calls (a0 : Int) (r : Bool) (w : World) (h : val_isNum.f a0 = some r) :
  Calls Tryd.prog 96 #[.int .i64 a0] w fun e w' => e = .returned (.bool r) ∧ Drawn0 w w' := by
 have H : (if a0 ≥ (-1000000000000000) then (some (decide (a0 ≤ 1000000000000000))) else (some false)) = some r := h
 clear h
 by_cases c2 : a0 ≥ (-1000000000000000)
 ·rw [if_pos c2] at H
  have c2b0 : decide ((-1000000000000000) ≤ a0) = true := decide_eq_true c2
  clear c2
  obtain rfl := Option.some.inj H
  simp only [Option.some.injEq, Prod.mk.injEq] at H
  obtain ⟨rfl⟩ := H
  go_enter Tryd.func96, Tryd.ntmps96
  go_wp2
  go_ret
  exact ⟨by first | rfl | (simp; done) | (simp [*]; done), by repeat (first | exact Drawn0.refl _ | apply Drawn0.step)⟩
 ·rw [if_neg c2] at H
  have c2b0 : decide ((-1000000000000000) ≤ a0) = false := decide_eq_false c2
  clear c2
  obtain rfl := Option.some.inj H
  simp only [Option.some.injEq, Prod.mk.injEq] at H
  obtain ⟨rfl⟩ := H
  go_enter Tryd.func96, Tryd.ntmps96
  go_wp2
  go_ret
  exact ⟨by first | rfl | (simp; done) | (simp [*]; done), by repeat (first | exact Drawn0.refl _ | apply Drawn0.step)⟩
def val_isDay.f (a0 : Int) : Option (Bool) := if a0 ≥ 0 then (some (decide (a0 ≤ 3652059))) else (some false)
set_option maxHeartbeats 8000000 in
set_option maxRecDepth 100000 in
theorem val_isDay.calls (a0 : Int) (r : Bool) (w : World) (h : val_isDay.f a0 = some r) :
  Calls Tryd.prog 97 #[.int .i64 a0] w fun e w' => e = .returned (.bool r) ∧ Drawn0 w w' := by
 have H : (if a0 ≥ 0 then (some (decide (a0 ≤ 3652059))) else (some false)) = some r := h
 clear h
 by_cases c2 : a0 ≥ 0
 ·rw [if_pos c2] at H
  have c2b0 : decide (0 ≤ a0) = true := decide_eq_true c2
  clear c2
  obtain rfl := Option.some.inj H
  simp only [Option.some.injEq, Prod.mk.injEq] at H
  obtain ⟨rfl⟩ := H
  go_enter Tryd.func97, Tryd.ntmps97
  go_wp2
  go_ret
  exact ⟨by first | rfl | (simp; done) | (simp [*]; done), by repeat (first | exact Drawn0.refl _ | apply Drawn0.step)⟩
 ·rw [if_neg c2] at H
  have c2b0 : decide (0 ≤ a0) = false := decide_eq_false c2
  clear c2
  obtain rfl := Option.some.inj H
  simp only [Option.some.injEq, Prod.mk.injEq] at H
  obtain ⟨rfl⟩ := H
  go_enter Tryd.func97, Tryd.ntmps97
  go_wp2
  go_ret
  exact ⟨by first | rfl | (simp; done) | (simp [*]; done), by repeat (first | exact Drawn0.refl _ | apply Drawn0.step)⟩
end Go.Proofs.YtnkejhfbkgfedaaDoor.PA
namespace Go.Proofs.YtnkejhfbkgfedaaDoor.PA
open Go.RowKit Go.Proofs.YtnkejhfbkgfedaaDoorW.PrintWords Go.Proofs.YtnkejhfbkgfedaaDoorW.PrintLast Go.Proofs.YtnkejhfbkgfedaaDoorW.PrintMore
attribute [local go_sem] max2_int min2_int max_two min_two max_three min_three max_four min_four   -- for this text's walks alone
set_option linter.unusedVariables false
set_option linter.unusedSimpArgs false
def val_isValue.j0 : Nat → Bool → Int → Int → ByteArray → Option (Bool)
 | 0, _, _, _, _ => none
 | k + 1, x20, x104000, x104001, x104002 => if x20 = true then (some false) else (if x104000 = 0 then (some (x104001 == 0)) else (if x104000 = 1 then (if x104001 = 0 then (some true) else (some (x104001 == 1))) else (if x104000 = 2 then ((val_isNum.f x104001).bind fun t104 => (some t104)) else (if x104000 = 3 then ((val_isDay.f x104001).bind fun t105 => (some t105)) else (some (x104000 == 4))))))
def val_isValue.f (k : Nat) (a0_0 : Int) (a0_1 : Int) (a0_2 : ByteArray) : Option (Bool) := if a0_0 = 4 then (val_isValue.j0 k (a0_1 != 0) a0_0 a0_1 a0_2) else (if a0_2.toList = ([] : List UInt8) then (val_isValue.j0 k false a0_0 a0_1 a0_2) else (val_isValue.j0 k true a0_0 a0_1 a0_2))
theorem val_isValue.mono_l : ∀ k, (∀ y0 y1 y2 y3, LeO (val_isValue.j0 k y0 y1 y2 y3) (val_isValue.j0 (k + 1) y0 y1 y2 y3))
 | 0 => fun _ _ _ _ r h => by simp [val_isValue.j0] at h
 | k + 1 => by
  have ih0 := val_isValue.mono_l k
  ·intro y0 y1 y2 y3
   unfold val_isValue.j0
   repeat' first
   | (with_reducible exact ih0 _ _ _ _)
   | (with_reducible exact LeO.refl _)
   | (with_reducible exact LeO.none _)
   | (with_reducible refine LeO.ite ?_ ?_)
   | (with_reducible refine LeO.bind ?_ (fun _ => ?_))
   | exact ih0 _ _ _ _
   | exact LeO.none _
   | refine LeO.ite ?_ ?_
   | refine LeO.bind ?_ (fun _ => ?_)
theorem val_isValue.mono : ∀ a0 a1 a2 k, LeO (val_isValue.f k a0 a1 a2) (val_isValue.f (k + 1) a0 a1 a2) := by
 intro a0 a1 a2 k
 have ih0 := val_isValue.mono_l k
 unfold val_isValue.f
 repeat' first
   | (with_reducible exact ih0 _ _ _ _)
   | (with_reducible exact LeO.refl _)
   | (with_reducible exact LeO.none _)
   | (with_reducible refine LeO.ite ?_ ?_)
   | (with_reducible refine LeO.bind ?_ (fun _ => ?_))
   | exact ih0 _ _ _ _
   | exact LeO.none _
   | refine LeO.ite ?_ ?_
   | refine LeO.bind ?_ (fun _ => ?_)
set_option maxHeartbeats 8000000 in
set_option maxRecDepth 100000 in
theorem val_isValue.calls (k : Nat) (a0_0 : Int) (a0_1 : Int) (a0_2 : ByteArray) (r : Bool) (w : World) (h : val_isValue.f k a0_0 a0_1 a0_2 = some r) :
  Calls Tryd.prog 89 #[.agg #[.int .i64 a0_0, .int .i64 a0_1, .string a0_2]] w fun e w' => e = .returned (.bool r) ∧ Below w.heap.size w w' := by
 have hu23 := Tryd.underlying23
 have HB := Aside0.mk (Below.refl w.heap.size w)
 have H : (if a0_0 = 4 then (val_isValue.j0 k (a0_1 != 0) a0_0 a0_1 a0_2) else (if a0_2.toList = ([] : List UInt8) then (val_isValue.j0 k false a0_0 a0_1 a0_2) else (val_isValue.j0 k true a0_0 a0_1 a0_2))) = some r := h
 clear h
 have HC2 := Aside0.mk H
 clear H
 go_enter Tryd.func89, Tryd.ntmps89
 go_upto_region 1 with (first | ((with_reducible refine gate_dst (N := 1) rfl ?_); refine box_event ?hg (N := 1) ?hd (cs := #[.int .i64 a0_0, .int .i64 a0_1, .string a0_2]) (t := 23) ?hr ?_; (case hd => rfl); (case hg => rfl); (case hr => first | (go_simp; done) | (go_simp; rfl)); intro gb103 hg w3 hbox hb; have n0_ := Aside0.mk (below_step (by repeat (first | (with_reducible first | exact HB.out | apply below_alloc | apply pw_below_drewN | apply below_drew1) | exact HB.out)) hb); have n1_ := Aside0.mk (hbox); have n2_ := Aside0.mk ((by rw [hg]; exact (below_size (by repeat (first | (with_reducible first | exact HB.out | apply below_alloc | apply pw_below_drewN | apply below_drew1) | exact HB.out))) : w.heap.size ≤ gb103)); have n3_ := Aside0.mk ((by rw [hg]; exact (below_size (by repeat (first | (with_reducible first | exact HB.out | apply below_alloc | apply pw_below_drewN | apply below_drew1) | exact HB.out))) : w.heap.size ≤ gb103)); clear HB; have HB := n0_; have BK103 := n1_; have GW103 := n2_; have GE103 := n3_; clear n0_ n1_ n2_ n3_; clear hb hbox hg))
 (try simp only [Act.put, List.setIfInBounds_toArray, List.set_cons_zero, List.set_cons_succ])
 go_cut [20] (fun v20 wc => ∃ (kq : Nat) (x20_1 : Bool), v20 = .bool x20_1 ∧ Aside0 (val_isValue.j0 kq x20_1 a0_0 a0_1 a0_2 = some r) ∧ Aside0 (kq ≤ k) ∧ Aside0 (wc.heap[gb103]? = some (.cells #[.int .i64 a0_0, .int .i64 a0_1, .string a0_2] 23 (0, 0))) ∧ Aside0 (Below w.heap.size w wc))
 case first =>
  have H := HC2.out
  clear HC2
  by_cases c4 : a0_0 = 4
  ·rw [if_pos c4] at H
   have c4b0 : (a0_0 == 4) = true := beq_iff_eq.mpr c4
   have c4b1 : (a0_0 != 4) = false := bne_eq_false_iff_eq.mpr c4
   clear c4
   (first | rw [c4b0] | (simp only [i64_w, i32_w]; rw [c4b0]) | skip)
   have H' := Aside0.mk H
   clear H
   have hcz5_0 : w3.cell? ⟨gb103, 0, none⟩ = some (.int .i64 a0_0) := (blk_cell BK103.out 0).trans rfl
   have hcz5_1 : w3.cell? ⟨gb103, 1, none⟩ = some (.int .i64 a0_1) := (blk_cell BK103.out 1).trans rfl
   have hcz5_2 : w3.cell? ⟨gb103, 2, none⟩ = some (.string a0_2) := (blk_cell BK103.out 2).trans rfl
   have hfz5_0 := blk_frozen BK103.out 0
   have hfz5_1 := blk_frozen BK103.out 1
   have hfz5_2 := blk_frozen BK103.out 2
   go_wp2
   go_meet
   case rel => exact ⟨_, ((a0_1 != 0)), (by first | rfl | (simp; done) | (simp [*]; done)), H', ⟨by first | omega | exact Nat.le_refl _⟩, ⟨by (with_reducible repeat (first | refine blk_drewN ?_ _ | refine blk_drew ?_ | refine blk_alloc ?_ _)); exact BK103.out⟩, ⟨by repeat (first | (with_reducible first | exact HB.out | apply below_alloc | apply pw_below_drewN | apply below_drew1 | refine below_set ?_ GE103.out) | exact HB.out)⟩⟩
  ·rw [if_neg c4] at H
   have c4b0 : (a0_0 == 4) = false := beq_eq_false_iff_ne.mpr c4
   have c4b1 : (a0_0 != 4) = true := bne_iff_ne.mpr c4
   (first | rw [c4b0] | (simp only [i64_w, i32_w]; rw [c4b0]) | skip)
   by_cases c6 : a0_2.toList = ([] : List UInt8)
   ·rw [if_pos c6] at H
    have c6b0 : (a0_2.toList == ([] : List UInt8)) = true := beq_iff_eq.mpr c6
    have c6b1 : (a0_2.toList != ([] : List UInt8)) = false := bne_eq_false_iff_eq.mpr c6
    clear c6
    have H' := Aside0.mk H
    clear H
    have hcz7_0 : w3.cell? ⟨gb103, 0, none⟩ = some (.int .i64 a0_0) := (blk_cell BK103.out 0).trans rfl
    have hcz7_1 : w3.cell? ⟨gb103, 1, none⟩ = some (.int .i64 a0_1) := (blk_cell BK103.out 1).trans rfl
    have hcz7_2 : w3.cell? ⟨gb103, 2, none⟩ = some (.string a0_2) := (blk_cell BK103.out 2).trans rfl
    have hfz7_0 := blk_frozen BK103.out 0
    have hfz7_1 := blk_frozen BK103.out 1
    have hfz7_2 := blk_frozen BK103.out 2
    go_wp2
    go_meet
    case rel => exact ⟨_, (false), (by first | rfl | (simp; done) | (simp [*]; done)), H', ⟨by first | omega | exact Nat.le_refl _⟩, ⟨by (with_reducible repeat (first | refine blk_drewN ?_ _ | refine blk_drew ?_ | refine blk_alloc ?_ _)); exact BK103.out⟩, ⟨by repeat (first | (with_reducible first | exact HB.out | apply below_alloc | apply pw_below_drewN | apply below_drew1 | refine below_set ?_ GE103.out) | exact HB.out)⟩⟩
   ·rw [if_neg c6] at H
    have c6b0 : (a0_2.toList == ([] : List UInt8)) = false := beq_eq_false_iff_ne.mpr c6
    have c6b1 : (a0_2.toList != ([] : List UInt8)) = true := bne_iff_ne.mpr c6
    have H' := Aside0.mk H
    clear H
    have hcz8_0 : w3.cell? ⟨gb103, 0, none⟩ = some (.int .i64 a0_0) := (blk_cell BK103.out 0).trans rfl
    have hcz8_1 : w3.cell? ⟨gb103, 1, none⟩ = some (.int .i64 a0_1) := (blk_cell BK103.out 1).trans rfl
    have hcz8_2 : w3.cell? ⟨gb103, 2, none⟩ = some (.string a0_2) := (blk_cell BK103.out 2).trans rfl
    have hfz8_0 := blk_frozen BK103.out 0
    have hfz8_1 := blk_frozen BK103.out 1
    have hfz8_2 := blk_frozen BK103.out 2
    go_wp2
    go_meet
    case rel => exact ⟨_, (true), (by first | rfl | (simp; done) | (simp [*]; done)), H', ⟨by first | omega | exact Nat.le_refl _⟩, ⟨by (with_reducible repeat (first | refine blk_drewN ?_ _ | refine blk_drew ?_ | refine blk_alloc ?_ _)); exact BK103.out⟩, ⟨by repeat (first | (with_reducible first | exact HB.out | apply below_alloc | apply pw_below_drewN | apply below_drew1 | refine below_set ?_ GE103.out) | exact HB.out)⟩⟩
 case rest =>
  clear HC2
  try clear p2; try clear c4; try clear c4b0; try clear c4b1; try clear c6; try clear c6b0; try clear c6b1; try clear c8; try clear hcz5_0; try clear hcz5_1; try clear hcz5_2; try clear hcz7_0; try clear hcz7_1; try clear hcz7_2; try clear hcz8_0; try clear hcz8_1; try clear hcz8_2; try clear hfz5_0; try clear hfz5_1; try clear hfz5_2; try clear hfz7_0; try clear hfz7_1; try clear hfz7_2; try clear hfz8_0; try clear hfz8_1; try clear hfz8_2
  obtain ⟨kq, x20_1, rfl, HA, HJ1, BK103, HB⟩ := hcut
  cases kq with
  | zero => exact absurd HA.out (by simp [val_isValue.j0])
  | succ kj1 =>
   have H := HA.out
   clear HA
   simp only [val_isValue.j0] at H
   by_cases c9 : x20_1 = true
   ·subst c9
    have H1 : (some false) = some r := by rw [if_pos rfl] at H; exact H
    clear H
    have H := H1
    clear H1
    obtain rfl := Option.some.inj H
    simp only [Option.some.injEq, Prod.mk.injEq] at H
    obtain ⟨rfl⟩ := H
    go_wp2
    go_ret
    exact ⟨by first | rfl | (simp [errW_none, errW_some] <;> rfl) | (simp [*, errW_none, errW_some] <;> rfl), by repeat (first | (with_reducible first | exact HB.out | apply below_alloc | apply pw_below_drewN | apply below_drew1 | refine below_set ?_ GE103.out) | exact HB.out)⟩
   ·replace c9 := Bool.eq_false_iff.mpr c9
    subst c9
    have H1 : (if a0_0 = 0 then (some (a0_1 == 0)) else (if a0_0 = 1 then (if a0_1 = 0 then (some true) else (some (a0_1 == 1))) else (if a0_0 = 2 then ((val_isNum.f a0_1).bind fun t104 => (some t104)) else (if a0_0 = 3 then ((val_isDay.f a0_1).bind fun t105 => (some t105)) else (some (a0_0 == 4)))))) = some r := by rw [if_neg (show ¬ (false = true) by decide)] at H; exact H
    clear H
    have H := H1
    clear H1
    by_cases c10 : a0_0 = 0
    ·rw [if_pos c10] at H
     have c10b0 : (a0_0 == 0) = true := beq_iff_eq.mpr c10
     have c10b1 : (a0_0 != 0) = false := bne_eq_false_iff_eq.mpr c10
     clear c10
     obtain rfl := Option.some.inj H
     simp only [Option.some.injEq, Prod.mk.injEq] at H
     obtain ⟨rfl⟩ := H
     have hcz11_0 : wc.cell? ⟨gb103, 0, none⟩ = some (.int .i64 a0_0) := (blk_cell BK103.out 0).trans rfl
     have hcz11_1 : wc.cell? ⟨gb103, 1, none⟩ = some (.int .i64 a0_1) := (blk_cell BK103.out 1).trans rfl
     have hcz11_2 : wc.cell? ⟨gb103, 2, none⟩ = some (.string a0_2) := (blk_cell BK103.out 2).trans rfl
     have hfz11_0 := blk_frozen BK103.out 0
     have hfz11_1 := blk_frozen BK103.out 1
     have hfz11_2 := blk_frozen BK103.out 2
     go_wp2
     go_ret
     exact ⟨by first | rfl | (simp [errW_none, errW_some] <;> rfl) | (simp [*, errW_none, errW_some] <;> rfl), by repeat (first | (with_reducible first | exact HB.out | apply below_alloc | apply pw_below_drewN | apply below_drew1 | refine below_set ?_ GE103.out) | exact HB.out)⟩
    ·rw [if_neg c10] at H
     have c10b0 : (a0_0 == 0) = false := beq_eq_false_iff_ne.mpr c10
     have c10b1 : (a0_0 != 0) = true := bne_iff_ne.mpr c10
     by_cases c12 : a0_0 = 1
     ·rw [if_pos c12] at H
      have c12b0 : (a0_0 == 1) = true := beq_iff_eq.mpr c12
      have c12b1 : (a0_0 != 1) = false := bne_eq_false_iff_eq.mpr c12
      clear c12
      by_cases c13 : a0_1 = 0
      ·rw [if_pos c13] at H
       have c13b0 : (a0_1 == 0) = true := beq_iff_eq.mpr c13
       have c13b1 : (a0_1 != 0) = false := bne_eq_false_iff_eq.mpr c13
       clear c13
       obtain rfl := Option.some.inj H
       simp only [Option.some.injEq, Prod.mk.injEq] at H
       obtain ⟨rfl⟩ := H
       have hcz14_0 : wc.cell? ⟨gb103, 0, none⟩ = some (.int .i64 a0_0) := (blk_cell BK103.out 0).trans rfl
       have hcz14_1 : wc.cell? ⟨gb103, 1, none⟩ = some (.int .i64 a0_1) := (blk_cell BK103.out 1).trans rfl
       have hcz14_2 : wc.cell? ⟨gb103, 2, none⟩ = some (.string a0_2) := (blk_cell BK103.out 2).trans rfl
       have hfz14_0 := blk_frozen BK103.out 0
       have hfz14_1 := blk_frozen BK103.out 1
       have hfz14_2 := blk_frozen BK103.out 2
       go_wp2
       go_ret
       exact ⟨by first | rfl | (simp [errW_none, errW_some] <;> rfl) | (simp [*, errW_none, errW_some] <;> rfl), by repeat (first | (with_reducible first | exact HB.out | apply below_alloc | apply pw_below_drewN | apply below_drew1 | refine below_set ?_ GE103.out) | exact HB.out)⟩
      ·rw [if_neg c13] at H
       have c13b0 : (a0_1 == 0) = false := beq_eq_false_iff_ne.mpr c13
       have c13b1 : (a0_1 != 0) = true := bne_iff_ne.mpr c13
       obtain rfl := Option.some.inj H
       simp only [Option.some.injEq, Prod.mk.injEq] at H
       obtain ⟨rfl⟩ := H
       have hcz15_0 : wc.cell? ⟨gb103, 0, none⟩ = some (.int .i64 a0_0) := (blk_cell BK103.out 0).trans rfl
       have hcz15_1 : wc.cell? ⟨gb103, 1, none⟩ = some (.int .i64 a0_1) := (blk_cell BK103.out 1).trans rfl
       have hcz15_2 : wc.cell? ⟨gb103, 2, none⟩ = some (.string a0_2) := (blk_cell BK103.out 2).trans rfl
       have hfz15_0 := blk_frozen BK103.out 0
       have hfz15_1 := blk_frozen BK103.out 1
       have hfz15_2 := blk_frozen BK103.out 2
       go_wp2
       go_ret
       exact ⟨by first | rfl | (simp [errW_none, errW_some] <;> rfl) | (simp [*, errW_none, errW_some] <;> rfl), by repeat (first | (with_reducible first | exact HB.out | apply below_alloc | apply pw_below_drewN | apply below_drew1 | refine below_set ?_ GE103.out) | exact HB.out)⟩
     ·rw [if_neg c12] at H
      have c12b0 : (a0_0 == 1) = false := beq_eq_false_iff_ne.mpr c12
      have c12b1 : (a0_0 != 1) = true := bne_iff_ne.mpr c12
      by_cases c16 : a0_0 = 2
      ·rw [if_pos c16] at H
       have c16b0 : (a0_0 == 2) = true := beq_iff_eq.mpr c16
       have c16b1 : (a0_0 != 2) = false := bne_eq_false_iff_eq.mpr c16
       clear c16
       replace H := Option.bind_eq_some_iff.mp H
       obtain ⟨t104, A170, H⟩ := H
       replace H : (some t104) = some r := H
       have A17 := Aside0.mk A170
       clear A170
       obtain rfl := Option.some.inj H
       simp only [Option.some.injEq, Prod.mk.injEq] at H
       obtain ⟨rfl⟩ := H
       have hcz18_0 : wc.cell? ⟨gb103, 0, none⟩ = some (.int .i64 a0_0) := (blk_cell BK103.out 0).trans rfl
       have hcz18_1 : wc.cell? ⟨gb103, 1, none⟩ = some (.int .i64 a0_1) := (blk_cell BK103.out 1).trans rfl
       have hcz18_2 : wc.cell? ⟨gb103, 2, none⟩ = some (.string a0_2) := (blk_cell BK103.out 2).trans rfl
       have hfz18_0 := blk_frozen BK103.out 0
       have hfz18_1 := blk_frozen BK103.out 1
       have hfz18_2 := blk_frozen BK103.out 2
       go_wp2_with (first | ((with_reducible refine gate_callee (f := 96) rfl ?_); refine goesL_ (some 42) rfl rfl Tryd.func96 (by kernel_rfl) rfl #[.int .i64 a0_1] rfl (by (try simp only [List.map_toArray, List.map_cons, List.map_nil]); first | done | rfl | (simp only [List.length_drop, List.length_take]; rfl)) ?_; (with_reducible refine (val_isNum.calls a0_1 t104 _ A17.out).mono ?_); rintro e w' ⟨rfl, ⟨nd, rfl⟩⟩; refine ⟨_, rfl, ?_⟩))
       go_ret
       exact ⟨by first | rfl | (simp [errW_none, errW_some] <;> rfl) | (simp [*, errW_none, errW_some] <;> rfl), by repeat (first | (with_reducible first | exact HB.out | apply below_alloc | apply pw_below_drewN | apply below_drew1 | refine below_set ?_ GE103.out) | exact HB.out)⟩
      ·rw [if_neg c16] at H
       have c16b0 : (a0_0 == 2) = false := beq_eq_false_iff_ne.mpr c16
       have c16b1 : (a0_0 != 2) = true := bne_iff_ne.mpr c16
       by_cases c19 : a0_0 = 3
       ·rw [if_pos c19] at H
        have c19b0 : (a0_0 == 3) = true := beq_iff_eq.mpr c19
        have c19b1 : (a0_0 != 3) = false := bne_eq_false_iff_eq.mpr c19
        clear c19
        replace H := Option.bind_eq_some_iff.mp H
        obtain ⟨t105, A200, H⟩ := H
        replace H : (some t105) = some r := H
        have A20 := Aside0.mk A200
        clear A200
        obtain rfl := Option.some.inj H
        simp only [Option.some.injEq, Prod.mk.injEq] at H
        obtain ⟨rfl⟩ := H
        have hcz21_0 : wc.cell? ⟨gb103, 0, none⟩ = some (.int .i64 a0_0) := (blk_cell BK103.out 0).trans rfl
        have hcz21_1 : wc.cell? ⟨gb103, 1, none⟩ = some (.int .i64 a0_1) := (blk_cell BK103.out 1).trans rfl
        have hcz21_2 : wc.cell? ⟨gb103, 2, none⟩ = some (.string a0_2) := (blk_cell BK103.out 2).trans rfl
        have hfz21_0 := blk_frozen BK103.out 0
        have hfz21_1 := blk_frozen BK103.out 1
        have hfz21_2 := blk_frozen BK103.out 2
        go_wp2_with (first | ((with_reducible refine gate_callee (f := 97) rfl ?_); refine goesL_ (some 47) rfl rfl Tryd.func97 (by kernel_rfl) rfl #[.int .i64 a0_1] rfl (by (try simp only [List.map_toArray, List.map_cons, List.map_nil]); first | done | rfl | (simp only [List.length_drop, List.length_take]; rfl)) ?_; (with_reducible refine (val_isDay.calls a0_1 t105 _ A20.out).mono ?_); rintro e w' ⟨rfl, ⟨nd, rfl⟩⟩; refine ⟨_, rfl, ?_⟩))
        go_ret
        exact ⟨by first | rfl | (simp [errW_none, errW_some] <;> rfl) | (simp [*, errW_none, errW_some] <;> rfl), by repeat (first | (with_reducible first | exact HB.out | apply below_alloc | apply pw_below_drewN | apply below_drew1 | refine below_set ?_ GE103.out) | exact HB.out)⟩
       ·rw [if_neg c19] at H
        have c19b0 : (a0_0 == 3) = false := beq_eq_false_iff_ne.mpr c19
        have c19b1 : (a0_0 != 3) = true := bne_iff_ne.mpr c19
        obtain rfl := Option.some.inj H
        simp only [Option.some.injEq, Prod.mk.injEq] at H
        obtain ⟨rfl⟩ := H
        have hcz22_0 : wc.cell? ⟨gb103, 0, none⟩ = some (.int .i64 a0_0) := (blk_cell BK103.out 0).trans rfl
        have hcz22_1 : wc.cell? ⟨gb103, 1, none⟩ = some (.int .i64 a0_1) := (blk_cell BK103.out 1).trans rfl
        have hcz22_2 : wc.cell? ⟨gb103, 2, none⟩ = some (.string a0_2) := (blk_cell BK103.out 2).trans rfl
        have hfz22_0 := blk_frozen BK103.out 0
        have hfz22_1 := blk_frozen BK103.out 1
        have hfz22_2 := blk_frozen BK103.out 2
        go_wp2
        go_ret
        exact ⟨by first | rfl | (simp [errW_none, errW_some] <;> rfl) | (simp [*, errW_none, errW_some] <;> rfl), by repeat (first | (with_reducible first | exact HB.out | apply below_alloc | apply pw_below_drewN | apply below_drew1 | refine below_set ?_ GE103.out) | exact HB.out)⟩
end Go.Proofs.YtnkejhfbkgfedaaDoor.PA
