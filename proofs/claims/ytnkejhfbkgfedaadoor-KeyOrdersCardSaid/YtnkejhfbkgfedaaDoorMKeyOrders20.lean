-- Written by a program of this session (wip/merge.py): the texts of this claim, joined.
import Derived.Test.YtnkejhfbkgfedaaDoorMKeyOrders1
import Derived.Test.YtnkejhfbkgfedaaDoorMKeyOrders2
import Derived.Test.YtnkejhfbkgfedaaDoorMKeyOrders3
import Derived.Test.YtnkejhfbkgfedaaDoorMKeyOrders4
import Derived.Test.YtnkejhfbkgfedaaDoorMKeyOrders5
import Derived.Test.YtnkejhfbkgfedaaDoorMKeyOrders6
import Derived.Test.YtnkejhfbkgfedaaDoorMKeyOrders7
import Derived.Test.YtnkejhfbkgfedaaDoorMKeyOrders8
import Derived.Test.YtnkejhfbkgfedaaDoorMKeyOrders9
import Derived.Test.YtnkejhfbkgfedaaDoorMKeyOrders10
import Derived.Test.YtnkejhfbkgfedaaDoorMKeyOrders11
import Derived.Test.YtnkejhfbkgfedaaDoorMKeyOrders12
import Derived.Test.YtnkejhfbkgfedaaDoorMKeyOrders13
import Derived.Test.YtnkejhfbkgfedaaDoorMKeyOrders14
import Derived.Test.YtnkejhfbkgfedaaDoorMKeyOrders15
import Derived.Test.YtnkejhfbkgfedaaDoorMKeyOrders16
import Derived.Test.YtnkejhfbkgfedaaDoorMKeyOrders17
import Derived.Test.YtnkejhfbkgfedaaDoorMKeyOrders18
import Derived.Test.YtnkejhfbkgfedaaDoorMKeyOrders19
namespace Go.Proofs.YtnkejhfbkgfedaaDoor.PA
end Go.Proofs.YtnkejhfbkgfedaaDoor.PA
namespace Go.Proofs.YtnkejhfbkgfedaaDoor.PB
end Go.Proofs.YtnkejhfbkgfedaaDoor.PB
namespace Go.Proofs.YtnkejhfbkgfedaaDoor.PC
end Go.Proofs.YtnkejhfbkgfedaaDoor.PC
namespace Go.Proofs.YtnkejhfbkgfedaaDoor.H1
end Go.Proofs.YtnkejhfbkgfedaaDoor.H1
namespace Go.Proofs.YtnkejhfbkgfedaaDoor.L1
end Go.Proofs.YtnkejhfbkgfedaaDoor.L1
namespace Go.Proofs.YtnkejhfbkgfedaaDoor.L1
open Go.RowKit Go.Proofs.YtnkejhfbkgfedaaDoorW.PrintWords Go.Proofs.YtnkejhfbkgfedaaDoor.PA Go.Proofs.YtnkejhfbkgfedaaDoor.H1 Go.Proofs.YtnkejhfbkgfedaaDoor.PB
set_option linter.unusedVariables false
set_option linter.unusedSimpArgs false
theorem neg_toNat (b : UInt8) : (neg b).toNat = 255 - b.toNat := by
  have h := toI_neg b
  have h1 := b.toNat_lt
  unfold toI at h
  omega
theorem cmp_neg : ∀ (a b : List UInt8), a.length = b.length → Lib.compareBytes (a.map neg) (b.map neg) = -Lib.compareBytes a b
  | [], [], _ => by decide
  | [], _ :: _, h => by simp at h
  | _ :: _, [], h => by simp at h
  | x :: a, y :: b, h => by
    have ih := cmp_neg a b (by simpa using h)
    have hx := x.toNat_lt
    have hy := y.toNat_lt
    rw [List.map_cons, List.map_cons, cmp_cons, cmp_cons, neg_toNat, neg_toNat, ih]
    by_cases h1 : x.toNat < y.toNat
    · rw [if_neg (by omega), if_pos (by omega), if_pos h1]; decide
    · by_cases h2 : y.toNat < x.toNat
      · rw [if_pos (by omega), if_neg h1, if_pos h2]
      · rw [if_neg (by omega), if_neg (by omega), if_neg h1, if_neg h2]
theorem z8 : (0 : UInt8).toNat = 0 := rfl
theorem nz (x : UInt8) (h : ¬ x = 0) : 0 < x.toNat := by
  rcases Nat.eq_zero_or_pos x.toNat with h1 | h1
  · exact absurd (UInt8.toNat_inj.1 (h1.trans z8.symm)) h
  · exact h1
theorem cmp_esc : ∀ (a b : List UInt8), Lib.compareBytes (escL a ++ [0, 0]) (escL b ++ [0, 0]) = Lib.compareBytes a b
  | [], [] => by decide
  | [], y :: b => by
    simp only [escL, List.nil_append]
    by_cases hy : y = 0
    · subst hy; rfl
    · have := nz y hy
      rw [if_neg hy, List.cons_append, cmp_cons, z8, if_pos this]; rfl
  | x :: a, [] => by
    simp only [escL, List.nil_append]
    by_cases hx : x = 0
    · subst hx; rfl
    · have := nz x hx
      rw [if_neg hx, List.cons_append, cmp_cons, z8, if_neg (by omega), if_pos this]; rfl
  | x :: a, y :: b => by
    have ih := cmp_esc a b
    simp only [escL]
    rw [cmp_cons]
    by_cases hx : x = 0
    · subst hx
      by_cases hy : y = 0
      · subst hy
        rw [if_pos rfl, if_pos rfl]
        simp only [List.cons_append]
        rw [cmp_cons, cmp_cons, if_neg (by omega), if_neg (by omega), if_neg (by omega), if_neg (by omega), if_neg (by omega), if_neg (by omega), ih]
      · have := nz y hy
        rw [if_pos rfl, if_neg hy]
        simp only [List.cons_append]
        rw [cmp_cons, z8, if_pos this, if_pos this]
    · have h1 := nz x hx
      by_cases hy : y = 0
      · subst hy
        rw [if_neg hx, if_pos rfl]
        simp only [List.cons_append]
        rw [cmp_cons, z8, if_neg (by omega), if_pos h1, if_neg (by omega), if_pos h1]
      · rw [if_neg hx, if_neg hy, List.cons_append, List.cons_append, cmp_cons, ih]
theorem n0 : (neg 0).toNat = 255 := neg_toNat 0
theorem n1 : (neg 1).toNat = 254 := neg_toNat 1
theorem cmp_negesc : ∀ (a b : List UInt8), Lib.compareBytes ((escL a ++ [0, 0]).map neg) ((escL b ++ [0, 0]).map neg) = -Lib.compareBytes a b
  | [], [] => by decide
  | [], y :: b => by
    simp only [escL, List.nil_append]
    by_cases hy : y = 0
    · subst hy
      rw [if_pos rfl]
      simp only [List.cons_append, List.map_cons]
      rw [cmp_cons, cmp_cons, n0, n1]
      rfl
    · have := nz y hy
      have h255 := y.toNat_lt
      rw [if_neg hy]
      simp only [List.cons_append, List.map_cons]
      rw [cmp_cons, n0, neg_toNat, if_neg (by omega), if_pos (by omega)]; rfl
  | x :: a, [] => by
    simp only [escL, List.nil_append]
    by_cases hx : x = 0
    · subst hx
      rw [if_pos rfl]
      simp only [List.cons_append, List.map_cons]
      rw [cmp_cons, cmp_cons, n0, n1]
      rfl
    · have := nz x hx
      have h255 := x.toNat_lt
      rw [if_neg hx]
      simp only [List.cons_append, List.map_cons]
      rw [cmp_cons, n0, neg_toNat, if_pos (by omega)]; rfl
  | x :: a, y :: b => by
    have ih := cmp_negesc a b
    have hx255 := x.toNat_lt
    have hy255 := y.toNat_lt
    simp only [escL]
    rw [cmp_cons]
    by_cases hx : x = 0
    · subst hx
      by_cases hy : y = 0
      · subst hy
        rw [if_pos rfl, if_pos rfl]
        simp only [List.cons_append, List.map_cons]
        rw [cmp_cons, cmp_cons, if_neg (by omega), if_neg (by omega), if_neg (by omega), if_neg (by omega), if_neg (by omega), if_neg (by omega), ih]
      · have := nz y hy
        rw [if_pos rfl, if_neg hy]
        simp only [List.cons_append, List.map_cons]
        rw [cmp_cons, n0, neg_toNat, z8, if_neg (by omega), if_pos (by omega), if_pos this]; rfl
    · have h1 := nz x hx
      by_cases hy : y = 0
      · subst hy
        rw [if_neg hx, if_pos rfl]
        simp only [List.cons_append, List.map_cons]
        rw [cmp_cons, n0, neg_toNat, z8, if_pos (by omega), if_neg (by omega), if_pos h1]
      · rw [if_neg hx, if_neg hy]
        simp only [List.cons_append, List.map_cons]
        rw [cmp_cons, ih, neg_toNat, neg_toNat]
        by_cases h2 : x.toNat < y.toNat
        · rw [if_neg (by omega), if_pos (by omega), if_pos h2]; decide
        · by_cases h3 : y.toNat < x.toNat
          · rw [if_pos (by omega), if_neg h2, if_pos h3]
          · rw [if_neg (by omega), if_neg (by omega), if_neg h2, if_neg h3]
theorem cmp_snoc : ∀ (a b : List UInt8) (x y : UInt8), a.length = b.length → Lib.compareBytes (a ++ [x]) (b ++ [y]) = if Lib.compareBytes a b = 0 then (if x.toNat < y.toNat then -1 else if y.toNat < x.toNat then 1 else 0) else Lib.compareBytes a b
  | [], [], x, y, _ => by
    rw [List.nil_append, List.nil_append, cmp_cons]
    rfl
  | [], _ :: _, _, _, h => by simp at h
  | _ :: _, [], _, _, h => by simp at h
  | u :: a, v :: b, x, y, h => by
    have ih := cmp_snoc a b x y (by simpa using h)
    rw [List.cons_append, List.cons_append, cmp_cons, cmp_cons, ih]
    by_cases h1 : u.toNat < v.toNat
    · rw [if_pos h1, if_pos h1, if_neg (by decide)]
    · by_cases h2 : v.toNat < u.toNat
      · rw [if_neg h1, if_pos h2, if_neg h1, if_pos h2, if_neg (by decide)]
      · rw [if_neg h1, if_neg h2, if_neg h1, if_neg h2]
theorem ofNat_toNat (n : Nat) (h : n < 256) : (UInt8.ofNat n).toNat = n := by rw [UInt8.toNat_ofNat']; omega
theorem cmp_be : ∀ (k m n : Nat), m < 256 ^ k → n < 256 ^ k → Lib.compareBytes (be k m) (be k n) = cmpI (m : Int) (n : Int)
  | 0, m, n, hm, hn => by
    have : m = 0 := by simp at hm; omega
    have : n = 0 := by simp at hn; omega
    subst_vars
    rfl
  | k + 1, m, n, hm, hn => by
    have ih := cmp_be k (m / 256) (n / 256) (by rw [Nat.pow_succ] at hm; exact Nat.div_lt_of_lt_mul (by omega)) (by rw [Nat.pow_succ] at hn; exact Nat.div_lt_of_lt_mul (by omega))
    rw [be, be, cmp_snoc _ _ _ _ (by rw [be_len, be_len]), ih, ofNat_toNat _ (Nat.mod_lt _ (by decide)), ofNat_toNat _ (Nat.mod_lt _ (by decide))]
    by_cases h1 : m / 256 < n / 256
    · have e : cmpI ((m / 256 : Nat) : Int) ((n / 256 : Nat) : Int) = -1 := by unfold cmpI; rw [if_pos (by omega)]
      rw [e, if_neg (by decide)]
      unfold cmpI
      rw [if_pos (by omega)]
    · by_cases h2 : n / 256 < m / 256
      · have e : cmpI ((m / 256 : Nat) : Int) ((n / 256 : Nat) : Int) = 1 := by unfold cmpI; rw [if_neg (by omega), if_pos (by omega)]
        rw [e, if_neg (by decide)]
        unfold cmpI
        rw [if_neg (by omega), if_pos (by omega)]
      · have e : cmpI ((m / 256 : Nat) : Int) ((n / 256 : Nat) : Int) = 0 := by unfold cmpI; rw [if_neg (by omega), if_neg (by omega)]
        rw [e, if_pos rfl]
        unfold cmpI
        by_cases h3 : m % 256 < n % 256
        · rw [if_pos h3, if_pos (by omega)]
        · by_cases h4 : n % 256 < m % 256
          · rw [if_neg h3, if_pos h4, if_neg (by omega), if_pos (by omega)]
          · rw [if_neg h3, if_neg h4, if_neg (by omega), if_neg (by omega)]
theorem order_l (p c : Int) (h : pageOk p c) (s t : ByteArray) (hs : s.size ≤ 140737488351232) (ht : t.size ≤ 140737488351232) : ∀ (n i k : Nat), s.size - i = n → i ≤ s.size → i ≤ t.size → 2 * n + 24 ≤ k →
    cabinetryref02_Order.l0 k s t p c (i : Int) = some (Lib.compareBytes ((s.data.toList.drop i).map (wt p c)) ((t.data.toList.drop i).map (wt p c)), 0) := by
  intro n
  have ls := ba_len s
  have lt := ba_len t
  induction n with
  | zero =>
    intro i k hn hi hj hk
    obtain ⟨k, rfl⟩ : ∃ m, k = m + 1 + 1 := ⟨k - 2, by omega⟩
    simp only [cabinetryref02_Order.l0, cabinetryref02_Order.j1]
    rw [if_neg (by omega), if_neg (by decide), List.drop_eq_nil_of_le (show s.data.toList.length ≤ i by omega)]
    by_cases h1 : s.size < t.size
    · rw [if_pos (by omega), getI _ i 0 (show i < t.data.toList.length by omega)]; rfl
    · rw [if_neg (by omega), if_neg (by omega), List.drop_eq_nil_of_le (by omega)]; rfl
  | succ n ih =>
    intro i k hn hi hj hk
    obtain ⟨k, rfl⟩ : ∃ m, k = m + 1 + 1 := ⟨k - 2, by omega⟩
    have h1 : i < s.data.toList.length := by omega
    simp only [cabinetryref02_Order.l0, cabinetryref02_Order.j1]
    rw [if_pos (by omega), getI _ i 0 h1]
    by_cases h2 : i < t.size
    · have h2' : i < t.data.toList.length := by omega
      rw [if_pos (decide_eq_true (by omega)), if_pos (by omega), if_pos (by omega), bt_toI s i (by omega), bt_toI t i h2, refWeight_f k (by omega) _ p c h]
      simp only [Option.bind_some]
      rw [if_pos (by omega), refWeight_f k (by omega) _ p c h, getI _ i 0 h2', List.map_cons, List.map_cons, cmp_cons]
      simp only [Option.bind_some]
      unfold toI
      by_cases h3 : (wt p c s.data.toList[i]).toNat < (wt p c t.data.toList[i]).toNat
      · rw [if_pos (by omega), if_pos h3]
      · by_cases h4 : (wt p c t.data.toList[i]).toNat < (wt p c s.data.toList[i]).toNat
        · rw [if_neg (by omega), if_pos (by omega), if_neg h3, if_pos h4]
        · rw [if_neg (by omega), if_neg (by omega), if_neg h3, if_neg h4, w64 (by omega) (by omega)]
          have := ih (i + 1) k (by omega) (by omega) (by omega) (by omega)
          rwa [show ((i : Int) + 1) = ((i + 1 : Nat) : Int) by omega]
    · rw [if_neg (by rw [decide_eq_false (by omega)]; decide), List.drop_eq_nil_of_le (show t.data.toList.length ≤ i by omega), if_neg (by omega), if_pos (by omega)]
      rfl
theorem refAsked2_f (k : Nat) (hk : 7 ≤ k) (s t : ByteArray) (p c : Int) (h : pageOk p c) (hs : s.size ≤ 2048) (ht : t.size ≤ 2048) : cabinetryref02_asked.f k 2048 [s, t] c [p] = some 0 := by
  obtain ⟨k, rfl⟩ : ∃ m, k = m + 1 + 1 + 1 + 1 + 1 := ⟨k - 5, by omega⟩
  unfold cabinetryref02_asked.f
  simp only [cabinetryref02_asked.l0, cabinetryref02_asked.l1]
  have e : rdOf ByteArray.empty [s, t] 0 = s := rfl
  have e1 : rdOf ByteArray.empty [s, t] 1 = t := rfl
  have e2 : rd [p] 0 = p := rfl
  obtain ⟨hp, hc⟩ := h
  rw [if_pos (by simp), if_pos (by omega), e, if_neg (by omega), w64 (x := 0 + 1) (by omega) (by omega), show (0 : Int) + 1 = 1 from rfl, if_pos (by simp), if_pos (by omega), e1, if_neg (by omega), w64 (by omega) (by omega), if_neg (by simp), if_pos (by simp), if_pos (by omega), e2, if_neg (by omega), if_neg (by omega), if_neg (by simp)]
  rcases hc with rfl | rfl
  · rw [if_pos rfl]
  · rw [if_neg (by decide), if_pos rfl]
theorem order_f (k : Nat) (p c : Int) (h : pageOk p c) (s t : ByteArray) (hs : s.size ≤ 2048) (ht : t.size ≤ 2048) (hk : 5000 ≤ k) :
    cabinetryref02_Order.f k s t p c = some (Lib.compareBytes (s.data.toList.map (wt p c)) (t.data.toList.map (wt p c)), 0) := by
  unfold cabinetryref02_Order.f
  rw [refAsked2_f k (by omega) s t p c h hs ht]
  simp only [Option.bind_some, if_true]
  have := order_l p c h s t (by omega) (by omega) s.size 0 k (by omega) (by omega) (by omega) (by omega)
  simpa using this
end Go.Proofs.YtnkejhfbkgfedaaDoor.L1
namespace Go.Proofs.YtnkejhfbkgfedaaDoor.L1
open Go.RowKit Go.Proofs.YtnkejhfbkgfedaaDoorW.PrintWords Go.Proofs.YtnkejhfbkgfedaaDoor.PA Go.Proofs.YtnkejhfbkgfedaaDoor.H1 Go.Proofs.YtnkejhfbkgfedaaDoor.PB
set_option linter.unusedVariables false
set_option linter.unusedSimpArgs false
theorem kind_range {a n : Int} {s : ByteArray} (h : validV a n s = 0) : 0 ≤ a ∧ a ≤ 4 := by
  obtain ⟨_, h⟩ := valid_cases h
  omega
theorem kind_nat {a : Int} (h0 : 0 ≤ a) (h1 : a ≤ 4) : (UInt8.ofNat a.toNat).toNat = a.toNat := ofNat_toNat _ (by omega)
theorem keyB_nil (n : Int) (s : List UInt8) (p c : Int) : keyB 0 n s p c = [0] := rfl
theorem negL_cons (d : Bool) (x : UInt8) (l : List UInt8) : negL d (x :: l) = (if d = true then neg x else x) :: negL d l := by
  unfold negL
  cases d <;> rfl
theorem cmp_key_nil {a n : Int} {s : ByteArray} {b m : Int} {t : ByteArray} (hv : validV a n s = 0) (hw : validV b m t = 0) (p c : Int) (h : a = 0 ∨ b = 0) (d : Bool) :
    Lib.compareBytes (negL d (keyB a n s.data.toList p c)) (negL d (keyB b m t.data.toList p c)) = if d = true then -cmpI (mn a 1) (mn b 1) else cmpI (mn a 1) (mn b 1) := by
  have ha := kind_range hv
  have hb := kind_range hw
  have h5 : ∀ x : Int, 0 ≤ x → x ≤ 4 → (neg (UInt8.ofNat x.toNat)).toNat = 255 - x.toNat := fun x h1 h2 => by rw [neg_toNat, kind_nat h1 h2]
  rcases h with rfl | rfl
  · by_cases hb0 : b = 0
    · subst hb0
      rw [keyB_nil, keyB_nil, cmp_self]
      cases d <;> rfl
    · have e : cmpI (mn 0 1) (mn b 1) = -1 := by unfold cmpI mn; split <;> split <;> first | rfl | omega
      obtain ⟨r, hr⟩ : ∃ r, keyB b m t.data.toList p c = UInt8.ofNat b.toNat :: r := ⟨_, rfl⟩
      rw [e, keyB_nil, hr, negL_cons, negL_cons, cmp_cons]
      cases d
      · show (if (0 : UInt8).toNat < (UInt8.ofNat b.toNat).toNat then (-1 : Int) else _) = -1
        rw [kind_nat hb.1 hb.2, if_pos (by rw [z8]; omega)]
      · show (if (neg 0).toNat < (neg (UInt8.ofNat b.toNat)).toNat then (-1 : Int) else if (neg (UInt8.ofNat b.toNat)).toNat < (neg 0).toNat then 1 else _) = 1
        rw [h5 b hb.1 hb.2, n0, if_neg (by omega), if_pos (by omega)]
  · by_cases ha0 : a = 0
    · subst ha0
      rw [keyB_nil, keyB_nil, cmp_self]
      cases d <;> rfl
    · have e : cmpI (mn a 1) (mn 0 1) = 1 := by unfold cmpI mn; split <;> split <;> first | rfl | omega
      obtain ⟨r, hr⟩ : ∃ r, keyB a n s.data.toList p c = UInt8.ofNat a.toNat :: r := ⟨_, rfl⟩
      rw [e, keyB_nil, hr, negL_cons, negL_cons, cmp_cons]
      cases d
      · show (if (UInt8.ofNat a.toNat).toNat < (0 : UInt8).toNat then (-1 : Int) else if (0 : UInt8).toNat < (UInt8.ofNat a.toNat).toNat then 1 else _) = 1
        rw [kind_nat ha.1 ha.2, z8, if_neg (by omega), if_pos (by omega)]
      · show (if (neg (UInt8.ofNat a.toNat)).toNat < (neg 0).toNat then (-1 : Int) else _) = -1
        rw [h5 a ha.1 ha.2, n0, if_pos (by omega)]
theorem cmp_be_neg (d : Bool) (k m n : Nat) (hm : m < 256 ^ k) (hn : n < 256 ^ k) : Lib.compareBytes (negL d (be k m)) (negL d (be k n)) = if d = true then -cmpI (m : Int) (n : Int) else cmpI (m : Int) (n : Int) := by
  unfold negL
  cases d
  · rw [if_neg (by decide), if_neg (by decide), if_neg (by decide), cmp_be k m n hm hn]
  · rw [if_pos rfl, if_pos rfl, if_pos rfl, cmp_neg _ _ (by rw [be_len, be_len]), cmp_be k m n hm hn]
theorem cmp_same_head (x : UInt8) (a b : List UInt8) : Lib.compareBytes (x :: a) (x :: b) = Lib.compareBytes a b := by rw [cmp_cons, if_neg (by omega), if_neg (by omega)]
theorem cmp_key_kind {a n : Int} {s : ByteArray} {m : Int} {t : ByteArray} (hv : validV a n s = 0) (hw : validV a m t = 0) (p c : Int) (h : a ≠ 0) (d : Bool) :
    Lib.compareBytes (negL d (keyB a n s.data.toList p c)) (negL d (keyB a m t.data.toList p c)) =
      if d = true then -(if a = 4 then Lib.compareBytes ((s.data.toList.take 48).map (wt p c)) ((t.data.toList.take 48).map (wt p c)) else cmpI n m)
      else (if a = 4 then Lib.compareBytes ((s.data.toList.take 48).map (wt p c)) ((t.data.toList.take 48).map (wt p c)) else cmpI n m) := by
  obtain ⟨hs, hc⟩ := valid_cases hv
  obtain ⟨ht, hc2⟩ := valid_cases hw
  unfold keyB
  rw [negL_cons, negL_cons, cmp_same_head]
  rcases hc with ⟨rfl, rfl⟩ | ⟨h0, ⟨rfl, rfl⟩ | ⟨rfl, hn⟩ | ⟨rfl, h1, h2⟩ | ⟨rfl, h1, h2⟩⟩
  · have e4 : (if (4 : Int) = 4 then Lib.compareBytes ((s.data.toList.take 48).map (wt p c)) ((t.data.toList.take 48).map (wt p c)) else cmpI 0 m) = Lib.compareBytes ((s.data.toList.take 48).map (wt p c)) ((t.data.toList.take 48).map (wt p c)) := if_pos rfl
    rw [e4, if_neg (show ¬ (4 : Int) = 1 by decide), if_neg (show ¬ (4 : Int) = 2 by decide), if_neg (show ¬ (4 : Int) = 3 by decide), if_pos rfl, if_neg (show ¬ (4 : Int) = 1 by decide), if_neg (show ¬ (4 : Int) = 2 by decide), if_neg (show ¬ (4 : Int) = 3 by decide), if_pos rfl]
    unfold keyW negL
    cases d
    · rw [if_neg (by decide), if_neg (by decide), if_neg (by decide), cmp_esc]
    · rw [if_pos rfl, if_pos rfl, if_pos rfl, cmp_negesc]
  · exact absurd rfl h
  · have hm : m = 0 ∨ m = 1 := by omega
    have e4 : (if (1 : Int) = 4 then Lib.compareBytes ((s.data.toList.take 48).map (wt p c)) ((t.data.toList.take 48).map (wt p c)) else cmpI n m) = cmpI n m := if_neg (by decide)
    rw [e4, if_pos rfl, if_pos rfl, cmp_be_neg d 1 n.toNat m.toNat (by omega) (by omega), show ((n.toNat : Nat) : Int) = n by omega, show ((m.toNat : Nat) : Int) = m by omega]
  · have hm : -1000000000000000 ≤ m ∧ m ≤ 1000000000000000 := by omega
    have hp : (256 : Nat) ^ 8 = 18446744073709551616 := by decide
    have e4 : (if (2 : Int) = 4 then Lib.compareBytes ((s.data.toList.take 48).map (wt p c)) ((t.data.toList.take 48).map (wt p c)) else cmpI n m) = cmpI n m := if_neg (by decide)
    rw [e4, if_neg (show ¬ (2 : Int) = 1 by decide), if_pos rfl, if_neg (show ¬ (2 : Int) = 1 by decide), if_pos rfl, cmp_be_neg d 8 _ _ (by omega) (by omega)]
    have e : cmpI (((n + 1000000000000000).toNat : Nat) : Int) (((m + 1000000000000000).toNat : Nat) : Int) = cmpI n m := by
      unfold cmpI
      by_cases h3 : n < m
      · rw [if_pos (by omega), if_pos h3]
      · by_cases h4 : n > m
        · rw [if_neg (by omega), if_pos (by omega), if_neg h3, if_pos h4]
        · rw [if_neg (by omega), if_neg (by omega), if_neg h3, if_neg h4]
    rw [e]
  · have hm : 0 ≤ m ∧ m ≤ 3652059 := by omega
    have hp : (256 : Nat) ^ 4 = 4294967296 := by decide
    have e4 : (if (3 : Int) = 4 then Lib.compareBytes ((s.data.toList.take 48).map (wt p c)) ((t.data.toList.take 48).map (wt p c)) else cmpI n m) = cmpI n m := if_neg (by decide)
    rw [e4, if_neg (show ¬ (3 : Int) = 1 by decide), if_neg (show ¬ (3 : Int) = 2 by decide), if_pos rfl, if_neg (show ¬ (3 : Int) = 1 by decide), if_neg (show ¬ (3 : Int) = 2 by decide), if_pos rfl, cmp_be_neg d 4 _ _ (by omega) (by omega), show ((n.toNat : Nat) : Int) = n by omega, show ((m.toNat : Nat) : Int) = m by omega]
theorem first_f (s : ByteArray) : cabinetrylaw09_first.f s = some ⟨(s.data.toList.take 48).toArray⟩ := by
  unfold cabinetrylaw09_first.f
  by_cases h : (s.size : Int) > 48
  · rw [if_pos h, if_pos (by decide), if_pos (by omega), ba_take]
  · rw [if_neg h, List.take_of_length_le (by rw [ba_len]; omega), ba_self]
theorem valid_first {a n : Int} {s : ByteArray} (h : validV a n s = 0) : validV a n ⟨(s.data.toList.take 48).toArray⟩ = 0 := by
  obtain ⟨hs, hc⟩ := valid_cases h
  have hz : (⟨(s.data.toList.take 48).toArray⟩ : ByteArray).size ≤ 48 := by rw [ba_size, List.length_take]; omega
  unfold validV
  rw [if_neg (by omega), if_pos]
  rcases hc with h1 | ⟨h0, h1⟩
  · exact Or.inl h1
  · refine Or.inr ⟨by omega, ?_, h1⟩
    rw [ByteArray.toList_eq] at h0 ⊢
    rw [ba_mk, h0]
    rfl
end Go.Proofs.YtnkejhfbkgfedaaDoor.L1
