-- Written by a program of this session (wip/merge.py): the texts of this claim, joined.
import Derived.Test.YtnkejhfbkgfedaaDoorMKeyRanges1
import Derived.Test.YtnkejhfbkgfedaaDoorMKeyRanges2
import Derived.Test.YtnkejhfbkgfedaaDoorMKeyRanges3
import Derived.Test.YtnkejhfbkgfedaaDoorMKeyRanges4
import Derived.Test.YtnkejhfbkgfedaaDoorMKeyRanges5
import Derived.Test.YtnkejhfbkgfedaaDoorMKeyRanges6
import Derived.Test.YtnkejhfbkgfedaaDoorMKeyRanges7
import Derived.Test.YtnkejhfbkgfedaaDoorMKeyRanges8
import Derived.Test.YtnkejhfbkgfedaaDoorMKeyRanges9
import Derived.Test.YtnkejhfbkgfedaaDoorMKeyRanges10
import Derived.Test.YtnkejhfbkgfedaaDoorMKeyRanges11
import Derived.Test.YtnkejhfbkgfedaaDoorMKeyRanges12
import Derived.Test.YtnkejhfbkgfedaaDoorMKeyRanges13
import Derived.Test.YtnkejhfbkgfedaaDoorMKeyRanges14
import Derived.Test.YtnkejhfbkgfedaaDoorMKeyRanges15
import Derived.Test.YtnkejhfbkgfedaaDoorMKeyRanges16
import Derived.Test.YtnkejhfbkgfedaaDoorMKeyRanges17
import Derived.Test.YtnkejhfbkgfedaaDoorMKeyRanges18
import Derived.Test.YtnkejhfbkgfedaaDoorMKeyRanges19
import Derived.Test.YtnkejhfbkgfedaaDoorMKeyRanges20
import Derived.Test.YtnkejhfbkgfedaaDoorMKeyRanges21
namespace Go.Proofs.YtnkejhfbkgfedaaDoor.PA
end Go.Proofs.YtnkejhfbkgfedaaDoor.PA
namespace Go.Proofs.YtnkejhfbkgfedaaDoor.PB
end Go.Proofs.YtnkejhfbkgfedaaDoor.PB
namespace Go.Proofs.YtnkejhfbkgfedaaDoor.PC
end Go.Proofs.YtnkejhfbkgfedaaDoor.PC
namespace Go.Proofs.YtnkejhfbkgfedaaDoor.H1
end Go.Proofs.YtnkejhfbkgfedaaDoor.H1
namespace Go.Proofs.YtnkejhfbkgfedaaDoor.L1
end Go.Proofs.YtnkejhfbkgfedaaDoor.L1
namespace Go.Proofs.YtnkejhfbkgfedaaDoor.L1
open Go.RowKit Go.Proofs.YtnkejhfbkgfedaaDoorW.PrintWords Go.Proofs.YtnkejhfbkgfedaaDoor.PA Go.Proofs.YtnkejhfbkgfedaaDoor.H1 Go.Proofs.YtnkejhfbkgfedaaDoor.PB
set_option linter.unusedVariables false
set_option linter.unusedSimpArgs false
theorem neg_toNat (b : UInt8) : (neg b).toNat = 255 - b.toNat := by
  have h := toI_neg b
  have h1 := b.toNat_lt
  unfold toI at h
  omega
theorem cmp_neg : ∀ (a b : List UInt8), a.length = b.length → Lib.compareBytes (a.map neg) (b.map neg) = -Lib.compareBytes a b
  | [], [], _ => by decide
  | [], _ :: _, h => by simp at h
  | _ :: _, [], h => by simp at h
  | x :: a, y :: b, h => by
    have ih := cmp_neg a b (by simpa using h)
    have hx := x.toNat_lt
    have hy := y.toNat_lt
    rw [List.map_cons, List.map_cons, cmp_cons, cmp_cons, neg_toNat, neg_toNat, ih]
    by_cases h1 : x.toNat < y.toNat
    · rw [if_neg (by omega), if_pos (by omega), if_pos h1]; decide
    · by_cases h2 : y.toNat < x.toNat
      · rw [if_pos (by omega), if_neg h1, if_pos h2]
      · rw [if_neg (by omega), if_neg (by omega), if_neg h1, if_neg h2]
theorem z8 : (0 : UInt8).toNat = 0 := rfl
theorem nz (x : UInt8) (h : ¬ x = 0) : 0 < x.toNat := by
  rcases Nat.eq_zero_or_pos x.toNat with h1 | h1
  · exact absurd (UInt8.toNat_inj.1 (h1.trans z8.symm)) h
  · exact h1
theorem cmp_esc : ∀ (a b : List UInt8), Lib.compareBytes (escL a ++ [0, 0]) (escL b ++ [0, 0]) = Lib.compareBytes a b
  | [], [] => by decide
  | [], y :: b => by
    simp only [escL, List.nil_append]
    by_cases hy : y = 0
    · subst hy; rfl
    · have := nz y hy
      rw [if_neg hy, List.cons_append, cmp_cons, z8, if_pos this]; rfl
  | x :: a, [] => by
    simp only [escL, List.nil_append]
    by_cases hx : x = 0
    · subst hx; rfl
    · have := nz x hx
      rw [if_neg hx, List.cons_append, cmp_cons, z8, if_neg (by omega), if_pos this]; rfl
  | x :: a, y :: b => by
    have ih := cmp_esc a b
    simp only [escL]
    rw [cmp_cons]
    by_cases hx : x = 0
    · subst hx
      by_cases hy : y = 0
      · subst hy
        rw [if_pos rfl, if_pos rfl]
        simp only [List.cons_append]
        rw [cmp_cons, cmp_cons, if_neg (by omega), if_neg (by omega), if_neg (by omega), if_neg (by omega), if_neg (by omega), if_neg (by omega), ih]
      · have := nz y hy
        rw [if_pos rfl, if_neg hy]
        simp only [List.cons_append]
        rw [cmp_cons, z8, if_pos this, if_pos this]
    · have h1 := nz x hx
      by_cases hy : y = 0
      · subst hy
        rw [if_neg hx, if_pos rfl]
        simp only [List.cons_append]
        rw [cmp_cons, z8, if_neg (by omega), if_pos h1, if_neg (by omega), if_pos h1]
      · rw [if_neg hx, if_neg hy, List.cons_append, List.cons_append, cmp_cons, ih]
theorem n0 : (neg 0).toNat = 255 := neg_toNat 0
theorem n1 : (neg 1).toNat = 254 := neg_toNat 1
theorem cmp_negesc : ∀ (a b : List UInt8), Lib.compareBytes ((escL a ++ [0, 0]).map neg) ((escL b ++ [0, 0]).map neg) = -Lib.compareBytes a b
  | [], [] => by decide
  | [], y :: b => by
    simp only [escL, List.nil_append]
    by_cases hy : y = 0
    · subst hy
      rw [if_pos rfl]
      simp only [List.cons_append, List.map_cons]
      rw [cmp_cons, cmp_cons, n0, n1]
      rfl
    · have := nz y hy
      have h255 := y.toNat_lt
      rw [if_neg hy]
      simp only [List.cons_append, List.map_cons]
      rw [cmp_cons, n0, neg_toNat, if_neg (by omega), if_pos (by omega)]; rfl
  | x :: a, [] => by
    simp only [escL, List.nil_append]
    by_cases hx : x = 0
    · subst hx
      rw [if_pos rfl]
      simp only [List.cons_append, List.map_cons]
      rw [cmp_cons, cmp_cons, n0, n1]
      rfl
    · have := nz x hx
      have h255 := x.toNat_lt
      rw [if_neg hx]
      simp only [List.cons_append, List.map_cons]
      rw [cmp_cons, n0, neg_toNat, if_pos (by omega)]; rfl
  | x :: a, y :: b => by
    have ih := cmp_negesc a b
    have hx255 := x.toNat_lt
    have hy255 := y.toNat_lt
    simp only [escL]
    rw [cmp_cons]
    by_cases hx : x = 0
    · subst hx
      by_cases hy : y = 0
      · subst hy
        rw [if_pos rfl, if_pos rfl]
        simp only [List.cons_append, List.map_cons]
        rw [cmp_cons, cmp_cons, if_neg (by omega), if_neg (by omega), if_neg (by omega), if_neg (by omega), if_neg (by omega), if_neg (by omega), ih]
      · have := nz y hy
        rw [if_pos rfl, if_neg hy]
        simp only [List.cons_append, List.map_cons]
        rw [cmp_cons, n0, neg_toNat, z8, if_neg (by omega), if_pos (by omega), if_pos this]; rfl
    · have h1 := nz x hx
      by_cases hy : y = 0
      · subst hy
        rw [if_neg hx, if_pos rfl]
        simp only [List.cons_append, List.map_cons]
        rw [cmp_cons, n0, neg_toNat, z8, if_pos (by omega), if_neg (by omega), if_pos h1]
      · rw [if_neg hx, if_neg hy]
        simp only [List.cons_append, List.map_cons]
        rw [cmp_cons, ih, neg_toNat, neg_toNat]
        by_cases h2 : x.toNat < y.toNat
        · rw [if_neg (by omega), if_pos (by omega), if_pos h2]; decide
        · by_cases h3 : y.toNat < x.toNat
          · rw [if_pos (by omega), if_neg h2, if_pos h3]
          · rw [if_neg (by omega), if_neg (by omega), if_neg h2, if_neg h3]
theorem cmp_snoc : ∀ (a b : List UInt8) (x y : UInt8), a.length = b.length → Lib.compareBytes (a ++ [x]) (b ++ [y]) = if Lib.compareBytes a b = 0 then (if x.toNat < y.toNat then -1 else if y.toNat < x.toNat then 1 else 0) else Lib.compareBytes a b
  | [], [], x, y, _ => by
    rw [List.nil_append, List.nil_append, cmp_cons]
    rfl
  | [], _ :: _, _, _, h => by simp at h
  | _ :: _, [], _, _, h => by simp at h
  | u :: a, v :: b, x, y, h => by
    have ih := cmp_snoc a b x y (by simpa using h)
    rw [List.cons_append, List.cons_append, cmp_cons, cmp_cons, ih]
    by_cases h1 : u.toNat < v.toNat
    · rw [if_pos h1, if_pos h1, if_neg (by decide)]
    · by_cases h2 : v.toNat < u.toNat
      · rw [if_neg h1, if_pos h2, if_neg h1, if_pos h2, if_neg (by decide)]
      · rw [if_neg h1, if_neg h2, if_neg h1, if_neg h2]
theorem ofNat_toNat (n : Nat) (h : n < 256) : (UInt8.ofNat n).toNat = n := by rw [UInt8.toNat_ofNat']; omega
theorem cmp_be : ∀ (k m n : Nat), m < 256 ^ k → n < 256 ^ k → Lib.compareBytes (be k m) (be k n) = cmpI (m : Int) (n : Int)
  | 0, m, n, hm, hn => by
    have : m = 0 := by simp at hm; omega
    have : n = 0 := by simp at hn; omega
    subst_vars
    rfl
  | k + 1, m, n, hm, hn => by
    have ih := cmp_be k (m / 256) (n / 256) (by rw [Nat.pow_succ] at hm; exact Nat.div_lt_of_lt_mul (by omega)) (by rw [Nat.pow_succ] at hn; exact Nat.div_lt_of_lt_mul (by omega))
    rw [be, be, cmp_snoc _ _ _ _ (by rw [be_len, be_len]), ih, ofNat_toNat _ (Nat.mod_lt _ (by decide)), ofNat_toNat _ (Nat.mod_lt _ (by decide))]
    by_cases h1 : m / 256 < n / 256
    · have e : cmpI ((m / 256 : Nat) : Int) ((n / 256 : Nat) : Int) = -1 := by unfold cmpI; rw [if_pos (by omega)]
      rw [e, if_neg (by decide)]
      unfold cmpI
      rw [if_pos (by omega)]
    · by_cases h2 : n / 256 < m / 256
      · have e : cmpI ((m / 256 : Nat) : Int) ((n / 256 : Nat) : Int) = 1 := by unfold cmpI; rw [if_neg (by omega), if_pos (by omega)]
        rw [e, if_neg (by decide)]
        unfold cmpI
        rw [if_neg (by omega), if_pos (by omega)]
      · have e : cmpI ((m / 256 : Nat) : Int) ((n / 256 : Nat) : Int) = 0 := by unfold cmpI; rw [if_neg (by omega), if_neg (by omega)]
        rw [e, if_pos rfl]
        unfold cmpI
        by_cases h3 : m % 256 < n % 256
        · rw [if_pos h3, if_pos (by omega)]
        · by_cases h4 : n % 256 < m % 256
          · rw [if_neg h3, if_pos h4, if_neg (by omega), if_pos (by omega)]
          · rw [if_neg h3, if_neg h4, if_neg (by omega), if_neg (by omega)]
end Go.Proofs.YtnkejhfbkgfedaaDoor.L1
namespace Go.Proofs.YtnkejhfbkgfedaaDoor.L1
open Go.RowKit Go.Proofs.YtnkejhfbkgfedaaDoorW.PrintWords Go.Proofs.YtnkejhfbkgfedaaDoor.PA Go.Proofs.YtnkejhfbkgfedaaDoor.H1 Go.Proofs.YtnkejhfbkgfedaaDoor.PB
set_option linter.unusedVariables false
set_option linter.unusedSimpArgs false
theorem kind_range {a n : Int} {s : ByteArray} (h : validV a n s = 0) : 0 ≤ a ∧ a ≤ 4 := by
  obtain ⟨_, h⟩ := valid_cases h
  omega
theorem kind_nat {a : Int} (h0 : 0 ≤ a) (h1 : a ≤ 4) : (UInt8.ofNat a.toNat).toNat = a.toNat := ofNat_toNat _ (by omega)
theorem negL_cons (d : Bool) (x : UInt8) (l : List UInt8) : negL d (x :: l) = (if d = true then neg x else x) :: negL d l := by
  unfold negL
  cases d <;> rfl
theorem cmp_be_neg (d : Bool) (k m n : Nat) (hm : m < 256 ^ k) (hn : n < 256 ^ k) : Lib.compareBytes (negL d (be k m)) (negL d (be k n)) = if d = true then -cmpI (m : Int) (n : Int) else cmpI (m : Int) (n : Int) := by
  unfold negL
  cases d
  · rw [if_neg (by decide), if_neg (by decide), if_neg (by decide), cmp_be k m n hm hn]
  · rw [if_pos rfl, if_pos rfl, if_pos rfl, cmp_neg _ _ (by rw [be_len, be_len]), cmp_be k m n hm hn]
theorem cmp_same_head (x : UInt8) (a b : List UInt8) : Lib.compareBytes (x :: a) (x :: b) = Lib.compareBytes a b := by rw [cmp_cons, if_neg (by omega), if_neg (by omega)]
theorem cmp_key_kind {a n : Int} {s : ByteArray} {m : Int} {t : ByteArray} (hv : validV a n s = 0) (hw : validV a m t = 0) (p c : Int) (h : a ≠ 0) (d : Bool) :
    Lib.compareBytes (negL d (keyB a n s.data.toList p c)) (negL d (keyB a m t.data.toList p c)) =
      if d = true then -(if a = 4 then Lib.compareBytes ((s.data.toList.take 48).map (wt p c)) ((t.data.toList.take 48).map (wt p c)) else cmpI n m)
      else (if a = 4 then Lib.compareBytes ((s.data.toList.take 48).map (wt p c)) ((t.data.toList.take 48).map (wt p c)) else cmpI n m) := by
  obtain ⟨hs, hc⟩ := valid_cases hv
  obtain ⟨ht, hc2⟩ := valid_cases hw
  unfold keyB
  rw [negL_cons, negL_cons, cmp_same_head]
  rcases hc with ⟨rfl, rfl⟩ | ⟨h0, ⟨rfl, rfl⟩ | ⟨rfl, hn⟩ | ⟨rfl, h1, h2⟩ | ⟨rfl, h1, h2⟩⟩
  · have e4 : (if (4 : Int) = 4 then Lib.compareBytes ((s.data.toList.take 48).map (wt p c)) ((t.data.toList.take 48).map (wt p c)) else cmpI 0 m) = Lib.compareBytes ((s.data.toList.take 48).map (wt p c)) ((t.data.toList.take 48).map (wt p c)) := if_pos rfl
    rw [e4, if_neg (show ¬ (4 : Int) = 1 by decide), if_neg (show ¬ (4 : Int) = 2 by decide), if_neg (show ¬ (4 : Int) = 3 by decide), if_pos rfl, if_neg (show ¬ (4 : Int) = 1 by decide), if_neg (show ¬ (4 : Int) = 2 by decide), if_neg (show ¬ (4 : Int) = 3 by decide), if_pos rfl]
    unfold keyW negL
    cases d
    · rw [if_neg (by decide), if_neg (by decide), if_neg (by decide), cmp_esc]
    · rw [if_pos rfl, if_pos rfl, if_pos rfl, cmp_negesc]
  · exact absurd rfl h
  · have hm : m = 0 ∨ m = 1 := by omega
    have e4 : (if (1 : Int) = 4 then Lib.compareBytes ((s.data.toList.take 48).map (wt p c)) ((t.data.toList.take 48).map (wt p c)) else cmpI n m) = cmpI n m := if_neg (by decide)
    rw [e4, if_pos rfl, if_pos rfl, cmp_be_neg d 1 n.toNat m.toNat (by omega) (by omega), show ((n.toNat : Nat) : Int) = n by omega, show ((m.toNat : Nat) : Int) = m by omega]
  · have hm : -1000000000000000 ≤ m ∧ m ≤ 1000000000000000 := by omega
    have hp : (256 : Nat) ^ 8 = 18446744073709551616 := by decide
    have e4 : (if (2 : Int) = 4 then Lib.compareBytes ((s.data.toList.take 48).map (wt p c)) ((t.data.toList.take 48).map (wt p c)) else cmpI n m) = cmpI n m := if_neg (by decide)
    rw [e4, if_neg (show ¬ (2 : Int) = 1 by decide), if_pos rfl, if_neg (show ¬ (2 : Int) = 1 by decide), if_pos rfl, cmp_be_neg d 8 _ _ (by omega) (by omega)]
    have e : cmpI (((n + 1000000000000000).toNat : Nat) : Int) (((m + 1000000000000000).toNat : Nat) : Int) = cmpI n m := by
      unfold cmpI
      by_cases h3 : n < m
      · rw [if_pos (by omega), if_pos h3]
      · by_cases h4 : n > m
        · rw [if_neg (by omega), if_pos (by omega), if_neg h3, if_pos h4]
        · rw [if_neg (by omega), if_neg (by omega), if_neg h3, if_neg h4]
    rw [e]
  · have hm : 0 ≤ m ∧ m ≤ 3652059 := by omega
    have hp : (256 : Nat) ^ 4 = 4294967296 := by decide
    have e4 : (if (3 : Int) = 4 then Lib.compareBytes ((s.data.toList.take 48).map (wt p c)) ((t.data.toList.take 48).map (wt p c)) else cmpI n m) = cmpI n m := if_neg (by decide)
    rw [e4, if_neg (show ¬ (3 : Int) = 1 by decide), if_neg (show ¬ (3 : Int) = 2 by decide), if_pos rfl, if_neg (show ¬ (3 : Int) = 1 by decide), if_neg (show ¬ (3 : Int) = 2 by decide), if_pos rfl, cmp_be_neg d 4 _ _ (by omega) (by omega), show ((n.toNat : Nat) : Int) = n by omega, show ((m.toNat : Nat) : Int) = m by omega]
end Go.Proofs.YtnkejhfbkgfedaaDoor.L1
namespace Go.Proofs.YtnkejhfbkgfedaaDoor.PA
open Go.RowKit Go.Proofs.YtnkejhfbkgfedaaDoorW.PrintWords Go.Proofs.YtnkejhfbkgfedaaDoorW.PrintLast Go.Proofs.YtnkejhfbkgfedaaDoorW.PrintMore
attribute [local go_sem] max2_int min2_int max_two min_two max_three min_three max_four min_four   -- for this text's walks alone
set_option linter.unusedVariables false
set_option linter.unusedSimpArgs false
def cabinetrylaw09_operators.f  : Option (List ByteArray) := some (([(⟨#[61]⟩ : ByteArray), (⟨#[61, 61]⟩ : ByteArray), (⟨#[60]⟩ : ByteArray), (⟨#[60, 61]⟩ : ByteArray), (⟨#[62]⟩ : ByteArray), (⟨#[62, 61]⟩ : ByteArray)] : List ByteArray))
set_option maxHeartbeats 8000000 in
set_option maxRecDepth 100000 in
theorem cabinetrylaw09_operators.calls  (r : List ByteArray) (w : World) (h : cabinetrylaw09_operators.f  = some r) :
  Calls Tryd.prog 24 #[] w fun e w' => ∃ v0_ : Value, e = .returned (v0_) ∧ Kd.R Kd.string 9 w' w.heap.size (fun _ => True) v0_ r ∧ Below w.heap.size w w' := by
 have HB := Aside0.mk (Below.refl w.heap.size w)
 have H : (some (([(⟨#[61]⟩ : ByteArray), (⟨#[61, 61]⟩ : ByteArray), (⟨#[60]⟩ : ByteArray), (⟨#[60, 61]⟩ : ByteArray), (⟨#[62]⟩ : ByteArray), (⟨#[62, 61]⟩ : ByteArray)] : List ByteArray))) = some r := h
 clear h
 obtain ⟨y269, hy269⟩ : ∃ y_ : List ByteArray, y_ = (([(⟨#[61]⟩ : ByteArray), (⟨#[61, 61]⟩ : ByteArray), (⟨#[60]⟩ : ByteArray), (⟨#[60, 61]⟩ : ByteArray), (⟨#[62]⟩ : ByteArray), (⟨#[62, 61]⟩ : ByteArray)] : List ByteArray)) := ⟨_, rfl⟩
 replace H : (some y269) = some r := by first | (rw [hy269]; with_reducible exact H) | (have H2_ := (Option.bind_some _ _).symm.trans H; rw [hy269]; with_reducible exact H2_) | (have H2_ := (Option.bind_some _ _).symm.trans H; with_reducible exact H2_) | with_reducible exact H | (rw [hy269]; exact H) | exact H
 have Ny269 := Aside0.mk hy269
 clear hy269
 obtain rfl := Option.some.inj H
 simp only [Option.some.injEq, Prod.mk.injEq] at H
 obtain ⟨rfl⟩ := H
 go_enter Tryd.func24, Tryd.ntmps24
 go_wp2_with (first | ((with_reducible refine gate_dst (N := 1) rfl ?_); refine Kd.R_lit Kd.string _ 9 ?hg (N := 1) ?hd (xs := ([(⟨#[61]⟩ : ByteArray), (⟨#[61, 61]⟩ : ByteArray), (⟨#[60]⟩ : ByteArray), (⟨#[60, 61]⟩ : ByteArray), (⟨#[62]⟩ : ByteArray), (⟨#[62, 61]⟩ : ByteArray)] : List ByteArray)) (inner := [.string (⟨#[61]⟩ : ByteArray), .string (⟨#[61, 61]⟩ : ByteArray), .string (⟨#[60]⟩ : ByteArray), .string (⟨#[60, 61]⟩ : ByteArray), .string (⟨#[62]⟩ : ByteArray), .string (⟨#[62, 61]⟩ : ByteArray)]) (ok := fun _ => True) (okp := fun _ => True) ?hr ?hp (fun _ hk => hk) trivial (Below.refl _ _) (Nat.le_refl _) (by simp) ?_; (case hd => rfl); (case hg => rfl); (case hr => first | (go_simp; done) | (go_simp; rfl)); (case hp => exact (Reps.one (show Kd.M Kd.string _ _ _ (⟨#[61]⟩ : ByteArray) [.string (⟨#[61]⟩ : ByteArray)] from rfl) (Reps.one (show Kd.M Kd.string _ _ _ (⟨#[61, 61]⟩ : ByteArray) [.string (⟨#[61, 61]⟩ : ByteArray)] from rfl) (Reps.one (show Kd.M Kd.string _ _ _ (⟨#[60]⟩ : ByteArray) [.string (⟨#[60]⟩ : ByteArray)] from rfl) (Reps.one (show Kd.M Kd.string _ _ _ (⟨#[60, 61]⟩ : ByteArray) [.string (⟨#[60, 61]⟩ : ByteArray)] from rfl) (Reps.one (show Kd.M Kd.string _ _ _ (⟨#[62]⟩ : ByteArray) [.string (⟨#[62]⟩ : ByteArray)] from rfl) (Reps.one (show Kd.M Kd.string _ _ _ (⟨#[62, 61]⟩ : ByteArray) [.string (⟨#[62, 61]⟩ : ByteArray)] from rfl) (Reps.none _ _)))))))); intro v270 w1 ho2 hb hg_ hnew_; clear hg_ hnew_; (first | rw [← Ny269.out] at ho2 | (simp only [Int.reduceToNat] at ho2; rw [← Ny269.out] at ho2)); have n0_ := Aside0.mk (Kd.R_lower ho2 (below_size (by repeat (first | (with_reducible first | exact HB.out | apply below_alloc | apply pw_below_drewN | apply below_drew1) | exact HB.out)))); have n1_ := Aside0.mk (below_step (by repeat (first | (with_reducible first | exact HB.out | apply below_alloc | apply pw_below_drewN | apply below_drew1) | exact HB.out)) hb); clear HB; have HO271 := n0_; have HB := n1_; clear n0_ n1_; clear hb ho2))
 go_ret
 exact ⟨_, by first | rfl | (simp [errW_none, errW_some] <;> rfl) | (simp [*, errW_none, errW_some] <;> rfl), by (with_reducible repeat (first | apply Kd.R_alloc | apply Kd.R_drewN | apply Kd.R_drew)); exact HO271.out, by repeat (first | (with_reducible first | exact HB.out | apply below_alloc | apply pw_below_drewN | apply below_drew1) | exact HB.out)⟩
def strings_Contains.f (a0 : ByteArray) (a1 : ByteArray) : Option (Bool) := (strings_Index.f a0 a1).bind fun t272 => (some (decide (t272 ≥ 0)))
set_option maxHeartbeats 8000000 in
set_option maxRecDepth 100000 in
theorem strings_Contains.calls (a0 : ByteArray) (a1 : ByteArray) (r : Bool) (w : World) (h : strings_Contains.f a0 a1 = some r) (hm_ : Aside0 (Hm.HM w)) :
  Calls Tryd.prog 58 #[.string a0, .string a1] w fun e w' => e = .returned (.bool r) ∧ Below w.heap.size w w' := by
 have HB := Aside0.mk (Below.refl w.heap.size w)
 have H : ((strings_Index.f a0 a1).bind fun t272 => (some (decide (t272 ≥ 0)))) = some r := h
 clear h
 replace H := Option.bind_eq_some_iff.mp H
 obtain ⟨t272, A30, H⟩ := H
 replace H : (some (decide (t272 ≥ 0))) = some r := H
 have A3 := Aside0.mk A30
 clear A30
 obtain rfl := Option.some.inj H
 simp only [Option.some.injEq, Prod.mk.injEq] at H
 obtain ⟨rfl⟩ := H
 go_enter Tryd.func58, Tryd.ntmps58
 go_wp2_with (first | ((with_reducible refine gate_callee (f := 79) rfl ?_); refine goesL_ (some 7) rfl rfl Tryd.func79 (by kernel_rfl) rfl #[.string a0, .string a1] rfl (by (try simp only [List.map_toArray, List.map_cons, List.map_nil]); first | done | rfl | (simp only [List.length_drop, List.length_take]; rfl)) ?_; (with_reducible refine (strings_Index.calls a0 a1 t272 _ A3.out (Hm.keep hm_ (by repeat (first | (with_reducible first | exact HB.out | apply below_alloc | apply pw_below_drewN | apply below_drew1) | exact HB.out)))).mono ?_); rintro e w4 ⟨rfl, hb⟩; refine ⟨_, rfl, ?_⟩; have n0_ := Aside0.mk (below_step (by repeat (first | (with_reducible first | exact HB.out | apply below_alloc | apply pw_below_drewN | apply below_drew1) | exact HB.out)) hb); clear HB; have HB := n0_; clear n0_; (try clear hb); (try clear hb2); (try clear hk); (try clear hi)))
 go_ret
 exact ⟨by first | rfl | (simp [errW_none, errW_some] <;> rfl) | (simp [*, errW_none, errW_some] <;> rfl), by repeat (first | (with_reducible first | exact HB.out | apply below_alloc | apply pw_below_drewN | apply below_drew1) | exact HB.out)⟩
end Go.Proofs.YtnkejhfbkgfedaaDoor.PA
