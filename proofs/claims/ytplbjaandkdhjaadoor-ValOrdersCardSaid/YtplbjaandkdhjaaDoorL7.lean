/- Comparing: what Compare gives, in the program and in the reference, and that it is an order. -/
import Derived.Test.YtplbjaandkdhjaaDoorPAx24
import Derived.Test.YtplbjaandkdhjaaDoorPAx25
import Derived.Test.YtplbjaandkdhjaaDoorPAx26
import Derived.Test.YtplbjaandkdhjaaDoorPBx8
import Derived.Test.YtplbjaandkdhjaaDoorL1
import Derived.Test.YtplbjaandkdhjaaDoorL2
import Derived.Test.YtplbjaandkdhjaaDoorL4
import Derived.Test.YtplbjaandkdhjaaDoorPAx0
import Derived.Test.YtplbjaandkdhjaaDoorH0
namespace Go.Proofs.YtplbjaandkdhjaaDoor.L1
open Go.RowKit Go.Proofs.YtplbjaandkdhjaaDoorW.PrintWords Go.Proofs.YtplbjaandkdhjaaDoor.PA Go.Proofs.YtplbjaandkdhjaaDoor.PB Go.Proofs.YtplbjaandkdhjaaDoor.H1

/-- How two numbers compare. -/
def cmpI (a b : Int) : Int := if a < b then -1 else if a > b then 1 else 0
theorem compareInts_f (a b : Int) : cabinetryref01_CompareInts.f a b = some (cmpI a b) := by
  unfold cabinetryref01_CompareInts.f cmpI
  split
  · rfl
  · split <;> rfl
theorem cmpCompare_f (a b : Int) : cmp_Compare_int.f a b = some (cmpI a b) := by
  unfold cmp_Compare_int.f cmp_isNaN_int.f cmpI
  simp only [bne_self_eq_false, Option.bind_some, Bool.false_eq_true, if_false]
  split
  · rfl
  · split <;> rfl
theorem compareTexts_l (s t : ByteArray) (hs : s.size ≤ 140737488351232) : ∀ (n i k : Nat), s.size - i = n → i ≤ s.size → i ≤ t.size → 2 * n + 2 ≤ k →
    cabinetryref01_CompareTexts.l0 k s t (i : Int) = some (Lib.compareBytes (s.data.toList.drop i) (t.data.toList.drop i)) := by
  intro n
  induction n with
  | zero =>
    intro i k hn hi hj hk
    obtain ⟨k1, rfl⟩ : ∃ k1, k = k1 + 1 + 1 := ⟨k - 2, by omega⟩
    have e : i = s.size := by omega
    subst e
    simp only [cabinetryref01_CompareTexts.l0]
    rw [if_neg (by omega)]
    simp only [cabinetryref01_CompareTexts.j1]
    rw [if_neg (by decide), compareInts_f]
    simp only [Option.bind_some]
    rw [List.drop_eq_nil_of_le (by rw [ba_len]; exact Nat.le_refl _)]
    by_cases h : s.size = t.size
    · rw [List.drop_eq_nil_of_le (by rw [ba_len]; omega)]
      simp [Lib.compareBytes, cmpI, h]
    · have hl : s.size < t.data.toList.length := by rw [ba_len]; omega
      rw [List.drop_eq_getElem_cons hl]
      simp only [Lib.compareBytes, cmpI]
      rw [if_pos (by omega)]
  | succ n ih =>
    intro i k hn hi hj hk
    obtain ⟨k1, rfl⟩ : ∃ k1, k = k1 + 1 + 1 := ⟨k - 2, by omega⟩
    have hl : i < s.data.toList.length := by rw [ba_len]; omega
    simp only [cabinetryref01_CompareTexts.l0]
    rw [if_pos (by omega), List.drop_eq_getElem_cons hl]
    simp only [cabinetryref01_CompareTexts.j1]
    by_cases h : i < t.size
    · have hl2 : i < t.data.toList.length := by rw [ba_len]; omega
      rw [if_pos (by simpa using h), if_pos (by omega), if_pos (by omega), if_pos (by omega), bt_get s i (by omega), bt_get t i h, List.drop_eq_getElem_cons hl2]
      simp only [Lib.compareBytes, UInt8.lt_iff_toNat_lt]
      have b1 := (s.data.toList[i]).toNat_lt
      have b2 := (t.data.toList[i]).toNat_lt
      by_cases he : (s.data.toList[i]).toNat = (t.data.toList[i]).toNat
      · rw [if_pos (by omega), if_neg (by omega), if_neg (by omega), w64 (by omega) (by omega)]
        have := ih (i + 1) k1 (by omega) (by omega) (by omega) (by omega)
        simpa using this
      · rw [if_neg (by omega), compareInts_f, w64 (by omega) (by omega), w64 (by omega) (by omega)]
        simp only [Option.bind_some, cmpI]
        by_cases hc : (s.data.toList[i]).toNat < (t.data.toList[i]).toNat
        · rw [if_pos (by omega), if_pos hc]
        · rw [if_neg (by omega), if_neg hc, if_pos (by omega), if_pos (by omega)]
    · rw [if_neg (by simpa using h), compareInts_f]
      have e : i = t.size := by omega
      rw [show t.data.toList.drop i = [] from List.drop_eq_nil_of_le (by rw [ba_len]; omega)]
      simp only [Option.bind_some, Lib.compareBytes, cmpI]
      rw [if_neg (by omega), if_pos (by omega)]
theorem compareTexts_f (s t : ByteArray) (hs : s.size ≤ 140737488351232) (k : Nat) (hk : 2 * s.size + 2 ≤ k) :
    cabinetryref01_CompareTexts.f k s t = some (Lib.compareBytes s.data.toList t.data.toList) := by
  have := compareTexts_l s t hs s.size 0 k (by omega) (by omega) (by omega) hk
  simpa [cabinetryref01_CompareTexts.f] using this
/-- What Compare gives. -/
def cmpV (a n : Int) (s : ByteArray) (b m : Int) (t : ByteArray) : Int × Int :=
  if bothV a n s b m t = 0 then (if a = b ∧ a ≠ 0 then (if a = 4 then (Lib.compareBytes s.data.toList t.data.toList, 0) else (cmpI n m, 0)) else (0, 6)) else (0, bothV a n s b m t)
theorem compare_f (k : Nat) (hk : 5000 ≤ k) (a n : Int) (s : ByteArray) (b m : Int) (t : ByteArray) : val_Compare.f k a n s b m t = some (cmpV a n s b m t) := by
  obtain ⟨k, rfl⟩ : ∃ k1, k = k1 + 1 := ⟨k - 1, by omega⟩
  unfold val_Compare.f cmpV
  rw [both_f]
  simp only [Option.bind_some]
  split
  · simp only [val_Compare.j0, strings_Compare.f, cmpCompare_f, Option.bind_some]
    by_cases h : a = b
    · rw [if_pos h]
      by_cases h0 : a = 0
      · simp [h0]
      · have e0 : (a == 0) = false := beq_eq_false_iff_ne.mpr h0
        rw [e0, if_neg (show ¬ (false = true) by decide), if_pos (show a = b ∧ a ≠ 0 from ⟨h, h0⟩)]
        by_cases h4 : a = 4
        · rw [if_pos h4, if_pos h4]
        · rw [if_neg h4, if_neg h4]
    · rw [if_neg h, if_neg (fun x : a = b ∧ a ≠ 0 => h x.1)]
      simp only [if_true]
  · rfl
theorem refCompare_f (k : Nat) (hk : 5000 ≤ k) (a n : Int) (s : ByteArray) (b m : Int) (t : ByteArray) : cabinetryref01_Compare.f k a n s b m t = some (cmpV a n s b m t) := by
  obtain ⟨k, rfl⟩ : ∃ k1, k = k1 + 1 := ⟨k - 1, by omega⟩
  unfold cabinetryref01_Compare.f cmpV
  rw [refBoth_f]
  simp only [Option.bind_some]
  split
  · rename_i hv
    have hva : validV a n s = 0 := by
      unfold bothV at hv
      by_cases h : validV a n s = 0
      · exact h
      · rw [if_neg h] at hv; exact hv
    have hsz := valid_size hva
    simp only [cabinetryref01_Compare.j0, compareInts_f, Option.bind_some]
    by_cases h : a = b
    · rw [if_pos h]
      by_cases h0 : a = 0
      · simp [h0]
      · have e0 : (a == 0) = false := beq_eq_false_iff_ne.mpr h0
        rw [e0, if_neg (show ¬ (false = true) by decide), if_pos (show a = b ∧ a ≠ 0 from ⟨h, h0⟩), compareTexts_f s t (by omega) k (by omega)]
        by_cases h4 : a = 4
        · rw [if_pos h4, if_pos h4]; rfl
        · rw [if_neg h4, if_neg h4]
    · rw [if_neg h, if_neg (fun x : a = b ∧ a ≠ 0 => h x.1)]
      simp only [if_true]
  · rfl

theorem cmpI_swap (a b : Int) : cmpI a b = -cmpI b a := by
  unfold cmpI
  by_cases h1 : a < b <;> by_cases h2 : b < a <;> simp [h1, h2] <;> omega
theorem cmpI_trans {a b c : Int} (h1 : cmpI a b ≤ 0) (h2 : cmpI b c ≤ 0) : cmpI a c ≤ 0 := by
  unfold cmpI at *
  by_cases p : a < b <;> by_cases q : b < a <;> by_cases r : b < c <;> by_cases u : c < b <;> by_cases v : a < c <;> by_cases y : c < a <;> simp_all <;> omega
theorem cmpB_bound : ∀ a b : List UInt8, -1 ≤ Lib.compareBytes a b ∧ Lib.compareBytes a b ≤ 1
  | [], [] => by simp [Lib.compareBytes]
  | [], _ :: _ => by simp [Lib.compareBytes]
  | _ :: _, [] => by simp [Lib.compareBytes]
  | x :: a, y :: b => by
    have := cmpB_bound a b
    simp only [Lib.compareBytes]
    split
    · omega
    · split <;> omega
theorem cmpB_swap : ∀ a b : List UInt8, Lib.compareBytes a b = -Lib.compareBytes b a
  | [], [] => by simp [Lib.compareBytes]
  | [], _ :: _ => by simp [Lib.compareBytes]
  | _ :: _, [] => by simp [Lib.compareBytes]
  | x :: a, y :: b => by
    have := cmpB_swap a b
    simp only [Lib.compareBytes, UInt8.lt_iff_toNat_lt]
    by_cases p : x.toNat < y.toNat <;> by_cases q : y.toNat < x.toNat <;> simp [p, q] <;> omega
theorem cmpB_trans : ∀ a b c : List UInt8, Lib.compareBytes a b ≤ 0 → Lib.compareBytes b c ≤ 0 → Lib.compareBytes a c ≤ 0
  | [], _, [] => by simp [Lib.compareBytes]
  | [], _, _ :: _ => by simp [Lib.compareBytes]
  | _ :: _, [], _ => by simp [Lib.compareBytes]
  | _ :: _, _ :: _, [] => by simp [Lib.compareBytes]
  | x :: a, y :: b, z :: c => by
    have := cmpB_trans a b c
    simp only [Lib.compareBytes, UInt8.lt_iff_toNat_lt]
    intro h1 h2
    by_cases p : x.toNat < y.toNat <;> by_cases q : y.toNat < z.toNat <;> by_cases r : x.toNat < z.toNat <;> by_cases p2 : y.toNat < x.toNat <;> by_cases q2 : z.toNat < y.toNat <;> by_cases r2 : z.toNat < x.toNat <;> simp_all <;> omega
theorem bothV_zero (a n : Int) (s : ByteArray) (b m : Int) (t : ByteArray) : bothV a n s b m t = 0 ↔ validV a n s = 0 ∧ validV b m t = 0 := by
  unfold bothV
  constructor
  · intro h
    by_cases h1 : validV a n s = 0
    · rw [if_pos h1] at h; exact ⟨h1, h⟩
    · rw [if_neg h1] at h; exact absurd h h1
  · rintro ⟨h1, h2⟩
    rw [if_pos h1, h2]
/-- When Compare gives no error. -/
theorem cmpV_ok (a n : Int) (s : ByteArray) (b m : Int) (t : ByteArray) : (cmpV a n s b m t).2 = 0 ↔ validV a n s = 0 ∧ validV b m t = 0 ∧ a = b ∧ a ≠ 0 := by
  have hb := bothV_zero a n s b m t
  unfold cmpV
  by_cases h : bothV a n s b m t = 0
  · rw [if_pos h]
    have := hb.1 h
    by_cases h2 : a = b ∧ a ≠ 0
    · rw [if_pos h2]
      have e : (if a = 4 then (Lib.compareBytes s.data.toList t.data.toList, (0 : Int)) else (cmpI n m, 0)).2 = 0 := by split <;> rfl
      rw [e]
      exact ⟨fun _ => ⟨this.1, this.2, h2.1, h2.2⟩, fun _ => rfl⟩
    · rw [if_neg h2]
      exact ⟨fun x => absurd x (by decide), fun x => absurd ⟨x.2.2.1, x.2.2.2⟩ h2⟩
  · rw [if_neg h]
    exact ⟨fun x => absurd x h, fun x => absurd (hb.2 ⟨x.1, x.2.1⟩) h⟩
theorem cmpV_val {a n : Int} {s : ByteArray} {b m : Int} {t : ByteArray} (h : (cmpV a n s b m t).2 = 0) : (cmpV a n s b m t).1 = if a = 4 then Lib.compareBytes s.data.toList t.data.toList else cmpI n m := by
  have h' := (cmpV_ok a n s b m t).1 h
  unfold cmpV
  rw [if_pos ((bothV_zero a n s b m t).2 ⟨h'.1, h'.2.1⟩), if_pos h'.2.2]
  split <;> rfl
end Go.Proofs.YtplbjaandkdhjaaDoor.L1
