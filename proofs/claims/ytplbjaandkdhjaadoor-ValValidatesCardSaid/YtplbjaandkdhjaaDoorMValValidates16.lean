-- Written by a program of this session (wip/merge.py): the texts of this claim, joined.
import Derived.Test.YtplbjaandkdhjaaDoorMValValidates1
import Derived.Test.YtplbjaandkdhjaaDoorMValValidates2
import Derived.Test.YtplbjaandkdhjaaDoorMValValidates3
import Derived.Test.YtplbjaandkdhjaaDoorMValValidates4
import Derived.Test.YtplbjaandkdhjaaDoorMValValidates5
import Derived.Test.YtplbjaandkdhjaaDoorMValValidates9
import Derived.Test.YtplbjaandkdhjaaDoorMValValidates12
import Derived.Test.YtplbjaandkdhjaaDoorMValValidates13
import Derived.Test.YtplbjaandkdhjaaDoorMValValidates14
import Derived.Test.YtplbjaandkdhjaaDoorMValValidates15
namespace Go.Proofs.YtplbjaandkdhjaaDoor.PA
end Go.Proofs.YtplbjaandkdhjaaDoor.PA
namespace Go.Proofs.YtplbjaandkdhjaaDoor.PB
end Go.Proofs.YtplbjaandkdhjaaDoor.PB
namespace Go.Proofs.YtplbjaandkdhjaaDoor.PC
end Go.Proofs.YtplbjaandkdhjaaDoor.PC
namespace Go.Proofs.YtplbjaandkdhjaaDoor.H1
end Go.Proofs.YtplbjaandkdhjaaDoor.H1
namespace Go.Proofs.YtplbjaandkdhjaaDoor.L1
end Go.Proofs.YtplbjaandkdhjaaDoor.L1
namespace Go.Proofs.YtplbjaandkdhjaaDoor.L1
open Go.RowKit Go.Proofs.YtplbjaandkdhjaaDoorW.PrintWords Go.Proofs.YtplbjaandkdhjaaDoor.PA Go.Proofs.YtplbjaandkdhjaaDoor.PB Go.Proofs.YtplbjaandkdhjaaDoor.H1
def digs (n : Nat) : List UInt8 := if h : n < 10 then [UInt8.ofNat (48 + n)] else digs (n / 10) ++ [UInt8.ofNat (48 + n % 10)]
termination_by n
decreasing_by omega
theorem digs_small {n : Nat} (h : n < 10) : digs n = [UInt8.ofNat (48 + n)] := by rw [digs, dif_pos h]
theorem digs_big {n : Nat} (h : ¬ n < 10) : digs n = digs (n / 10) ++ [UInt8.ofNat (48 + n % 10)] := by rw [digs, dif_neg h]
theorem digs_len (k : Nat) : ∀ n, n < 10 ^ k → 1 ≤ k → 1 ≤ (digs n).length ∧ (digs n).length ≤ k := by
  induction k with
  | zero => intro n _ h; omega
  | succ k ih =>
    intro n h _
    by_cases hs : n < 10
    · rw [digs_small hs]; simp
    · rw [digs_big hs, List.length_append, List.length_singleton]
      have hk : 1 ≤ k := by
        rcases Nat.eq_zero_or_pos k with rfl | h'
        · simp at h; omega
        · exact h'
      have := ih (n / 10) (by rw [Nat.pow_succ] at h; omega) hk
      omega
theorem ten_cut (d : Nat) (h : d < 10) : (⟨#[48, 49, 50, 51, 52, 53, 54, 55, 56, 57]⟩ : ByteArray).extract d (d + 1) = ⟨[UInt8.ofNat (48 + d)].toArray⟩ := by
  apply ba_ext
  rw [Lib.extract_data]
  match d, h with
  | 0, _ => rfl
  | 1, _ => rfl
  | 2, _ => rfl
  | 3, _ => rfl
  | 4, _ => rfl
  | 5, _ => rfl
  | 6, _ => rfl
  | 7, _ => rfl
  | 8, _ => rfl
  | 9, _ => rfl
theorem ba_app (a b : List UInt8) : (⟨a.toArray⟩ : ByteArray) ++ ⟨b.toArray⟩ = ⟨(a ++ b).toArray⟩ := ba_ext (by simp)
theorem ten_at (x : Int) (n : Nat) (hx : x = n) (h : n < 10) : (if 0 ≤ x then (if x ≤ wrap64 (x + 1) then (if wrap64 (x + 1) ≤ 10 then some ((⟨#[48, 49, 50, 51, 52, 53, 54, 55, 56, 57]⟩ : ByteArray).extract x.toNat (wrap64 (x + 1)).toNat) else none) else none) else none) = some ⟨[UInt8.ofNat (48 + n)].toArray⟩ := by
  subst hx
  rw [w64 (by omega) (by omega), if_pos (by omega), if_pos (by omega), if_pos (by omega), show ((n : Int)).toNat = n by omega, show ((n : Int) + 1).toNat = n + 1 by omega, ten_cut n h]
theorem ten_app (t : List UInt8) (x : Int) (n : Nat) (hx : x = n) (h : n < 10) (ht : t.length ≤ 100) : (if 0 ≤ x then (if x ≤ wrap64 (x + 1) then (if wrap64 (x + 1) ≤ 10 then (if (⟨t.toArray⟩ : ByteArray).size + ((⟨#[48, 49, 50, 51, 52, 53, 54, 55, 56, 57]⟩ : ByteArray).extract x.toNat (wrap64 (x + 1)).toNat).size ≤ 9223372036854775807 then some ((⟨t.toArray⟩ : ByteArray) ++ (⟨#[48, 49, 50, 51, 52, 53, 54, 55, 56, 57]⟩ : ByteArray).extract x.toNat (wrap64 (x + 1)).toNat) else none) else none) else none) else none) = some ⟨(t ++ [UInt8.ofNat (48 + n)]).toArray⟩ := by
  subst hx
  have e : wrap64 ((n : Int) + 1) = (n : Int) + 1 := w64 (by omega) (by omega)
  have c : (⟨#[48, 49, 50, 51, 52, 53, 54, 55, 56, 57]⟩ : ByteArray).extract ((n : Int)).toNat (wrap64 ((n : Int) + 1)).toNat = ⟨[UInt8.ofNat (48 + n)].toArray⟩ := by
    rw [e, show ((n : Int)).toNat = n by omega, show ((n : Int) + 1).toNat = n + 1 by omega, ten_cut n h]
  rw [c, e, ba_size, ba_size, ba_app, List.length_singleton, if_pos (by omega), if_pos (by omega), if_pos (by omega), if_pos (by omega)]
theorem decimal_nat (k : Nat) : ∀ n : Nat, n < 10 ^ k → 1 ≤ k → k ≤ 18 → val_decimal.f k (n : Int) = some ⟨(digs n).toArray⟩ := by
  induction k with
  | zero => intro n _ h; omega
  | succ k ih =>
    intro n h _ hk
    unfold val_decimal.f
    rw [if_neg (by omega)]
    by_cases hs : n < 10
    · rw [if_pos (by omega), digs_small hs]
      exact ten_at n n rfl hs
    · rw [if_neg (by omega), digs_big hs]
      have hk1 : 1 ≤ k := by
        rcases Nat.eq_zero_or_pos k with rfl | h'
        · simp at h; omega
        · exact h'
      have hb : n < 10 ^ 18 := Nat.lt_of_lt_of_le h (Nat.pow_le_pow_right (by omega) hk)
      rw [show (10 : Nat) ^ 18 = 1000000000000000000 by decide] at hb
      have hb' : (n : Int) < 1000000000000000000 := by omega
      have hq : n / 10 < 10 ^ k := by rw [Nat.pow_succ] at h; omega
      have e1 : Int.tdiv (n : Int) 10 = ((n / 10 : Nat) : Int) := by rw [Int.tdiv_eq_ediv_of_nonneg (by omega)]; omega
      have e2 : Int.tmod (n : Int) 10 = ((n % 10 : Nat) : Int) := by rw [Int.tmod_eq_emod_of_nonneg (by omega)]; omega
      rw [e1, e2, w64 (x := ((n / 10 : Nat) : Int)) (by omega) (by omega), ih (n / 10) hq hk1 (by omega), Option.bind_some]
      have hl := (digs_len k (n / 10) hq hk1).2
      exact ten_app _ _ (n % 10) rfl (Nat.mod_lt _ (by omega)) (by omega)
theorem written_nat (k : Nat) : ∀ n : Nat, n < 10 ^ k → 1 ≤ k → k ≤ 18 → cabinetryref01_Written.f k (n : Int) = some ⟨(digs n).toArray⟩ := by
  induction k with
  | zero => intro n _ h; omega
  | succ k ih =>
    intro n h _ hk
    unfold cabinetryref01_Written.f
    rw [if_neg (by omega)]
    by_cases hs : n < 10
    · rw [if_pos (by omega), digs_small hs]
      exact ten_at n n rfl hs
    · rw [if_neg (by omega), digs_big hs]
      have hk1 : 1 ≤ k := by
        rcases Nat.eq_zero_or_pos k with rfl | h'
        · simp at h; omega
        · exact h'
      have hb : n < 10 ^ 18 := Nat.lt_of_lt_of_le h (Nat.pow_le_pow_right (by omega) hk)
      rw [show (10 : Nat) ^ 18 = 1000000000000000000 by decide] at hb
      have hb' : (n : Int) < 1000000000000000000 := by omega
      have hq : n / 10 < 10 ^ k := by rw [Nat.pow_succ] at h; omega
      have hm : n % 10 < 10 := Nat.mod_lt _ (by omega)
      have hm2 : n % 10 < 10 ^ k := Nat.lt_of_lt_of_le hm (by have := Nat.pow_le_pow_right (n := 10) (by omega) hk1; omega)
      have e1 : Int.tdiv (n : Int) 10 = ((n / 10 : Nat) : Int) := by rw [Int.tdiv_eq_ediv_of_nonneg (by omega)]; omega
      have e2 : Int.tmod (n : Int) 10 = ((n % 10 : Nat) : Int) := by rw [Int.tmod_eq_emod_of_nonneg (by omega)]; omega
      rw [e1, e2, w64 (x := ((n / 10 : Nat) : Int)) (by omega) (by omega), ih (n / 10) hq hk1 (by omega), ih (n % 10) hm2 hk1 (by omega)]
      simp only [Option.bind_some]
      have hl := (digs_len k (n / 10) hq hk1).2
      rw [digs_small hm, if_pos (by rw [ba_size, ba_size, List.length_singleton]; omega), ba_app]
def decS (n : Int) : List UInt8 := if n < 0 then 45 :: digs (-n).toNat else digs n.toNat
theorem decimal_f {n : Int} (h : -1000000000000000 ≤ n ∧ n ≤ 1000000000000000) : val_decimal.f 17 n = some ⟨(decS n).toArray⟩ := by
  unfold decS
  by_cases hn : n < 0
  · rw [if_pos hn]
    unfold val_decimal.f
    rw [if_pos hn, w64 (by omega) (by omega)]
    have e : -n = (((-n).toNat : Nat) : Int) := by omega
    have hb : (-n).toNat < 10 ^ 16 := by omega
    have d := decimal_nat 16 (-n).toNat hb (by omega) (by omega)
    rw [← e] at d
    rw [d]
    simp only [Option.bind_some]
    have hl := (digs_len 16 _ hb (by omega)).2
    rw [if_pos (by rw [ba_size]; omega), show (⟨#[45]⟩ : ByteArray) = ⟨[45].toArray⟩ from rfl, ba_app]
    rfl
  · rw [if_neg hn]
    have e : n = ((n.toNat : Nat) : Int) := by omega
    have d := decimal_nat 17 n.toNat (by omega) (by omega) (by omega)
    rw [← e] at d
    exact d
theorem written_f {n : Int} (h : -1000000000000000 ≤ n ∧ n ≤ 1000000000000000) : cabinetryref01_Written.f 17 n = some ⟨(decS n).toArray⟩ := by
  unfold decS
  by_cases hn : n < 0
  · rw [if_pos hn]
    unfold cabinetryref01_Written.f
    rw [if_pos hn, if_neg (by omega), w64 (by omega) (by omega)]
    have e : -n = (((-n).toNat : Nat) : Int) := by omega
    have hb : (-n).toNat < 10 ^ 16 := by omega
    have d := written_nat 16 (-n).toNat hb (by omega) (by omega)
    rw [← e] at d
    rw [d]
    simp only [Option.bind_some]
    have hl := (digs_len 16 _ hb (by omega)).2
    rw [if_pos (by rw [ba_size]; omega), show (⟨#[45]⟩ : ByteArray) = ⟨[45].toArray⟩ from rfl, ba_app]
    rfl
  · rw [if_neg hn]
    have e : n = ((n.toNat : Nat) : Int) := by omega
    have d := written_nat 17 n.toNat (by omega) (by omega) (by omega)
    rw [← e] at d
    exact d
theorem decimal_ge {n : Int} (h : -1000000000000000 ≤ n ∧ n ≤ 1000000000000000) {k : Nat} (hk : 17 ≤ k) : val_decimal.f k n = some ⟨(decS n).toArray⟩ :=
  at_rounds (g := fun k => val_decimal.f k n) (fun k => val_decimal.mono n k) hk (decimal_f h)
theorem written_ge {n : Int} (h : -1000000000000000 ≤ n ∧ n ≤ 1000000000000000) {k : Nat} (hk : 17 ≤ k) : cabinetryref01_Written.f k n = some ⟨(decS n).toArray⟩ :=
  at_rounds (g := fun k => cabinetryref01_Written.f k n) (fun k => cabinetryref01_Written.mono n k) hk (written_f h)
theorem repeat_one (c : UInt8) (n : Nat) : Lib.repeatL [c] n = List.replicate n c := by
  induction n with
  | zero => rfl
  | succ n ih => rw [Lib.repeatL, ih, List.replicate_succ]; rfl
theorem repeat_f (c : UInt8) (n : Int) (h0 : 0 ≤ n) (h1 : n ≤ 100000) : strings_Repeat.f (⟨#[c]⟩ : ByteArray) n = some ⟨(List.replicate n.toNat c).toArray⟩ := by
  unfold strings_Repeat.f
  have e : (⟨#[c]⟩ : ByteArray).size = 1 := rfl
  rw [if_pos ⟨h0, by omega, by rw [e]; omega⟩, show (⟨#[c]⟩ : ByteArray).data.toList = [c] from rfl, repeat_one]
def padS (n w : Nat) : List UInt8 := List.replicate (w - (digs n).length) 48 ++ digs n
theorem padded_f {n w : Nat} (hn : n < 10 ^ w) (hw : 1 ≤ w) (hw2 : w ≤ 10) {k : Nat} (hk : 17 ≤ k) : val_padded.f k (n : Int) (w : Int) = some ⟨(padS n w).toArray⟩ := by
  have hl := (digs_len w n hn hw).2
  have hb : n < 10 ^ 10 := Nat.lt_of_lt_of_le hn (Nat.pow_le_pow_right (by omega) hw2)
  rw [show (10 : Nat) ^ 10 = 10000000000 by decide] at hb
  have hb' : (n : Int) < 10000000000 := by omega
  unfold val_padded.f padS
  rw [decimal_ge (by omega) hk]
  unfold decS
  rw [if_neg (by omega), show ((n : Int)).toNat = n by omega]
  simp only [Option.bind_some]
  rw [ba_size, w64 (by omega) (by omega), repeat_f 48 _ (by omega) (by omega)]
  simp only [Option.bind_some]
  rw [if_pos (by rw [ba_size, List.length_replicate]; omega), ba_app, show ((w : Int) - ((digs n).length : Int)).toNat = w - (digs n).length by omega]
theorem refPadded_l (w : Nat) (hw : w ≤ 10) (d : Nat) : ∀ (l : List UInt8) (k : Nat), l.length + d = w → d < k → cabinetryref01_Padded.l0 k (w : Int) ⟨l.toArray⟩ = some ⟨(List.replicate d 48 ++ l).toArray⟩ := by
  induction d with
  | zero =>
    intro l k hl hk
    obtain ⟨k, rfl⟩ : ∃ m, k = m + 1 := ⟨k - 1, by omega⟩
    simp only [cabinetryref01_Padded.l0]
    rw [if_neg (by rw [ba_size]; omega)]
    rfl
  | succ d ih =>
    intro l k hl hk
    obtain ⟨k, rfl⟩ : ∃ m, k = m + 1 := ⟨k - 1, by omega⟩
    simp only [cabinetryref01_Padded.l0]
    rw [if_pos (by rw [ba_size]; omega), if_pos (by rw [ba_size]; omega), show (⟨#[48]⟩ : ByteArray) = ⟨[48].toArray⟩ from rfl, ba_app, ih ([48] ++ l) k (by rw [List.length_append, List.length_singleton]; omega) (by omega)]
    rw [← List.append_assoc, List.replicate_succ']
theorem refPadded_f {n w : Nat} (hn : n < 10 ^ w) (hw : 1 ≤ w) (hw2 : w ≤ 10) {k : Nat} (hk : 17 ≤ k) : cabinetryref01_Padded.f k (n : Int) (w : Int) = some ⟨(padS n w).toArray⟩ := by
  have hl := (digs_len w n hn hw).2
  have hb : n < 10 ^ 10 := Nat.lt_of_lt_of_le hn (Nat.pow_le_pow_right (by omega) hw2)
  rw [show (10 : Nat) ^ 10 = 10000000000 by decide] at hb
  have hb' : (n : Int) < 10000000000 := by omega
  unfold cabinetryref01_Padded.f padS
  rw [written_ge (by omega) hk]
  unfold decS
  rw [if_neg (by omega), show ((n : Int)).toNat = n by omega]
  simp only [Option.bind_some]
  exact refPadded_l w hw2 (w - (digs n).length) (digs n) k (by omega) (by omega)
end Go.Proofs.YtplbjaandkdhjaaDoor.L1
namespace Go.Proofs.YtplbjaandkdhjaaDoor.PB
open Go.RowKit Go.Proofs.YtplbjaandkdhjaaDoorW.PrintWords Go.Proofs.YtplbjaandkdhjaaDoorW.PrintLast Go.Proofs.YtplbjaandkdhjaaDoorW.PrintMore Go.Proofs.YtplbjaandkdhjaaDoor.PA Go.Proofs.YtplbjaandkdhjaaDoor.H1
attribute [local go_sem] max2_int min2_int max_two min_two max_three min_three max_four min_four   -- for this text's walks alone
set_option linter.unusedVariables false
set_option linter.unusedSimpArgs false
def val_Stamp.f (k : Nat) (a0 : Int) : Option (ByteArray × Int) := (val_isDay.f a0).bind fun t196 => (if t196 = true then (if a0 = 0 then (some ((⟨#[32, 32, 32, 32, 32, 32, 32, 32]⟩ : ByteArray), 0)) else ((val_stamp.f k a0).bind fun t197 => (some (t197, 0)))) else (some ((⟨#[]⟩ : ByteArray), 1)))
end Go.Proofs.YtplbjaandkdhjaaDoor.PB
namespace Go.Proofs.YtplbjaandkdhjaaDoor.L1
open Go.RowKit Go.Proofs.YtplbjaandkdhjaaDoorW.PrintWords Go.Proofs.YtplbjaandkdhjaaDoor.PA Go.Proofs.YtplbjaandkdhjaaDoor.PB Go.Proofs.YtplbjaandkdhjaaDoor.H1
theorem daysV_ok {y m d : Int} (h : validD y m d) : daysV y m d = (ydays y + cum y (m - 1).toNat + d, 0) := by unfold daysV; rw [if_pos h]
theorem validD_first {y m : Int} (h0 : 1 ≤ y) (h1 : y ≤ 9999) (h2 : 1 ≤ m) (h3 : m ≤ 12) : validD y m 1 := ⟨h0, h1, h2, h3, by omega, by have := mdays_bd y m; omega⟩
theorem refSplit_m {n y m d : Int} (h : IsDate n y m d) (e : Nat) : ∀ (M : Nat) (k : Nat), (m - 1).toNat + e = M → M ≤ 11 → e + 30 ≤ k →
    cabinetryref01_Split.l1 k n y ((M : Int) + 1) (ydays y + cum y M + 1) = some (y, m, d, 0) := by
  obtain ⟨h1, h2, h3, h4, h5, h6, rfl⟩ := h
  have yb := ydays_bd h1 (by omega)
  have mb := mdays_bd y m
  induction e with
  | zero =>
    intro M k hM hM2 hk
    obtain ⟨k, rfl⟩ : ∃ q, k = q + 1 := ⟨k - 1, by omega⟩
    obtain rfl : (m - 1).toNat = M := by omega
    have cb := cum_bd y (m - 1).toNat
    simp only [cabinetryref01_Split.l1]
    rw [if_neg (by omega), w64 (x := ydays y + cum y (m - 1).toNat + d - (ydays y + cum y (m - 1).toNat + 1)) (by omega) (by omega), w64 (by omega) (by omega)]
    have e1 : ((m - 1).toNat : Int) + 1 = m := by omega
    have e2 : ydays y + cum y (m - 1).toNat + d - (ydays y + cum y (m - 1).toNat + 1) + 1 = d := by omega
    rw [e1, e2]
  | succ e ih =>
    intro M k hM hM2 hk
    obtain ⟨k, rfl⟩ : ∃ q, k = q + 1 := ⟨k - 1, by omega⟩
    obtain ⟨M, rfl⟩ : ∃ q, M = q + 1 := ⟨M - 1, by omega⟩
    have cs := cum_succ' (y := y) h3
    have cm := cum_mono y m.toNat (M + 1) (by omega)
    have cb := cum_bd y (M + 1)
    simp only [cabinetryref01_Split.l1]
    have e1 : ((M + 1 : Nat) : Int) + 1 - 1 = (M : Int) + 1 := by omega
    rw [if_pos (by omega), e1, w64 (by omega) (by omega), refDays_f _ _ _ k (by omega), Option.bind_some, daysV_ok (validD_first h1 h2 (by omega) (by omega))]
    have e2 : ((M : Int) + 1 - 1).toNat = M := by omega
    rw [e2]
    exact ih M k (by omega) (by omega) (by omega)
theorem refSplit_y {n y m d : Int} (h : IsDate n y m d) (e : Nat) : ∀ (lo hi : Int) (k : Nat), 1 ≤ lo → hi ≤ 9999 → lo ≤ y → y ≤ hi → (hi - lo).toNat ≤ e → e + 60 ≤ k →
    cabinetryref01_Split.l0 k n lo hi = some (y, m, d, 0) := by
  have hy := isDate_year h
  induction e with
  | zero =>
    intro lo hi k h0 h1 h2 h3 he hk
    obtain ⟨k, rfl⟩ : ∃ q, k = q + 1 := ⟨k - 1, by omega⟩
    obtain rfl : lo = y := by omega
    simp only [cabinetryref01_Split.l0]
    rw [if_neg (by omega), refDays_f _ _ _ k (by omega), Option.bind_some, daysV_ok (validD_first h0 (by omega) (by omega) (by omega))]
    exact refSplit_m h (11 - (m - 1).toNat) 11 k (by have := h.2.2.1; have := h.2.2.2.1; omega) (by omega) (by omega)
  | succ e ih =>
    intro lo hi k h0 h1 h2 h3 he hk
    obtain ⟨k, rfl⟩ : ∃ q, k = q + 1 := ⟨k - 1, by omega⟩
    by_cases hl : lo < hi
    · simp only [cabinetryref01_Split.l0]
      have e1 : wrap64 (wrap64 (lo + hi) + 1) = lo + hi + 1 := by rw [w64 (x := lo + hi) (by omega) (by omega), w64 (by omega) (by omega)]
      have e2 : wrap64 (Int.tdiv (lo + hi + 1) 2) = (lo + hi + 1) / 2 := by rw [Int.tdiv_eq_ediv_of_nonneg (by omega), w64 (by omega) (by omega)]
      rw [if_pos hl, e1, e2, refDays_f _ _ _ k (by omega), Option.bind_some, daysV_ok (validD_first (by omega) (by omega) (by omega) (by omega))]
      simp only [show ((1 : Int) - 1).toNat = 0 from rfl, cum]
      by_cases hm : (lo + hi + 1) / 2 ≤ y
      · have := ydays_mono (a := (lo + hi + 1) / 2) (b := y) (by omega) hm
        rw [if_pos (by omega)]
        exact ih _ _ k (by omega) h1 hm h3 (by omega) (by omega)
      · have := ydays_mono (a := y + 1) (b := (lo + hi + 1) / 2) (by omega) (by omega)
        rw [if_neg (by omega), w64 (by omega) (by omega)]
        exact ih _ _ k h0 (by omega) h2 (by omega) (by omega) (by omega)
    · obtain rfl : lo = y := by omega
      simp only [cabinetryref01_Split.l0]
      rw [if_neg (by omega), refDays_f _ _ _ k (by omega), Option.bind_some, daysV_ok (validD_first h0 (by omega) (by omega) (by omega))]
      exact refSplit_m h (11 - (m - 1).toNat) 11 k (by have := h.2.2.1; have := h.2.2.2.1; omega) (by omega) (by omega)
theorem refSplit_is {n y m d : Int} (h : IsDate n y m d) (k : Nat) (hk : 11000 ≤ k) : cabinetryref01_Split.f k n = some (y, m, d, 0) := by
  have b := isDate_bd h
  obtain ⟨k, rfl⟩ : ∃ q, k = q + 1 := ⟨k - 1, by omega⟩
  unfold cabinetryref01_Split.f
  rw [if_neg (by omega), decide_eq_false (by omega)]
  simp only [cabinetryref01_Split.j0]
  rw [if_neg (by decide), if_neg (by omega)]
  exact refSplit_y h 9998 1 9999 k (by omega) (by omega) h.1 h.2.1 (by omega) (by omega)
theorem refSplit_zero (k : Nat) (hk : 1 ≤ k) : cabinetryref01_Split.f k 0 = some (0, 0, 0, 0) := by
  obtain ⟨k, rfl⟩ : ∃ q, k = q + 1 := ⟨k - 1, by omega⟩
  unfold cabinetryref01_Split.f
  rw [if_neg (by omega), decide_eq_false (by omega)]
  simp [cabinetryref01_Split.j0]
theorem day_ways (n : Int) : (¬ (0 ≤ n ∧ n ≤ 3652059)) ∨ n = 0 ∨ ∃ y m d, IsDate n y m d := by
  by_cases h : 0 ≤ n ∧ n ≤ 3652059
  · by_cases h0 : n = 0
    · exact .inr (.inl h0)
    · obtain ⟨y, m, d, hd, _⟩ := split_some (n := n) (by omega) (by omega)
      exact .inr (.inr ⟨y, m, d, hd⟩)
  · exact .inl h
def stampL (y m d : Int) : List UInt8 := padS y.toNat 4 ++ padS m.toNat 2 ++ padS d.toNat 2
theorem padS_len {n w : Nat} (hn : n < 10 ^ w) (hw : 1 ≤ w) : (padS n w).length = w := by
  have hl := (digs_len w n hn hw).2
  unfold padS
  rw [List.length_append, List.length_replicate]
  omega
theorem date_pads {n y m d : Int} (h : IsDate n y m d) {k : Nat} (hk : 17 ≤ k) :
    (val_padded.f k y 4 = some ⟨(padS y.toNat 4).toArray⟩ ∧ val_padded.f k m 2 = some ⟨(padS m.toNat 2).toArray⟩ ∧ val_padded.f k d 2 = some ⟨(padS d.toNat 2).toArray⟩) ∧
    (cabinetryref01_Padded.f k y 4 = some ⟨(padS y.toNat 4).toArray⟩ ∧ cabinetryref01_Padded.f k m 2 = some ⟨(padS m.toNat 2).toArray⟩ ∧ cabinetryref01_Padded.f k d 2 = some ⟨(padS d.toNat 2).toArray⟩) ∧
    (padS y.toNat 4).length = 4 ∧ (padS m.toNat 2).length = 2 ∧ (padS d.toNat 2).length = 2 := by
  obtain ⟨h1, h2, h3, h4, h5, h6, _⟩ := h
  have mb := mdays_bd y m
  have ey : y = ((y.toNat : Nat) : Int) := by omega
  have em : m = ((m.toNat : Nat) : Int) := by omega
  have ed : d = ((d.toNat : Nat) : Int) := by omega
  have by' : y.toNat < 10 ^ 4 := by omega
  have bm : m.toNat < 10 ^ 2 := by omega
  have bd : d.toNat < 10 ^ 2 := by omega
  have p1 := padded_f by' (by omega) (by omega) hk
  have p2 := padded_f bm (by omega) (by omega) hk
  have p3 := padded_f bd (by omega) (by omega) hk
  have q1 := refPadded_f by' (by omega) (by omega) hk
  have q2 := refPadded_f bm (by omega) (by omega) hk
  have q3 := refPadded_f bd (by omega) (by omega) hk
  rw [← ey] at p1 q1
  rw [← em] at p2 q2
  rw [← ed] at p3 q3
  exact ⟨⟨p1, p2, p3⟩, ⟨q1, q2, q3⟩, padS_len by' (by omega), padS_len bm (by omega), padS_len bd (by omega)⟩
theorem stamp_is {n y m d : Int} (h : IsDate n y m d) (k : Nat) (hk : 11000 ≤ k) : val_Stamp.f k n = some (⟨(stampL y m d).toArray⟩, 0) := by
  have b := isDate_bd h
  obtain ⟨⟨p1, p2, p3⟩, _, l1, l2, l3⟩ := date_pads h (k := k) (by omega)
  unfold val_Stamp.f val_stamp.f stampL
  rw [isDay_f, Option.bind_some, decide_eq_true (by omega), if_pos rfl, if_neg (by omega), split_is h k hk, Option.bind_some, p1, Option.bind_some, p2, Option.bind_some, if_pos (by rw [ba_size, ba_size]; omega), p3, Option.bind_some, ba_app, if_pos (by rw [ba_size, ba_size, List.length_append]; omega), ba_app, Option.bind_some]
theorem refStamp_is {n y m d : Int} (h : IsDate n y m d) (k : Nat) (hk : 11000 ≤ k) : cabinetryref01_Stamp.f k n = some (⟨(stampL y m d).toArray⟩, 0) := by
  have b := isDate_bd h
  obtain ⟨_, ⟨p1, p2, p3⟩, l1, l2, l3⟩ := date_pads h (k := k) (by omega)
  unfold cabinetryref01_Stamp.f stampL
  rw [refSplit_is h k hk, Option.bind_some, if_pos rfl, if_neg (by omega), p1, Option.bind_some, p2, Option.bind_some, if_pos (by rw [ba_size, ba_size]; omega), p3, Option.bind_some, ba_app, if_pos (by rw [ba_size, ba_size, List.length_append]; omega), ba_app]
theorem refStamp_zero (k : Nat) (hk : 1 ≤ k) : cabinetryref01_Stamp.f k 0 = some (⟨#[32, 32, 32, 32, 32, 32, 32, 32]⟩, 0) := by
  unfold cabinetryref01_Stamp.f
  rw [refSplit_zero k hk, Option.bind_some]
  rfl
end Go.Proofs.YtplbjaandkdhjaaDoor.L1
namespace Go.Proofs.YtplbjaandkdhjaaDoor.L1
open Go.RowKit Go.Proofs.YtplbjaandkdhjaaDoorW.PrintWords Go.Proofs.YtplbjaandkdhjaaDoor.PA Go.Proofs.YtplbjaandkdhjaaDoor.PB Go.Proofs.YtplbjaandkdhjaaDoor.H1
def isDig (c : UInt8) : Prop := 48 ≤ c.toNat ∧ c.toNat ≤ 57
end Go.Proofs.YtplbjaandkdhjaaDoor.L1
namespace Go.Proofs.YtplbjaandkdhjaaDoor.L1
open Go.RowKit Go.Proofs.YtplbjaandkdhjaaDoorW.PrintWords Go.Proofs.YtplbjaandkdhjaaDoor.PA Go.Proofs.YtplbjaandkdhjaaDoor.PB Go.Proofs.YtplbjaandkdhjaaDoor.H1
instance (c : UInt8) : Decidable (isDig c) := by unfold isDig; infer_instance
end Go.Proofs.YtplbjaandkdhjaaDoor.L1
