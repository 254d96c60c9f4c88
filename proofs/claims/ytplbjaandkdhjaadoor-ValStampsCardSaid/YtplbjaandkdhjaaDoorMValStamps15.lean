-- Written by a program of this session (wip/merge.py): the texts of this claim, joined.
import Derived.Test.YtplbjaandkdhjaaDoorMValStamps0
import Derived.Test.YtplbjaandkdhjaaDoorMValStamps1
import Derived.Test.YtplbjaandkdhjaaDoorMValStamps2
import Derived.Test.YtplbjaandkdhjaaDoorMValStamps7
import Derived.Test.YtplbjaandkdhjaaDoorMValStamps10
import Derived.Test.YtplbjaandkdhjaaDoorMValStamps11
import Derived.Test.YtplbjaandkdhjaaDoorMValStamps12
import Derived.Test.YtplbjaandkdhjaaDoorMValStamps13
import Derived.Test.YtplbjaandkdhjaaDoorMValStamps14
namespace Go.Proofs.YtplbjaandkdhjaaDoor.PA
end Go.Proofs.YtplbjaandkdhjaaDoor.PA
namespace Go.Proofs.YtplbjaandkdhjaaDoor.PB
end Go.Proofs.YtplbjaandkdhjaaDoor.PB
namespace Go.Proofs.YtplbjaandkdhjaaDoor.PC
end Go.Proofs.YtplbjaandkdhjaaDoor.PC
namespace Go.Proofs.YtplbjaandkdhjaaDoor.H1
end Go.Proofs.YtplbjaandkdhjaaDoor.H1
namespace Go.Proofs.YtplbjaandkdhjaaDoor.L1
end Go.Proofs.YtplbjaandkdhjaaDoor.L1
namespace Go.Proofs.YtplbjaandkdhjaaDoor.L1
open Go.RowKit Go.Proofs.YtplbjaandkdhjaaDoorW.PrintWords Go.Proofs.YtplbjaandkdhjaaDoor.PA Go.Proofs.YtplbjaandkdhjaaDoor.PB Go.Proofs.YtplbjaandkdhjaaDoor.H1
def numL (a : Int) : List UInt8 → Int
  | [] => a
  | c :: l => if 48 ≤ c.toNat ∧ c.toNat ≤ 57 then numL (mn (10 * a + ((c.toNat : Int) - 48)) 1000000000000000) l else a
def signL : List UInt8 → Int
  | [] => 0
  | c :: l => if c = 45 then -numL 0 l else if c = 43 then numL 0 l else numL 0 (c :: l)
def valL (s : List UInt8) : Int := signL (Lib.trimLeftS s [32])
theorem mn_bd {a : Int} (h0 : 0 ≤ a) : 0 ≤ mn a 1000000000000000 ∧ mn a 1000000000000000 ≤ 1000000000000000 := by
  unfold mn; split <;> omega
theorem numL_bd (l : List UInt8) : ∀ a, 0 ≤ a → a ≤ 1000000000000000 → 0 ≤ numL a l ∧ numL a l ≤ 1000000000000000 := by
  induction l with
  | nil => intro a h0 h1; exact ⟨h0, h1⟩
  | cons c l ih =>
    intro a h0 h1
    unfold numL
    split
    · have := mn_bd (a := 10 * a + ((c.toNat : Int) - 48)) (by omega)
      exact ih _ this.1 this.2
    · exact ⟨h0, h1⟩
theorem val_l (x0 : ByteArray) (x3 : Int) (hx3 : x3 = 1 ∨ x3 = -1) (hs : x0.size ≤ 140737488351232) (d : Nat) : ∀ (i k : Nat) (a : Int), i + d = x0.size → d < k → 0 ≤ a → a ≤ 1000000000000000 →
    val_Val.l0 k x0 x3 a (x0.size : Int) (i : Int) = some (x3 * numL a (x0.data.toList.drop i)) := by
  have fin : ∀ a : Int, 0 ≤ a → a ≤ 1000000000000000 → wrap64 (x3 * a) = x3 * a := fun a h0 h1 => by
    rcases hx3 with rfl | rfl
    · rw [w64 (by omega) (by omega)]
    · rw [w64 (by omega) (by omega)]
  induction d with
  | zero =>
    intro i k a hi hk h0 h1
    obtain ⟨k, rfl⟩ : ∃ q, k = q + 1 := ⟨k - 1, by omega⟩
    simp only [val_Val.l0]
    rw [if_neg (by omega), List.drop_eq_nil_of_le (by rw [ba_len]; omega), fin a h0 h1]
    rfl
  | succ d ih =>
    intro i k a hi hk h0 h1
    obtain ⟨k, rfl⟩ : ∃ q, k = q + 1 := ⟨k - 1, by omega⟩
    have hl : i < x0.data.toList.length := by rw [ba_len]; omega
    simp only [val_Val.l0]
    rw [if_pos (by omega), if_pos (by omega), if_pos (by omega), bt_get x0 i (by omega), List.drop_eq_getElem_cons hl]
    have b := (x0.data.toList[i]).toNat_lt
    unfold numL
    by_cases c1 : ((x0.data.toList[i]).toNat : Int) < 48
    · rw [if_pos c1, if_neg (by omega), fin a h0 h1]
    rw [if_neg c1]
    by_cases c2 : ((x0.data.toList[i]).toNat : Int) > 57
    · rw [if_pos c2, if_neg (by omega), fin a h0 h1]
    rw [if_neg c2, if_pos (by omega), w64 (x := a * 10) (by omega) (by omega), show (((x0.data.toList[i]).toNat : Int) - 48) % 256 = ((x0.data.toList[i]).toNat : Int) - 48 by omega, w64 (by omega) (by omega), w64 (by omega) (by omega), Int.mul_comm a 10]
    have := mn_bd (a := 10 * a + (((x0.data.toList[i]).toNat : Int) - 48)) (by omega)
    exact ih (i + 1) k _ (by omega) (by omega) this.1 this.2
theorem trimL_f (s : ByteArray) : strings_TrimLeft.f s (⟨#[32]⟩ : ByteArray) = some ⟨(Lib.trimLeftS s.data.toList [32]).toArray⟩ := by
  unfold strings_TrimLeft.f
  rw [if_pos ⟨by decide, by decide⟩]
theorem trimLeft_len (l : List UInt8) : (Lib.trimLeftS l [32]).length ≤ l.length := by
  unfold Lib.trimLeftS
  exact (List.dropWhile_sublist _).length_le
theorem val_f (s : ByteArray) (hs : s.size ≤ 20000) {k : Nat} (hk : 30000 ≤ k) : val_Val.f k s = some (valL s.data.toList) := by
  obtain ⟨k, rfl⟩ : ∃ q, k = q + 1 + 1 := ⟨k - 2, by omega⟩
  unfold val_Val.f valL
  rw [trimL_f, Option.bind_some]
  have hl := trimLeft_len s.data.toList
  rw [ba_len] at hl
  generalize Lib.trimLeftS s.data.toList [32] = t at *
  have run : ∀ (l : List UInt8) (x3 : Int), (x3 = 1 ∨ x3 = -1) → l.length ≤ 20000 → val_Val.j1 (k + 1) ⟨l.toArray⟩ x3 = some (x3 * numL 0 l) := fun l x3 hx hb => by
    simp only [val_Val.j1]
    have := val_l ⟨l.toArray⟩ x3 hx (by rw [ba_size]; omega) l.length 0 k 0 (by rw [ba_size]; omega) (by omega) (by omega) (by omega)
    simpa using this
  cases t with
  | nil =>
    show _ = some (0 : Int)
    rw [if_pos (by simp [ByteArray.toList_eq])]
    simp only [val_Val.j0]
    rw [if_neg (by decide), run [] 1 (.inl rfl) (by simp)]
    simp [numL]
  | cons c l =>
    show _ = some (if c = 45 then -numL 0 l else if c = 43 then numL 0 l else numL 0 (c :: l))
    have hne : ¬ ((⟨(c :: l).toArray⟩ : ByteArray).toList = ([] : List UInt8)) := by simp [ByteArray.toList_eq]
    have hb0 : bt (⟨(c :: l).toArray⟩ : ByteArray) 0 = (c.toNat : Int) := by
      have := bt_get (⟨(c :: l).toArray⟩ : ByteArray) 0 (by rw [ba_size]; simp)
      simpa using this
    have hsz : (⟨(c :: l).toArray⟩ : ByteArray).size = l.length + 1 := by rw [ba_size]; rfl
    have hd : (⟨(c :: l).toArray⟩ : ByteArray).extract 1 (⟨(c :: l).toArray⟩ : ByteArray).size = ⟨l.toArray⟩ := by rw [ba_drop]; simp
    rw [List.length_cons] at hl
    rw [if_neg hne, if_pos (by rw [hsz]; omega), hb0]
    have u45 : (c.toNat : Int) = 45 ↔ c = 45 := ⟨fun h => by apply UInt8.toNat_inj.1; simpa using (by omega : c.toNat = 45), fun h => by subst h; rfl⟩
    have u43 : (c.toNat : Int) = 43 ↔ c = 43 := ⟨fun h => by apply UInt8.toNat_inj.1; simpa using (by omega : c.toNat = 43), fun h => by subst h; rfl⟩
    by_cases h45 : c = 45
    · rw [if_pos (u45.2 h45)]
      simp only [val_Val.j0, if_true]
      rw [if_pos (by rw [hsz]; omega), hb0, if_pos (u45.2 h45), if_pos (by rw [hsz]; omega), hd, run l (-1) (.inr rfl) (by omega)]
      simp only [h45, if_true]
      rw [Int.neg_mul, Int.one_mul]
    · rw [if_neg (fun h => h45 (u45.1 h))]
      by_cases h43 : c = 43
      · rw [beq_iff_eq.mpr (u43.2 h43)]
        simp only [val_Val.j0, if_true]
        rw [if_pos (by rw [hsz]; omega), hb0, if_neg (fun h => h45 (u45.1 h)), if_pos (by rw [hsz]; omega), hd, run l 1 (.inl rfl) (by omega), if_neg h45, if_pos h43, Int.one_mul]
      · rw [beq_eq_false_iff_ne.mpr (fun h => h43 (u43.1 h))]
        simp only [val_Val.j0]
        rw [if_neg (by decide), run (c :: l) 1 (.inl rfl) (by simp; omega), if_neg h45, if_neg h43, Int.one_mul]
end Go.Proofs.YtplbjaandkdhjaaDoor.L1
namespace Go.Proofs.YtplbjaandkdhjaaDoor.L1
open Go.RowKit Go.Proofs.YtplbjaandkdhjaaDoorW.PrintWords Go.Proofs.YtplbjaandkdhjaaDoor.PA Go.Proofs.YtplbjaandkdhjaaDoor.PB Go.Proofs.YtplbjaandkdhjaaDoor.H1
theorem isDigit_f (a : Int) : cabinetryref01_IsDigit.f a = some (decide (48 ≤ a ∧ a ≤ 57)) := by
  unfold cabinetryref01_IsDigit.f
  by_cases h : a ≥ 48
  · rw [if_pos h]
    have h' : 48 ≤ a := h
    simp [h']
  · rw [if_neg h]
    have h' : ¬ 48 ≤ a := h
    simp [h']
theorem refVal_l (x0 : ByteArray) (x4 : Bool) (hs : x0.size ≤ 140737488351232) (d : Nat) : ∀ (i k : Nat) (a : Int), i + d = x0.size → d < k → 0 ≤ a → a ≤ 1000000000000000 →
    cabinetryref01_Val.l1 k x0 (i : Int) x4 a = some (if x4 = true then -numL a (x0.data.toList.drop i) else numL a (x0.data.toList.drop i)) := by
  have fin : ∀ a : Int, 0 ≤ a → a ≤ 1000000000000000 → (if x4 = true then some (wrap64 (-a)) else some a) = some (if x4 = true then -a else a) := fun a h0 h1 => by
    rw [w64 (by omega) (by omega)]
    split <;> rfl
  induction d with
  | zero =>
    intro i k a hi hk h0 h1
    obtain ⟨k, rfl⟩ : ∃ q, k = q + 1 := ⟨k - 1, by omega⟩
    simp only [cabinetryref01_Val.l1]
    rw [if_neg (by omega), List.drop_eq_nil_of_le (by rw [ba_len]; omega), fin a h0 h1]
    rfl
  | succ d ih =>
    intro i k a hi hk h0 h1
    obtain ⟨k, rfl⟩ : ∃ q, k = q + 1 := ⟨k - 1, by omega⟩
    have hl : i < x0.data.toList.length := by rw [ba_len]; omega
    simp only [cabinetryref01_Val.l1]
    rw [if_pos (by omega), if_pos (by omega), bt_get x0 i (by omega), isDigit_f, Option.bind_some, List.drop_eq_getElem_cons hl]
    have b := (x0.data.toList[i]).toNat_lt
    by_cases c : 48 ≤ ((x0.data.toList[i]).toNat : Int) ∧ ((x0.data.toList[i]).toNat : Int) ≤ 57
    · have e : numL a (x0.data.toList[i] :: x0.data.toList.drop (i + 1)) = numL (mn (10 * a + (((x0.data.toList[i]).toNat : Int) - 48)) 1000000000000000) (x0.data.toList.drop (i + 1)) := by
        rw [numL, if_pos (by omega)]
      rw [decide_eq_true c, if_pos rfl, e, w64 (x := 10 * a) (by omega) (by omega), show (((x0.data.toList[i]).toNat : Int) - 48) % 256 = ((x0.data.toList[i]).toNat : Int) - 48 by omega, w64 (x := (i : Int) + 1) (by omega) (by omega), w64 (by omega) (by omega)]
      have := mn_bd (a := 10 * a + (((x0.data.toList[i]).toNat : Int) - 48)) (by omega)
      exact ih (i + 1) k _ (by omega) (by omega) this.1 this.2
    · have e : numL a (x0.data.toList[i] :: x0.data.toList.drop (i + 1)) = a := by
        rw [numL, if_neg (by omega)]
      rw [decide_eq_false c, if_neg (by decide), e, fin a h0 h1]
theorem refVal_at (x0 : ByteArray) (hs : x0.size ≤ 20000) (i k : Nat) (hi : i ≤ x0.size) (hk : 25000 ≤ k) (t : List UInt8) (ht : x0.data.toList.drop i = t) :
    cabinetryref01_Val.j1 k x0 (i : Int) = some (signL t) := by
  obtain ⟨k, rfl⟩ : ∃ q, k = q + 1 + 1 + 1 := ⟨k - 3, by omega⟩
  have run : ∀ (j : Nat) (b : Bool), j ≤ x0.size → cabinetryref01_Val.j3 (k + 1) x0 (j : Int) b = some (if b = true then -numL 0 (x0.data.toList.drop j) else numL 0 (x0.data.toList.drop j)) := fun j b hj => by
    simp only [cabinetryref01_Val.j3]
    exact refVal_l x0 b (by omega) (x0.size - j) j k 0 (by omega) (by omega) (by omega) (by omega)
  cases t with
  | nil =>
    have hl : x0.data.toList.length ≤ i := List.drop_eq_nil_iff.1 ht
    rw [ba_len] at hl
    simp only [cabinetryref01_Val.j1]
    rw [if_neg (by omega)]
    simp only [cabinetryref01_Val.j2]
    rw [if_neg (by decide), run i false hi, ht]
    rfl
  | cons c l =>
    show _ = some (if c = 45 then -numL 0 l else if c = 43 then numL 0 l else numL 0 (c :: l))
    have hl : i < x0.size := by
      rcases Nat.lt_or_ge i x0.size with h | h
      · exact h
      · rw [List.drop_eq_nil_of_le (by rw [ba_len]; exact h)] at ht; cases ht
    have hg : i < x0.data.toList.length := by rw [ba_len]; exact hl
    have hcons := ht
    rw [List.drop_eq_getElem_cons hg] at hcons
    injection hcons with hc hr
    have hb : bt x0 (i : Int) = (c.toNat : Int) := by rw [bt_get x0 i hl, hc]
    have u45 : (c.toNat : Int) = 45 ↔ c = 45 := ⟨fun h => by apply UInt8.toNat_inj.1; simpa using (by omega : c.toNat = 45), fun h => by subst h; rfl⟩
    have u43 : (c.toNat : Int) = 43 ↔ c = 43 := ⟨fun h => by apply UInt8.toNat_inj.1; simpa using (by omega : c.toNat = 43), fun h => by subst h; rfl⟩
    have e1 : wrap64 ((i : Int) + 1) = ((i + 1 : Nat) : Int) := by rw [w64 (by omega) (by omega)]; omega
    simp only [cabinetryref01_Val.j1]
    rw [if_pos (by omega), if_pos (by omega), hb]
    by_cases h45 : c = 45
    · rw [if_pos (u45.2 h45)]
      simp only [cabinetryref01_Val.j2, if_true]
      rw [if_pos (by omega), if_pos (by omega), hb, e1, beq_iff_eq.mpr (u45.2 h45), run (i + 1) true (by omega), hr]
      simp only [h45, if_true]
    · rw [if_neg (fun h => h45 (u45.1 h))]
      by_cases h43 : c = 43
      · rw [beq_iff_eq.mpr (u43.2 h43)]
        simp only [cabinetryref01_Val.j2, if_true]
        rw [if_pos (by omega), if_pos (by omega), hb, e1, beq_eq_false_iff_ne.mpr (fun h => h45 (u45.1 h)), run (i + 1) false (by omega), hr]
        simp only [if_neg h45, if_pos h43]
        rfl
      · rw [beq_eq_false_iff_ne.mpr (fun h => h43 (u43.1 h))]
        simp only [cabinetryref01_Val.j2]
        rw [if_neg (by decide), run i false hi, ht]
        simp only [if_neg h45, if_neg h43]
        rfl
theorem trim_cons (c : UInt8) (l : List UInt8) : Lib.trimLeftS (c :: l) [32] = if c = 32 then Lib.trimLeftS l [32] else c :: l := by
  unfold Lib.trimLeftS
  by_cases h : c = 32
  · simp [h]
  · simp [h]
theorem refVal_sp (x0 : ByteArray) (hs : x0.size ≤ 20000) (d : Nat) : ∀ (i k : Nat), i + d = x0.size → d + 25001 ≤ k → cabinetryref01_Val.l0 k x0 (i : Int) = some (valL (x0.data.toList.drop i)) := by
  induction d with
  | zero =>
    intro i k hi hk
    obtain ⟨k, rfl⟩ : ∃ q, k = q + 1 := ⟨k - 1, by omega⟩
    have e : x0.data.toList.drop i = [] := List.drop_eq_nil_of_le (by rw [ba_len]; omega)
    simp only [cabinetryref01_Val.l0]
    rw [if_neg (by omega), refVal_at x0 hs i k (by omega) (by omega) [] e, e]
    rfl
  | succ d ih =>
    intro i k hi hk
    obtain ⟨k, rfl⟩ : ∃ q, k = q + 1 := ⟨k - 1, by omega⟩
    have hg : i < x0.data.toList.length := by rw [ba_len]; omega
    have hb := bt_get x0 i (by omega)
    have u32 := u8_32 (x0.data.toList[i])
    have hcons := List.drop_eq_getElem_cons hg
    simp only [cabinetryref01_Val.l0]
    rw [if_pos (by omega), if_pos (by omega), hb]
    by_cases h : x0.data.toList[i] = 32
    · rw [if_pos (u32.2 h), w64 (by omega) (by omega)]
      have := ih (i + 1) k (by omega) (by omega)
      rw [show (i : Int) + 1 = ((i + 1 : Nat) : Int) by omega, this, hcons]
      unfold valL
      rw [trim_cons, if_pos h]
    · rw [if_neg (fun g => h (u32.1 g)), refVal_at x0 hs i k (by omega) (by omega) _ hcons, hcons]
      unfold valL
      rw [trim_cons, if_neg h]
theorem refVal_f (s : ByteArray) (hs : s.size ≤ 20000) {k : Nat} (hk : 50000 ≤ k) : cabinetryref01_Val.f k s = some (valL s.data.toList) := by
  unfold cabinetryref01_Val.f
  have := refVal_sp s hs s.size 0 k (by omega) (by omega)
  simpa using this
def isDig (c : UInt8) : Prop := 48 ≤ c.toNat ∧ c.toNat ≤ 57
theorem numL_snoc (l : List UInt8) (c : UInt8) (hc : isDig c) : ∀ a, (∀ x ∈ l, isDig x) → numL a (l ++ [c]) = mn (10 * numL a l + ((c.toNat : Int) - 48)) 1000000000000000 := by
  induction l with
  | nil => intro a _; simp only [List.nil_append, numL]; rw [if_pos (show 48 ≤ c.toNat ∧ c.toNat ≤ 57 from hc)]
  | cons x l ih =>
    intro a h
    have hx := h x (by simp)
    have hx' : 48 ≤ x.toNat ∧ x.toNat ≤ 57 := hx
    rw [List.cons_append, numL, if_pos hx', ih _ (fun y hy => h y (by simp [hy])), numL, if_pos hx']
theorem dig_nat {n : Nat} (h : n < 10) : (UInt8.ofNat (48 + n)).toNat = 48 + n := by
  rw [UInt8.toNat_ofNat']
  omega
theorem digs_dig (n : Nat) : ∀ x ∈ digs n, isDig x := by
  induction n using Nat.strongRecOn with
  | ind n ih =>
    intro x hx
    by_cases h : n < 10
    · rw [digs_small h] at hx
      simp only [List.mem_singleton] at hx
      subst hx
      unfold isDig; rw [dig_nat h]; omega
    · rw [digs_big h] at hx
      rcases List.mem_append.1 hx with hx | hx
      · exact ih (n / 10) (by omega) x hx
      · simp only [List.mem_singleton] at hx
        subst hx
        unfold isDig; rw [dig_nat (by omega)]; omega
theorem digs_num (n : Nat) (hn : n ≤ 1000000000000000) : numL 0 (digs n) = n := by
  induction n using Nat.strongRecOn with
  | ind n ih =>
    by_cases h : n < 10
    · rw [digs_small h]
      simp only [numL]
      rw [dig_nat h, if_pos (by omega)]
      unfold mn
      split <;> omega
    · rw [digs_big h, numL_snoc _ _ (by unfold isDig; rw [dig_nat (by omega)]; omega) 0 (digs_dig _), ih (n / 10) (by omega) (by omega), dig_nat (by omega)]
      unfold mn
      split <;> omega
end Go.Proofs.YtplbjaandkdhjaaDoor.L1
namespace Go.Proofs.YtplbjaandkdhjaaDoor.PA
open Go.RowKit Go.Proofs.YtplbjaandkdhjaaDoorW.PrintWords Go.Proofs.YtplbjaandkdhjaaDoorW.PrintLast Go.Proofs.YtplbjaandkdhjaaDoorW.PrintMore
attribute [local go_sem] max2_int min2_int max_two min_two max_three min_three max_four min_four   -- for this text's walks alone
set_option linter.unusedVariables false
set_option linter.unusedSimpArgs false
def cabinetryref01_Unstamp.l0 : Nat → ByteArray → Int → Option (Int × Bool)
 | 0, _, _ => none
 | k + 1, x0, x4 => if x4 < 8 then (if 0 ≤ x4 then (if x4 < (x0.size : Int) then ((cabinetryref01_IsDigit.f (bt x0 x4)).bind fun t477 => (if t477 = true then (cabinetryref01_Unstamp.l0 k x0 (wrap64 (x4 + 1))) else (some (0, false)))) else (none)) else (none)) else (if 0 ≤ 4 then (if 4 ≤ (x0.size : Int) then ((cabinetryref01_Val.f k (x0.extract 0 4)).bind fun t478 => (if 4 ≤ 6 then (if 6 ≤ (x0.size : Int) then ((cabinetryref01_Val.f k (x0.extract 4 6)).bind fun t479 => ((cabinetryref01_Val.f k (x0.extract 6 x0.size)).bind fun t480 => ((cabinetryref01_Days.f k t478 t479 t480).bind fun bt481 => (some (bt481.1, (bt481.2 == 0)))))) else (none)) else (none))) else (none)) else (none))
def cabinetryref01_Unstamp.f (k : Nat) (a0 : ByteArray) : Option (Int × Bool) := if a0.toList = ([32, 32, 32, 32, 32, 32, 32, 32] : List UInt8) then (some (0, true)) else (if (a0.size : Int) = 8 then (cabinetryref01_Unstamp.l0 k a0 0) else (some (0, false)))
def cabinetryref01_Unstamp.T10 : Bool × List (List Nat × List Nat) := (true, [([], []), ([0], [0]), ([1], [1]), ([], []), ([3], [3]), ([4, 2], [4]), ([], []), ([6], [6]), ([7, 5], [7]), ([2, 5, 8, 8], [2, 5, 8]), ([9], [9]), ([10], [10]), ([10], [10]), ([11, 9, 0, 1, 2, 3, 4, 5, 6, 7, 8, 9, 10, 11], [11]), ([12, 13, 0, 1, 2, 3, 4, 5, 6, 7, 8, 9, 10, 11, 12, 13], [12])])
def cabinetryref01_Unstamp.B10 : List Nat := [0, 1, 3, 0, 8, 31, 0, 64, 255, 511, 1023, 2047, 2047, 4095, 16383]
theorem cabinetryref01_Unstamp.tab10 : rtab .any (opsOf Tryd.f57 10) = cabinetryref01_Unstamp.T10 := by kernel_rfl
theorem cabinetryref01_Unstamp.bits10 : waitsOk cabinetryref01_Unstamp.T10.2 cabinetryref01_Unstamp.B10 = true := by kernel_rfl
set_option maxHeartbeats 8000000 in
set_option maxRecDepth 100000 in
theorem cabinetryref01_Unstamp.calls (k : Nat) (a0 : ByteArray) (r1 : Int) (r2 : Bool) (w : World) (h : cabinetryref01_Unstamp.f k a0 = some (r1, r2)) :
  Calls Tryd.prog 57 #[.string a0] w fun e w' => e = .returned (.tuple #[.int .i64 r1, .bool r2]) ∧ Below w.heap.size w w' := by
 have HB := Aside0.mk (Below.refl w.heap.size w)
 have H : (if a0.toList = ([32, 32, 32, 32, 32, 32, 32, 32] : List UInt8) then (some (0, true)) else (if (a0.size : Int) = 8 then (cabinetryref01_Unstamp.l0 k a0 0) else (some (0, false)))) = some (r1, r2) := h
 clear h
 by_cases c2 : a0.toList = ([32, 32, 32, 32, 32, 32, 32, 32] : List UInt8)
 ·rw [if_pos c2] at H
  have c2b0 : (a0.toList == ([32, 32, 32, 32, 32, 32, 32, 32] : List UInt8)) = true := beq_iff_eq.mpr c2
  have c2b1 : (a0.toList != ([32, 32, 32, 32, 32, 32, 32, 32] : List UInt8)) = false := bne_eq_false_iff_eq.mpr c2
  clear c2
  simp only [Option.some.injEq, Prod.mk.injEq] at H
  obtain ⟨rfl, rfl⟩ := H
  go_enter Tryd.func57, Tryd.ntmps57
  go_wp2
  go_ret2
  exact ⟨by first | rfl | (simp [errW_none, errW_some] <;> rfl) | (simp [*, errW_none, errW_some] <;> rfl), by repeat (first | (with_reducible first | exact HB.out | apply below_alloc | apply pw_below_drewN | apply below_drew1) | exact HB.out)⟩
 ·rw [if_neg c2] at H
  have c2b0 : (a0.toList == ([32, 32, 32, 32, 32, 32, 32, 32] : List UInt8)) = false := beq_eq_false_iff_ne.mpr c2
  have c2b1 : (a0.toList != ([32, 32, 32, 32, 32, 32, 32, 32] : List UInt8)) = true := bne_iff_ne.mpr c2
  by_cases c3 : (a0.size : Int) = 8
  ·rw [if_pos c3] at H
   have c3b0 : ((a0.size : Int) == 8) = true := beq_iff_eq.mpr c3
   have c3b1 : ((a0.size : Int) != 8) = false := bne_eq_false_iff_eq.mpr c3
   clear c3
   have H' := Aside0.mk H
   clear H
   go_enter Tryd.func57, Tryd.ntmps57
   go_wp2
   go_loopg [4] k (fun kq v4 w' => ∃ (x4_1 : Int), v4 = .int .i64 x4_1 ∧ Aside0 (cabinetryref01_Unstamp.l0 kq a0 x4_1 = some (r1, r2)) ∧ Aside0 (kq ≤ k) ∧ Aside0 (Below w.heap.size w w'))
   case atStart => exact ⟨(0), (by first | rfl | (simp; done) | (simp [*]; done)), H', ⟨Nat.le_refl _⟩, ⟨by repeat (first | (with_reducible first | exact HB.out | apply below_alloc | apply pw_below_drewN | apply below_drew1) | exact HB.out)⟩⟩
   case round =>
    clear H'
    try clear c2; try clear c2b0; try clear c2b1; try clear p2; try clear c3; try clear c3b0; try clear c3b1
    obtain ⟨x4_1, rfl, HA, HK1, HB⟩ := hrel
    cases gk with
    | zero => exact absurd HA.out (by simp [cabinetryref01_Unstamp.l0])
    | succ k1 =>
     have H := HA.out
     clear HA
     simp only [cabinetryref01_Unstamp.l0] at H
     by_cases c4 : x4_1 < 8
     ·rw [if_pos c4] at H
      have c4b0 : decide (x4_1 < 8) = true := decide_eq_true c4
      clear c4
      by_cases c5 : 0 ≤ x4_1
      ·rw [if_pos c5] at H
       have c5b0 : decide (0 ≤ x4_1) = true := decide_eq_true c5
       clear c5
       by_cases c6 : x4_1 < (a0.size : Int)
       ·rw [if_pos c6] at H
        have c6b0 : decide (x4_1 < (a0.size : Int)) = true := decide_eq_true c6
        clear c6
        replace H := Option.bind_eq_some_iff.mp H
        obtain ⟨t477, A80, H⟩ := H
        replace H : (if t477 = true then (cabinetryref01_Unstamp.l0 k1 a0 (wrap64 (x4_1 + 1))) else (some (0, false))) = some (r1, r2) := H
        have A8 := Aside0.mk A80
        clear A80
        by_cases c9 : t477 = true
        ·subst c9
         have H1 : (cabinetryref01_Unstamp.l0 k1 a0 (wrap64 (x4_1 + 1))) = some (r1, r2) := by rw [if_pos rfl] at H; exact H
         clear H
         have H := H1
         clear H1
         have H' := Aside0.mk H
         clear H
         have p7 : 0 ≤ (x4_1 : Int) := of_decide_eq_true (by first | (with_reducible assumption) | assumption)
         have q7 : x4_1 < (a0.size : Int) := of_decide_eq_true (by first | (with_reducible assumption) | assumption)
         have hx7 := bt_at a0 x4_1
         replace p7 := eq_true p7
         replace q7 := eq_true q7
         go_wp2_with (first | ((with_reducible refine gate_callee (f := 99) rfl ?_); refine goesL_ (some 19) rfl rfl Tryd.func99 (by kernel_rfl) rfl #[.int .u8 (bt a0 x4_1)] rfl (by (try simp only [List.map_toArray, List.map_cons, List.map_nil]); first | done | rfl | (simp only [List.length_drop, List.length_take]; rfl)) ?_; (with_reducible refine (cabinetryref01_IsDigit.calls (bt a0 x4_1) true _ A8.out).mono ?_); rintro e w' ⟨rfl, ⟨nd, rfl⟩⟩; refine ⟨_, rfl, ?_⟩))
         go_roundg k1
         case measure => have := HK1.out; omega
         case rel => exact ⟨(wrap64 (x4_1 + 1)), (by first | rfl | (simp; done) | (simp [*]; done)), H', ⟨by have := HK1.out; omega⟩, ⟨by repeat (first | (with_reducible first | exact HB.out | apply below_alloc | apply pw_below_drewN | apply below_drew1) | exact HB.out)⟩⟩
        ·replace c9 := Bool.eq_false_iff.mpr c9
         subst c9
         have H1 : (some (0, false)) = some (r1, r2) := by rw [if_neg (show ¬ (false = true) by decide)] at H; exact H
         clear H
         have H := H1
         clear H1
         simp only [Option.some.injEq, Prod.mk.injEq] at H
         obtain ⟨rfl, rfl⟩ := H
         have p7 : 0 ≤ (x4_1 : Int) := of_decide_eq_true (by first | (with_reducible assumption) | assumption)
         have q7 : x4_1 < (a0.size : Int) := of_decide_eq_true (by first | (with_reducible assumption) | assumption)
         have hx7 := bt_at a0 x4_1
         replace p7 := eq_true p7
         replace q7 := eq_true q7
         go_wp2_with (first | ((with_reducible refine gate_callee (f := 99) rfl ?_); refine goesL_ (some 19) rfl rfl Tryd.func99 (by kernel_rfl) rfl #[.int .u8 (bt a0 x4_1)] rfl (by (try simp only [List.map_toArray, List.map_cons, List.map_nil]); first | done | rfl | (simp only [List.length_drop, List.length_take]; rfl)) ?_; (with_reducible refine (cabinetryref01_IsDigit.calls (bt a0 x4_1) false _ A8.out).mono ?_); rintro e w' ⟨rfl, ⟨nd, rfl⟩⟩; refine ⟨_, rfl, ?_⟩))
         go_ret2
         exact ⟨by first | rfl | (simp [errW_none, errW_some] <;> rfl) | (simp [*, errW_none, errW_some] <;> rfl), by repeat (first | (with_reducible first | exact HB.out | apply below_alloc | apply pw_below_drewN | apply below_drew1) | exact HB.out)⟩
       ·rw [if_neg c6] at H
        exact absurd H (by simp)
      ·rw [if_neg c5] at H
       exact absurd H (by simp)
     ·rw [if_neg c4] at H
      have c4b0 : decide (x4_1 < 8) = false := decide_eq_false c4
      clear c4
      by_cases c10 : 0 ≤ 4
      ·rw [if_pos c10] at H
       have c10b0 := eq_true c10
       have c10b1 : decide (0 ≤ 4) = true := decide_eq_true c10
       clear c10
       by_cases c11 : 4 ≤ (a0.size : Int)
       ·rw [if_pos c11] at H
        have c11b0 := eq_true c11
        have c11b1 : decide (4 ≤ (a0.size : Int)) = true := decide_eq_true c11
        clear c11
        replace H := Option.bind_eq_some_iff.mp H
        obtain ⟨t478, A120, H⟩ := H
        replace H : (if 4 ≤ 6 then (if 6 ≤ (a0.size : Int) then ((cabinetryref01_Val.f k1 (a0.extract 4 6)).bind fun t479 => ((cabinetryref01_Val.f k1 (a0.extract 6 a0.size)).bind fun t480 => ((cabinetryref01_Days.f k1 t478 t479 t480).bind fun bt481 => (some (bt481.1, (bt481.2 == 0)))))) else (none)) else (none)) = some (r1, r2) := H
        have A12 := Aside0.mk A120
        clear A120
        by_cases c13 : 4 ≤ 6
        ·rw [if_pos c13] at H
         have c13b0 := eq_true c13
         have c13b1 : decide (4 ≤ 6) = true := decide_eq_true c13
         clear c13
         by_cases c14 : 6 ≤ (a0.size : Int)
         ·rw [if_pos c14] at H
          have c14b0 := eq_true c14
          have c14b1 : decide (6 ≤ (a0.size : Int)) = true := decide_eq_true c14
          clear c14
          replace H := Option.bind_eq_some_iff.mp H
          obtain ⟨t479, A150, H⟩ := H
          replace H : ((cabinetryref01_Val.f k1 (a0.extract 6 a0.size)).bind fun t480 => ((cabinetryref01_Days.f k1 t478 t479 t480).bind fun bt481 => (some (bt481.1, (bt481.2 == 0))))) = some (r1, r2) := H
          have A15 := Aside0.mk A150
          clear A150
          have c16b0 := eq_true (of_decide_eq_true (by first | (with_reducible assumption) | assumption) : 6 ≤ (a0.size : Int))
          replace H := Option.bind_eq_some_iff.mp H
          obtain ⟨t480, A170, H⟩ := H
          replace H : ((cabinetryref01_Days.f k1 t478 t479 t480).bind fun bt481 => (some (bt481.1, (bt481.2 == 0)))) = some (r1, r2) := H
          have A17 := Aside0.mk A170
          clear A170
          replace H := Option.bind_eq_some_iff.mp H
          obtain ⟨⟨t481, t482⟩, A180, H⟩ := H
          replace H : (some (t481, (t482 == 0))) = some (r1, r2) := H
          have A18 := Aside0.mk A180
          clear A180
          simp only [Option.some.injEq, Prod.mk.injEq] at H
          obtain ⟨rfl, rfl⟩ := H
          try go_wp2
          have n0_ := Aside0.mk (below_drew1 HB.out)
          clear HB
          have HB := n0_
          clear n0_
          refine start_ (n := 15) (S := fun w' => True) (ds := []) #[false, false, false, false, false, false, false, false, false, false, false, false, false, false, false] (by kernel_rfl) rfl rfl trivial (fun hHeld => ?_); refine with_tabW cabinetryref01_Unstamp.tab10 cabinetryref01_Unstamp.bits10 (fun HT_ HW_ => ?_)
          generalize wr.drew = w19 at HB hHeld ⊢
          refine pure_ (i := 0) (N := some 22) (v := ?_) (a' := ?_) #[true, false, false, false, false, false, false, false, false, false, false, false, false, false, false] rfl rfl (any_of HT_.out (by kernel_rfl)) (fun _ _ _ h => h) (Or.inl ⟨by rfl, ?_⟩) ?_ ?_
          rotate_left
          ·intro w'
           go_simp
           with_reducible rfl
          rotate_left
          ·simp only [Act.put, List.setIfInBounds_toArray, List.set_cons_zero, List.set_cons_succ, i64_w, i32_w]
           rfl
          refine pure_ (i := 1) (N := some 23) (v := ?_) (a' := ?_) #[true, true, false, false, false, false, false, false, false, false, false, false, false, false, false] rfl rfl (any_of HT_.out (by kernel_rfl)) (fun _ _ _ h => h) (Or.inl ⟨by rfl, ?_⟩) ?_ ?_
          rotate_left
          ·intro w'
           go_simp
           with_reducible rfl
          rotate_left
          ·simp only [Act.put, List.setIfInBounds_toArray, List.set_cons_zero, List.set_cons_succ, i64_w, i32_w]
           rfl
          refine pure_ (i := 3) (N := some 25) (v := ?_) (a' := ?_) #[true, true, false, true, false, false, false, false, false, false, false, false, false, false, false] rfl rfl (any_of HT_.out (by kernel_rfl)) (fun _ _ _ h => h) (Or.inl ⟨by rfl, ?_⟩) ?_ ?_
          rotate_left
          ·intro w'
           go_simp
           with_reducible rfl
          rotate_left
          ·simp only [Act.put, List.setIfInBounds_toArray, List.set_cons_zero, List.set_cons_succ, i64_w, i32_w]
           rfl
          refine pure_ (i := 4) (N := some 26) (v := ?_) (a' := ?_) #[true, true, false, true, true, false, false, false, false, false, false, false, false, false, false] rfl rfl (any_of HT_.out (by kernel_rfl)) (fun _ _ _ h => h) (Or.inl ⟨by rfl, ?_⟩) ?_ ?_
          rotate_left
          ·intro w'
           go_simp
           with_reducible rfl
          rotate_left
          ·simp only [Act.put, List.setIfInBounds_toArray, List.set_cons_zero, List.set_cons_succ, i64_w, i32_w]
           rfl
          refine pure_ (i := 6) (N := some 28) (v := ?_) (a' := ?_) #[true, true, false, true, true, false, true, false, false, false, false, false, false, false, false] rfl rfl (any_of HT_.out (by kernel_rfl)) (fun _ _ _ h => h) (Or.inl ⟨by rfl, ?_⟩) ?_ ?_
          rotate_left
          ·intro w'
           go_simp
           with_reducible rfl
          rotate_left
          ·simp only [Act.put, List.setIfInBounds_toArray, List.set_cons_zero, List.set_cons_succ, i64_w, i32_w]
           rfl
          refine pure_ (i := 7) (N := some 29) (v := ?_) (a' := ?_) #[true, true, false, true, true, false, true, true, false, false, false, false, false, false, false] rfl rfl (any_of HT_.out (by kernel_rfl)) (fun _ _ _ h => h) (Or.inl ⟨by rfl, ?_⟩) ?_ ?_
          rotate_left
          ·intro w'
           go_simp
           with_reducible rfl
          rotate_left
          ·simp only [Act.put, List.setIfInBounds_toArray, List.set_cons_zero, List.set_cons_succ, i64_w, i32_w]
           rfl
          refine one_ (i := 2) (N := some 24) #[true, true, true, true, true, false, true, true, false, false, false, false, false, false, false] rfl rfl (one_of HT_.out (by kernel_rfl)) (by decide) (fun K hK => ?_)
          refine goes_ Tryd.func51 (by kernel_rfl) rfl #[.string (a0.extract 0 4)] (by rfl) rfl rfl (by (try simp only [List.map_toArray, List.map_cons, List.map_nil]); first | done | rfl | (simp only [List.length_drop, List.length_take]; rfl)) ?_
          with_reducible refine (cabinetryref01_Val.calls k1 (a0.extract 0 4) t478 _ A12.out).mono ?_
          rintro e w20 ⟨rfl, hb⟩
          refine ⟨_, rfl, ?_⟩
          have n0_ := Aside0.mk (below_step (by repeat (first | (with_reducible first | exact HB.out | apply below_alloc | apply pw_below_drewN | apply below_drew1) | exact HB.out)) hb)
          clear HB
          have HB := n0_
          clear n0_
          (try clear hb)
          (try clear hb2)
          (try clear hk)
          (try clear hi)
          refine hK.out _ _ trivial (fun hHeld => ?_)
          clear hK K
          refine norm_ (a' := ?_) ?_ ?_
          rotate_left
          ·show Act.put _ (some 24) _ = _
           simp only [Act.put, List.setIfInBounds_toArray, List.set_cons_zero, List.set_cons_succ, i64_w, i32_w]
           rfl
          refine one_ (i := 5) (N := some 27) #[true, true, true, true, true, true, true, true, false, false, false, false, false, false, false] rfl rfl (one_of HT_.out (by kernel_rfl)) (by decide) (fun K hK => ?_)
          refine goes_ Tryd.func51 (by kernel_rfl) rfl #[.string (a0.extract 4 6)] (by rfl) rfl rfl (by (try simp only [List.map_toArray, List.map_cons, List.map_nil]); first | done | rfl | (simp only [List.length_drop, List.length_take]; rfl)) ?_
          with_reducible refine (cabinetryref01_Val.calls k1 (a0.extract 4 6) t479 _ A15.out).mono ?_
          rintro e w21 ⟨rfl, hb⟩
          refine ⟨_, rfl, ?_⟩
          have n0_ := Aside0.mk (below_step (by repeat (first | (with_reducible first | exact HB.out | apply below_alloc | apply pw_below_drewN | apply below_drew1) | exact HB.out)) hb)
          clear HB
          have HB := n0_
          clear n0_
          (try clear hb)
          (try clear hb2)
          (try clear hk)
          (try clear hi)
          refine hK.out _ _ trivial (fun hHeld => ?_)
          clear hK K
          refine norm_ (a' := ?_) ?_ ?_
          rotate_left
          ·show Act.put _ (some 27) _ = _
           simp only [Act.put, List.setIfInBounds_toArray, List.set_cons_zero, List.set_cons_succ, i64_w, i32_w]
           rfl
          refine one_ (i := 8) (N := some 30) #[true, true, true, true, true, true, true, true, true, false, false, false, false, false, false] rfl rfl (one_of HT_.out (by kernel_rfl)) (by decide) (fun K hK => ?_)
          refine goes_ Tryd.func51 (by kernel_rfl) rfl #[.string (a0.extract 6 a0.size)] (by rfl) rfl rfl (by (try simp only [List.map_toArray, List.map_cons, List.map_nil]); first | done | rfl | (simp only [List.length_drop, List.length_take]; rfl)) ?_
          with_reducible refine (cabinetryref01_Val.calls k1 (a0.extract 6 a0.size) t480 _ A17.out).mono ?_
          rintro e w22 ⟨rfl, hb⟩
          refine ⟨_, rfl, ?_⟩
          have n0_ := Aside0.mk (below_step (by repeat (first | (with_reducible first | exact HB.out | apply below_alloc | apply pw_below_drewN | apply below_drew1) | exact HB.out)) hb)
          clear HB
          have HB := n0_
          clear n0_
          (try clear hb)
          (try clear hb2)
          (try clear hk)
          (try clear hi)
          refine hK.out _ _ trivial (fun hHeld => ?_)
          clear hK K
          refine norm_ (a' := ?_) ?_ ?_
          rotate_left
          ·show Act.put _ (some 30) _ = _
           simp only [Act.put, List.setIfInBounds_toArray, List.set_cons_zero, List.set_cons_succ, i64_w, i32_w]
           rfl
          refine one_ (i := 9) (N := some 31) #[true, true, true, true, true, true, true, true, true, true, false, false, false, false, false] rfl rfl (one_of HT_.out (by kernel_rfl)) (by decide) (fun K hK => ?_)
          refine goes_ Tryd.func23 (by kernel_rfl) rfl #[.int .i64 t478, .int .i64 t479, .int .i64 t480] (by rfl) rfl rfl (by (try simp only [List.map_toArray, List.map_cons, List.map_nil]); first | done | rfl | (simp only [List.length_drop, List.length_take]; rfl)) ?_
          with_reducible refine (cabinetryref01_Days.calls k1 t478 t479 t480 t481 t482 _ A18.out).mono ?_
          rintro e w' ⟨rfl, ⟨nd, rfl⟩⟩
          refine ⟨_, rfl, ?_⟩
          refine hK.out _ _ trivial (fun hHeld => ?_)
          clear hK K
          refine norm_ (a' := ?_) ?_ ?_
          rotate_left
          ·show Act.put _ (some 31) _ = _
           simp only [Act.put, List.setIfInBounds_toArray, List.set_cons_zero, List.set_cons_succ, i64_w, i32_w]
           rfl
          refine pure_ (i := 10) (N := some 21) (v := ?_) (a' := ?_) #[true, true, true, true, true, true, true, true, true, true, true, false, false, false, false] rfl rfl (any_of HT_.out (by kernel_rfl)) (fun _ _ _ h => h) (Or.inl ⟨by rfl, ?_⟩) ?_ ?_
          rotate_left
          ·intro w'
           go_simp
           with_reducible rfl
          rotate_left
          ·simp only [Act.put, List.setIfInBounds_toArray, List.set_cons_zero, List.set_cons_succ, i64_w, i32_w]
           rfl
          refine pure_ (i := 11) (N := some 32) (v := ?_) (a' := ?_) #[true, true, true, true, true, true, true, true, true, true, true, true, false, false, false] rfl rfl (any_of HT_.out (by kernel_rfl)) (fun _ _ _ h => h) (Or.inl ⟨by rfl, ?_⟩) ?_ ?_
          rotate_left
          ·intro w'
           go_simp
           with_reducible rfl
          rotate_left
          ·simp only [Act.put, List.setIfInBounds_toArray, List.set_cons_zero, List.set_cons_succ, i64_w, i32_w]
           rfl
          refine pure_ (i := 12) (N := some 33) (v := ?_) (a' := ?_) #[true, true, true, true, true, true, true, true, true, true, true, true, true, false, false] rfl rfl (any_of HT_.out (by kernel_rfl)) (fun _ _ _ h => h) (Or.inl ⟨by rfl, ?_⟩) ?_ ?_
          rotate_left
          ·intro w'
           go_simp
           with_reducible rfl
          rotate_left
          ·simp only [Act.put, List.setIfInBounds_toArray, List.set_cons_zero, List.set_cons_succ, i64_w, i32_w]
           rfl
          refine pure_ (i := 13) (N := some 5) (v := ?_) (a' := ?_) #[true, true, true, true, true, true, true, true, true, true, true, true, true, true, false] rfl rfl (any_of HT_.out (by kernel_rfl)) (fun _ _ _ h => h) (Or.inl ⟨by rfl, ?_⟩) ?_ ?_
          rotate_left
          ·intro w'
           go_simp
           with_reducible rfl
          rotate_left
          ·simp only [Act.put, List.setIfInBounds_toArray, List.set_cons_zero, List.set_cons_succ, i64_w, i32_w]
           rfl
          refine pure_ (i := 14) (N := some 6) (v := ?_) (a' := ?_) #[true, true, true, true, true, true, true, true, true, true, true, true, true, true, true] rfl rfl (any_of HT_.out (by kernel_rfl)) (fun _ _ _ h => h) (Or.inl ⟨by rfl, ?_⟩) ?_ ?_
          rotate_left
          ·intro w'
           go_simp
           with_reducible rfl
          rotate_left
          ·simp only [Act.put, List.setIfInBounds_toArray, List.set_cons_zero, List.set_cons_succ, i64_w, i32_w]
           rfl
          refine done_ (done_of HT_.out (by kernel_rfl)) ?_
          try go_wp2
          go_ret2
          exact ⟨by first | rfl | (simp [errW_none, errW_some] <;> rfl) | (simp [*, errW_none, errW_some] <;> rfl), by repeat (first | (with_reducible first | exact HB.out | apply below_alloc | apply pw_below_drewN | apply below_drew1) | exact HB.out)⟩
         ·rw [if_neg c14] at H
          exact absurd H (by simp)
        ·rw [if_neg c13] at H
         exact absurd H (by simp)
       ·rw [if_neg c11] at H
        exact absurd H (by simp)
      ·rw [if_neg c10] at H
       exact absurd H (by simp)
  ·rw [if_neg c3] at H
   have c3b0 : ((a0.size : Int) == 8) = false := beq_eq_false_iff_ne.mpr c3
   have c3b1 : ((a0.size : Int) != 8) = true := bne_iff_ne.mpr c3
   simp only [Option.some.injEq, Prod.mk.injEq] at H
   obtain ⟨rfl, rfl⟩ := H
   go_enter Tryd.func57, Tryd.ntmps57
   go_wp2
   go_ret2
   exact ⟨by first | rfl | (simp [errW_none, errW_some] <;> rfl) | (simp [*, errW_none, errW_some] <;> rfl), by repeat (first | (with_reducible first | exact HB.out | apply below_alloc | apply pw_below_drewN | apply below_drew1) | exact HB.out)⟩
end Go.Proofs.YtplbjaandkdhjaaDoor.PA
