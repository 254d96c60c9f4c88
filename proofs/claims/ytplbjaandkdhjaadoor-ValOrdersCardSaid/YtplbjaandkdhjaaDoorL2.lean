/- Texts without the blanks at their ends: the pure laws. -/
import Derived.Test.YtplbjaandkdhjaaDoorPAx16
import Derived.Test.YtplbjaandkdhjaaDoorPAx0
import Derived.Lib.Strings
import Derived.Lib.SmallJoins
import Derived.Lib.SlTrimSet
import Derived.Lib.IndexBytes
namespace Go.Proofs.YtplbjaandkdhjaaDoor.L1
open Go.RowKit Go.Proofs.YtplbjaandkdhjaaDoorW.PrintWords Go.Proofs.YtplbjaandkdhjaaDoor.PA

theorem w64 {x : Int} (h0 : -9223372036854775808 ≤ x) (h1 : x ≤ 9223372036854775807) : wrap64 x = x := by
  unfold wrap64
  omega
theorem ba_ext {a b : ByteArray} (h : a.data.toList = b.data.toList) : a = b := by
  obtain ⟨⟨x⟩⟩ := a
  obtain ⟨⟨y⟩⟩ := b
  simp at h
  rw [h]
theorem ba_mk (l : List UInt8) : (⟨l.toArray⟩ : ByteArray).data.toList = l := by simp
theorem ba_self (s : ByteArray) : (⟨s.data.toList.toArray⟩ : ByteArray) = s := ba_ext (by simp)
theorem ba_size (l : List UInt8) : (⟨l.toArray⟩ : ByteArray).size = l.length := by simp [ByteArray.size]
theorem ba_len (s : ByteArray) : s.data.toList.length = s.size := (Lib.size_eq s).symm
theorem ba_take (s : ByteArray) (n : Nat) : s.extract 0 n = ⟨(s.data.toList.take n).toArray⟩ := ba_ext (by rw [Lib.extract_data, ba_mk]; simp)
theorem ba_drop (s : ByteArray) (n : Nat) : s.extract n s.size = ⟨(s.data.toList.drop n).toArray⟩ := ba_ext (by rw [Lib.extract_to_end, ba_mk])
theorem bt_get (s : ByteArray) (i : Nat) (h : i < s.size) : bt s (i : Int) = ((s.data.toList[i]'(by rw [ba_len]; exact h)).toNat : Int) := by
  unfold bt
  have h' : ((i : Int)).toNat < s.size := by simpa using h
  rw [dif_pos h']
  simp [ByteArray.getElem_eq_getElem_data]
theorem trimRight_snoc (l : List UInt8) (c : UInt8) : Lib.trimRightS (l ++ [c]) [32] = if c = 32 then Lib.trimRightS l [32] else l ++ [c] := by
  unfold Lib.trimRightS
  rw [List.reverse_append]
  by_cases h : c = 32
  · subst h; simp
  · simp [h]
theorem trimRight_take (l : List UInt8) (i : Nat) (h : i < l.length) : Lib.trimRightS (l.take (i + 1)) [32] = if l[i] = 32 then Lib.trimRightS (l.take i) [32] else l.take (i + 1) := by
  rw [List.take_succ_eq_append_getElem h]
  exact trimRight_snoc _ _
theorem trimRight_prefix (l : List UInt8) : ∃ n, n ≤ l.length ∧ Lib.trimRightS l [32] = l.take n := by
  refine ⟨(Lib.trimRightS l [32]).length, ?_, ?_⟩
  · unfold Lib.trimRightS
    have := (List.dropWhile_sublist (p := (([32] : List UInt8).contains ·)) (l := l.reverse)).length_le
    simpa using this
  · unfold Lib.trimRightS
    have h := List.dropWhile_suffix (l := l.reverse) (([32] : List UInt8).contains ·)
    obtain ⟨t, ht⟩ := h
    have e : l = (l.reverse.dropWhile (([32] : List UInt8).contains ·)).reverse ++ t.reverse := by
      have := congrArg List.reverse ht
      simpa using this.symm
    have g : ∀ (D T : List UInt8), l = D ++ T → D = l.take D.length := by rintro D T rfl; simp
    exact g _ _ e
theorem u8_32 (c : UInt8) : (c.toNat : Int) = 32 ↔ c = 32 := by
  constructor
  · intro h
    have : c.toNat = 32 := by omega
    exact UInt8.toNat_inj.mp (by rw [this]; rfl)
  · rintro rfl; rfl
theorem bare_l (s : ByteArray) (hs : s.size ≤ 140737488351232) (i : Nat) : ∀ k, i < k → i ≤ s.size → cabinetryref01_Bare.l0 k s (i : Int) = some ⟨(Lib.trimRightS (s.data.toList.take i) [32]).toArray⟩ := by
  induction i with
  | zero =>
    intro k hk hi
    obtain ⟨k, rfl⟩ : ∃ m, k = m + 1 := ⟨k - 1, by omega⟩
    simp only [cabinetryref01_Bare.l0]
    rw [if_neg (by simp), if_pos (by simp), if_pos (by simp)]
    exact congrArg some (ba_ext (by rw [Lib.extract_data]; simp [Lib.trimRightS]))
  | succ i ih =>
    intro k hk hi
    obtain ⟨k, rfl⟩ : ∃ m, k = m + 1 := ⟨k - 1, by omega⟩
    have e : wrap64 (((i + 1 : Nat) : Int) - 1) = (i : Int) := by
      rw [w64 (by omega) (by omega)]; omega
    have hl : i < s.data.toList.length := by rw [ba_len]; omega
    simp only [cabinetryref01_Bare.l0]
    rw [if_pos (by omega), e, if_pos (by omega), if_pos (by omega), bt_get s i (by omega), trimRight_take _ _ hl]
    by_cases hb : s.data.toList[i] = 32
    · rw [if_pos ((u8_32 _).mpr hb), if_pos hb]
      exact ih k (by omega) (by omega)
    · rw [if_neg (fun h => hb ((u8_32 _).mp h)), if_neg hb, if_pos (by omega), if_pos (by omega)]
      congr 1
      rw [Int.toNat_natCast]
      exact ba_take s (i + 1)
/-- The text without the blanks at its end. -/
theorem bare_f (s : ByteArray) (hs : s.size ≤ 140737488351232) (k : Nat) (hk : s.size < k) : cabinetryref01_Bare.f k s = some ⟨(Lib.trimRightS s.data.toList [32]).toArray⟩ := by
  unfold cabinetryref01_Bare.f
  have h := bare_l s hs s.size k hk (Nat.le_refl _)
  rw [h]
  have : s.data.toList.take s.size = s.data.toList := by rw [← ba_len, List.take_length]
  rw [this]
end Go.Proofs.YtplbjaandkdhjaaDoor.L1
