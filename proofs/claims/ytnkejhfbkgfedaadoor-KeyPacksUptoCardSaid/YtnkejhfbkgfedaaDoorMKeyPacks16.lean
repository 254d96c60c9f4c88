-- Written by a program of this session (wip/merge.py): the texts of this claim, joined.
import Derived.Test.YtnkejhfbkgfedaaDoorMKeyPacks0
import Derived.Test.YtnkejhfbkgfedaaDoorMKeyPacks1
import Derived.Test.YtnkejhfbkgfedaaDoorMKeyPacks2
import Derived.Test.YtnkejhfbkgfedaaDoorMKeyPacks3
import Derived.Test.YtnkejhfbkgfedaaDoorMKeyPacks4
import Derived.Test.YtnkejhfbkgfedaaDoorMKeyPacks5
import Derived.Test.YtnkejhfbkgfedaaDoorMKeyPacks6
import Derived.Test.YtnkejhfbkgfedaaDoorMKeyPacks7
import Derived.Test.YtnkejhfbkgfedaaDoorMKeyPacks8
import Derived.Test.YtnkejhfbkgfedaaDoorMKeyPacks9
import Derived.Test.YtnkejhfbkgfedaaDoorMKeyPacks10
import Derived.Test.YtnkejhfbkgfedaaDoorMKeyPacks11
import Derived.Test.YtnkejhfbkgfedaaDoorMKeyPacks12
import Derived.Test.YtnkejhfbkgfedaaDoorMKeyPacks13
import Derived.Test.YtnkejhfbkgfedaaDoorMKeyPacks14
import Derived.Test.YtnkejhfbkgfedaaDoorMKeyPacks15
namespace Go.Proofs.YtnkejhfbkgfedaaDoor.PA
end Go.Proofs.YtnkejhfbkgfedaaDoor.PA
namespace Go.Proofs.YtnkejhfbkgfedaaDoor.PB
end Go.Proofs.YtnkejhfbkgfedaaDoor.PB
namespace Go.Proofs.YtnkejhfbkgfedaaDoor.PC
end Go.Proofs.YtnkejhfbkgfedaaDoor.PC
namespace Go.Proofs.YtnkejhfbkgfedaaDoor.H1
end Go.Proofs.YtnkejhfbkgfedaaDoor.H1
namespace Go.Proofs.YtnkejhfbkgfedaaDoor.L1
end Go.Proofs.YtnkejhfbkgfedaaDoor.L1
namespace Go.Proofs.YtnkejhfbkgfedaaDoor.L1
open Go.RowKit Go.Proofs.YtnkejhfbkgfedaaDoorW.PrintWords Go.Proofs.YtnkejhfbkgfedaaDoor.PA Go.Proofs.YtnkejhfbkgfedaaDoor.H1 Go.Proofs.YtnkejhfbkgfedaaDoor.PB Go.Proofs.YtnkejhfbkgfedaaDoor.PC
set_option linter.unusedVariables false
set_option linter.unusedSimpArgs false
theorem refStep (l : List ByteArray) (i : Nat) (hi : i < l.length) (hl : l.length ≤ 300) (s : ByteArray) (hs : l[i] = s) (hz : s.size ≤ 100) (acc bf : List UInt8) (ha : acc.length ≤ 102 * i) (hb : bf.length ≤ 100) (K0 : Nat) (R : List Int × Int)
    (hR : ∀ k, K0 ≤ k → cabinetryref09_Pack.l1 k l ((acc ++ recB bf s.data.toList).map toI) s ((i + 1 : Nat) : Int) = some R) :
    ∀ (n j k : Nat), bf.length - j = n → j ≤ bf.length → j ≤ s.size → j + cmn (bf.drop j) (s.data.toList.drop j) = cmn bf s.data.toList → K0 + n + 1 ≤ k →
      cabinetryref09_Pack.l2 k l (acc.map toI) ⟨bf.toArray⟩ (i : Int) (j : Int) = some R := by
  have hsl : s.data.toList.length = s.size := ba_len s
  have hcm := cmn_le bf s.data.toList
  have hrec : (acc ++ [UInt8.ofNat (cmn bf s.data.toList), UInt8.ofNat (s.size - cmn bf s.data.toList)]) ++ s.data.toList.drop (cmn bf s.data.toList) = acc ++ recB bf s.data.toList := by
    unfold recB; rw [hsl]; simp
  have hw : wrap64 ((i : Int) + 1) = ((i + 1 : Nat) : Int) := by rw [w64 (by omega) (by omega)]; omega
  intro n
  induction n with
  | zero =>
    intro j k hn hj hj2 hc hk
    obtain ⟨k, rfl⟩ : ∃ m, k = m + 1 := ⟨k - 1, by omega⟩
    rw [cmn_end _ _ j (Or.inl (by omega))] at hc
    simp only [cabinetryref09_Pack.l2]
    rw [ba_size, if_neg (by omega), if_pos (by omega), if_pos (by omega), rdB l i hi, hs]
    simp only [Option.bind_some]
    rw [show j = cmn bf s.data.toList by omega, lit2 _ _ (by omega) (by omega), if_pos (by simp only [List.length_map, List.length_cons, List.length_nil]; omega), if_pos (by omega), if_pos (by omega), Int.toNat_natCast,
      if_pos (by rw [ByteArray.size_extract]; omega), cut_map, if_pos (by simp only [List.length_append, List.length_map, List.length_cons, List.length_nil, List.length_drop]; omega), ← List.map_append, ← List.map_append, hrec, hw]
    exact hR k (by omega)
  | succ n ih =>
    intro j k hn hj hj2 hc hk
    obtain ⟨k, rfl⟩ : ∃ m, k = m + 1 := ⟨k - 1, by omega⟩
    simp only [cabinetryref09_Pack.l2]
    rw [ba_size, if_pos (by omega), if_pos (by omega), if_pos (by omega), rdB l i hi, hs]
    by_cases h : j < s.size
    · have hbt : bt (⟨bf.toArray⟩ : ByteArray) (j : Int) = toI (bf[j]'(by omega)) := by
        rw [bt_toI _ j (by rw [ba_size]; omega)]
      rw [if_pos (by omega), if_pos (by omega), hbt, bt_toI s j h]
      rw [cmn_step _ _ j (by omega) (by omega)] at hc
      by_cases he : bf[j]'(by omega) = s.data.toList[j]'(by omega)
      · rw [if_pos (congrArg toI he), w64 (by omega) (by omega), show ((j : Int) + 1) = ((j + 1 : Nat) : Int) by omega]
        rw [if_pos he] at hc
        exact ih (j + 1) k (by omega) (by omega) (by omega) (by omega) (by omega)
      · rw [if_neg (fun hh => he (toI_inj hh))]
        rw [if_neg he] at hc
        simp only [Option.bind_some]
        rw [show j = cmn bf s.data.toList by omega, lit2 _ _ (by omega) (by omega), if_pos (by simp only [List.length_map, List.length_cons, List.length_nil]; omega), if_pos (by omega), Int.toNat_natCast,
          if_pos (by rw [ByteArray.size_extract]; omega), cut_map, if_pos (by simp only [List.length_append, List.length_map, List.length_cons, List.length_nil, List.length_drop]; omega), ← List.map_append, ← List.map_append, hrec, hw]
        exact hR k (by omega)
    · rw [cmn_end _ _ j (Or.inr (by omega))] at hc
      rw [if_neg (by omega)]
      simp only [Option.bind_some]
      rw [show j = cmn bf s.data.toList by omega, lit2 _ _ (by omega) (by omega), if_pos (by simp only [List.length_map, List.length_cons, List.length_nil]; omega), if_pos (by omega), if_pos (by omega), Int.toNat_natCast,
        if_pos (by rw [ByteArray.size_extract]; omega), cut_map, if_pos (by simp only [List.length_append, List.length_map, List.length_cons, List.length_nil, List.length_drop]; omega), ← List.map_append, ← List.map_append, hrec, hw]
      exact hR k (by omega)
theorem refPackL (l : List ByteArray) (hl : l.length ≤ 300) (hs : ∀ s ∈ l, s.size ≤ 100) : ∀ (n i k : Nat) (acc bf : List UInt8), l.length - i = n → i ≤ l.length → 400 * n + 400 ≤ k → acc.length ≤ 102 * i → bf.length ≤ 100 → (i = 0 → bf = []) →
    cabinetryref09_Pack.l1 k l (acc.map toI) ⟨bf.toArray⟩ (i : Int) = some (match pk bf (tl (l.drop i)) with | some o => ((acc ++ o).map toI, 0) | none => ([], 1)) := by
  intro n
  induction n with
  | zero =>
    intro i k acc bf hn hi hk ha hb h0
    obtain ⟨k, rfl⟩ : ∃ m, k = m + 1 := ⟨k - 1, by omega⟩
    simp only [cabinetryref09_Pack.l1]
    rw [if_neg (by omega), List.drop_eq_nil_of_le (by omega)]
    simp [tl, pk]
  | succ n ih =>
    intro i k acc bf hn hi hk ha hb h0
    obtain ⟨k, rfl⟩ : ∃ m, k = m + 1 + 1 := ⟨k - 2, by omega⟩
    have hlt : i < l.length := by omega
    have hz := hs l[i] (List.getElem_mem hlt)
    rw [List.drop_eq_getElem_cons hlt]
    generalize hs' : l[i] = s at hz
    have et : tl (s :: l.drop (i + 1)) = s.data.toList :: tl (l.drop (i + 1)) := rfl
    have hsl : s.data.toList.length = s.size := ba_len s
    rw [et]
    have hr := recB_len bf s.data.toList
    have go : ¬ Lib.compareBytes s.data.toList bf < 0 → cabinetryref09_Pack.l2 k l (acc.map toI) ⟨bf.toArray⟩ (i : Int) 0 = some (match pk bf (s.data.toList :: tl (l.drop (i + 1))) with | some o => ((acc ++ o).map toI, 0) | none => ([], 1)) := by
      intro hc
      refine refStep l i hlt hl s hs' hz acc bf ha hb (400 * n + 400) _ (fun k' hk' => ?_) bf.length 0 k (by omega) (by omega) (by omega) (by simp) (by omega)
      have := ih (i + 1) k' (acc ++ recB bf s.data.toList) s.data.toList (by omega) (by omega) hk' (by rw [List.length_append]; omega) (by omega) (by omega)
      rw [ba_self] at this
      rw [this]
      conv => rhs; unfold pk
      rw [if_neg hc]
      cases pk s.data.toList (tl (l.drop (i + 1))) with
      | none => rfl
      | some o => simp
    simp only [cabinetryref09_Pack.l1]
    rw [if_pos (by omega)]
    by_cases hi0 : i = 0
    · have hb0 := h0 hi0
      rw [if_neg (by omega)]
      simp only [cabinetryref09_Pack.j2]
      rw [if_neg (by decide)]
      refine go ?_
      subst hb0
      cases s.data.toList <;> simp [Lib.compareBytes]
    · rw [if_pos (by omega), if_pos (by omega), rdB l i hlt, hs', compareTexts_f _ _ (by rw [ba_size]; omega) _ (by rw [ba_size]; omega), ba_mk]
      simp only [Option.bind_some, cabinetryref09_Pack.j2]
      have sw := cmpB_swap bf s.data.toList
      by_cases hc : Lib.compareBytes s.data.toList bf < 0
      · rw [if_pos (decide_eq_true (by omega))]
        unfold pk
        rw [if_pos hc]
      · rw [if_neg (by rw [decide_eq_false (by omega)]; decide)]
        exact go hc
theorem refPackS (l : List ByteArray) (hl : l.length ≤ 300) : ∀ (n i k : Nat), l.length - i = n → i ≤ l.length → n + 130000 ≤ k → (l.take i).any (fun s => decide (100 < s.size)) = false →
    cabinetryref09_Pack.l0 k l (i : Int) = some ((packV l).1.map toI, (packV l).2) := by
  intro n
  induction n with
  | zero =>
    intro i k hn hi hk hp
    obtain ⟨k, rfl⟩ : ∃ m, k = m + 1 := ⟨k - 1, by omega⟩
    rw [List.take_of_length_le (by omega)] at hp
    have hs : ∀ s ∈ l, s.size ≤ 100 := fun s hs => Nat.le_of_not_lt fun hh => by
      have := List.any_eq_false.1 hp s hs
      exact this (decide_eq_true hh)
    simp only [cabinetryref09_Pack.l0]
    rw [if_neg (by omega)]
    have := refPackL l hl hs l.length 0 k [] [] (by omega) (by omega) (by omega) (by simp) (by simp) (fun _ => rfl)
    have e : (⟨([] : List UInt8).toArray⟩ : ByteArray) = ⟨#[]⟩ := rfl
    rw [e, List.map_nil, List.drop_zero] at this
    rw [show (0 : Int) = ((0 : Nat) : Int) from rfl, this]
    unfold packV
    rw [if_neg (by omega), hp, if_neg (by decide)]
    cases pk [] (tl l) <;> rfl
  | succ n ih =>
    intro i k hn hi hk hp
    obtain ⟨k, rfl⟩ : ∃ m, k = m + 1 := ⟨k - 1, by omega⟩
    have hlt : i < l.length := by omega
    simp only [cabinetryref09_Pack.l0]
    rw [if_pos (by omega), if_pos (by omega), rdB l i hlt]
    by_cases h : 100 < l[i].size
    · rw [if_pos (by omega)]
      unfold packV
      rw [if_neg (by omega), if_pos (List.any_eq_true.2 ⟨_, List.getElem_mem hlt, decide_eq_true h⟩)]
      rfl
    · rw [if_neg (by omega), w64 (by omega) (by omega), show ((i : Int) + 1) = ((i + 1 : Nat) : Int) by omega]
      exact ih (i + 1) k (by omega) (by omega) (by omega) (by rw [List.take_succ_eq_append_getElem hlt, List.any_append, hp]; simp; omega)
theorem refPack_f (l : List ByteArray) (k : Nat) (hk : 140000 ≤ k) : cabinetryref09_Pack.f k l = some ((packV l).1.map toI, (packV l).2) := by
  unfold cabinetryref09_Pack.f
  by_cases h : 300 < l.length
  · rw [if_pos (by omega)]
    unfold packV
    rw [if_pos h]; rfl
  · rw [if_neg (by omega)]
    exact refPackS l (by omega) l.length 0 k (by omega) (by omega) (by omega) (by simp)
end Go.Proofs.YtnkejhfbkgfedaaDoor.L1
