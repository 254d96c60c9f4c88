-- Written by a program of this session (wip/merge.py): the texts of this claim, joined.
import Derived.Test.YtnkejhfbkgfedaaDoorMKeyPacks0
import Derived.Test.YtnkejhfbkgfedaaDoorMKeyPacks1
import Derived.Test.YtnkejhfbkgfedaaDoorMKeyPacks2
import Derived.Test.YtnkejhfbkgfedaaDoorMKeyPacks3
import Derived.Test.YtnkejhfbkgfedaaDoorMKeyPacks4
import Derived.Test.YtnkejhfbkgfedaaDoorMKeyPacks5
import Derived.Test.YtnkejhfbkgfedaaDoorMKeyPacks6
import Derived.Test.YtnkejhfbkgfedaaDoorMKeyPacks7
import Derived.Test.YtnkejhfbkgfedaaDoorMKeyPacks8
import Derived.Test.YtnkejhfbkgfedaaDoorMKeyPacks9
import Derived.Test.YtnkejhfbkgfedaaDoorMKeyPacks10
import Derived.Test.YtnkejhfbkgfedaaDoorMKeyPacks11
import Derived.Test.YtnkejhfbkgfedaaDoorMKeyPacks12
import Derived.Test.YtnkejhfbkgfedaaDoorMKeyPacks13
namespace Go.Proofs.YtnkejhfbkgfedaaDoor.PA
end Go.Proofs.YtnkejhfbkgfedaaDoor.PA
namespace Go.Proofs.YtnkejhfbkgfedaaDoor.PB
end Go.Proofs.YtnkejhfbkgfedaaDoor.PB
namespace Go.Proofs.YtnkejhfbkgfedaaDoor.PC
end Go.Proofs.YtnkejhfbkgfedaaDoor.PC
namespace Go.Proofs.YtnkejhfbkgfedaaDoor.H1
end Go.Proofs.YtnkejhfbkgfedaaDoor.H1
namespace Go.Proofs.YtnkejhfbkgfedaaDoor.L1
end Go.Proofs.YtnkejhfbkgfedaaDoor.L1
namespace Go.Proofs.YtnkejhfbkgfedaaDoor.L1
open Go.RowKit Go.Proofs.YtnkejhfbkgfedaaDoorW.PrintWords Go.Proofs.YtnkejhfbkgfedaaDoor.PA Go.Proofs.YtnkejhfbkgfedaaDoor.H1 Go.Proofs.YtnkejhfbkgfedaaDoor.PB Go.Proofs.YtnkejhfbkgfedaaDoor.PC
set_option linter.unusedVariables false
set_option linter.unusedSimpArgs false
theorem cmn_step (a b : List UInt8) (i : Nat) (ha : i < a.length) (hb : i < b.length) : cmn (a.drop i) (b.drop i) = if a[i] = b[i] then cmn (a.drop (i + 1)) (b.drop (i + 1)) + 1 else 0 := by
  rw [List.drop_eq_getElem_cons ha, List.drop_eq_getElem_cons hb]
  rfl
theorem cmn_end (a b : List UInt8) (i : Nat) (h : a.length ≤ i ∨ b.length ≤ i) : cmn (a.drop i) (b.drop i) = 0 := by
  rcases h with h | h
  · rw [List.drop_eq_nil_of_le h]; cases b.drop i <;> rfl
  · rw [List.drop_eq_nil_of_le h]; cases a.drop i <;> rfl
theorem common_l (s t : ByteArray) (hs : s.size ≤ 140737488351232) (ht : t.size ≤ 140737488351232) : ∀ (n i k : Nat), s.size - i = n → i ≤ s.size → n < k → key_common.l0 k s t (i : Int) = some ((i + cmn (s.data.toList.drop i) (t.data.toList.drop i) : Nat) : Int) := by
  intro n
  induction n with
  | zero =>
    intro i k hn hi hk
    obtain ⟨k, rfl⟩ : ∃ m, k = m + 1 := ⟨k - 1, by omega⟩
    simp only [key_common.l0]
    rw [if_neg (by omega), cmn_end _ _ i (Or.inl (by rw [ba_len]; omega))]; rfl
  | succ n ih =>
    intro i k hn hi hk
    obtain ⟨k, rfl⟩ : ∃ m, k = m + 1 := ⟨k - 1, by omega⟩
    simp only [key_common.l0]
    rw [if_pos (by omega)]
    by_cases h : i < t.size
    · rw [if_pos (by omega), if_pos (by omega), bt_toI s i (by omega), bt_toI t i h, cmn_step _ _ i (by rw [ba_len]; omega) (by rw [ba_len]; omega)]
      by_cases he : s.data.toList[i]'(by rw [ba_len]; omega) = t.data.toList[i]'(by rw [ba_len]; omega)
      · rw [if_pos (congrArg toI he), if_pos he, w64 (by omega) (by omega), show ((i : Int) + 1) = ((i + 1 : Nat) : Int) by omega, ih (i + 1) k (by omega) (by omega) (by omega)]
        exact congrArg some (by omega)
      · rw [if_neg (fun hh => he (toI_inj hh)), if_neg he]; rfl
    · rw [if_neg (by omega), cmn_end _ _ i (Or.inr (by rw [ba_len]; omega))]; rfl
theorem common_f (s t : ByteArray) (hs : s.size ≤ 140737488351232) (ht : t.size ≤ 140737488351232) (k : Nat) (hk : s.size < k) : key_common.f k s t = some ((cmn s.data.toList t.data.toList : Nat) : Int) := by
  have := common_l s t hs ht s.size 0 k (by omega) (by omega) hk
  simpa [key_common.f] using this
def tl (l : List ByteArray) : List (List UInt8) := l.map (fun s => s.data.toList)
def packV (l : List ByteArray) : List UInt8 × Int := if 300 < l.length then ([], 3) else if l.any (fun s => decide (100 < s.size)) = true then ([], 3) else match pk [] (tl l) with
  | some o => (o, 0)
  | none => ([], 1)
theorem rdB (l : List ByteArray) (i : Nat) (h : i < l.length) : rdOf ByteArray.empty l (i : Int) = l[i] := by
  unfold rdOf
  rw [Int.toNat_natCast, List.getD_eq_getElem?_getD, List.getElem?_eq_getElem h, Option.getD_some]
theorem lit2 (n : Nat) (z : Nat) (h : n ≤ z) (hz : z ≤ 200) : ([((n : Nat) : Int) % 256, (wrap64 ((z : Int) - ((n : Nat) : Int))) % 256] : List Int) = [UInt8.ofNat n, UInt8.ofNat (z - n)].map toI := by
  rw [w64 (by omega) (by omega)]
  simp only [List.map_cons, List.map_nil]
  rw [toI_ofNat _ (by omega), toI_ofNat _ (by omega)]
  congr 1
  · omega
  · congr 1; omega
theorem cut_map (s : ByteArray) (n : Nat) : bytesOf (s.extract n s.size) = (s.data.toList.drop n).map toI := by
  rw [bytesOf_map, ba_drop, ba_mk]
theorem recB_len (bf k : List UInt8) : (recB bf k).length ≤ k.length + 2 := by
  unfold recB
  simp only [List.length_cons, List.length_drop]; omega
theorem packL (l : List ByteArray) (hl : l.length ≤ 300) (hs : ∀ s ∈ l, s.size ≤ 100) : ∀ (n i k : Nat) (acc bf : List UInt8), l.length - i = n → i ≤ l.length → n + 200 ≤ k → acc.length ≤ 102 * i → bf.length ≤ 100 →
    key_Pack.l1 k (acc.map toI) ⟨bf.toArray⟩ l (l.length : Int) (i : Int) = some (match pk bf (tl (l.drop i)) with | some o => ((acc ++ o).map toI, 0) | none => ([], 1)) := by
  intro n
  induction n with
  | zero =>
    intro i k acc bf hn hi hk ha hb
    obtain ⟨k, rfl⟩ : ∃ m, k = m + 1 := ⟨k - 1, by omega⟩
    simp only [key_Pack.l1]
    rw [if_neg (by omega), List.drop_eq_nil_of_le (by omega)]
    simp [tl, pk]
  | succ n ih =>
    intro i k acc bf hn hi hk ha hb
    obtain ⟨k, rfl⟩ : ∃ m, k = m + 1 := ⟨k - 1, by omega⟩
    have hlt : i < l.length := by omega
    have hz := hs l[i] (List.getElem_mem hlt)
    simp only [key_Pack.l1]
    rw [if_pos (by omega), if_pos (by omega), if_pos (by omega), rdB l i hlt, ByteArray.toList_eq, ByteArray.toList_eq, less_cmp, ba_mk, List.drop_eq_getElem_cons hlt]
    generalize hs' : l[i] = s at hz
    have et : tl (s :: l.drop (i + 1)) = s.data.toList :: tl (l.drop (i + 1)) := rfl
    have hsl : s.data.toList.length = s.size := ba_len s
    rw [et]
    unfold pk
    by_cases hc : Lib.compareBytes s.data.toList bf < 0
    · rw [if_pos (decide_eq_true hc), if_pos hc]
    · have hcm := cmn_le bf s.data.toList
      rw [if_neg (by rw [decide_eq_false hc]; decide), if_neg hc, common_f _ _ (by rw [ba_size]; omega) (by omega) k (by rw [ba_size]; omega), ba_mk]
      simp only [Option.bind_some]
      rw [lit2 _ _ (by omega) (by omega), if_pos (by simp only [List.length_map, List.length_cons, List.length_nil]; omega), if_pos (by omega), if_pos (by omega), Int.toNat_natCast, cut_map,
        if_pos (by simp only [List.length_append, List.length_map, List.length_cons, List.length_nil, ByteArray.size_extract]; omega), w64 (by omega) (by omega), ← List.map_append, ← List.map_append,
        show ((i : Int) + 1) = ((i + 1 : Nat) : Int) by omega]
      have hrec : (acc ++ [UInt8.ofNat (cmn bf s.data.toList), UInt8.ofNat (s.size - cmn bf s.data.toList)]) ++ s.data.toList.drop (cmn bf s.data.toList) = acc ++ recB bf s.data.toList := by
        unfold recB; rw [hsl]; simp
      have hr := recB_len bf s.data.toList
      rw [hrec]
      have := ih (i + 1) k (acc ++ recB bf s.data.toList) s.data.toList (by omega) (by omega) (by omega) (by rw [List.length_append]; omega) (by omega)
      rw [ba_self] at this
      rw [this]
      cases pk s.data.toList (tl (l.drop (i + 1))) with
      | none => rfl
      | some o => simp
theorem packS (l : List ByteArray) (hl : l.length ≤ 300) : ∀ (n i k : Nat), l.length - i = n → i ≤ l.length → n + 600 ≤ k → (l.take i).any (fun s => decide (100 < s.size)) = false →
    key_Pack.l0 k l l (l.length : Int) (i : Int) = some ((packV l).1.map toI, (packV l).2) := by
  intro n
  induction n with
  | zero =>
    intro i k hn hi hk hp
    obtain ⟨k, rfl⟩ : ∃ m, k = m + 1 := ⟨k - 1, by omega⟩
    rw [List.take_of_length_le (by omega)] at hp
    have hs : ∀ s ∈ l, s.size ≤ 100 := fun s hs => Nat.le_of_not_lt fun hh => by
      have := List.any_eq_false.1 hp s hs
      exact this (decide_eq_true hh)
    simp only [key_Pack.l0]
    rw [if_neg (by omega)]
    have := packL l hl hs l.length 0 k [] [] (by omega) (by omega) (by omega) (by simp) (by simp)
    have e : (⟨([] : List UInt8).toArray⟩ : ByteArray) = ⟨#[]⟩ := rfl
    rw [e, List.map_nil, List.drop_zero] at this
    rw [show (0 : Int) = ((0 : Nat) : Int) from rfl, this]
    unfold packV
    rw [if_neg (by omega), hp, if_neg (by decide)]
    cases pk [] (tl l) <;> rfl
  | succ n ih =>
    intro i k hn hi hk hp
    obtain ⟨k, rfl⟩ : ∃ m, k = m + 1 := ⟨k - 1, by omega⟩
    have hlt : i < l.length := by omega
    simp only [key_Pack.l0]
    rw [if_pos (by omega), if_pos (by omega), if_pos (by omega), rdB l i hlt]
    by_cases h : 100 < l[i].size
    · rw [if_pos (by omega)]
      unfold packV
      rw [if_neg (by omega), if_pos (List.any_eq_true.2 ⟨_, List.getElem_mem hlt, decide_eq_true h⟩)]
      rfl
    · rw [if_neg (by omega), w64 (by omega) (by omega), show ((i : Int) + 1) = ((i + 1 : Nat) : Int) by omega]
      exact ih (i + 1) k (by omega) (by omega) (by omega) (by rw [List.take_succ_eq_append_getElem hlt, List.any_append, hp]; simp; omega)
theorem key_Pack_f (l : List ByteArray) (k : Nat) (hk : 2000 ≤ k) : key_Pack.f k l = some ((packV l).1.map toI, (packV l).2) := by
  unfold key_Pack.f
  by_cases h : 300 < l.length
  · rw [if_pos (by omega)]
    unfold packV
    rw [if_pos h]; rfl
  · rw [if_neg (by omega)]
    exact packS l (by omega) l.length 0 k (by omega) (by omega) (by omega) (by simp)
end Go.Proofs.YtnkejhfbkgfedaaDoor.L1
namespace Go.Proofs.YtnkejhfbkgfedaaDoor.L1
open Go.RowKit Go.Proofs.YtnkejhfbkgfedaaDoorW.PrintWords Go.Proofs.YtnkejhfbkgfedaaDoor.PA Go.Proofs.YtnkejhfbkgfedaaDoor.H1 Go.Proofs.YtnkejhfbkgfedaaDoor.PB Go.Proofs.YtnkejhfbkgfedaaDoor.PC
set_option linter.unusedVariables false
set_option linter.unusedSimpArgs false
theorem ba_app3 (a b : List UInt8) : (⟨a.toArray⟩ : ByteArray) ++ (⟨b.toArray⟩ : ByteArray) = ⟨(a ++ b).toArray⟩ := ba_ext (by simp)
def mkB (l : List UInt8) : ByteArray := ⟨l.toArray⟩
theorem rd0 (x : UInt8) (l : List UInt8) : rd ((x :: l).map toI) 0 = toI x := rfl
theorem rd1 (x y : UInt8) (l : List UInt8) : rd ((x :: y :: l).map toI) 1 = toI y := rfl
theorem toI_nat (x : UInt8) : (toI x).toNat = x.toNat := by unfold toI; omega
theorem j1_true (k : Nat) (hk : 1 ≤ k) (x0 : List Int) (x4 : List ByteArray) (x5 : ByteArray) : key_Unpack.j1 k x0 x4 x5 true = some ([], 11) := by
  obtain ⟨k, rfl⟩ : ∃ m, k = m + 1 := ⟨k - 1, by omega⟩
  simp [key_Unpack.j1]
theorem unpackL : ∀ (n : Nat) (B bf : List UInt8) (acc : List ByteArray) (k : Nat), B.length < n → B.length ≤ 140737488351232 → bf.length ≤ 100 → acc.length ≤ 300 → 2 * B.length + 800 ≤ k →
    key_Unpack.l0 k (B.map toI) acc ⟨bf.toArray⟩ = some (match uk n acc.length bf B with | some l => (acc ++ l.map mkB, 0) | none => ([], 11))
  | 0, B, bf, acc, k, h, _, _, _, _ => by omega
  | n + 1, [], bf, acc, k, h, _, hb, ha, hk => by
    obtain ⟨k, rfl⟩ : ∃ m, k = m + 1 := ⟨k - 1, by omega⟩
    simp only [key_Unpack.l0, uk]
    rw [if_neg (by simp)]
    simp
  | n + 1, [z], bf, acc, k, h, _, hb, ha, hk => by
    obtain ⟨k, rfl⟩ : ∃ m, k = m + 1 := ⟨k - 1, by omega⟩
    simp only [key_Unpack.l0, uk]
    rw [if_pos (by simp), if_pos (by simp), j1_true k (by omega)]
  | n + 1, x :: y :: r, bf, acc, k, h, hB, hb, ha, hk => by
    simp only [List.length_cons] at h hB hk
    obtain ⟨k, rfl⟩ : ∃ m, k = m + 1 + 1 := ⟨k - 2, by omega⟩
    have hlen : ((x :: y :: r).map toI).length = r.length + 2 := by simp
    have rx := toI_range x
    have ry := toI_range y
    have ex : toI x = (x.toNat : Int) := rfl
    have ey : toI y = (y.toNat : Int) := rfl
    have w2 : wrap64 (2 + wrap64 (toI y)) = 2 + toI y := by rw [w64 (x := toI y) (by omega) (by omega), w64 (by omega) (by omega)]
    have W2 := Aside0.mk w2
    clear w2
    simp only [key_Unpack.l0, uk]
    rw [hlen, rd0, rd1, W2.out, w64 (x := toI x) (by omega) (by omega), ba_size, if_pos (by omega), if_neg (by omega), if_pos (by omega)]
    by_cases h1 : bf.length < x.toNat
    · rw [if_pos (by omega), j1_true _ (by omega), if_pos (Or.inl h1)]
    · rw [if_neg (by omega), if_pos (by omega)]
      by_cases h2 : r.length < y.toNat
      · have hd : ((r.length + 2 : Nat) : Int) < 2 + toI y := by rw [ey]; clear rx ry ex ey hlen; omega
        rw [decide_eq_true hd, j1_true _ (by omega), if_pos (Or.inr h2)]
      · have hd : ¬ ((r.length + 2 : Nat) : Int) < 2 + toI y := by rw [ey]; clear rx ry ex ey hlen; omega
        rw [decide_eq_false hd, if_neg (fun hh => hh.elim h1 h2)]
        have et : (2 + toI y).toNat = y.toNat + 2 := by omega
        have e1 : (((x :: y :: r).map toI).take (y.toNat + 2)).drop 2 = (r.take y.toNat).map toI := by
          simp only [List.map_cons, List.take_succ_cons, List.drop_succ_cons, List.drop_zero, List.map_take]
        have e2 : ((x :: y :: r).map toI).drop (y.toNat + 2) = (r.drop y.toNat).map toI := by
          simp only [List.map_cons, List.drop_succ_cons, List.map_drop]
        have eK : (⟨bf.toArray⟩ : ByteArray).extract 0 x.toNat ++ (⟨(r.take y.toNat).toArray⟩ : ByteArray) = mkB (bf.take x.toNat ++ r.take y.toNat) := by
          rw [ba_take, ba_mk, ba_app3]; rfl
        have zt : (r.take y.toNat).length = y.toNat := by rw [List.length_take]; omega
        have zb : (bf.take x.toNat).length = x.toNat := by rw [List.length_take]; omega
        have zK : (mkB (bf.take x.toNat ++ r.take y.toNat)).size = x.toNat + y.toNat := by unfold mkB; rw [ba_size, List.length_append]; omega
        have lK : (mkB (bf.take x.toNat ++ r.take y.toNat)).data.toList = bf.take x.toNat ++ r.take y.toNat := ba_mk _
        have lL : (bf.take x.toNat ++ r.take y.toNat).length = x.toNat + y.toNat := by rw [List.length_append]; omega
        simp only [key_Unpack.j1]
        rw [if_neg (by decide), hlen, rd0, rd1, W2.out, w64 (x := toI x) (by omega) (by omega), ba_size, if_pos (by omega), if_pos (by omega), if_pos (by omega), if_pos (by omega), if_pos (by omega), if_pos (by omega), et, e1, toI_nat]
        simp only [Option.bind_some]
        rw [strOf_map, eK, ByteArray.toList_eq, ByteArray.toList_eq, lK, ba_mk, less_cmp, if_pos (by rw [ByteArray.size_extract, ba_size, ba_size]; omega), zK]
        by_cases a1 : Lib.compareBytes (bf.take x.toNat ++ r.take y.toNat) bf < 0
        · rw [if_pos (decide_eq_true a1), if_pos (Or.inl a1)]
        · rw [if_neg (by rw [decide_eq_false a1]; decide)]
          by_cases a2 : 100 < x.toNat + y.toNat
          · rw [if_pos (by omega), if_pos (Or.inr (Or.inl (by omega)))]
          · rw [if_neg (by omega), common_f _ _ (by rw [ba_size]; omega) (by rw [zK]; omega) k (by rw [ba_size]; omega), lK, ba_mk]
            simp only [Option.bind_some]
            by_cases a3 : cmn bf (bf.take x.toNat ++ r.take y.toNat) = x.toNat
            · rw [a3, if_pos (by omega)]
              by_cases a4 : acc.length = 300
              · rw [if_pos (by omega), if_pos (Or.inr (Or.inr (Or.inr a4)))]
              · rw [if_neg (by omega), if_pos (by omega), if_pos (by omega), e2]
                have := unpackL n (r.drop y.toNat) (bf.take x.toNat ++ r.take y.toNat) (acc ++ [mkB (bf.take x.toNat ++ r.take y.toNat)]) k (by rw [List.length_drop]; omega) (by rw [List.length_drop]; omega) (by omega) (by rw [List.length_append]; simp only [List.length_cons, List.length_nil]; omega) (by rw [List.length_drop]; omega)
                have em : (⟨(bf.take x.toNat ++ r.take y.toNat).toArray⟩ : ByteArray) = mkB (bf.take x.toNat ++ r.take y.toNat) := rfl
                rw [em] at this
                rw [this, if_neg]
                · rw [List.length_append]
                  simp only [List.length_cons, List.length_nil]
                  cases uk n (acc.length + (0 + 1)) (bf.take x.toNat ++ r.take y.toNat) (r.drop y.toNat) with
                  | none => rfl
                  | some l => simp
                · rintro (hh | hh | hh | hh)
                  · exact a1 hh
                  · omega
                  · exact hh rfl
                  · exact a4 hh
            · rw [if_neg (by omega), if_pos (Or.inr (Or.inr (Or.inl a3)))]
def unV (B : List UInt8) : List ByteArray × Int := match uk (B.length + 1) 0 [] B with
  | some l => (l.map mkB, 0)
  | none => ([], 11)
theorem key_Unpack_f (B : List UInt8) (hB : B.length ≤ 140737488351232) (k : Nat) (hk : 2 * B.length + 800 ≤ k) : key_Unpack.f k (B.map toI) = some (unV B) := by
  have := unpackL (B.length + 1) B [] [] k (by omega) hB (by simp) (by simp) hk
  unfold key_Unpack.f unV
  rw [show (⟨#[]⟩ : ByteArray) = ⟨([] : List UInt8).toArray⟩ from rfl, this]
  cases uk (B.length + 1) 0 [] B with
  | none => rfl
  | some l => simp
end Go.Proofs.YtnkejhfbkgfedaaDoor.L1
