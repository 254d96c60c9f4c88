/-
  KeyDecodes of package cabinetry/cabinetrylaw09: for every input the call returns true, and each argument reads afterwards as it read before. Conditions: the package-level variables that the row lists (of unicode/utf8) hold what the program's text lays, which the card ties; nothing else.
-/
-- Written by a program of this session (wip/merge.py): the texts of this claim, joined.
import Derived.Test.YtnkejhfbkgfedaaDoorRows
import Derived.Test.YtnkejhfbkgfedaaDoorCards
import Derived.Test.YtnkejhfbkgfedaaDoorTie
import Derived.WalkKit
import Derived.ProofKit
import Derived.OpenShut
import Derived.ShutString
import Derived.ChangeOld
import Derived.Below
import Derived.SizedLaws
import Derived.LaidMore
import Derived.Lay
import Derived.SevenTiedAt
import Derived.Stop.Joined
import Derived.Test.YtnkejhfbkgfedaaDoorMKeyDecodes0
import Derived.Test.YtnkejhfbkgfedaaDoorMKeyDecodes1
import Derived.Test.YtnkejhfbkgfedaaDoorMKeyDecodes2
import Derived.Test.YtnkejhfbkgfedaaDoorMKeyDecodes3
import Derived.Test.YtnkejhfbkgfedaaDoorMKeyDecodes4
import Derived.Test.YtnkejhfbkgfedaaDoorMKeyDecodes5
import Derived.Test.YtnkejhfbkgfedaaDoorMKeyDecodes6
import Derived.Test.YtnkejhfbkgfedaaDoorMKeyDecodes7
import Derived.Test.YtnkejhfbkgfedaaDoorMKeyDecodes8
import Derived.Test.YtnkejhfbkgfedaaDoorMKeyDecodes9
import Derived.Test.YtnkejhfbkgfedaaDoorMKeyDecodes10
import Derived.Test.YtnkejhfbkgfedaaDoorMKeyDecodes11
import Derived.Test.YtnkejhfbkgfedaaDoorMKeyDecodes12
import Derived.Test.YtnkejhfbkgfedaaDoorMKeyDecodes13
import Derived.Test.YtnkejhfbkgfedaaDoorMKeyDecodes14
import Derived.Test.YtnkejhfbkgfedaaDoorMKeyDecodes15
import Derived.Test.YtnkejhfbkgfedaaDoorMKeyDecodes16
import Derived.Test.YtnkejhfbkgfedaaDoorMKeyDecodes17
import Derived.Test.YtnkejhfbkgfedaaDoorMKeyDecodes18
import Derived.Test.YtnkejhfbkgfedaaDoorMKeyDecodes19
import Derived.Test.YtnkejhfbkgfedaaDoorMKeyDecodes20
namespace Go.Proofs.YtnkejhfbkgfedaaDoor.PA
end Go.Proofs.YtnkejhfbkgfedaaDoor.PA
namespace Go.Proofs.YtnkejhfbkgfedaaDoor.PB
end Go.Proofs.YtnkejhfbkgfedaaDoor.PB
namespace Go.Proofs.YtnkejhfbkgfedaaDoor.PC
end Go.Proofs.YtnkejhfbkgfedaaDoor.PC
namespace Go.Proofs.YtnkejhfbkgfedaaDoor.H1
end Go.Proofs.YtnkejhfbkgfedaaDoor.H1
namespace Go.Proofs.YtnkejhfbkgfedaaDoor.L1
end Go.Proofs.YtnkejhfbkgfedaaDoor.L1
namespace Go.Proofs.YtnkejhfbkgfedaaDoor.L1
open Go.RowKit Go.Proofs.YtnkejhfbkgfedaaDoorW.PrintWords Go.Proofs.YtnkejhfbkgfedaaDoor.PA Go.Proofs.YtnkejhfbkgfedaaDoor.H1 Go.Proofs.YtnkejhfbkgfedaaDoor.PB
set_option linter.unusedVariables false
set_option linter.unusedSimpArgs false
theorem tx_rest : ∀ (n : Nat) (acc l t r : List UInt8), tx n acc l = some (t, r) → r.length + 2 ≤ l.length
  | 0, _, _, _, _, h => by simp [tx] at h
  | n + 1, acc, [], t, r, h => by simp [tx] at h
  | n + 1, acc, x :: l, t, r, h => by
    rw [tx_step] at h
    by_cases hx : x = 0
    · rw [if_pos hx] at h
      cases l with
      | nil => simp at h
      | cons y m =>
        simp only [] at h
        by_cases hy : y = 0
        · rw [if_pos hy] at h
          split at h
          · cases h
          · obtain ⟨rfl, rfl⟩ := Prod.mk.inj (Option.some.inj h)
            simp
        · rw [if_neg hy] at h
          by_cases hy1 : y = 1
          · rw [if_pos hy1] at h
            have := tx_rest n _ m t r h
            simp only [List.length_cons]; omega
          · rw [if_neg hy1] at h; cases h
    · rw [if_neg hx] at h
      have := tx_rest n _ l t r h
      simp only [List.length_cons]; omega
def numV (a : Int) (z : Nat) (l : List UInt8) : Option (Int × Int × ByteArray × Int) :=
  if l.length < z then none else if validV a (if a = 2 then wrap64 (numL 0 (l.take z) - 1000000000000000) else numL 0 (l.take z)) ⟨#[]⟩ = 0 then some (a, (if a = 2 then wrap64 (numL 0 (l.take z) - 1000000000000000) else numL 0 (l.take z)), ⟨#[]⟩, (1 + z : Nat)) else none
def onV : List UInt8 → Option (Int × Int × ByteArray × Int)
  | [] => none
  | x :: l => if x = 0 then some (0, 0, ⟨#[]⟩, 1) else if x = 4 then (match tx (l.length + 1) [] l with
      | none => none
      | some (t, r) => some (4, 0, ⟨t.toArray⟩, ((l.length + 1 : Nat) : Int) - r.length))
    else if x = 1 then numV 1 1 l else if x = 2 then numV 2 8 l else if x = 3 then numV 3 4 l else none
def isCut (s : ByteArray) (r : Int × Int × ByteArray × Int) : Option (Int × Int × ByteArray × Int) → Prop
  | none => r.2.2.2 = 0
  | some q => r = q ∧ 1 ≤ q.2.2.2 ∧ q.2.2.2 ≤ (s.size : Int)
theorem cut_part (s : ByteArray) (x : UInt8) (l : List UInt8) (h : s.data.toList = x :: l) (z : Nat) (hz : z ≤ l.length) : (s.extract 1 (1 + z)).data.toList = l.take z := by
  have ls := ba_len s
  rw [h, List.length_cons] at ls
  rw [ba_extract s 1 (1 + z) (by omega), h, Nat.add_comm 1 z, List.take_succ_cons, List.drop_succ_cons, List.drop_zero]
theorem key_j0 (k : Nat) (hk : 100 ≤ k) (s : ByteArray) (hs : s.size ≤ 40000) (x : UInt8) (l : List UInt8) (h : s.data.toList = x :: l) (a : Int) (z : Nat) (hz : 1 ≤ z ∧ z ≤ 8) :
    ∃ r, key_cut.j0 k s (z : Int) a 0 (⟨#[]⟩ : ByteArray) = some r ∧ isCut s r (numV a z l) := by
  obtain ⟨k, rfl⟩ : ∃ m, k = m + 1 + 1 + 1 := ⟨k - 3, by omega⟩
  have ls := ba_len s
  rw [h, List.length_cons] at ls
  simp only [key_cut.j0, key_cut.j1]
  rw [if_neg (by omega), w64 (x := (1 : Int) + (z : Int)) (by omega) (by omega)]
  unfold numV
  by_cases hl : l.length < z
  · rw [if_pos (decide_eq_true (by omega)), if_pos hl]
    exact ⟨_, rfl, rfl⟩
  · rw [if_neg (by rw [decide_eq_false (by omega)]; decide), if_neg hl, if_pos (by omega), if_pos (by omega), show ((1 : Int) + (z : Int)).toNat = 1 + z by omega]
    have hp := cut_part s x l h z (by omega)
    have hsz : (s.extract 1 (1 + z)).size ≤ 8 := by rw [ByteArray.size_extract]; omega
    rw [key_number_f _ _ (by omega) (by omega), hp]
    simp only [Option.bind_some, validate_f]
    by_cases ha : a = 2
    · rw [if_pos ha, if_pos ha]
      by_cases hv : validV a (wrap64 (numL 0 (l.take z) - 1000000000000000)) ⟨#[]⟩ = 0
      · rw [if_pos hv, if_pos hv]
        exact ⟨_, rfl, by simp, by simp; omega, by simp; omega⟩
      · rw [if_neg hv, if_neg hv]
        exact ⟨_, rfl, rfl⟩
    · rw [if_neg ha, if_neg ha]
      by_cases hv : validV a (numL 0 (l.take z)) ⟨#[]⟩ = 0
      · rw [if_pos hv, if_pos hv]
        exact ⟨_, rfl, by simp, by simp; omega, by simp; omega⟩
      · rw [if_neg hv, if_neg hv]
        exact ⟨_, rfl, rfl⟩
theorem text_cut (s : ByteArray) (x : UInt8) (l : List UInt8) (h : s.data.toList = x :: l) : isCut s (txV s.size (tx (l.length + 1) [] l)) (match tx (l.length + 1) [] l with
      | none => none
      | some (t, r) => some (4, 0, ⟨t.toArray⟩, ((l.length + 1 : Nat) : Int) - r.length)) := by
  have ls := ba_len s
  rw [h, List.length_cons] at ls
  cases ht : tx (l.length + 1) [] l with
  | none => rfl
  | some q =>
    obtain ⟨t, r⟩ := q
    have := tx_rest _ _ _ _ _ ht
    refine ⟨?_, ?_, ?_⟩
    · unfold txV; rw [← ls]
    · show (1 : Int) ≤ ((l.length + 1 : Nat) : Int) - r.length
      omega
    · show ((l.length + 1 : Nat) : Int) - r.length ≤ (s.size : Int)
      omega
theorem key_cut_f (k : Nat) (hk : 90000 ≤ k) (s : ByteArray) (hs : s.size ≤ 40000) : ∃ r, key_cut.f k s = some r ∧ isCut s r (onV s.data.toList) := by
  unfold key_cut.f
  rw [ByteArray.toList_eq]
  cases h : s.data.toList with
  | nil =>
    rw [if_pos rfl]
    exact ⟨_, rfl, rfl⟩
  | cons x l =>
    have ls := ba_len s
    rw [h, List.length_cons] at ls
    have hb : bt s 0 = toI x := by
      have := bt_toI s 0 (by omega)
      simp only [h, List.getElem_cons_zero] at this
      exact this
    have hr := toI_range x
    rw [if_neg (by simp), if_pos (by omega), hb, w64 (by omega) (by omega)]
    by_cases h0 : x = 0
    · rw [if_pos (by rw [h0]; rfl), onV, if_pos h0, h0]
      exact ⟨_, rfl, rfl, by decide, by simp; omega⟩
    · rw [if_neg (fun e => h0 (toI_inj (e.trans rfl))), onV, if_neg h0]
      by_cases h4 : x = 4
      · rw [if_pos (by rw [h4]; rfl), if_pos h4]
        have hT := cutText_l s hs l.length 1 k [] (by omega) (by omega) (by omega) (by simp)
        rw [h, List.drop_succ_cons, List.drop_zero] at hT
        unfold key_cutText.f
        rw [show ((1 : Nat) : Int) = 1 from rfl, List.map_nil] at hT
        rw [hT]
        simp only [Option.bind_some]
        exact ⟨_, rfl, text_cut s x l h⟩
      · rw [if_neg (fun e => h4 (toI_inj (e.trans rfl))), if_neg h4]
        by_cases h1 : x = 1
        · rw [if_pos (by rw [h1]; rfl), if_pos h1, show toI x = 1 by rw [h1]; rfl]
          exact key_j0 k (by omega) s hs x l h 1 1 (by omega)
        · rw [if_neg (fun e => h1 (toI_inj (e.trans rfl))), if_neg h1]
          by_cases h2 : x = 2
          · rw [if_pos (by rw [h2]; rfl), if_pos h2, if_neg (by decide), show toI x = 2 by rw [h2]; rfl]
            exact key_j0 k (by omega) s hs x l h 2 8 (by omega)
          · rw [if_neg (fun e => h2 (toI_inj (e.trans rfl))), if_neg h2]
            by_cases h3 : x = 3
            · rw [if_pos (by rw [h3]; rfl), if_pos h3, if_pos rfl, show toI x = 3 by rw [h3]; rfl]
              exact key_j0 k (by omega) s hs x l h 3 4 (by omega)
            · rw [if_neg (fun e => h3 (toI_inj (e.trans rfl))), if_neg h3]
              obtain ⟨k, rfl⟩ : ∃ m, k = m + 1 + 1 := ⟨k - 2, by omega⟩
              simp only [key_cut.j0, key_cut.j1]
              exact ⟨_, rfl, rfl⟩
theorem ref_j0 (k : Nat) (hk : 100 ≤ k) (s : ByteArray) (hs : s.size ≤ 40000) (x : UInt8) (l : List UInt8) (h : s.data.toList = x :: l) (a : Int) (z : Nat) (hx : toI x = a) (hz : (a = 1 ∧ z = 1) ∨ (a = 2 ∧ z = 8) ∨ (a = 3 ∧ z = 4)) :
    ∃ r, cabinetryref09_one.j0 k s ((1 + z : Nat) : Int) = some r ∧ isCut s r (numV a z l) := by
  obtain ⟨k, rfl⟩ : ∃ m, k = m + 1 + 1 := ⟨k - 2, by omega⟩
  have ls := ba_len s
  rw [h, List.length_cons] at ls
  have hb : bt s 0 = toI x := by
    have := bt_toI s 0 (by omega)
    simp only [h, List.getElem_cons_zero] at this
    exact this
  have main : z ≤ l.length → (∃ r, cabinetryref09_one.j1 (k + 1) s ((1 + z : Nat) : Int) false = some r ∧ isCut s r (numV a z l)) := by
    intro hl
    simp only [cabinetryref09_one.j1]
    rw [if_neg (by decide), if_pos (by omega), if_pos (by omega), if_pos (by omega), Int.toNat_natCast]
    have hp := cut_part s x l h z (by omega)
    have hsz : (s.extract 1 (1 + z)).size ≤ 8 := by rw [ByteArray.size_extract]; omega
    rw [refRead_f _ _ (by omega) (by omega), hp, hb, w64 (x := toI x) (by omega) (by omega), hx]
    simp only [Option.bind_some, refValidate_f]
    unfold numV
    rw [if_neg (show ¬ l.length < z by omega)]
    by_cases ha : a = 2
    · rw [if_pos ha, if_pos ha]
      by_cases hv : validV a (wrap64 (numL 0 (l.take z) - 1000000000000000)) ⟨#[]⟩ = 0
      · rw [if_pos hv, if_pos hv]
        exact ⟨_, rfl, rfl, by simp; omega, by simp; omega⟩
      · rw [if_neg hv, if_neg hv]
        exact ⟨_, rfl, rfl⟩
    · rw [if_neg ha, if_neg ha]
      by_cases hv : validV a (numL 0 (l.take z)) ⟨#[]⟩ = 0
      · rw [if_pos hv, if_pos hv]
        exact ⟨_, rfl, rfl, by simp; omega, by simp; omega⟩
      · rw [if_neg hv, if_neg hv]
        exact ⟨_, rfl, rfl⟩
  have none_ : numV a z l = none → ∃ r, cabinetryref09_one.j1 (k + 1) s ((1 + z : Nat) : Int) true = some r ∧ isCut s r (numV a z l) := by
    intro e
    rw [e]
    simp only [cabinetryref09_one.j1]
    exact ⟨_, rfl, rfl⟩
  generalize hK : k + 1 = K at main none_
  simp only [cabinetryref09_one.j0]
  by_cases hl : l.length < z
  · rw [if_pos (by omega)]
    exact none_ (by unfold numV; rw [if_pos hl])
  · rw [if_neg (by omega)]
    rcases hz with ⟨ha, rfl⟩ | ⟨ha, rfl⟩ | ⟨ha, rfl⟩
    · rw [if_neg (by decide)]
      exact main (by omega)
    · rw [if_pos (by decide), if_pos (by omega)]
      cases hl2 : l with
      | nil => rw [hl2] at hl; simp at hl
      | cons y m =>
        have hb1 : bt s 1 = toI y := by
          have := bt_toI s 1 (by omega)
          simp only [h, hl2, List.getElem_cons_succ, List.getElem_cons_zero] at this
          exact this
        rw [hb1]
        by_cases hy : toI y > 127
        · rw [decide_eq_true hy]
          rw [hl2] at none_
          refine none_ ?_
          rw [hl2] at hl
          unfold numV
          rw [if_neg hl, if_pos ha]
          have hn := numL_neg ((y :: m).take 8) (by rw [List.length_take]; omega) ⟨y, m.take 7, rfl, by unfold toI at hy; omega⟩
          have hq : ∃ q, numL 0 ((y :: m).take 8) = q ∧ q < 0 ∧ -9223372036854775808 ≤ q := by
            obtain ⟨r, h3, h4, h5⟩ := numL_vN ((y :: m).take 8) 0 0 0 (by omega) (by omega) (by omega)
            exact ⟨_, rfl, hn, h4⟩
          obtain ⟨q, hq, hq0, hq1⟩ := hq
          rw [hq, if_neg]
          intro hv
          obtain ⟨_, hc⟩ := valid_cases hv
          have hw : wrap64 (q - 1000000000000000) < -1000000000000000 ∨ 1000000000000000 < wrap64 (q - 1000000000000000) := by unfold wrap64; omega
          omega
        · rw [decide_eq_false hy]
          rw [hl2] at main
          rw [hl2] at hl
          exact main (by omega)
    · rw [if_neg (by decide)]
      exact main (by omega)
theorem ref_one_f (k : Nat) (hk : 90000 ≤ k) (s : ByteArray) (hs : s.size ≤ 40000) : ∃ r, cabinetryref09_one.f k s = some r ∧ isCut s r (onV s.data.toList) := by
  unfold cabinetryref09_one.f
  rw [ByteArray.toList_eq]
  cases h : s.data.toList with
  | nil =>
    rw [if_pos rfl]
    exact ⟨_, rfl, rfl⟩
  | cons x l =>
    have ls := ba_len s
    rw [h, List.length_cons] at ls
    have hb : bt s 0 = toI x := by
      have := bt_toI s 0 (by omega)
      simp only [h, List.getElem_cons_zero] at this
      exact this
    have hr := toI_range x
    rw [if_neg (by simp), if_pos (by omega), hb, w64 (by omega) (by omega)]
    by_cases h0 : x = 0
    · rw [if_pos (by rw [h0]; rfl), onV, if_pos h0]
      exact ⟨_, rfl, rfl, by decide, by simp; omega⟩
    · rw [if_neg (fun e => h0 (toI_inj (e.trans rfl))), onV, if_neg h0]
      by_cases h1 : x = 1
      · rw [if_pos (by rw [h1]; rfl), if_neg (by rw [h1]; decide), if_pos h1]
        exact ref_j0 k (by omega) s hs x l h 1 1 (by rw [h1]; rfl) (Or.inl ⟨rfl, rfl⟩)
      · rw [if_neg (fun e => h1 (toI_inj (e.trans rfl))), if_neg h1]
        by_cases h2 : x = 2
        · rw [if_pos (by rw [h2]; rfl), if_neg (by rw [h2]; decide), if_pos h2]
          exact ref_j0 k (by omega) s hs x l h 2 8 (by rw [h2]; rfl) (Or.inr (Or.inl ⟨rfl, rfl⟩))
        · rw [if_neg (fun e => h2 (toI_inj (e.trans rfl))), if_neg h2]
          by_cases h3 : x = 3
          · rw [if_pos (by rw [h3]; rfl), if_neg (by rw [h3]; decide), if_pos h3]
            exact ref_j0 k (by omega) s hs x l h 3 4 (by rw [h3]; rfl) (Or.inr (Or.inr ⟨rfl, rfl⟩))
          · rw [if_neg (fun e => h3 (toI_inj (e.trans rfl))), if_neg h3]
            by_cases h4 : x = 4
            · rw [if_pos (by rw [h4]; rfl), if_pos h4]
              have hT := refText_l s hs l.length 1 k [] (by omega) (by omega) (by omega) (by simp)
              rw [h, List.drop_succ_cons, List.drop_zero] at hT
              unfold cabinetryref09_text.f
              rw [show ((1 : Nat) : Int) = 1 from rfl, List.map_nil] at hT
              rw [hT]
              simp only [Option.bind_some]
              exact ⟨_, rfl, text_cut s x l h⟩
            · rw [if_neg (fun e => h4 (toI_inj (e.trans rfl))), if_neg h4]
              exact ⟨_, rfl, rfl⟩
def decV (k : ByteArray) (d : Bool) : Int × Int × ByteArray × Int := match onV (negL d k.data.toList) with
  | none => (0, 0, ⟨#[]⟩, 11)
  | some (a, n, t, z) => if z = (k.size : Int) then (a, n, t, 0) else (0, 0, ⟨#[]⟩, 11)
theorem key_Decode_f (k : Nat) (hk : 90000 ≤ k) (s : ByteArray) (hs : s.size ≤ 40000) (d : Bool) : key_Decode.f k s d = some (decV s d) := by
  unfold key_Decode.f decV
  simp only [Option.bind_some, key_turner.f]
  rw [turn_f k d s (by omega) (by omega)]
  simp only [Option.bind_some]
  have hz : (⟨(negL d s.data.toList).toArray⟩ : ByteArray).size = s.size := by rw [ba_size, negL_len, ba_len]
  obtain ⟨r, h1, h2⟩ := key_cut_f k hk ⟨(negL d s.data.toList).toArray⟩ (by omega)
  rw [h1]
  simp only [Option.bind_some]
  rw [ba_mk] at h2
  rw [hz]
  cases ho : onV (negL d s.data.toList) with
  | none =>
    rw [ho] at h2
    rw [if_pos (show r.2.2.2 = 0 from h2)]
  | some q =>
    rw [ho] at h2
    obtain ⟨rfl, h3, h4⟩ := h2
    obtain ⟨a, n, t, z⟩ := r
    simp only [] at h3 ⊢
    rw [if_neg (by omega)]
    split <;> rfl
theorem ref_Decode_f (k : Nat) (hk : 90000 ≤ k) (s : ByteArray) (hs : s.size ≤ 40000) (d : Bool) : cabinetryref09_Decode.f k s d = some (decV s d) := by
  unfold cabinetryref09_Decode.f decV
  rw [refTurned_f k d s (by omega) (by omega)]
  simp only [Option.bind_some]
  have hz : (⟨(negL d s.data.toList).toArray⟩ : ByteArray).size = s.size := by rw [ba_size, negL_len, ba_len]
  obtain ⟨r, h1, h2⟩ := ref_one_f k hk ⟨(negL d s.data.toList).toArray⟩ (by omega)
  rw [h1]
  simp only [Option.bind_some]
  rw [ba_mk] at h2
  cases ho : onV (negL d s.data.toList) with
  | none =>
    rw [ho] at h2
    rw [if_pos (show r.2.2.2 = 0 from h2)]
  | some q =>
    rw [ho] at h2
    obtain ⟨rfl, h3, h4⟩ := h2
    obtain ⟨a, n, t, z⟩ := r
    simp only [] at h3 ⊢
    rw [if_neg (by omega)]
    split <;> rfl
theorem same_f (a n : Int) (s : ByteArray) : cabinetryref01_SameValue.f a n s a n s = some true := by
  unfold cabinetryref01_SameValue.f
  rw [if_pos rfl, if_pos rfl]
  simp
end Go.Proofs.YtnkejhfbkgfedaaDoor.L1
namespace Go.Proofs.YtnkejhfbkgfedaaDoor.LKeyDecodes
open Go.RowKit Go.Proofs.YtnkejhfbkgfedaaDoorW.PrintWords Go.Proofs.YtnkejhfbkgfedaaDoor.PA Go.Proofs.YtnkejhfbkgfedaaDoor.H1 Go.Proofs.YtnkejhfbkgfedaaDoor.PB Go.Proofs.YtnkejhfbkgfedaaDoor.L1
set_option linter.unusedVariables false
theorem law (a0 : ByteArray) (a1 : Bool) (_ : a0.size ≤ 140737488351232) : ∃ k, cabinetrylaw09_KeyDecodes.f k a0 a1 = some true := by
  refine ⟨100000, ?_⟩
  unfold cabinetrylaw09_KeyDecodes.f
  rw [known_ev 100000 (by decide)]
  by_cases h : (a0.size : Int) > 40000
  · rw [if_pos h]; rfl
  · rw [if_neg h, key_Decode_f 100000 (by decide) a0 (by omega), ref_Decode_f 100000 (by decide) a0 (by omega)]
    simp only [Option.bind_some]
    rw [same_f]
    simp
end Go.Proofs.YtnkejhfbkgfedaaDoor.LKeyDecodes
namespace Go.Proofs.YtnkejhfbkgfedaaDoor.keyDecodes
open Go.ChangeShapes Go.WideShapes Go.ChangeAt Go.RowKit
open Go.ChangeMaps (open_string shut_string)
set_option linter.unusedVariables false
theorem own : ownKnob Tryd.prog.godebug = none := by kernel_rfl
set_option maxRecDepth 100000 in
theorem lifted (os : Os) (started : os.Started) (H : Type) (enc : TypeId × Value → H) :
    ReturnsInHanded {} Tryd.checked os 11 .any (fun w args => (Rows.keyDecodesSpec.pre enc Tryd.prog Tryd.f11 Rows.keyDecodesRow.domain false w args ∧ laidMetH Tryd.prog Rows.keyDecodesRow.laid w) ∧ sizedMet enc Tryd.prog Tryd.f11 (OpenSpec.ofChange Rows.keyDecodesSpec) false w args)
      (Rows.keyDecodesSpec.post enc Tryd.prog Tryd.f11 false true false false) := by
  refine L0.handed_and_shaped (C := Tryd.checked) (X := fun w _ => laidMetH Tryd.prog Rows.keyDecodesRow.laid w) (fun _ _ _ hh h => h.of_heap hh) own started (by kernel_rfl) Tryd.func11
    (ChangeSpec.witness_shaped (enc := enc) (C := Tryd.checked) (os := os) (X := fun w _ => laidMetH Tryd.prog Rows.keyDecodesRow.laid w) false (World.laidAll Tryd.prog os Rows.keyDecodesRow.laid) #[.string ByteArray.empty, .bool false] 8 (World.laidAll_os _ _ _)
      (World.shaped_of_ZipB (by kernel_rfl) (by kernel_rfl)) (by kernel_rfl) (by kernel_rfl) (by kernel_rfl)
      (by rw [MakeChecks.laidMetH_plain _ _ _ (by kernel_rfl)]; exact laidMet_laidAll _ (by kernel_rfl) (by kernel_rfl))) ?_
  intro W base args ds gs before hval0 hW hcnd hsz0 hL hsh _
  have hsz : (DataW.weightsEach Tryd.prog (Tryd.f11.params.toList ++ Rows.keyDecodesSpec.plain.varTypes Tryd.prog) (ds ++ gs)).all (· ≤ reachBytes) = true := hsz0
  have hval : ∀ (j : Nat) t v, Tryd.f11.params[j]? = some t → args[j]? = some v → Value.okWide Tryd.prog W .any base t v := hval0
  have hW' := hW
  obtain ⟨p, q, hA0, hV, rfl, hfz, hnd⟩ := hW
  have hA : DataW.TrodAll enc Tryd.prog W 0 (fun _ => true) true Tryd.f11.params.toList args.toList ds p := hA0
  rw [Tryd.params11] at hA hval hsz
  obtain ⟨v0, vs0, d0, ds0, p0, q0, hargs, rfl, rfl, h0, r0⟩ := trodAll_cons hA
  obtain ⟨v1, vs1, d1, ds1, p1, q1, rfl, rfl, rfl, h1, r1⟩ := trodAll_cons r0
  obtain ⟨rfl, rfl, rfl⟩ := trodAll_nil r1
  obtain rfl : args = #[v0, v1] := by cases args; simp_all
  obtain ⟨rfl, rfl⟩ := trodVars_none hV
  obtain ⟨a0, rfl, rfl, rfl, y0⟩ := open_string Tryd.underlying9 (hval 0 9 v0 rfl rfl) h0
  have w0 : a0.size ≤ 140737488351232 := by
    have z := sized_string hsz (j := 0) (t := 9) rfl rfl
    rw [Array.length_toList] at z
    exact z
  obtain ⟨a1, rfl, rfl, rfl⟩ := open_bool Tryd.underlying4 (hval 1 4 v1 rfl rfl) h1
  clear hA0 hval0 hsz0 hsz
  obtain ⟨k, h⟩ := LKeyDecodes.law a0 a1 w0
  refine (PB.cabinetrylaw09_KeyDecodes.calls k a0 a1 true W h ⟨rfl⟩ ⟨Tryd.laysM143.s1_3 W hsh⟩).mono fun e W' ⟨he, bel⟩ => ?_
  subst he
  exact ⟨_, rfl, _, _, _, [], _, [], hW', trodAll_mk1 (shut_bool Tryd.underlying4 _), (trodAll_cons_mk (shut_string Tryd.underlying9 y0) (trodAll_cons_mk (shut_bool Tryd.underlying4 _) trodAll_mk0)), rfl, bel.frame _, fun h => by cases h⟩
theorem keyDecodes_holds : Rows.KeyDecodesSaid :=
  OpenClaim.holds_of_wide 11 Tryd.f11 rfl rfl rfl rfl rfl rfl rfl ⟨rfl, rfl, rfl, rfl, rfl⟩ rfl rfl rfl rfl rfl (by kernel_rfl) Tryd.func11 (by kernel_rfl)
    (of_decide_eq_true (by kernel_rfl)) (by unfold Func.isWrapper; first | (rw [if_pos (by decide +kernel)]; kernel_rfl) | (rw [if_neg (by decide +kernel)]; exact ⟨rfl, rfl⟩))
    (fun os started H enc _ => lifted os started H enc)
end Go.Proofs.YtnkejhfbkgfedaaDoor.keyDecodes
namespace Go.Proofs.YtnkejhfbkgfedaaDoor
theorem keyDecodes_card : Rows.KeyDecodesCardSaid :=
  Claim7.holds_tied_plain_at .later [] [.data, .pinned] true (true, "3ca090072f74d9576caed6164917b7ff82063396b7cf458c4b58db08244bc750") false
    keyDecodes.keyDecodes_holds (fun _ h => by cases h) (by kernel_rfl) (fun _ h => by cases h) keyDecodes_row_tie rfl ⟨rfl, rfl⟩ (by kernel_rfl) rfl
    (fun f fn hf hfn => by
      obtain rfl : f = 11 := Option.some.inj ((show Tryd.prog.funcNamed "cabinetry/cabinetrylaw09.KeyDecodes" = some 11 by kernel_rfl).symm.trans hf) |>.symm
      obtain rfl : fn = Tryd.f11 := (Option.some.inj (Tryd.func11.symm.trans hfn)).symm
      exact ⟨by kernel_rfl, fun j t ht => by
        rw [Tryd.params11] at ht
        have hm : t ∈ [9, 4] := by simpa using Array.mem_of_getElem? ht
        have hall : ([9, 4].all fun u => !Tryd.prog.wantsStandIn u) = true := by kernel_rfl
        exact (show Tryd.prog.wantsStandIn t = false by simpa using List.all_eq_true.1 hall t hm)⟩)
    (by kernel_rfl)
#print axioms keyDecodes_card
end Go.Proofs.YtnkejhfbkgfedaaDoor
