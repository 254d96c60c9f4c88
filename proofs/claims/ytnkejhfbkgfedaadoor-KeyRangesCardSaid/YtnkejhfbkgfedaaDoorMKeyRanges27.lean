-- Written by a program of this session (wip/merge.py): the texts of this claim, joined.
import Derived.Lib.IndexMore
import Derived.KernelRfl
import Derived.Test.YtnkejhfbkgfedaaDoorMKeyRanges1
import Derived.Test.YtnkejhfbkgfedaaDoorMKeyRanges2
import Derived.Test.YtnkejhfbkgfedaaDoorMKeyRanges3
import Derived.Test.YtnkejhfbkgfedaaDoorMKeyRanges4
import Derived.Test.YtnkejhfbkgfedaaDoorMKeyRanges5
import Derived.Test.YtnkejhfbkgfedaaDoorMKeyRanges6
import Derived.Test.YtnkejhfbkgfedaaDoorMKeyRanges7
import Derived.Test.YtnkejhfbkgfedaaDoorMKeyRanges8
import Derived.Test.YtnkejhfbkgfedaaDoorMKeyRanges9
import Derived.Test.YtnkejhfbkgfedaaDoorMKeyRanges10
import Derived.Test.YtnkejhfbkgfedaaDoorMKeyRanges11
import Derived.Test.YtnkejhfbkgfedaaDoorMKeyRanges12
import Derived.Test.YtnkejhfbkgfedaaDoorMKeyRanges13
import Derived.Test.YtnkejhfbkgfedaaDoorMKeyRanges14
import Derived.Test.YtnkejhfbkgfedaaDoorMKeyRanges15
import Derived.Test.YtnkejhfbkgfedaaDoorMKeyRanges16
import Derived.Test.YtnkejhfbkgfedaaDoorMKeyRanges17
import Derived.Test.YtnkejhfbkgfedaaDoorMKeyRanges18
import Derived.Test.YtnkejhfbkgfedaaDoorMKeyRanges19
import Derived.Test.YtnkejhfbkgfedaaDoorMKeyRanges20
import Derived.Test.YtnkejhfbkgfedaaDoorMKeyRanges21
import Derived.Test.YtnkejhfbkgfedaaDoorMKeyRanges22
import Derived.Test.YtnkejhfbkgfedaaDoorMKeyRanges23
import Derived.Test.YtnkejhfbkgfedaaDoorMKeyRanges24
import Derived.Test.YtnkejhfbkgfedaaDoorMKeyRanges25
import Derived.Test.YtnkejhfbkgfedaaDoorMKeyRanges26
namespace Go.Proofs.YtnkejhfbkgfedaaDoor.PA
end Go.Proofs.YtnkejhfbkgfedaaDoor.PA
namespace Go.Proofs.YtnkejhfbkgfedaaDoor.PB
end Go.Proofs.YtnkejhfbkgfedaaDoor.PB
namespace Go.Proofs.YtnkejhfbkgfedaaDoor.PC
end Go.Proofs.YtnkejhfbkgfedaaDoor.PC
namespace Go.Proofs.YtnkejhfbkgfedaaDoor.H1
end Go.Proofs.YtnkejhfbkgfedaaDoor.H1
namespace Go.Proofs.YtnkejhfbkgfedaaDoor.L1
end Go.Proofs.YtnkejhfbkgfedaaDoor.L1
namespace Go.Proofs.YtnkejhfbkgfedaaDoor.L1
open Go.RowKit Go.Proofs.YtnkejhfbkgfedaaDoorW.PrintWords Go.Proofs.YtnkejhfbkgfedaaDoor.PA Go.Proofs.YtnkejhfbkgfedaaDoor.H1 Go.Proofs.YtnkejhfbkgfedaaDoor.PB
set_option linter.unusedVariables false
set_option linter.unusedSimpArgs false
def bhL (l : List UInt8) : List UInt8 := (bh l).getD []
theorem bhV_fst (l : List UInt8) : (bhV l).1 = ⟨(bhL l).toArray⟩ := by unfold bhV bhL; cases bh l <;> rfl
theorem bh_len : ∀ (l m : List UInt8), bh l = some m → m.length ≤ l.length
  | [], m, h => by simp [bh] at h
  | x :: l, m, h => by
    unfold bh at h
    cases hb : bh l with
    | some q =>
      rw [hb] at h
      obtain rfl := Option.some.inj h
      have := bh_len l q hb
      simp only [List.length_cons]; omega
    | none =>
      rw [hb] at h
      simp only [] at h
      split at h
      · obtain rfl := Option.some.inj h; simp
      · cases h
theorem bhL_len (l : List UInt8) : (bhL l).length ≤ l.length := by
  unfold bhL
  cases h : bh l with
  | none => simp
  | some m => exact bh_len l m h
def nearL (s : List UInt8) (ex : Bool) (p c : Int) : List UInt8 × List UInt8 :=
  (4 :: keyW p c (if ex = true then Lib.trimRightS s [32] else s), bhL (4 :: keyW p c (if ex = true then Lib.trimRightS s [32] else s)))
def swL (op : List UInt8) (a : Int) (s : List UInt8) (ex : Bool) (p c : Int) (kind en k nx : List UInt8) (loose : Bool) : List UInt8 × List UInt8 :=
  if op = [60] then (if loose = true then (kind, nx) else (kind, k)) else if op = [60, 61] then (kind, nx) else if op = [62] then (if loose = true then (k, en) else (nx, en)) else if op = [62, 61] then (k, en)
  else if op = [61] then (if a = 4 then nearL s ex p c else (k, nx)) else (k, nx)
def boundsL (op : List UInt8) (a n : Int) (s : List UInt8) (ex : Bool) (p c : Int) : List UInt8 × List UInt8 :=
  if (a = 4 ∧ (c ≠ 0 ∨ 48 ≤ s.length)) ∧ op ≠ [61] ∧ op ≠ [61, 61] then
    (if c = 0 then swL op a s ex p c [UInt8.ofNat a.toNat] (bhL [UInt8.ofNat a.toNat]) (UInt8.ofNat a.toNat :: keyW p c s)
        (if bhL (UInt8.ofNat a.toNat :: keyW p c s) = [] ∨ Op.bytesLess (bhL [UInt8.ofNat a.toNat]) (bhL (UInt8.ofNat a.toNat :: keyW p c s)) = true then bhL [UInt8.ofNat a.toNat] else bhL (UInt8.ofNat a.toNat :: keyW p c s)) true
      else ([UInt8.ofNat a.toNat], bhL [UInt8.ofNat a.toNat]))
  else swL op a s ex p c [UInt8.ofNat a.toNat] (bhL [UInt8.ofNat a.toNat]) (keyB a n s p c) (bhL (keyB a n s p c)) (decide (a = 4 ∧ (c ≠ 0 ∨ 48 ≤ s.length)))
def baP (x : List UInt8 × List UInt8) : ByteArray × ByteArray := (⟨x.1.toArray⟩, ⟨x.2.toArray⟩)
theorem behind_k (k : Nat) (l : List UInt8) (hl : l.length < k) (hk : l.length ≤ 1000) : key_Behind.f k ⟨l.toArray⟩ = some (⟨(bhL l).toArray⟩, (bhV l).2) := by
  rw [key_Behind_f k _ (by rw [ba_size]; omega) (by rw [ba_size]; exact hl), ba_mk, ← bhV_fst]
theorem asc32 : asciiB ⟨#[32]⟩ = true := by decide
theorem key_near_f (k : Nat) (hk : 120 ≤ k) (s : ByteArray) (hs : s.size ≤ 40000) (ex : Bool) (p c : Int) (h : pageOk p c) : key_near.f k s ex p c = some (baP (nearL s.data.toList ex p c)) := by
  unfold key_near.f nearL baP
  cases ex
  · rw [if_neg (by decide), if_neg (by decide), key_weights_f k s p c h (by omega) (by omega)]
    simp only [Option.bind_some]
    have hl := keyW_len p c s.data.toList
    rw [kind4, sz1, if_pos (by rw [ba_size]; omega), app_ba, behind_k k _ (by simp only [List.length_cons]; omega) (by simp only [List.length_cons]; omega)]
    rfl
  · rw [if_pos rfl, if_pos rfl]
    have e1 : (⟨#[32]⟩ : ByteArray).size = 1 := rfl
    have e2 : strings_TrimRight.f s ⟨#[32]⟩ = some ⟨(Lib.trimRightS s.data.toList [32]).toArray⟩ := by
      unfold strings_TrimRight.f
      rw [if_pos ⟨asc32, by rw [e1]; omega, by omega⟩]
    rw [e2]
    simp only [Option.bind_some]
    obtain ⟨m, hm, ht⟩ := trimRight_prefix s.data.toList
    have hz : (⟨(Lib.trimRightS s.data.toList [32]).toArray⟩ : ByteArray).size ≤ 40000 := by rw [ba_size, ht, List.length_take, ba_len]; omega
    rw [key_weights_f k _ p c h (by omega) (by omega), ba_mk]
    simp only [Option.bind_some]
    have hl := keyW_len p c (Lib.trimRightS s.data.toList [32])
    rw [kind4, sz1, if_pos (by rw [ba_size]; omega), app_ba, behind_k k _ (by simp only [List.length_cons]; omega) (by simp only [List.length_cons]; omega)]
    rfl
theorem bounds_j2 (k : Nat) (hk : 130 ≤ k) (op s : ByteArray) (hs : s.size ≤ 40000) (ex : Bool) (p c : Int) (h : pageOk p c) (kind en kk nx : List UInt8) (loose : Bool) (a n : Int) :
    key_bounds.j2 k op ex p c ⟨kind.toArray⟩ ⟨en.toArray⟩ ⟨kk.toArray⟩ ⟨nx.toArray⟩ loose a n s = some (baP (swL op.data.toList a s.data.toList ex p c kind en kk nx loose)) := by
  obtain ⟨k, rfl⟩ : ∃ m, k = m + 1 := ⟨k - 1, by omega⟩
  simp only [key_bounds.j2, ByteArray.toList_eq]
  unfold swL
  by_cases h1 : op.data.toList = [60]
  · rw [if_pos h1, if_pos h1]; cases loose <;> rfl
  · rw [if_neg h1, if_neg h1]
    by_cases h2 : op.data.toList = [60, 61]
    · rw [if_pos h2, if_pos h2]; rfl
    · rw [if_neg h2, if_neg h2]
      by_cases h3 : op.data.toList = [62]
      · rw [if_pos h3, if_pos h3]; cases loose <;> rfl
      · rw [if_neg h3, if_neg h3]
        by_cases h4 : op.data.toList = [62, 61]
        · rw [if_pos h4, if_pos h4]; rfl
        · rw [if_neg h4, if_neg h4]
          by_cases h5 : op.data.toList = [61]
          · rw [if_pos h5, if_pos h5]
            by_cases h6 : a = 4
            · rw [if_pos h6, if_pos h6, key_near_f k (by omega) s hs ex p c h]; rfl
            · rw [if_neg h6, if_neg h6]; rfl
          · rw [if_neg h5, if_neg h5]; rfl
theorem key_bounds_f (k : Nat) (hk : 200 ≤ k) (op : ByteArray) {a n : Int} {s : ByteArray} (hv : validV a n s = 0) (ex : Bool) (p c : Int) (h : pageOk p c) :
    key_bounds.f k op a n s ex p c = some (baP (boundsL op.data.toList a n s.data.toList ex p c)) := by
  obtain ⟨k, rfl⟩ : ∃ m, k = m + 1 + 1 := ⟨k - 2, by omega⟩
  have hr := kind_range hv
  have hs := (valid_cases hv).1
  have hl := keyB_len a n s.data.toList p c
  have hw := keyW_len p c s.data.toList
  have hz : s.data.toList.length = s.size := ba_len s
  unfold key_bounds.f
  simp only [Option.bind_some]
  rw [kind_str hr.1 hr.2]
  have eb : (⟨#[UInt8.ofNat a.toNat]⟩ : ByteArray) = ⟨([UInt8.ofNat a.toNat] : List UInt8).toArray⟩ := rfl
  rw [eb, behind_k _ _ (by simp) (by simp), key_plain_f _ (by omega) hv p c h]
  simp only [Option.bind_some]
  rw [behind_k _ _ (by omega) (by omega)]
  simp only [Option.bind_some]
  unfold boundsL
  have main : ∀ loose : Bool, loose = decide (a = 4 ∧ (c ≠ 0 ∨ 48 ≤ s.data.toList.length)) → (loose = true → a = 4) →
      key_bounds.j0 (k + 1 + 1) op ex p c ⟨([UInt8.ofNat a.toNat] : List UInt8).toArray⟩ ⟨(bhL [UInt8.ofNat a.toNat]).toArray⟩ ⟨(keyB a n s.data.toList p c).toArray⟩ ⟨(bhL (keyB a n s.data.toList p c)).toArray⟩ loose a n s = some (baP (boundsL op.data.toList a n s.data.toList ex p c)) := by
    intro loose hlo ha4
    simp only [key_bounds.j0, ByteArray.toList_eq]
    unfold boundsL
    have j1f : key_bounds.j1 (k + 1) op ex p c ⟨([UInt8.ofNat a.toNat] : List UInt8).toArray⟩ ⟨(bhL [UInt8.ofNat a.toNat]).toArray⟩ ⟨(keyB a n s.data.toList p c).toArray⟩ ⟨(bhL (keyB a n s.data.toList p c)).toArray⟩ loose false a n s = some (baP (swL op.data.toList a s.data.toList ex p c [UInt8.ofNat a.toNat] (bhL [UInt8.ofNat a.toNat]) (keyB a n s.data.toList p c) (bhL (keyB a n s.data.toList p c)) loose)) := by
      simp only [key_bounds.j1]
      rw [if_neg (by decide)]
      exact bounds_j2 k (by omega) op s (by omega) ex p c h _ _ _ _ loose a n
    cases loose with
    | false =>
      have hd := of_decide_eq_false hlo.symm
      rw [if_neg (by decide), if_neg (fun hh => hd hh.1), j1f, ← hlo]
    | true =>
      have hd := of_decide_eq_true hlo.symm
      rw [if_pos rfl]
      by_cases h1 : op.data.toList = [61]
      · rw [if_pos h1, if_neg (fun hh => hh.2.1 h1), j1f, ← hlo]
      · rw [if_neg h1]
        by_cases h2 : op.data.toList = [61, 61]
        · have e : (op.data.toList != ([61, 61] : List UInt8)) = false := bne_eq_false_iff_eq.mpr h2
          rw [e, if_neg (fun hh => hh.2.2 h2), j1f, ← hlo]
        · have e : (op.data.toList != ([61, 61] : List UInt8)) = true := bne_iff_ne.mpr h2
          rw [e, if_pos ⟨hd, h1, h2⟩]
          simp only [key_bounds.j1]
          rw [if_pos trivial]
          by_cases hc : c = 0
          · rw [if_pos hc, if_pos hc, key_weights_f k s p c h (by omega) (by omega)]
            simp only [Option.bind_some]
            rw [if_pos (by rw [ba_size, ba_size]; simp only [List.length_cons, List.length_nil]; omega), app_ba2, List.singleton_append, behind_k k _ (by simp only [List.length_cons]; omega) (by simp only [List.length_cons]; omega)]
            simp only [Option.bind_some, ByteArray.toList_eq]
            have j2f := fun nx => bounds_j2 k (by omega) op s (by omega) ex p c h [UInt8.ofNat a.toNat] (bhL [UInt8.ofNat a.toNat]) (UInt8.ofNat a.toNat :: keyW p c s.data.toList) nx true a n
            by_cases he : bhL (UInt8.ofNat a.toNat :: keyW p c s.data.toList) = []
            · rw [if_pos (by simpa using he), if_pos (Or.inl he), j2f]
            · rw [if_neg (by simpa using he)]
              by_cases hb : Op.bytesLess (bhL [UInt8.ofNat a.toNat]) (bhL (UInt8.ofNat a.toNat :: keyW p c s.data.toList)) = true
              · rw [if_pos (by simpa using hb), if_pos (Or.inr hb), j2f]
              · rw [if_neg (by simpa using hb), if_neg (fun hh => hh.elim he hb), j2f]
          · rw [if_neg hc, if_neg hc]
            rfl
  have hgoal := main
  unfold boundsL at hgoal
  by_cases h4 : a = 4
  · rw [if_pos h4]
    by_cases hc : c = 0
    · rw [if_pos hc]
      refine hgoal (decide ((s.size : Int) ≥ 48)) ?_ (fun _ => h4)
      apply decide_eq_decide.2
      constructor
      · intro hh; exact ⟨h4, Or.inr (by omega)⟩
      · rintro ⟨_, hh | hh⟩
        · exact absurd hc hh
        · omega
    · rw [if_neg hc]
      exact hgoal true (decide_eq_true ⟨h4, Or.inl hc⟩).symm (fun _ => h4)
  · rw [if_neg h4]
    exact hgoal false (decide_eq_false (fun hh => h4 hh.1)).symm (fun hh => absurd hh (by decide))
def turnL (x : List UInt8 × List UInt8) : List UInt8 × List UInt8 := (bhL (x.2.map neg), bhL (x.1.map neg))
theorem key_turned_f (k : Nat) (lo hi : List UInt8) (h1 : lo.length ≤ 200) (h2 : hi.length ≤ 200) (hk : 300 ≤ k) : key_turned.f k ⟨lo.toArray⟩ ⟨hi.toArray⟩ = some (baP (turnL (lo, hi))) := by
  unfold key_turned.f turnL baP
  simp only [Option.bind_some, key_turner.f]
  rw [turn_f k true _ (by rw [ba_size]; omega) (by rw [ba_size]; omega), turn_f k true _ (by rw [ba_size]; omega) (by rw [ba_size]; omega), ba_mk, ba_mk]
  have e : ∀ l, negL true l = l.map neg := fun l => rfl
  simp only [Option.bind_some, e]
  rw [behind_k k _ (by rw [List.length_map]; omega) (by rw [List.length_map]; omega), behind_k k _ (by rw [List.length_map]; omega) (by rw [List.length_map]; omega)]
  rfl
theorem nearL_len (s : List UInt8) (ex : Bool) (p c : Int) : (nearL s ex p c).1.length ≤ 200 ∧ (nearL s ex p c).2.length ≤ 200 := by
  unfold nearL
  have h1 := keyW_len p c (if ex = true then Lib.trimRightS s [32] else s)
  have h2 := bhL_len (4 :: keyW p c (if ex = true then Lib.trimRightS s [32] else s))
  simp only [List.length_cons] at *
  omega
theorem swL_len (op : List UInt8) (a : Int) (s : List UInt8) (ex : Bool) (p c : Int) (kind en k nx : List UInt8) (loose : Bool) (h1 : kind.length ≤ 200) (h2 : en.length ≤ 200) (h3 : k.length ≤ 200) (h4 : nx.length ≤ 200) :
    (swL op a s ex p c kind en k nx loose).1.length ≤ 200 ∧ (swL op a s ex p c kind en k nx loose).2.length ≤ 200 := by
  unfold swL
  split
  · split <;> exact ⟨h1, by assumption⟩
  · split
    · exact ⟨h1, h4⟩
    · split
      · split
        · exact ⟨h3, h2⟩
        · exact ⟨h4, h2⟩
      · split
        · exact ⟨h3, h2⟩
        · split
          · split
            · exact nearL_len s ex p c
            · exact ⟨h3, h4⟩
          · exact ⟨h3, h4⟩
theorem boundsL_len (op : List UInt8) (a n : Int) (s : List UInt8) (ex : Bool) (p c : Int) : (boundsL op a n s ex p c).1.length ≤ 200 ∧ (boundsL op a n s ex p c).2.length ≤ 200 := by
  have h1 := keyB_len a n s p c
  have h2 := bhL_len (keyB a n s p c)
  have h3 := keyW_len p c s
  have h4 := bhL_len (UInt8.ofNat a.toNat :: keyW p c s)
  have h5 := bhL_len [UInt8.ofNat a.toNat]
  simp only [List.length_cons, List.length_nil] at h4 h5
  unfold boundsL
  split
  · split
    · refine swL_len _ _ _ _ _ _ _ _ _ _ _ (by simp) (by omega) (by simp only [List.length_cons]; omega) ?_
      split <;> omega
    · exact ⟨by simp, by show (bhL [UInt8.ofNat a.toNat]).length ≤ 200; omega⟩
  · exact swL_len _ _ _ _ _ _ _ _ _ _ _ (by simp) (by omega) (by omega) (by omega)
def opsL : List (List UInt8) := [[61], [61, 61], [60], [60, 61], [62], [62, 61]]
def rangeV (op : ByteArray) (a n : Int) (s : ByteArray) (ex : Bool) (p c : Int) (d : Bool) : ByteArray × ByteArray × Bool × Int :=
  if validV a n s = 0 then (if askedV p c = 0 then (if op.data.toList ∈ opsL then (if a = 0 then (⟨#[]⟩, ⟨#[]⟩, false, 6) else
    ((baP (if d = true then turnL (boundsL op.data.toList a n s.data.toList ex p c) else boundsL op.data.toList a n s.data.toList ex p c)).1, (baP (if d = true then turnL (boundsL op.data.toList a n s.data.toList ex p c) else boundsL op.data.toList a n s.data.toList ex p c)).2,
      (if c = 0 then (if a = 4 then (if s.size < 48 then (if op.data.toList = [61] then !ex else true) else false) else true) else false), 0))
    else (⟨#[]⟩, ⟨#[]⟩, false, 1)) else (⟨#[]⟩, ⟨#[]⟩, false, askedV p c)) else (⟨#[]⟩, ⟨#[]⟩, false, validV a n s)
theorem prefix_tok : ∀ (op t r : List UInt8), 32 ∉ op → 32 ∉ t → (op ++ [32]) <+: (t ++ 32 :: r) → op = t
  | [], [], _, _, _, _ => rfl
  | [], x :: t, r, _, ht, h => by
    rw [List.nil_append, List.cons_append, List.cons_prefix_cons] at h
    exact absurd (by rw [← h.1]; simp) ht
  | y :: op, [], r, ho, _, h => by
    rw [List.nil_append, List.cons_append, List.cons_prefix_cons] at h
    exact absurd (by rw [← h.1]; simp) ho
  | y :: op, x :: t, r, ho, ht, h => by
    rw [List.cons_append, List.cons_append, List.cons_prefix_cons] at h
    have := prefix_tok op t r (fun hh => ho (List.mem_cons_of_mem _ hh)) (fun hh => ht (List.mem_cons_of_mem _ hh)) h.2
    rw [h.1, this]
theorem contains_f (s t : ByteArray) (hs : s.size ≤ 40000) : strings_Contains.f s t = some (decide (0 ≤ Lib.index s.data.toList t.data.toList)) := by
  unfold strings_Contains.f strings_Index.f
  rw [if_pos (by omega)]
  simp only [Option.bind_some]
theorem index_nonneg (s t : List UInt8) : 0 ≤ Lib.index s t ↔ ∃ j, j ≤ s.length ∧ t <+: s.drop j := by
  rcases Lib.index_spec s t with ⟨h1, h2⟩ | ⟨i, h1, h2, h3, h4⟩
  · rw [h1]
    constructor
    · intro h; exact absurd h (by decide)
    · rintro ⟨j, hj, hp⟩
      have := h2 j hj
      unfold Lib.occAt at this
      rw [List.isPrefixOf_iff_prefix.2 hp] at this
      exact absurd this (by decide)
  · rw [h1]
    constructor
    · intro _
      refine ⟨i, h2, ?_⟩
      unfold Lib.occAt at h3
      exact List.isPrefixOf_iff_prefix.1 h3
    · intro _; omega
theorem mem_of_space (l : List UInt8) : 0 ≤ Lib.index l [32] ↔ 32 ∈ l := by
  rw [index_nonneg]
  constructor
  · rintro ⟨j, hj, t, ht⟩
    have : 32 ∈ l.drop j := by rw [← ht]; simp
    exact List.mem_of_mem_drop this
  · intro h
    obtain ⟨a, b, rfl⟩ := List.append_of_mem h
    exact ⟨a.length, by simp, by rw [List.drop_left']; exact ⟨b, rfl⟩; rfl⟩
def opT : List UInt8 := [32, 61, 32, 61, 61, 32, 60, 32, 60, 61, 32, 62, 32, 62, 61, 32]
theorem ops_iff (l : List UInt8) (hne : l ≠ []) (h32 : 32 ∉ l) : 0 ≤ Lib.index opT (32 :: (l ++ [32])) ↔ l ∈ opsL := by
  rw [index_nonneg]
  constructor
  · rintro ⟨j, hj, hp⟩
    have hj' : j ≤ 16 := hj
    have key : ∀ (u : List UInt8), opT.drop j = u → (32 :: (l ++ [32])) <+: u := fun u hu => hu ▸ hp
    have go : ∀ (t r : List UInt8), 32 ∉ t → opT.drop j = 32 :: (t ++ 32 :: r) → l = t := fun t r ht hu => by
      have := key _ hu
      rw [List.cons_prefix_cons] at this
      exact prefix_tok l t r h32 ht this.2
    have bad : ∀ (x : UInt8) (u : List UInt8), x ≠ 32 → opT.drop j = x :: u → False := fun x u hx hu => by
      have := key _ hu
      rw [List.cons_prefix_cons] at this
      exact hx this.1.symm
    have e16 : j = 0 ∨ j = 1 ∨ j = 2 ∨ j = 3 ∨ j = 4 ∨ j = 5 ∨ j = 6 ∨ j = 7 ∨ j = 8 ∨ j = 9 ∨ j = 10 ∨ j = 11 ∨ j = 12 ∨ j = 13 ∨ j = 14 ∨ j = 15 ∨ j = 16 := by omega
    rcases e16 with rfl | rfl | rfl | rfl | rfl | rfl | rfl | rfl | rfl | rfl | rfl | rfl | rfl | rfl | rfl | rfl | rfl
    · rw [go [61] _ (by decide) rfl]; decide
    · exact (bad 61 _ (by decide) rfl).elim
    · rw [go [61, 61] _ (by decide) rfl]; decide
    · exact (bad 61 _ (by decide) rfl).elim
    · exact (bad 61 _ (by decide) rfl).elim
    · rw [go [60] _ (by decide) rfl]; decide
    · exact (bad 60 _ (by decide) rfl).elim
    · rw [go [60, 61] _ (by decide) rfl]; decide
    · exact (bad 60 _ (by decide) rfl).elim
    · exact (bad 61 _ (by decide) rfl).elim
    · rw [go [62] _ (by decide) rfl]; decide
    · exact (bad 62 _ (by decide) rfl).elim
    · rw [go [62, 61] _ (by decide) rfl]; decide
    · exact (bad 62 _ (by decide) rfl).elim
    · exact (bad 61 _ (by decide) rfl).elim
    · have := (key [32] rfl).length_le
      simp at this
    · have := (key [] rfl).length_le
      simp at this
  · intro h
    simp only [opsL, List.mem_cons, List.not_mem_nil, or_false] at h
    rcases h with rfl | rfl | rfl | rfl | rfl | rfl
    · exact ⟨0, by decide, ⟨_, rfl⟩⟩
    · exact ⟨2, by decide, ⟨_, rfl⟩⟩
    · exact ⟨5, by decide, ⟨_, rfl⟩⟩
    · exact ⟨7, by decide, ⟨_, rfl⟩⟩
    · exact ⟨10, by decide, ⟨_, rfl⟩⟩
    · exact ⟨12, by decide, ⟨_, rfl⟩⟩
theorem ops_plain (l : List UInt8) (h : l ∈ opsL) : l ≠ [] ∧ 32 ∉ l := by
  simp only [opsL, List.mem_cons, List.not_mem_nil, or_false] at h
  rcases h with rfl | rfl | rfl | rfl | rfl | rfl <;> decide
theorem key_Range_f (k : Nat) (hk : 400 ≤ k) (op : ByteArray) (ho : op.size ≤ 40000) (a n : Int) (s : ByteArray) (ex : Bool) (p c : Int) (d : Bool) : key_Range.f k op a n s ex p c d = some (rangeV op a n s ex p c d) := by
  obtain ⟨k, rfl⟩ : ∃ m, k = m + 1 := ⟨k - 1, by omega⟩
  unfold key_Range.f rangeV
  rw [keyAskedV (k + 1) (by omega)]
  simp only [Option.bind_some]
  by_cases hv : validV a n s = 0
  · rw [if_pos hv, if_pos hv]
    by_cases ha : askedV p c = 0
    · have hp := (askedV_ok p c).1 ha
      have e2 : ((⟨#[32]⟩ : ByteArray) ++ op).size = 1 + op.size := by rw [ByteArray.size_append, sz1]
      rw [if_pos ha, if_pos ha, if_pos (by omega), if_pos (by rw [e2]; omega)]
      have e3 : (⟨#[32]⟩ ++ op ++ (⟨#[32]⟩ : ByteArray)).data.toList = 32 :: (op.data.toList ++ [32]) := by rw [ba_app, ba_app]; rfl
      have hct : strings_Contains.f (⟨#[32, 61, 32, 61, 61, 32, 60, 32, 60, 61, 32, 62, 32, 62, 61, 32]⟩ : ByteArray) (⟨#[32]⟩ ++ op ++ (⟨#[32]⟩ : ByteArray)) = some (decide (0 ≤ Lib.index opT (32 :: (op.data.toList ++ [32])))) := by
        rw [contains_f _ _ (by decide), e3]; rfl
      rw [hct, ByteArray.toList_eq]
      simp only [Option.bind_some]
      have no : op.data.toList ∉ opsL → key_Range.j0 (k + 1) op ex p c d true a n s = some (if op.data.toList ∈ opsL then (if a = 0 then (⟨#[]⟩, ⟨#[]⟩, false, 6) else
    ((baP (if d = true then turnL (boundsL op.data.toList a n s.data.toList ex p c) else boundsL op.data.toList a n s.data.toList ex p c)).1, (baP (if d = true then turnL (boundsL op.data.toList a n s.data.toList ex p c) else boundsL op.data.toList a n s.data.toList ex p c)).2,
      (if c = 0 then (if a = 4 then (if s.size < 48 then (if op.data.toList = [61] then !ex else true) else false) else true) else false), 0))
    else (⟨#[]⟩, ⟨#[]⟩, false, 1)) := by
        intro hh
        rw [if_neg hh]
        simp only [key_Range.j0]
        rfl
      by_cases hidx : 0 ≤ Lib.index opT (32 :: (op.data.toList ++ [32]))
      · rw [if_pos (decide_eq_true hidx)]
        by_cases hne : op.data.toList = []
        · rw [if_pos hne]
          exact no (fun hh => (ops_plain _ hh).1 hne)
        · have hct2 : strings_Contains.f op (⟨#[32]⟩ : ByteArray) = some (decide (0 ≤ Lib.index op.data.toList [32])) := contains_f _ _ ho
          rw [if_neg hne, hct2]
          simp only [Option.bind_some]
          by_cases h32 : 32 ∈ op.data.toList
          · rw [decide_eq_true ((mem_of_space _).2 h32)]
            exact no (fun hh => (ops_plain _ hh).2 h32)
          · have hm := (ops_iff _ hne h32).1 hidx
            rw [decide_eq_false (fun hh => h32 ((mem_of_space _).1 hh)), if_pos hm]
            simp only [key_Range.j0]
            rw [if_neg (by decide)]
            by_cases h0 : a = 0
            · rw [if_pos h0, if_pos h0]
            · rw [if_neg h0, if_neg h0, key_bounds_f k (by omega) op hv ex p c hp]
              have hlen := boundsL_len op.data.toList a n s.data.toList ex p c
              generalize hB : boundsL op.data.toList a n s.data.toList ex p c = B at hlen
              simp only [Option.bind_some, ByteArray.toList_eq]
              have ht : key_turned.f k (baP B).1 (baP B).2 = some (baP (turnL B)) := key_turned_f k B.1 B.2 hlen.1 hlen.2 (by omega)
              rw [ht]
              simp only [Option.bind_some]
              cases d
              · simp only [Bool.false_eq_true, if_false]
                by_cases hc : c = 0
                · rw [if_pos hc, if_pos hc]
                  by_cases h4 : a = 4
                  · rw [if_pos h4, if_pos h4]
                    by_cases h48 : s.size < 48
                    · rw [if_pos (by omega), if_pos h48]
                      by_cases ho1 : op.data.toList = [61]
                      · rw [if_pos ho1, if_pos ho1]
                      · rw [if_neg ho1, if_neg ho1]; rfl
                    · rw [if_neg (by omega), if_neg h48]
                  · rw [if_neg h4, if_neg h4]
                · rw [if_neg hc, if_neg hc]
              · simp only [if_true]
                by_cases hc : c = 0
                · rw [if_pos hc, if_pos hc]
                  by_cases h4 : a = 4
                  · rw [if_pos h4, if_pos h4]
                    by_cases h48 : s.size < 48
                    · rw [if_pos (by omega), if_pos h48]
                      by_cases ho1 : op.data.toList = [61]
                      · rw [if_pos ho1, if_pos ho1]
                      · rw [if_neg ho1, if_neg ho1]; rfl
                    · rw [if_neg (by omega), if_neg h48]
                  · rw [if_neg h4, if_neg h4]
                · rw [if_neg hc, if_neg hc]
      · rw [if_neg (by rw [decide_eq_false hidx]; decide)]
        exact no (fun hh => hidx ((ops_iff _ (ops_plain _ hh).1 (ops_plain _ hh).2).2 hh))
    · rw [if_neg ha, if_neg ha]
  · rw [if_neg hv, if_neg hv, if_neg hv]
end Go.Proofs.YtnkejhfbkgfedaaDoor.L1
namespace Go.Proofs.YtnkejhfbkgfedaaDoor.L1
open Go.RowKit Go.Proofs.YtnkejhfbkgfedaaDoorW.PrintWords Go.Proofs.YtnkejhfbkgfedaaDoor.PA Go.Proofs.YtnkejhfbkgfedaaDoor.H1 Go.Proofs.YtnkejhfbkgfedaaDoor.PB
set_option linter.unusedVariables false
set_option linter.unusedSimpArgs false
def Bd (x y : List UInt8) : Prop := Lib.compareBytes y x < 0 ∨ x <+: y
theorem Bd_nil (y : List UInt8) : Bd [] y := Or.inr (List.nil_prefix)
theorem Bd_cons_nil (a : UInt8) (l : List UInt8) : Bd (a :: l) [] := Or.inl (by simp [Lib.compareBytes])
theorem Bd_cons (a b : UInt8) (l y : List UInt8) : Bd (a :: l) (b :: y) ↔ b.toNat < a.toNat ∨ (b = a ∧ Bd l y) := by
  unfold Bd
  rw [cmp_cons, List.cons_prefix_cons]
  rcases Nat.lt_trichotomy b.toNat a.toNat with h | h | h
  · rw [if_pos h]
    exact ⟨fun _ => Or.inl h, fun _ => Or.inl (by decide)⟩
  · have e : b = a := UInt8.toNat_inj.1 h
    subst e
    rw [if_neg (by omega), if_neg (by omega)]
    constructor
    · rintro (h1 | h1)
      · exact Or.inr ⟨rfl, Or.inl h1⟩
      · exact Or.inr ⟨rfl, Or.inr h1.2⟩
    · rintro (h1 | ⟨_, h1 | h1⟩)
      · omega
      · exact Or.inl h1
      · exact Or.inr ⟨rfl, h1⟩
  · have e : ¬ b = a := fun e => by subst e; omega
    rw [if_neg (by omega), if_pos h]
    constructor
    · rintro (h1 | h1)
      · exact absurd h1 (by decide)
      · exact absurd h1.1.symm e
    · rintro (h1 | h1)
      · omega
      · exact absurd h1.1 e
theorem bh_ne : ∀ (x m : List UInt8), bh x = some m → m ≠ []
  | [], m, h => by simp [bh] at h
  | a :: l, m, h => by
    unfold bh at h
    cases hb : bh l with
    | some q => rw [hb] at h; obtain rfl := Option.some.inj h; simp
    | none =>
      rw [hb] at h
      simp only [] at h
      split at h
      · obtain rfl := Option.some.inj h; simp
      · cases h
theorem bh_spec : ∀ (x y : List UInt8), (match bh x with | some m => Lib.compareBytes y m < 0 | none => True) ↔ Bd x y
  | [], y => by
    simp only [bh]
    exact ⟨fun _ => Bd_nil y, fun _ => trivial⟩
  | a :: l, [] => by
    have hB := Bd_cons_nil a l
    cases h : bh (a :: l) with
    | none => exact ⟨fun _ => hB, fun _ => trivial⟩
    | some m =>
      have := bh_ne _ _ h
      cases m with
      | nil => exact absurd rfl this
      | cons z m => exact ⟨fun _ => hB, fun _ => by simp [Lib.compareBytes]⟩
  | a :: l, b :: y => by
    have ih := bh_spec l y
    rw [Bd_cons]
    unfold bh
    cases hb : bh l with
    | some m =>
      rw [hb] at ih
      simp only [] at ih ⊢
      rw [cmp_cons, ← ih]
      rcases Nat.lt_trichotomy b.toNat a.toNat with h | h | h
      · rw [if_pos h]; exact ⟨fun _ => Or.inl h, fun _ => by decide⟩
      · rw [if_neg (by omega), if_neg (by omega)]
        exact ⟨fun h1 => Or.inr ⟨UInt8.toNat_inj.1 h, h1⟩, fun h1 => h1.elim (fun h2 => by omega) (fun h2 => h2.2)⟩
      · rw [if_neg (by omega), if_pos h]
        exact ⟨fun h1 => absurd h1 (by decide), fun h1 => h1.elim (fun h2 => by omega) (fun h2 => by have := h2.1; subst this; omega)⟩
    | none =>
      rw [hb] at ih
      simp only [] at ih ⊢
      have hB : Bd l y := ih.1 trivial
      by_cases h255 : a.toNat < 255
      · rw [if_pos h255]
        simp only []
        have e : (UInt8.ofNat (a.toNat + 1)).toNat = a.toNat + 1 := ofNat_toNat _ (by omega)
        rw [cmp_cons, e]
        rcases Nat.lt_trichotomy b.toNat a.toNat with h | h | h
        · rw [if_pos (by omega)]; exact ⟨fun _ => Or.inl h, fun _ => by decide⟩
        · rw [if_pos (by omega)]; exact ⟨fun _ => Or.inr ⟨UInt8.toNat_inj.1 h, hB⟩, fun _ => by decide⟩
        · rw [if_neg (by omega)]
          have hf : ¬ (b.toNat < a.toNat ∨ b = a ∧ Bd l y) := fun h1 => h1.elim (fun h2 => by omega) (fun h2 => by have := h2.1; subst this; omega)
          by_cases h2 : a.toNat + 1 < b.toNat
          · rw [if_pos h2]; exact ⟨fun h1 => absurd h1 (by decide), fun h1 => absurd h1 hf⟩
          · rw [if_neg h2]
            refine ⟨fun h1 => ?_, fun h1 => absurd h1 hf⟩
            cases y <;> simp [Lib.compareBytes] at h1
      · rw [if_neg h255]
        refine ⟨fun _ => ?_, fun _ => trivial⟩
        have hb255 := b.toNat_lt
        rcases Nat.lt_or_ge b.toNat a.toNat with h | h
        · exact Or.inl h
        · exact Or.inr ⟨UInt8.toNat_inj.1 (by have := a.toNat_lt; omega), hB⟩
def Up (hi K : List UInt8) : Prop := hi = [] ∨ Lib.compareBytes K hi < 0
theorem up_bh (x K : List UInt8) : Up (bhL x) K ↔ Bd x K := by
  rw [← bh_spec]
  unfold Up bhL
  cases h : bh x with
  | none => exact ⟨fun _ => trivial, fun _ => Or.inl rfl⟩
  | some m => exact ⟨fun h1 => h1.elim (fun h2 => absurd h2 (bh_ne _ _ h)) id, fun h1 => Or.inr h1⟩
theorem ge_bh {x K m : List UInt8} (h : bh x = some m) : 0 ≤ Lib.compareBytes K (bhL x) ↔ ¬ Bd x K := by
  rw [← bh_spec]
  unfold bhL
  rw [h]
  simp only [Option.getD_some]
  omega
def PF (K x : List UInt8) : Prop := K <+: x → K = x
theorem Bd_neg : ∀ (x K : List UInt8), PF K x → (Bd (x.map neg) (K.map neg) ↔ 0 ≤ Lib.compareBytes K x)
  | [], K, _ => by
    refine ⟨fun _ => ?_, fun _ => Bd_nil _⟩
    cases K <;> simp [Lib.compareBytes]
  | a :: l, [], h => absurd (h List.nil_prefix) (by simp)
  | a :: l, b :: K, h => by
    rw [List.map_cons, List.map_cons, Bd_cons, neg_toNat, neg_toNat, cmp_cons]
    have ha := a.toNat_lt
    have hb := b.toNat_lt
    rcases Nat.lt_trichotomy b.toNat a.toNat with h1 | h1 | h1
    · rw [if_pos h1]
      refine ⟨fun h2 => h2.elim (fun h3 => by omega) (fun h3 => ?_), fun h2 => absurd h2 (by decide)⟩
      have := congrArg UInt8.toNat h3.1
      rw [neg_toNat, neg_toNat] at this
      omega
    · have e : b = a := UInt8.toNat_inj.1 h1
      subst e
      have ih := Bd_neg l K (fun h2 => by
        have := h (List.cons_prefix_cons.2 ⟨rfl, h2⟩)
        exact (List.cons.inj this).2)
      rw [if_neg (by omega), if_neg (by omega), ← ih]
      exact ⟨fun h2 => h2.elim (fun h3 => by omega) (fun h3 => h3.2), fun h2 => Or.inr ⟨rfl, h2⟩⟩
    · rw [if_neg (by omega), if_pos h1]
      exact ⟨fun _ => by decide, fun _ => Or.inl (by omega)⟩
def inS (K : List UInt8) (B : List UInt8 × List UInt8) : Prop := 0 ≤ Lib.compareBytes K B.1 ∧ Up B.2 K
def G (K : List UInt8) (n : Nat) (x : List UInt8) : Prop := PF K x ∧ ∃ z l, x = z :: l ∧ 1 ≤ z.toNat ∧ z.toNat ≤ n
theorem bh_some (z : UInt8) (l : List UInt8) (h : z.toNat < 255) : ∃ y r, bh (z :: l) = some (y :: r) ∧ z.toNat ≤ y.toNat ∧ y.toNat ≤ z.toNat + 1 := by
  unfold bh
  cases hb : bh l with
  | some m => exact ⟨z, m, rfl, by omega, by omega⟩
  | none =>
    simp only []
    rw [if_pos h]
    exact ⟨_, _, rfl, by rw [ofNat_toNat _ (by omega)]; omega, by rw [ofNat_toNat _ (by omega)]; omega⟩
theorem PF_bh : ∀ (x K m : List UInt8), PF K x → bh x = some m → PF K m
  | [], K, m, _, h => by simp [bh] at h
  | a :: l, K, m, hp, h => by
    intro hk
    have hne : K ≠ [] := fun e => by subst e; exact absurd (hp List.nil_prefix) (by simp)
    obtain ⟨b, K, rfl⟩ := List.exists_cons_of_ne_nil hne
    unfold bh at h
    cases hb : bh l with
    | some q =>
      rw [hb] at h
      obtain rfl := Option.some.inj h
      rw [List.cons_prefix_cons] at hk
      obtain ⟨rfl, hk⟩ := hk
      rw [PF_bh l K q (fun h2 => (List.cons.inj (hp (List.cons_prefix_cons.2 ⟨rfl, h2⟩))).2) hb hk]
    | none =>
      rw [hb] at h
      simp only [] at h
      split at h
      · obtain rfl := Option.some.inj h
        rw [List.cons_prefix_cons] at hk
        obtain ⟨rfl, hk⟩ := hk
        rw [List.prefix_nil.1 hk]
      · cases h
theorem G_bh {K x : List UInt8} {n : Nat} (hn : n < 255) (h : G K n x) : G K (n + 1) (bhL x) := by
  obtain ⟨hp, z, l, rfl, h1, h2⟩ := h
  obtain ⟨y, r, hb, h3, h4⟩ := bh_some z l (by omega)
  unfold bhL
  rw [hb]
  exact ⟨PF_bh _ _ _ hp hb, y, r, rfl, by omega, by omega⟩
theorem G_up {K x : List UInt8} {n m : Nat} (h : G K n x) (hm : n ≤ m) : G K m x := by
  obtain ⟨hp, z, l, rfl, h1, h2⟩ := h
  exact ⟨hp, z, l, rfl, h1, by omega⟩
theorem inS_turn {K : List UInt8} {B : List UInt8 × List UInt8} (h1 : G K 5 B.1) (h2 : G K 5 B.2) : inS (K.map neg) (turnL B) ↔ inS K B := by
  obtain ⟨p1, _⟩ := h1
  obtain ⟨p2, z, l, e2, h3, h4⟩ := h2
  obtain ⟨y, r, hb, _, _⟩ := bh_some (neg z) (l.map neg) (by rw [neg_toNat]; omega)
  have hb' : bh (B.2.map neg) = some (y :: r) := by rw [e2, List.map_cons, hb]
  unfold inS turnL
  simp only []
  rw [ge_bh hb', up_bh, Bd_neg _ _ p1, Bd_neg _ _ p2]
  unfold Up
  constructor
  · rintro ⟨h5, h6⟩; exact ⟨h6, Or.inr (by omega)⟩
  · rintro ⟨h5, h6 | h6⟩
    · rw [h6] at e2; cases e2
    · exact ⟨by omega, h5⟩
theorem cmp_zero : ∀ (a b : List UInt8), Lib.compareBytes a b = 0 → a = b
  | [], [], _ => rfl
  | [], b :: l, h => by simp [Lib.compareBytes] at h
  | a :: l, [], h => by simp [Lib.compareBytes] at h
  | a :: l, b :: m, h => by
    rw [cmp_cons] at h
    by_cases h1 : a.toNat < b.toNat
    · rw [if_pos h1] at h; exact absurd h (by decide)
    · by_cases h2 : b.toNat < a.toNat
      · rw [if_neg h1, if_pos h2] at h; exact absurd h (by decide)
      · rw [if_neg h1, if_neg h2] at h
        rw [cmp_zero l m h, UInt8.toNat_inj.1 (show a.toNat = b.toNat by omega)]
theorem Bd_of_app : ∀ (Y X r : List UInt8), Lib.compareBytes X (Y ++ r) ≤ 0 → Bd Y X
  | [], X, r, _ => Bd_nil X
  | y :: Y, [], r, _ => Bd_cons_nil y Y
  | y :: Y, x :: X, r, h => by
    rw [List.cons_append, cmp_cons] at h
    rw [Bd_cons]
    rcases Nat.lt_trichotomy x.toNat y.toNat with h1 | h1 | h1
    · exact Or.inl h1
    · rw [if_neg (by omega), if_neg (by omega)] at h
      exact Or.inr ⟨UInt8.toNat_inj.1 h1, Bd_of_app Y X r h⟩
    · rw [if_neg (by omega), if_pos h1] at h; exact absurd h (by decide)
theorem ge_of_app : ∀ (Y X r : List UInt8), 0 ≤ Lib.compareBytes X (Y ++ r) → 0 ≤ Lib.compareBytes X Y
  | [], X, r, _ => by cases X <;> simp [Lib.compareBytes]
  | y :: Y, [], r, h => by simp [Lib.compareBytes] at h
  | y :: Y, x :: X, r, h => by
    rw [List.cons_append, cmp_cons] at h
    rw [cmp_cons]
    by_cases h1 : x.toNat < y.toNat
    · rw [if_pos h1] at h; exact absurd h (by decide)
    · rw [if_neg h1] at h ⊢
      by_cases h2 : y.toNat < x.toNat
      · rw [if_pos h2]; decide
      · rw [if_neg h2] at h ⊢
        exact ge_of_app Y X r h
theorem ge_prefix {x K : List UInt8} (h : x <+: K) : 0 ≤ Lib.compareBytes K x := by
  obtain ⟨r, rfl⟩ := h
  exact ge_of_app x _ r (by rw [cmp_self]; decide)
theorem cmp_take : ∀ (n : Nat) (a b : List UInt8), Lib.compareBytes (a.take n) (b.take n) = 0 ∨ Lib.compareBytes (a.take n) (b.take n) = Lib.compareBytes a b
  | 0, a, b => Or.inl (by simp [Lib.compareBytes])
  | n + 1, [], [] => Or.inl (by simp [Lib.compareBytes])
  | n + 1, [], b :: m => Or.inr (by simp [Lib.compareBytes])
  | n + 1, a :: l, [] => Or.inr (by simp [Lib.compareBytes])
  | n + 1, a :: l, b :: m => by
    rw [List.take_succ_cons, List.take_succ_cons, cmp_cons, cmp_cons]
    by_cases h1 : a.toNat < b.toNat
    · rw [if_pos h1, if_pos h1]; exact Or.inr rfl
    · by_cases h2 : b.toNat < a.toNat
      · rw [if_neg h1, if_neg h1, if_pos h2, if_pos h2]; exact Or.inr rfl
      · rw [if_neg h1, if_neg h1, if_neg h2, if_neg h2]; exact cmp_take n l m
theorem cmp_take_short : ∀ (n : Nat) (a b : List UInt8), b.length < n → Lib.compareBytes (a.take n) b = Lib.compareBytes a b
  | 0, a, b, h => by omega
  | n + 1, [], b, h => by simp
  | n + 1, a :: l, [], h => by simp [Lib.compareBytes]
  | n + 1, a :: l, b :: m, h => by
    rw [List.take_succ_cons, cmp_cons, cmp_cons, cmp_take_short n l m (by simpa using h)]
theorem escL_app : ∀ (a b : List UInt8), escL (a ++ b) = escL a ++ escL b
  | [], b => rfl
  | x :: a, b => by
    simp only [List.cons_append, escL]
    rw [escL_app a b]
    split <;> rfl
theorem esc_pre (s t : List UInt8) : escL s <+: escL t ++ [0, 0] ↔ s <+: t := by
  rw [← List.isPrefixOf_iff_prefix, ← List.isPrefixOf_iff_prefix, esc_prefix]
theorem term_prefix {a b : List UInt8} (h : escL a ++ [0, 0] <+: escL b ++ [0, 0]) : a = b := by
  have h1 : a <+: b := (esc_pre a b).1 ((List.prefix_append _ _).trans h)
  obtain ⟨r, rfl⟩ := h1
  rw [escL_app, List.append_assoc, List.prefix_append_right_inj] at h
  cases r with
  | nil => simp
  | cons x r =>
    simp only [escL] at h
    by_cases hx : x = 0
    · rw [if_pos hx, List.cons_append, List.cons_prefix_cons, List.cons_append, List.cons_prefix_cons] at h
      exact absurd h.2.1 (by decide)
    · rw [if_neg hx, List.cons_append, List.cons_prefix_cons] at h
      exact absurd h.1.symm hx
theorem no_term (a b : List UInt8) : ¬ escL a ++ [0, 0] <+: escL b := fun h => by
  have h1 := term_prefix (h.trans (List.prefix_append _ [0, 0]))
  subst h1
  have := h.length_le
  rw [List.length_append] at this
  simp only [List.length_cons, List.length_nil] at this
  omega
end Go.Proofs.YtnkejhfbkgfedaaDoor.L1
