-- Written by a program of this session (wip/merge.py): the texts of this claim, joined.
import Derived.Lib.IndexMore
import Derived.KernelRfl
import Derived.Test.YtnkejhfbkgfedaaDoorMKeyAsks1
import Derived.Test.YtnkejhfbkgfedaaDoorMKeyAsks2
import Derived.Test.YtnkejhfbkgfedaaDoorMKeyAsks3
import Derived.Test.YtnkejhfbkgfedaaDoorMKeyAsks4
import Derived.Test.YtnkejhfbkgfedaaDoorMKeyAsks5
import Derived.Test.YtnkejhfbkgfedaaDoorMKeyAsks6
import Derived.Test.YtnkejhfbkgfedaaDoorMKeyAsks7
import Derived.Test.YtnkejhfbkgfedaaDoorMKeyAsks8
import Derived.Test.YtnkejhfbkgfedaaDoorMKeyAsks9
import Derived.Test.YtnkejhfbkgfedaaDoorMKeyAsks10
import Derived.Test.YtnkejhfbkgfedaaDoorMKeyAsks11
import Derived.Test.YtnkejhfbkgfedaaDoorMKeyAsks12
import Derived.Test.YtnkejhfbkgfedaaDoorMKeyAsks13
import Derived.Test.YtnkejhfbkgfedaaDoorMKeyAsks14
import Derived.Test.YtnkejhfbkgfedaaDoorMKeyAsks15
import Derived.Test.YtnkejhfbkgfedaaDoorMKeyAsks16
import Derived.Test.YtnkejhfbkgfedaaDoorMKeyAsks17
import Derived.Test.YtnkejhfbkgfedaaDoorMKeyAsks18
namespace Go.Proofs.YtnkejhfbkgfedaaDoor.PA
end Go.Proofs.YtnkejhfbkgfedaaDoor.PA
namespace Go.Proofs.YtnkejhfbkgfedaaDoor.PB
end Go.Proofs.YtnkejhfbkgfedaaDoor.PB
namespace Go.Proofs.YtnkejhfbkgfedaaDoor.PC
end Go.Proofs.YtnkejhfbkgfedaaDoor.PC
namespace Go.Proofs.YtnkejhfbkgfedaaDoor.H1
end Go.Proofs.YtnkejhfbkgfedaaDoor.H1
namespace Go.Proofs.YtnkejhfbkgfedaaDoor.L1
end Go.Proofs.YtnkejhfbkgfedaaDoor.L1
namespace Go.Proofs.YtnkejhfbkgfedaaDoor.L1
open Go.RowKit Go.Proofs.YtnkejhfbkgfedaaDoorW.PrintWords Go.Proofs.YtnkejhfbkgfedaaDoor.PA Go.Proofs.YtnkejhfbkgfedaaDoor.H1 Go.Proofs.YtnkejhfbkgfedaaDoor.PB
set_option linter.unusedVariables false
set_option linter.unusedSimpArgs false
def bhL (l : List UInt8) : List UInt8 := (bh l).getD []
theorem bhV_fst (l : List UInt8) : (bhV l).1 = ⟨(bhL l).toArray⟩ := by unfold bhV bhL; cases bh l <;> rfl
theorem bh_len : ∀ (l m : List UInt8), bh l = some m → m.length ≤ l.length
  | [], m, h => by simp [bh] at h
  | x :: l, m, h => by
    unfold bh at h
    cases hb : bh l with
    | some q =>
      rw [hb] at h
      obtain rfl := Option.some.inj h
      have := bh_len l q hb
      simp only [List.length_cons]; omega
    | none =>
      rw [hb] at h
      simp only [] at h
      split at h
      · obtain rfl := Option.some.inj h; simp
      · cases h
theorem bhL_len (l : List UInt8) : (bhL l).length ≤ l.length := by
  unfold bhL
  cases h : bh l with
  | none => simp
  | some m => exact bh_len l m h
def nearL (s : List UInt8) (ex : Bool) (p c : Int) : List UInt8 × List UInt8 :=
  (4 :: keyW p c (if ex = true then Lib.trimRightS s [32] else s), bhL (4 :: keyW p c (if ex = true then Lib.trimRightS s [32] else s)))
def swL (op : List UInt8) (a : Int) (s : List UInt8) (ex : Bool) (p c : Int) (kind en k nx : List UInt8) (loose : Bool) : List UInt8 × List UInt8 :=
  if op = [60] then (if loose = true then (kind, nx) else (kind, k)) else if op = [60, 61] then (kind, nx) else if op = [62] then (if loose = true then (k, en) else (nx, en)) else if op = [62, 61] then (k, en)
  else if op = [61] then (if a = 4 then nearL s ex p c else (k, nx)) else (k, nx)
def boundsL (op : List UInt8) (a n : Int) (s : List UInt8) (ex : Bool) (p c : Int) : List UInt8 × List UInt8 :=
  if (a = 4 ∧ (c ≠ 0 ∨ 48 ≤ s.length)) ∧ op ≠ [61] ∧ op ≠ [61, 61] then
    (if c = 0 then swL op a s ex p c [UInt8.ofNat a.toNat] (bhL [UInt8.ofNat a.toNat]) (UInt8.ofNat a.toNat :: keyW p c s)
        (if bhL (UInt8.ofNat a.toNat :: keyW p c s) = [] ∨ Op.bytesLess (bhL [UInt8.ofNat a.toNat]) (bhL (UInt8.ofNat a.toNat :: keyW p c s)) = true then bhL [UInt8.ofNat a.toNat] else bhL (UInt8.ofNat a.toNat :: keyW p c s)) true
      else ([UInt8.ofNat a.toNat], bhL [UInt8.ofNat a.toNat]))
  else swL op a s ex p c [UInt8.ofNat a.toNat] (bhL [UInt8.ofNat a.toNat]) (keyB a n s p c) (bhL (keyB a n s p c)) (decide (a = 4 ∧ (c ≠ 0 ∨ 48 ≤ s.length)))
def baP (x : List UInt8 × List UInt8) : ByteArray × ByteArray := (⟨x.1.toArray⟩, ⟨x.2.toArray⟩)
theorem behind_k (k : Nat) (l : List UInt8) (hl : l.length < k) (hk : l.length ≤ 1000) : key_Behind.f k ⟨l.toArray⟩ = some (⟨(bhL l).toArray⟩, (bhV l).2) := by
  rw [key_Behind_f k _ (by rw [ba_size]; omega) (by rw [ba_size]; exact hl), ba_mk, ← bhV_fst]
theorem asc32 : asciiB ⟨#[32]⟩ = true := by decide
theorem key_near_f (k : Nat) (hk : 120 ≤ k) (s : ByteArray) (hs : s.size ≤ 40000) (ex : Bool) (p c : Int) (h : pageOk p c) : key_near.f k s ex p c = some (baP (nearL s.data.toList ex p c)) := by
  unfold key_near.f nearL baP
  cases ex
  · rw [if_neg (by decide), if_neg (by decide), key_weights_f k s p c h (by omega) (by omega)]
    simp only [Option.bind_some]
    have hl := keyW_len p c s.data.toList
    rw [kind4, sz1, if_pos (by rw [ba_size]; omega), app_ba, behind_k k _ (by simp only [List.length_cons]; omega) (by simp only [List.length_cons]; omega)]
    rfl
  · rw [if_pos rfl, if_pos rfl]
    have e1 : (⟨#[32]⟩ : ByteArray).size = 1 := rfl
    have e2 : strings_TrimRight.f s ⟨#[32]⟩ = some ⟨(Lib.trimRightS s.data.toList [32]).toArray⟩ := by
      unfold strings_TrimRight.f
      rw [if_pos ⟨asc32, by rw [e1]; omega, by omega⟩]
    rw [e2]
    simp only [Option.bind_some]
    obtain ⟨m, hm, ht⟩ := trimRight_prefix s.data.toList
    have hz : (⟨(Lib.trimRightS s.data.toList [32]).toArray⟩ : ByteArray).size ≤ 40000 := by rw [ba_size, ht, List.length_take, ba_len]; omega
    rw [key_weights_f k _ p c h (by omega) (by omega), ba_mk]
    simp only [Option.bind_some]
    have hl := keyW_len p c (Lib.trimRightS s.data.toList [32])
    rw [kind4, sz1, if_pos (by rw [ba_size]; omega), app_ba, behind_k k _ (by simp only [List.length_cons]; omega) (by simp only [List.length_cons]; omega)]
    rfl
theorem bounds_j2 (k : Nat) (hk : 130 ≤ k) (op s : ByteArray) (hs : s.size ≤ 40000) (ex : Bool) (p c : Int) (h : pageOk p c) (kind en kk nx : List UInt8) (loose : Bool) (a n : Int) :
    key_bounds.j2 k op ex p c ⟨kind.toArray⟩ ⟨en.toArray⟩ ⟨kk.toArray⟩ ⟨nx.toArray⟩ loose a n s = some (baP (swL op.data.toList a s.data.toList ex p c kind en kk nx loose)) := by
  obtain ⟨k, rfl⟩ : ∃ m, k = m + 1 := ⟨k - 1, by omega⟩
  simp only [key_bounds.j2, ByteArray.toList_eq]
  unfold swL
  by_cases h1 : op.data.toList = [60]
  · rw [if_pos h1, if_pos h1]; cases loose <;> rfl
  · rw [if_neg h1, if_neg h1]
    by_cases h2 : op.data.toList = [60, 61]
    · rw [if_pos h2, if_pos h2]; rfl
    · rw [if_neg h2, if_neg h2]
      by_cases h3 : op.data.toList = [62]
      · rw [if_pos h3, if_pos h3]; cases loose <;> rfl
      · rw [if_neg h3, if_neg h3]
        by_cases h4 : op.data.toList = [62, 61]
        · rw [if_pos h4, if_pos h4]; rfl
        · rw [if_neg h4, if_neg h4]
          by_cases h5 : op.data.toList = [61]
          · rw [if_pos h5, if_pos h5]
            by_cases h6 : a = 4
            · rw [if_pos h6, if_pos h6, key_near_f k (by omega) s hs ex p c h]; rfl
            · rw [if_neg h6, if_neg h6]; rfl
          · rw [if_neg h5, if_neg h5]; rfl
theorem key_bounds_f (k : Nat) (hk : 200 ≤ k) (op : ByteArray) {a n : Int} {s : ByteArray} (hv : validV a n s = 0) (ex : Bool) (p c : Int) (h : pageOk p c) :
    key_bounds.f k op a n s ex p c = some (baP (boundsL op.data.toList a n s.data.toList ex p c)) := by
  obtain ⟨k, rfl⟩ : ∃ m, k = m + 1 + 1 := ⟨k - 2, by omega⟩
  have hr := kind_range hv
  have hs := (valid_cases hv).1
  have hl := keyB_len a n s.data.toList p c
  have hw := keyW_len p c s.data.toList
  have hz : s.data.toList.length = s.size := ba_len s
  unfold key_bounds.f
  simp only [Option.bind_some]
  rw [kind_str hr.1 hr.2]
  have eb : (⟨#[UInt8.ofNat a.toNat]⟩ : ByteArray) = ⟨([UInt8.ofNat a.toNat] : List UInt8).toArray⟩ := rfl
  rw [eb, behind_k _ _ (by simp) (by simp), key_plain_f _ (by omega) hv p c h]
  simp only [Option.bind_some]
  rw [behind_k _ _ (by omega) (by omega)]
  simp only [Option.bind_some]
  unfold boundsL
  have main : ∀ loose : Bool, loose = decide (a = 4 ∧ (c ≠ 0 ∨ 48 ≤ s.data.toList.length)) → (loose = true → a = 4) →
      key_bounds.j0 (k + 1 + 1) op ex p c ⟨([UInt8.ofNat a.toNat] : List UInt8).toArray⟩ ⟨(bhL [UInt8.ofNat a.toNat]).toArray⟩ ⟨(keyB a n s.data.toList p c).toArray⟩ ⟨(bhL (keyB a n s.data.toList p c)).toArray⟩ loose a n s = some (baP (boundsL op.data.toList a n s.data.toList ex p c)) := by
    intro loose hlo ha4
    simp only [key_bounds.j0, ByteArray.toList_eq]
    unfold boundsL
    have j1f : key_bounds.j1 (k + 1) op ex p c ⟨([UInt8.ofNat a.toNat] : List UInt8).toArray⟩ ⟨(bhL [UInt8.ofNat a.toNat]).toArray⟩ ⟨(keyB a n s.data.toList p c).toArray⟩ ⟨(bhL (keyB a n s.data.toList p c)).toArray⟩ loose false a n s = some (baP (swL op.data.toList a s.data.toList ex p c [UInt8.ofNat a.toNat] (bhL [UInt8.ofNat a.toNat]) (keyB a n s.data.toList p c) (bhL (keyB a n s.data.toList p c)) loose)) := by
      simp only [key_bounds.j1]
      rw [if_neg (by decide)]
      exact bounds_j2 k (by omega) op s (by omega) ex p c h _ _ _ _ loose a n
    cases loose with
    | false =>
      have hd := of_decide_eq_false hlo.symm
      rw [if_neg (by decide), if_neg (fun hh => hd hh.1), j1f, ← hlo]
    | true =>
      have hd := of_decide_eq_true hlo.symm
      rw [if_pos rfl]
      by_cases h1 : op.data.toList = [61]
      · rw [if_pos h1, if_neg (fun hh => hh.2.1 h1), j1f, ← hlo]
      · rw [if_neg h1]
        by_cases h2 : op.data.toList = [61, 61]
        · have e : (op.data.toList != ([61, 61] : List UInt8)) = false := bne_eq_false_iff_eq.mpr h2
          rw [e, if_neg (fun hh => hh.2.2 h2), j1f, ← hlo]
        · have e : (op.data.toList != ([61, 61] : List UInt8)) = true := bne_iff_ne.mpr h2
          rw [e, if_pos ⟨hd, h1, h2⟩]
          simp only [key_bounds.j1]
          rw [if_pos trivial]
          by_cases hc : c = 0
          · rw [if_pos hc, if_pos hc, key_weights_f k s p c h (by omega) (by omega)]
            simp only [Option.bind_some]
            rw [if_pos (by rw [ba_size, ba_size]; simp only [List.length_cons, List.length_nil]; omega), app_ba2, List.singleton_append, behind_k k _ (by simp only [List.length_cons]; omega) (by simp only [List.length_cons]; omega)]
            simp only [Option.bind_some, ByteArray.toList_eq]
            have j2f := fun nx => bounds_j2 k (by omega) op s (by omega) ex p c h [UInt8.ofNat a.toNat] (bhL [UInt8.ofNat a.toNat]) (UInt8.ofNat a.toNat :: keyW p c s.data.toList) nx true a n
            by_cases he : bhL (UInt8.ofNat a.toNat :: keyW p c s.data.toList) = []
            · rw [if_pos (by simpa using he), if_pos (Or.inl he), j2f]
            · rw [if_neg (by simpa using he)]
              by_cases hb : Op.bytesLess (bhL [UInt8.ofNat a.toNat]) (bhL (UInt8.ofNat a.toNat :: keyW p c s.data.toList)) = true
              · rw [if_pos (by simpa using hb), if_pos (Or.inr hb), j2f]
              · rw [if_neg (by simpa using hb), if_neg (fun hh => hh.elim he hb), j2f]
          · rw [if_neg hc, if_neg hc]
            rfl
  have hgoal := main
  unfold boundsL at hgoal
  by_cases h4 : a = 4
  · rw [if_pos h4]
    by_cases hc : c = 0
    · rw [if_pos hc]
      refine hgoal (decide ((s.size : Int) ≥ 48)) ?_ (fun _ => h4)
      apply decide_eq_decide.2
      constructor
      · intro hh; exact ⟨h4, Or.inr (by omega)⟩
      · rintro ⟨_, hh | hh⟩
        · exact absurd hc hh
        · omega
    · rw [if_neg hc]
      exact hgoal true (decide_eq_true ⟨h4, Or.inl hc⟩).symm (fun _ => h4)
  · rw [if_neg h4]
    exact hgoal false (decide_eq_false (fun hh => h4 hh.1)).symm (fun hh => absurd hh (by decide))
def turnL (x : List UInt8 × List UInt8) : List UInt8 × List UInt8 := (bhL (x.2.map neg), bhL (x.1.map neg))
theorem key_turned_f (k : Nat) (lo hi : List UInt8) (h1 : lo.length ≤ 200) (h2 : hi.length ≤ 200) (hk : 300 ≤ k) : key_turned.f k ⟨lo.toArray⟩ ⟨hi.toArray⟩ = some (baP (turnL (lo, hi))) := by
  unfold key_turned.f turnL baP
  simp only [Option.bind_some, key_turner.f]
  rw [turn_f k true _ (by rw [ba_size]; omega) (by rw [ba_size]; omega), turn_f k true _ (by rw [ba_size]; omega) (by rw [ba_size]; omega), ba_mk, ba_mk]
  have e : ∀ l, negL true l = l.map neg := fun l => rfl
  simp only [Option.bind_some, e]
  rw [behind_k k _ (by rw [List.length_map]; omega) (by rw [List.length_map]; omega), behind_k k _ (by rw [List.length_map]; omega) (by rw [List.length_map]; omega)]
  rfl
theorem nearL_len (s : List UInt8) (ex : Bool) (p c : Int) : (nearL s ex p c).1.length ≤ 200 ∧ (nearL s ex p c).2.length ≤ 200 := by
  unfold nearL
  have h1 := keyW_len p c (if ex = true then Lib.trimRightS s [32] else s)
  have h2 := bhL_len (4 :: keyW p c (if ex = true then Lib.trimRightS s [32] else s))
  simp only [List.length_cons] at *
  omega
theorem swL_len (op : List UInt8) (a : Int) (s : List UInt8) (ex : Bool) (p c : Int) (kind en k nx : List UInt8) (loose : Bool) (h1 : kind.length ≤ 200) (h2 : en.length ≤ 200) (h3 : k.length ≤ 200) (h4 : nx.length ≤ 200) :
    (swL op a s ex p c kind en k nx loose).1.length ≤ 200 ∧ (swL op a s ex p c kind en k nx loose).2.length ≤ 200 := by
  unfold swL
  split
  · split <;> exact ⟨h1, by assumption⟩
  · split
    · exact ⟨h1, h4⟩
    · split
      · split
        · exact ⟨h3, h2⟩
        · exact ⟨h4, h2⟩
      · split
        · exact ⟨h3, h2⟩
        · split
          · split
            · exact nearL_len s ex p c
            · exact ⟨h3, h4⟩
          · exact ⟨h3, h4⟩
theorem boundsL_len (op : List UInt8) (a n : Int) (s : List UInt8) (ex : Bool) (p c : Int) : (boundsL op a n s ex p c).1.length ≤ 200 ∧ (boundsL op a n s ex p c).2.length ≤ 200 := by
  have h1 := keyB_len a n s p c
  have h2 := bhL_len (keyB a n s p c)
  have h3 := keyW_len p c s
  have h4 := bhL_len (UInt8.ofNat a.toNat :: keyW p c s)
  have h5 := bhL_len [UInt8.ofNat a.toNat]
  simp only [List.length_cons, List.length_nil] at h4 h5
  unfold boundsL
  split
  · split
    · refine swL_len _ _ _ _ _ _ _ _ _ _ _ (by simp) (by omega) (by simp only [List.length_cons]; omega) ?_
      split <;> omega
    · exact ⟨by simp, by show (bhL [UInt8.ofNat a.toNat]).length ≤ 200; omega⟩
  · exact swL_len _ _ _ _ _ _ _ _ _ _ _ (by simp) (by omega) (by omega) (by omega)
def opsL : List (List UInt8) := [[61], [61, 61], [60], [60, 61], [62], [62, 61]]
def rangeV (op : ByteArray) (a n : Int) (s : ByteArray) (ex : Bool) (p c : Int) (d : Bool) : ByteArray × ByteArray × Bool × Int :=
  if validV a n s = 0 then (if askedV p c = 0 then (if op.data.toList ∈ opsL then (if a = 0 then (⟨#[]⟩, ⟨#[]⟩, false, 6) else
    ((baP (if d = true then turnL (boundsL op.data.toList a n s.data.toList ex p c) else boundsL op.data.toList a n s.data.toList ex p c)).1, (baP (if d = true then turnL (boundsL op.data.toList a n s.data.toList ex p c) else boundsL op.data.toList a n s.data.toList ex p c)).2,
      (if c = 0 then (if a = 4 then (if s.size < 48 then (if op.data.toList = [61] then !ex else true) else false) else true) else false), 0))
    else (⟨#[]⟩, ⟨#[]⟩, false, 1)) else (⟨#[]⟩, ⟨#[]⟩, false, askedV p c)) else (⟨#[]⟩, ⟨#[]⟩, false, validV a n s)
theorem prefix_tok : ∀ (op t r : List UInt8), 32 ∉ op → 32 ∉ t → (op ++ [32]) <+: (t ++ 32 :: r) → op = t
  | [], [], _, _, _, _ => rfl
  | [], x :: t, r, _, ht, h => by
    rw [List.nil_append, List.cons_append, List.cons_prefix_cons] at h
    exact absurd (by rw [← h.1]; simp) ht
  | y :: op, [], r, ho, _, h => by
    rw [List.nil_append, List.cons_append, List.cons_prefix_cons] at h
    exact absurd (by rw [← h.1]; simp) ho
  | y :: op, x :: t, r, ho, ht, h => by
    rw [List.cons_append, List.cons_append, List.cons_prefix_cons] at h
    have := prefix_tok op t r (fun hh => ho (List.mem_cons_of_mem _ hh)) (fun hh => ht (List.mem_cons_of_mem _ hh)) h.2
    rw [h.1, this]
theorem contains_f (s t : ByteArray) (hs : s.size ≤ 40000) : strings_Contains.f s t = some (decide (0 ≤ Lib.index s.data.toList t.data.toList)) := by
  unfold strings_Contains.f strings_Index.f
  rw [if_pos (by omega)]
  simp only [Option.bind_some]
theorem index_nonneg (s t : List UInt8) : 0 ≤ Lib.index s t ↔ ∃ j, j ≤ s.length ∧ t <+: s.drop j := by
  rcases Lib.index_spec s t with ⟨h1, h2⟩ | ⟨i, h1, h2, h3, h4⟩
  · rw [h1]
    constructor
    · intro h; exact absurd h (by decide)
    · rintro ⟨j, hj, hp⟩
      have := h2 j hj
      unfold Lib.occAt at this
      rw [List.isPrefixOf_iff_prefix.2 hp] at this
      exact absurd this (by decide)
  · rw [h1]
    constructor
    · intro _
      refine ⟨i, h2, ?_⟩
      unfold Lib.occAt at h3
      exact List.isPrefixOf_iff_prefix.1 h3
    · intro _; omega
theorem mem_of_space (l : List UInt8) : 0 ≤ Lib.index l [32] ↔ 32 ∈ l := by
  rw [index_nonneg]
  constructor
  · rintro ⟨j, hj, t, ht⟩
    have : 32 ∈ l.drop j := by rw [← ht]; simp
    exact List.mem_of_mem_drop this
  · intro h
    obtain ⟨a, b, rfl⟩ := List.append_of_mem h
    exact ⟨a.length, by simp, by rw [List.drop_left']; exact ⟨b, rfl⟩; rfl⟩
def opT : List UInt8 := [32, 61, 32, 61, 61, 32, 60, 32, 60, 61, 32, 62, 32, 62, 61, 32]
theorem ops_iff (l : List UInt8) (hne : l ≠ []) (h32 : 32 ∉ l) : 0 ≤ Lib.index opT (32 :: (l ++ [32])) ↔ l ∈ opsL := by
  rw [index_nonneg]
  constructor
  · rintro ⟨j, hj, hp⟩
    have hj' : j ≤ 16 := hj
    have key : ∀ (u : List UInt8), opT.drop j = u → (32 :: (l ++ [32])) <+: u := fun u hu => hu ▸ hp
    have go : ∀ (t r : List UInt8), 32 ∉ t → opT.drop j = 32 :: (t ++ 32 :: r) → l = t := fun t r ht hu => by
      have := key _ hu
      rw [List.cons_prefix_cons] at this
      exact prefix_tok l t r h32 ht this.2
    have bad : ∀ (x : UInt8) (u : List UInt8), x ≠ 32 → opT.drop j = x :: u → False := fun x u hx hu => by
      have := key _ hu
      rw [List.cons_prefix_cons] at this
      exact hx this.1.symm
    have e16 : j = 0 ∨ j = 1 ∨ j = 2 ∨ j = 3 ∨ j = 4 ∨ j = 5 ∨ j = 6 ∨ j = 7 ∨ j = 8 ∨ j = 9 ∨ j = 10 ∨ j = 11 ∨ j = 12 ∨ j = 13 ∨ j = 14 ∨ j = 15 ∨ j = 16 := by omega
    rcases e16 with rfl | rfl | rfl | rfl | rfl | rfl | rfl | rfl | rfl | rfl | rfl | rfl | rfl | rfl | rfl | rfl | rfl
    · rw [go [61] _ (by decide) rfl]; decide
    · exact (bad 61 _ (by decide) rfl).elim
    · rw [go [61, 61] _ (by decide) rfl]; decide
    · exact (bad 61 _ (by decide) rfl).elim
    · exact (bad 61 _ (by decide) rfl).elim
    · rw [go [60] _ (by decide) rfl]; decide
    · exact (bad 60 _ (by decide) rfl).elim
    · rw [go [60, 61] _ (by decide) rfl]; decide
    · exact (bad 60 _ (by decide) rfl).elim
    · exact (bad 61 _ (by decide) rfl).elim
    · rw [go [62] _ (by decide) rfl]; decide
    · exact (bad 62 _ (by decide) rfl).elim
    · rw [go [62, 61] _ (by decide) rfl]; decide
    · exact (bad 62 _ (by decide) rfl).elim
    · exact (bad 61 _ (by decide) rfl).elim
    · have := (key [32] rfl).length_le
      simp at this
    · have := (key [] rfl).length_le
      simp at this
  · intro h
    simp only [opsL, List.mem_cons, List.not_mem_nil, or_false] at h
    rcases h with rfl | rfl | rfl | rfl | rfl | rfl
    · exact ⟨0, by decide, ⟨_, rfl⟩⟩
    · exact ⟨2, by decide, ⟨_, rfl⟩⟩
    · exact ⟨5, by decide, ⟨_, rfl⟩⟩
    · exact ⟨7, by decide, ⟨_, rfl⟩⟩
    · exact ⟨10, by decide, ⟨_, rfl⟩⟩
    · exact ⟨12, by decide, ⟨_, rfl⟩⟩
theorem ops_plain (l : List UInt8) (h : l ∈ opsL) : l ≠ [] ∧ 32 ∉ l := by
  simp only [opsL, List.mem_cons, List.not_mem_nil, or_false] at h
  rcases h with rfl | rfl | rfl | rfl | rfl | rfl <;> decide
theorem key_Range_f (k : Nat) (hk : 400 ≤ k) (op : ByteArray) (ho : op.size ≤ 40000) (a n : Int) (s : ByteArray) (ex : Bool) (p c : Int) (d : Bool) : key_Range.f k op a n s ex p c d = some (rangeV op a n s ex p c d) := by
  obtain ⟨k, rfl⟩ : ∃ m, k = m + 1 := ⟨k - 1, by omega⟩
  unfold key_Range.f rangeV
  rw [keyAskedV (k + 1) (by omega)]
  simp only [Option.bind_some]
  by_cases hv : validV a n s = 0
  · rw [if_pos hv, if_pos hv]
    by_cases ha : askedV p c = 0
    · have hp := (askedV_ok p c).1 ha
      have e2 : ((⟨#[32]⟩ : ByteArray) ++ op).size = 1 + op.size := by rw [ByteArray.size_append, sz1]
      rw [if_pos ha, if_pos ha, if_pos (by omega), if_pos (by rw [e2]; omega)]
      have e3 : (⟨#[32]⟩ ++ op ++ (⟨#[32]⟩ : ByteArray)).data.toList = 32 :: (op.data.toList ++ [32]) := by rw [ba_app, ba_app]; rfl
      have hct : strings_Contains.f (⟨#[32, 61, 32, 61, 61, 32, 60, 32, 60, 61, 32, 62, 32, 62, 61, 32]⟩ : ByteArray) (⟨#[32]⟩ ++ op ++ (⟨#[32]⟩ : ByteArray)) = some (decide (0 ≤ Lib.index opT (32 :: (op.data.toList ++ [32])))) := by
        rw [contains_f _ _ (by decide), e3]; rfl
      rw [hct, ByteArray.toList_eq]
      simp only [Option.bind_some]
      have no : op.data.toList ∉ opsL → key_Range.j0 (k + 1) op ex p c d true a n s = some (if op.data.toList ∈ opsL then (if a = 0 then (⟨#[]⟩, ⟨#[]⟩, false, 6) else
    ((baP (if d = true then turnL (boundsL op.data.toList a n s.data.toList ex p c) else boundsL op.data.toList a n s.data.toList ex p c)).1, (baP (if d = true then turnL (boundsL op.data.toList a n s.data.toList ex p c) else boundsL op.data.toList a n s.data.toList ex p c)).2,
      (if c = 0 then (if a = 4 then (if s.size < 48 then (if op.data.toList = [61] then !ex else true) else false) else true) else false), 0))
    else (⟨#[]⟩, ⟨#[]⟩, false, 1)) := by
        intro hh
        rw [if_neg hh]
        simp only [key_Range.j0]
        rfl
      by_cases hidx : 0 ≤ Lib.index opT (32 :: (op.data.toList ++ [32]))
      · rw [if_pos (decide_eq_true hidx)]
        by_cases hne : op.data.toList = []
        · rw [if_pos hne]
          exact no (fun hh => (ops_plain _ hh).1 hne)
        · have hct2 : strings_Contains.f op (⟨#[32]⟩ : ByteArray) = some (decide (0 ≤ Lib.index op.data.toList [32])) := contains_f _ _ ho
          rw [if_neg hne, hct2]
          simp only [Option.bind_some]
          by_cases h32 : 32 ∈ op.data.toList
          · rw [decide_eq_true ((mem_of_space _).2 h32)]
            exact no (fun hh => (ops_plain _ hh).2 h32)
          · have hm := (ops_iff _ hne h32).1 hidx
            rw [decide_eq_false (fun hh => h32 ((mem_of_space _).1 hh)), if_pos hm]
            simp only [key_Range.j0]
            rw [if_neg (by decide)]
            by_cases h0 : a = 0
            · rw [if_pos h0, if_pos h0]
            · rw [if_neg h0, if_neg h0, key_bounds_f k (by omega) op hv ex p c hp]
              have hlen := boundsL_len op.data.toList a n s.data.toList ex p c
              generalize hB : boundsL op.data.toList a n s.data.toList ex p c = B at hlen
              simp only [Option.bind_some, ByteArray.toList_eq]
              have ht : key_turned.f k (baP B).1 (baP B).2 = some (baP (turnL B)) := key_turned_f k B.1 B.2 hlen.1 hlen.2 (by omega)
              rw [ht]
              simp only [Option.bind_some]
              cases d
              · simp only [Bool.false_eq_true, if_false]
                by_cases hc : c = 0
                · rw [if_pos hc, if_pos hc]
                  by_cases h4 : a = 4
                  · rw [if_pos h4, if_pos h4]
                    by_cases h48 : s.size < 48
                    · rw [if_pos (by omega), if_pos h48]
                      by_cases ho1 : op.data.toList = [61]
                      · rw [if_pos ho1, if_pos ho1]
                      · rw [if_neg ho1, if_neg ho1]; rfl
                    · rw [if_neg (by omega), if_neg h48]
                  · rw [if_neg h4, if_neg h4]
                · rw [if_neg hc, if_neg hc]
              · simp only [if_true]
                by_cases hc : c = 0
                · rw [if_pos hc, if_pos hc]
                  by_cases h4 : a = 4
                  · rw [if_pos h4, if_pos h4]
                    by_cases h48 : s.size < 48
                    · rw [if_pos (by omega), if_pos h48]
                      by_cases ho1 : op.data.toList = [61]
                      · rw [if_pos ho1, if_pos ho1]
                      · rw [if_neg ho1, if_neg ho1]; rfl
                    · rw [if_neg (by omega), if_neg h48]
                  · rw [if_neg h4, if_neg h4]
                · rw [if_neg hc, if_neg hc]
      · rw [if_neg (by rw [decide_eq_false hidx]; decide)]
        exact no (fun hh => hidx ((ops_iff _ (ops_plain _ hh).1 (ops_plain _ hh).2).2 hh))
    · rw [if_neg ha, if_neg ha]
  · rw [if_neg hv, if_neg hv, if_neg hv]
end Go.Proofs.YtnkejhfbkgfedaaDoor.L1
namespace Go.Proofs.YtnkejhfbkgfedaaDoor.PA
open Go.RowKit Go.Proofs.YtnkejhfbkgfedaaDoorW.PrintWords Go.Proofs.YtnkejhfbkgfedaaDoorW.PrintLast Go.Proofs.YtnkejhfbkgfedaaDoorW.PrintMore
attribute [local go_sem] max2_int min2_int max_two min_two max_three min_three max_four min_four   -- for this text's walks alone
set_option linter.unusedVariables false
set_option linter.unusedSimpArgs false
def cabinetryref01_In.l0 : Nat → List ByteArray → ByteArray → Int → Option (Bool)
 | 0, _, _, _ => none
 | k + 1, x0, x1, x5 => if x5 < (x0.length : Int) then (if 0 ≤ x5 then (if (rdOf ByteArray.empty x0 x5).toList = x1.toList then (some true) else (cabinetryref01_In.l0 k x0 x1 (wrap64 (x5 + 1)))) else (none)) else (some false)
def cabinetryref01_In.f (k : Nat) (l0 : List ByteArray) (a1 : ByteArray) : Option (Bool) := cabinetryref01_In.l0 k l0 a1 0
set_option maxHeartbeats 8000000 in
set_option maxRecDepth 100000 in
theorem cabinetryref01_In.calls (k : Nat) (A0 : Option Addr) (c0 : Nat) (l0 : List ByteArray) (a1 : ByteArray) (r : Bool) (w : World) (hr0 : Kd.C Kd.string w A0 l0.length l0) (hc0 : l0.length ≤ c0) (h : cabinetryref01_In.f k l0 a1 = some r) :
  Calls Tryd.prog 37 #[.slice A0 l0.length c0, .string a1] w fun e w' => e = .returned (.bool r) ∧ Drawn0 w w' := by
 have HR0 := Aside0.mk hr0
 have HC0 := Aside0.mk hc0
 clear hr0 hc0
 have H : (cabinetryref01_In.l0 k l0 a1 0) = some r := h
 clear h
 have H' := Aside0.mk H
 clear H
 go_enter Tryd.func37, Tryd.ntmps37
 go_wp2
 go_loopg [5] k (fun kq v5 w' => ∃ (x5_1 : Int), v5 = .int .i64 x5_1 ∧ Aside0 (cabinetryref01_In.l0 kq l0 a1 x5_1 = some r) ∧ Aside0 (kq ≤ k) ∧ Drawn0 w w')
 case atStart => exact ⟨(0), (by first | rfl | (simp; done) | (simp [*]; done)), H', ⟨Nat.le_refl _⟩, by repeat (first | exact Drawn0.refl _ | apply Drawn0.step)⟩
 case round =>
  clear H'
  try clear p2
  obtain ⟨x5_1, rfl, HA, HK1, ⟨m1, rfl⟩⟩ := hrel
  cases gk with
  | zero => exact absurd HA.out (by simp [cabinetryref01_In.l0])
  | succ k1 =>
   have H := HA.out
   clear HA
   simp only [cabinetryref01_In.l0] at H
   by_cases c3 : x5_1 < (l0.length : Int)
   ·rw [if_pos c3] at H
    have c3b0 : decide (x5_1 < (l0.length : Int)) = true := decide_eq_true c3
    clear c3
    by_cases c4 : 0 ≤ x5_1
    ·rw [if_pos c4] at H
     have c4b0 : decide (0 ≤ x5_1) = true := decide_eq_true c4
     clear c4
     by_cases c5 : (rdOf ByteArray.empty l0 x5_1).toList = a1.toList
     ·rw [if_pos c5] at H
      have c5b0 : ((rdOf ByteArray.empty l0 x5_1).toList == a1.toList) = true := beq_iff_eq.mpr c5
      have c5b1 : ((rdOf ByteArray.empty l0 x5_1).toList != a1.toList) = false := bne_eq_false_iff_eq.mpr c5
      clear c5
      obtain rfl := Option.some.inj H
      simp only [Option.some.injEq, Prod.mk.injEq] at H
      obtain ⟨rfl⟩ := H
      have p354 : 0 ≤ (x5_1 : Int) := of_decide_eq_true (by first | (with_reducible assumption) | assumption)
      have q354 : x5_1 < (l0.length : Int) := of_decide_eq_true (by first | (with_reducible assumption) | assumption)
      obtain ⟨ad354, e354, hx354_0⟩ := Kd.at_string HR0.out x5_1 p354 q354
      cases e354
      replace p354 := eq_true p354
      replace q354 := eq_true q354
      go_wp2
      go_ret
      exact ⟨by first | rfl | (simp; done) | (simp [*]; done), by repeat (first | exact Drawn0.refl _ | apply Drawn0.step)⟩
     ·rw [if_neg c5] at H
      have c5b0 : ((rdOf ByteArray.empty l0 x5_1).toList == a1.toList) = false := beq_eq_false_iff_ne.mpr c5
      have c5b1 : ((rdOf ByteArray.empty l0 x5_1).toList != a1.toList) = true := bne_iff_ne.mpr c5
      have H' := Aside0.mk H
      clear H
      have p354 : 0 ≤ (x5_1 : Int) := of_decide_eq_true (by first | (with_reducible assumption) | assumption)
      have q354 : x5_1 < (l0.length : Int) := of_decide_eq_true (by first | (with_reducible assumption) | assumption)
      obtain ⟨ad354, e354, hx354_0⟩ := Kd.at_string HR0.out x5_1 p354 q354
      cases e354
      replace p354 := eq_true p354
      replace q354 := eq_true q354
      go_wp2
      go_roundg k1
      case measure => have := HK1.out; omega
      case rel => exact ⟨(wrap64 (x5_1 + 1)), (by first | rfl | (simp; done) | (simp [*]; done)), H', ⟨by have := HK1.out; omega⟩, by repeat (first | exact Drawn0.refl _ | apply Drawn0.step)⟩
    ·rw [if_neg c4] at H
     exact absurd H (by simp)
   ·rw [if_neg c3] at H
    have c3b0 : decide (x5_1 < (l0.length : Int)) = false := decide_eq_false c3
    clear c3
    obtain rfl := Option.some.inj H
    simp only [Option.some.injEq, Prod.mk.injEq] at H
    obtain ⟨rfl⟩ := H
    go_wp2
    go_ret
    exact ⟨by first | rfl | (simp; done) | (simp [*]; done), by repeat (first | exact Drawn0.refl _ | apply Drawn0.step)⟩
end Go.Proofs.YtnkejhfbkgfedaaDoor.PA
