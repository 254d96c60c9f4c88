-- Written by a program of this session (wip/merge.py): the texts of this claim, joined.
import Derived.Test.YtnkejhfbkgfedaaDoorMKeyRanges1
import Derived.Test.YtnkejhfbkgfedaaDoorMKeyRanges2
import Derived.Test.YtnkejhfbkgfedaaDoorMKeyRanges3
import Derived.Test.YtnkejhfbkgfedaaDoorMKeyRanges4
import Derived.Test.YtnkejhfbkgfedaaDoorMKeyRanges5
import Derived.Test.YtnkejhfbkgfedaaDoorMKeyRanges6
import Derived.Test.YtnkejhfbkgfedaaDoorMKeyRanges7
import Derived.Test.YtnkejhfbkgfedaaDoorMKeyRanges8
import Derived.Test.YtnkejhfbkgfedaaDoorMKeyRanges9
import Derived.Test.YtnkejhfbkgfedaaDoorMKeyRanges10
import Derived.Test.YtnkejhfbkgfedaaDoorMKeyRanges11
import Derived.Test.YtnkejhfbkgfedaaDoorMKeyRanges12
import Derived.Test.YtnkejhfbkgfedaaDoorMKeyRanges13
import Derived.Test.YtnkejhfbkgfedaaDoorMKeyRanges14
import Derived.Test.YtnkejhfbkgfedaaDoorMKeyRanges15
import Derived.Test.YtnkejhfbkgfedaaDoorMKeyRanges16
import Derived.Test.YtnkejhfbkgfedaaDoorMKeyRanges17
import Derived.Test.YtnkejhfbkgfedaaDoorMKeyRanges18
import Derived.Test.YtnkejhfbkgfedaaDoorMKeyRanges19
import Derived.Test.YtnkejhfbkgfedaaDoorMKeyRanges20
import Derived.Test.YtnkejhfbkgfedaaDoorMKeyRanges21
import Derived.Test.YtnkejhfbkgfedaaDoorMKeyRanges22
import Derived.Test.YtnkejhfbkgfedaaDoorMKeyRanges23
import Derived.Test.YtnkejhfbkgfedaaDoorMKeyRanges24
import Derived.Test.YtnkejhfbkgfedaaDoorMKeyRanges25
import Derived.Test.YtnkejhfbkgfedaaDoorMKeyRanges26
import Derived.Test.YtnkejhfbkgfedaaDoorMKeyRanges27
namespace Go.Proofs.YtnkejhfbkgfedaaDoor.PA
end Go.Proofs.YtnkejhfbkgfedaaDoor.PA
namespace Go.Proofs.YtnkejhfbkgfedaaDoor.PB
end Go.Proofs.YtnkejhfbkgfedaaDoor.PB
namespace Go.Proofs.YtnkejhfbkgfedaaDoor.PC
end Go.Proofs.YtnkejhfbkgfedaaDoor.PC
namespace Go.Proofs.YtnkejhfbkgfedaaDoor.H1
end Go.Proofs.YtnkejhfbkgfedaaDoor.H1
namespace Go.Proofs.YtnkejhfbkgfedaaDoor.L1
end Go.Proofs.YtnkejhfbkgfedaaDoor.L1
namespace Go.Proofs.YtnkejhfbkgfedaaDoor.L1
open Go.RowKit Go.Proofs.YtnkejhfbkgfedaaDoorW.PrintWords Go.Proofs.YtnkejhfbkgfedaaDoor.PA Go.Proofs.YtnkejhfbkgfedaaDoor.H1 Go.Proofs.YtnkejhfbkgfedaaDoor.PB
set_option linter.unusedVariables false
set_option linter.unusedSimpArgs false
set_option linter.unusedSectionVars false
def qV (a m : Int) (t : List UInt8) (n : Int) (s : List UInt8) : Int := if a = 4 then Lib.compareBytes t s else cmpI m n
def Hd (op : List UInt8) (a : Int) (t s : List UInt8) (q : Int) (ex : Bool) : Prop :=
  if op = [61] then (if a = 4 then (if ex = true then Lib.trimRightS t [32] = Lib.trimRightS s [32] else s <+: t) else q = 0)
  else if op = [61, 61] then q = 0 else if op = [60] then q < 0 else if op = [60, 61] then q ≤ 0 else if op = [62] then 0 < q else 0 ≤ q
theorem keyB4 (n : Int) (s : List UInt8) (p c : Int) : keyB 4 n s p c = 4 :: (keyW p c s ++ [0, 0]) := rfl
section
variable {a n m : Int} {s t : ByteArray} (hv : validV a n s = 0) (hw : validV a m t = 0) (ha : a ≠ 0)
include hv hw ha
theorem cmp_kind (p c : Int) : Lib.compareBytes (keyB a m t.data.toList p c) (keyB a n s.data.toList p c) = if a = 4 then Lib.compareBytes ((t.data.toList.take 48).map (wt p c)) ((s.data.toList.take 48).map (wt p c)) else cmpI m n := by
  have := cmp_key_kind hw hv p c ha false
  rw [if_neg (by decide)] at this
  exact this
theorem PF_key (p c : Int) : PF (keyB a m t.data.toList p c) (keyB a n s.data.toList p c) := by
  intro h
  have hr := kind_range hv
  by_cases h4 : a = 4
  · subst h4
    rw [keyB4, keyB4] at h ⊢
    unfold keyW at h ⊢
    rw [term_prefix (List.cons_prefix_cons.1 h).2]
  · refine h.eq_of_length ?_
    unfold keyB
    rw [List.length_cons, List.length_cons, if_neg h4, if_neg h4]
    split
    · rw [be_len, be_len]
    · split
      · rw [be_len, be_len]
      · split
        · rw [be_len, be_len]
        · rfl
theorem key_head (p c : Int) : ∃ l, keyB a n s.data.toList p c = UInt8.ofNat a.toNat :: l ∧ 1 ≤ (UInt8.ofNat a.toNat).toNat ∧ (UInt8.ofNat a.toNat).toNat ≤ 4 := by
  have hr := kind_range hv
  exact ⟨_, rfl, by rw [kind_nat hr.1 hr.2]; omega, by rw [kind_nat hr.1 hr.2]; omega⟩
theorem G_key (p c : Int) : G (keyB a m t.data.toList p c) 4 (keyB a n s.data.toList p c) := by
  obtain ⟨l, h1, h2, h3⟩ := key_head hv hw ha p c
  exact ⟨PF_key hv hw ha p c, _, l, h1, h2, h3⟩
theorem key_long (p c : Int) : 2 ≤ (keyB a m t.data.toList p c).length := by
  have hr := kind_range hv
  unfold keyB
  rw [List.length_cons]
  by_cases h1 : a = 1
  · rw [if_pos h1, be_len]; omega
  · rw [if_neg h1]
    by_cases h2 : a = 2
    · rw [if_pos h2, be_len]; omega
    · rw [if_neg h2]
      by_cases h3 : a = 3
      · rw [if_pos h3, be_len]; omega
      · rw [if_neg h3, if_pos (by omega), List.length_append]
        simp only [List.length_cons, List.length_nil]; omega
theorem G_kind (p c : Int) : G (keyB a m t.data.toList p c) 4 [UInt8.ofNat a.toNat] := by
  have hr := kind_range hv
  have hl := key_long hv hw ha p c
  refine ⟨fun h => ?_, _, [], rfl, by rw [kind_nat hr.1 hr.2]; omega, by rw [kind_nat hr.1 hr.2]; omega⟩
  have := h.length_le
  simp only [List.length_cons, List.length_nil] at this
  omega
theorem kind_pre (p c : Int) : [UInt8.ofNat a.toNat] <+: keyB a m t.data.toList p c := ⟨_, rfl⟩
theorem Bd_key (p c : Int) : Bd (keyB a n s.data.toList p c) (keyB a m t.data.toList p c) ↔ Lib.compareBytes (keyB a m t.data.toList p c) (keyB a n s.data.toList p c) ≤ 0 := by
  unfold Bd
  constructor
  · rintro (h | h)
    · omega
    · rw [PF_key hw hv ha p c h, cmp_self]; decide
  · intro h
    rcases Int.lt_or_eq_of_le h with h | h
    · exact Or.inl h
    · exact Or.inr (by rw [cmp_zero _ _ h]; exact List.prefix_refl _)
theorem G_near (p c : Int) (x : List UInt8) (h4 : a = 4) : G (keyB a m t.data.toList p c) 4 (4 :: keyW p c x) := by
  subst h4
  refine ⟨fun h => ?_, 4, _, rfl, by decide, by decide⟩
  rw [keyB4] at h
  unfold keyW at h
  exact absurd (List.cons_prefix_cons.1 h).2 (no_term _ _)
theorem near_iff (p c : Int) (x : List UInt8) (h4 : a = 4) : inS (keyB a m t.data.toList p c) (4 :: keyW p c x, bhL (4 :: keyW p c x)) ↔ (x.take 48).map (wt p c) <+: (t.data.toList.take 48).map (wt p c) := by
  subst h4
  have e : (4 :: keyW p c x) <+: keyB 4 m t.data.toList p c ↔ (x.take 48).map (wt p c) <+: (t.data.toList.take 48).map (wt p c) := by
    rw [keyB4, List.cons_prefix_cons]
    unfold keyW
    rw [esc_pre]
    exact ⟨fun h => h.2, fun h => ⟨rfl, h⟩⟩
  rw [← e]
  unfold inS
  simp only []
  rw [up_bh]
  unfold Bd
  constructor
  · rintro ⟨h1, h2 | h2⟩
    · omega
    · exact h2
  · intro h; exact ⟨ge_prefix h, Or.inr h⟩
theorem tight (p c : Int) (op : List UInt8) (ho : op ∈ opsL) (ex : Bool) (h61 : op = [61] → a ≠ 4) (q : Int) (hq : Lib.compareBytes (keyB a m t.data.toList p c) (keyB a n s.data.toList p c) = q) :
    inS (keyB a m t.data.toList p c) (swL op a s.data.toList ex p c [UInt8.ofNat a.toNat] (bhL [UInt8.ofNat a.toNat]) (keyB a n s.data.toList p c) (bhL (keyB a n s.data.toList p c)) false) ↔ Hd op a t.data.toList s.data.toList q ex := by
  have k1 := ge_prefix (kind_pre hv hw ha p c)
  have k2 : Bd [UInt8.ofNat a.toNat] (keyB a m t.data.toList p c) := Or.inr (kind_pre hv hw ha p c)
  have k3 := Bd_key hv hw ha p c
  obtain ⟨l, hl, hl1, hl2⟩ := key_head hv hw ha p c
  obtain ⟨y, r, hb, _, _⟩ := bh_some (UInt8.ofNat a.toNat) l (by omega)
  rw [← hl] at hb
  have k4 := ge_bh (K := keyB a m t.data.toList p c) hb
  have hne : keyB a n s.data.toList p c ≠ [] := by rw [hl]; simp
  have k5 : ¬ keyB a n s.data.toList p c = [] := hne
  rw [hq] at k3
  simp only [opsL, List.mem_cons, List.not_mem_nil, or_false] at ho
  rcases ho with rfl | rfl | rfl | rfl | rfl | rfl
  · unfold swL Hd inS
    rw [if_neg (by decide), if_neg (by decide), if_neg (by decide), if_neg (by decide), if_pos rfl, if_neg (h61 rfl), if_pos rfl, if_neg (h61 rfl)]
    simp only []
    rw [up_bh, k3, hq]; omega
  · unfold swL Hd inS
    rw [if_neg (by decide), if_neg (by decide), if_neg (by decide), if_neg (by decide), if_neg (by decide), if_neg (by decide), if_pos rfl]
    simp only []
    rw [up_bh, k3, hq]; omega
  · unfold swL Hd inS
    rw [if_pos rfl, if_neg (by decide), if_neg (by decide), if_neg (by decide), if_pos rfl]
    simp only []
    unfold Up
    rw [hq]
    exact ⟨fun h => h.2.resolve_left k5, fun h => ⟨k1, Or.inr h⟩⟩
  · unfold swL Hd inS
    rw [if_neg (by decide), if_pos rfl, if_neg (by decide), if_neg (by decide), if_neg (by decide), if_pos rfl]
    simp only []
    rw [up_bh, k3]
    exact ⟨fun h => h.2, fun h => ⟨k1, h⟩⟩
  · unfold swL Hd inS
    rw [if_neg (by decide), if_neg (by decide), if_pos rfl, if_neg (by decide), if_neg (by decide), if_neg (by decide), if_neg (by decide), if_neg (by decide), if_pos rfl]
    simp only []
    rw [up_bh, k4, k3]
    exact ⟨fun h => by omega, fun h => ⟨by omega, k2⟩⟩
  · unfold swL Hd inS
    rw [if_neg (by decide), if_neg (by decide), if_neg (by decide), if_pos rfl, if_neg (by decide), if_neg (by decide), if_neg (by decide), if_neg (by decide), if_neg (by decide)]
    simp only []
    rw [up_bh, hq]
    exact ⟨fun h => h.1, fun h => ⟨h, k2⟩⟩
theorem q_le (p : Int) (h4 : a = 4) : Lib.compareBytes (keyB a m t.data.toList p 0) (keyB a n s.data.toList p 0) = 0 ∨ Lib.compareBytes (keyB a m t.data.toList p 0) (keyB a n s.data.toList p 0) = qV a m t.data.toList n s.data.toList := by
  rw [cmp_kind hv hw ha, if_pos h4, wt0, wt0]
  unfold qV
  rw [if_pos h4]
  exact cmp_take 48 _ _
theorem loose (p : Int) (h4 : a = 4) (op : List UInt8) (ho : op ∈ opsL) (h61 : op ≠ [61]) (h66 : op ≠ [61, 61]) (ex : Bool) (nx : List UInt8)
    (hnx : nx = bhL [UInt8.ofNat a.toNat] ∨ nx = bhL (UInt8.ofNat a.toNat :: keyW p 0 s.data.toList)) (hh : Hd op a t.data.toList s.data.toList (qV a m t.data.toList n s.data.toList) ex) :
    inS (keyB a m t.data.toList p 0) (swL op a s.data.toList ex p 0 [UInt8.ofNat a.toNat] (bhL [UInt8.ofNat a.toNat]) (UInt8.ofNat a.toNat :: keyW p 0 s.data.toList) nx true) := by
  have k1 := ge_prefix (kind_pre hv hw ha p 0)
  have k2 : Bd [UInt8.ofNat a.toNat] (keyB a m t.data.toList p 0) := Or.inr (kind_pre hv hw ha p 0)
  have hq := q_le hv hw ha p h4
  have e : keyB a n s.data.toList p 0 = (UInt8.ofNat a.toNat :: keyW p 0 s.data.toList) ++ [0, 0] := by subst h4; rfl
  have le : qV a m t.data.toList n s.data.toList ≤ 0 → Up nx (keyB a m t.data.toList p 0) := fun hh => by
    rcases hnx with rfl | rfl
    · exact (up_bh _ _).2 k2
    · refine (up_bh _ _).2 (Bd_of_app _ _ [0, 0] ?_)
      rw [← e]; omega
  have ge : 0 ≤ qV a m t.data.toList n s.data.toList → 0 ≤ Lib.compareBytes (keyB a m t.data.toList p 0) (UInt8.ofNat a.toNat :: keyW p 0 s.data.toList) := fun hh => by
    refine ge_of_app _ _ [0, 0] ?_
    rw [← e]; omega
  simp only [opsL, List.mem_cons, List.not_mem_nil, or_false] at ho
  unfold Hd at hh
  rcases ho with rfl | rfl | rfl | rfl | rfl | rfl
  · exact absurd rfl h61
  · exact absurd rfl h66
  · rw [if_neg (by decide), if_neg (by decide), if_pos rfl] at hh
    unfold swL inS
    rw [if_pos rfl, if_pos rfl]
    exact ⟨k1, le (by omega)⟩
  · rw [if_neg (by decide), if_neg (by decide), if_neg (by decide), if_pos rfl] at hh
    unfold swL inS
    rw [if_neg (by decide), if_pos rfl]
    exact ⟨k1, le (by omega)⟩
  · rw [if_neg (by decide), if_neg (by decide), if_neg (by decide), if_neg (by decide), if_pos rfl] at hh
    unfold swL inS
    rw [if_neg (by decide), if_neg (by decide), if_pos rfl, if_pos rfl]
    exact ⟨ge (by omega), (up_bh _ _).2 k2⟩
  · rw [if_neg (by decide), if_neg (by decide), if_neg (by decide), if_neg (by decide), if_neg (by decide)] at hh
    unfold swL inS
    rw [if_neg (by decide), if_neg (by decide), if_neg (by decide), if_pos rfl]
    exact ⟨ge (by omega), (up_bh _ _).2 k2⟩
theorem q_zero (h : qV a m t.data.toList n s.data.toList = 0) (p c : Int) : Lib.compareBytes (keyB a m t.data.toList p c) (keyB a n s.data.toList p c) = 0 := by
  unfold qV at h
  rw [cmp_kind hv hw ha]
  by_cases h4 : a = 4
  · rw [if_pos h4] at h ⊢
    rw [cmp_zero _ _ h, cmp_self]
  · rw [if_neg h4] at h ⊢
    exact h
theorem q_same (p c : Int) (h : ¬ (a = 4 ∧ (c ≠ 0 ∨ 48 ≤ s.data.toList.length))) : Lib.compareBytes (keyB a m t.data.toList p c) (keyB a n s.data.toList p c) = qV a m t.data.toList n s.data.toList := by
  unfold qV
  rw [cmp_kind hv hw ha]
  by_cases h4 : a = 4
  · have hc : c = 0 := Classical.byContradiction fun hc => h ⟨h4, Or.inl hc⟩
    have hl : s.data.toList.length < 48 := Classical.byContradiction fun hl => h ⟨h4, Or.inr (by omega)⟩
    subst hc
    rw [if_pos h4, if_pos h4, wt0, wt0, List.take_of_length_le (l := s.data.toList) (by omega), cmp_take_short 48 _ _ hl]
  · rw [if_neg h4, if_neg h4]
theorem bounds_in (p c : Int) (op : List UInt8) (ho : op ∈ opsL) (ex : Bool) (hh : Hd op a t.data.toList s.data.toList (qV a m t.data.toList n s.data.toList) ex) : inS (keyB a m t.data.toList p c) (boundsL op a n s.data.toList ex p c) := by
  unfold boundsL
  by_cases h61 : op = [61] ∧ a = 4
  · obtain ⟨rfl, h4⟩ := h61
    rw [if_neg (fun hh => hh.2.1 rfl)]
    unfold swL nearL
    rw [if_neg (by decide), if_neg (by decide), if_neg (by decide), if_neg (by decide), if_pos rfl, if_pos h4, near_iff hv hw ha p c _ h4]
    unfold Hd at hh
    rw [if_pos rfl, if_pos h4] at hh
    have hx : (if ex = true then Lib.trimRightS s.data.toList [32] else s.data.toList) <+: t.data.toList := by
      cases ex
      · rw [if_neg (by decide)] at hh ⊢; exact hh
      · rw [if_pos rfl] at hh ⊢
        obtain ⟨j, _, hj⟩ := trimRight_prefix t.data.toList
        rw [← hh, hj]
        exact List.take_prefix _ _
    obtain ⟨r, hr⟩ := hx
    rw [← hr, List.take_append, List.map_append]
    exact List.prefix_append _ _
  · by_cases hlo : a = 4 ∧ (c ≠ 0 ∨ 48 ≤ s.data.toList.length)
    · have h4 := hlo.1
      have hn61 : op ≠ [61] := fun e => h61 ⟨e, h4⟩
      by_cases h66 : op = [61, 61]
      · rw [if_neg (fun hh => hh.2.2 h66)]
        subst h66
        unfold Hd at hh
        rw [if_neg (by decide), if_pos rfl] at hh
        have hz := q_zero hv hw ha hh p c
        have := (tight hv hw ha p c [61, 61] ho ex (fun e => absurd e (by decide)) 0 hz).2 (by unfold Hd; rw [if_neg (by decide), if_pos rfl])
        unfold swL at this ⊢
        rw [if_neg (by decide), if_neg (by decide), if_neg (by decide), if_neg (by decide), if_neg (by decide)] at this ⊢
        exact this
      · rw [if_pos ⟨hlo, hn61, h66⟩]
        by_cases hc : c = 0
        · rw [if_pos hc]
          subst hc
          refine loose hv hw ha p h4 op ho hn61 h66 ex _ ?_ hh
          split
          · exact Or.inl rfl
          · exact Or.inr rfl
        · rw [if_neg hc]
          exact ⟨ge_prefix (kind_pre hv hw ha p c), (up_bh _ _).2 (Or.inr (kind_pre hv hw ha p c))⟩
    · rw [if_neg (fun hh => hlo hh.1), decide_eq_false hlo]
      exact (tight hv hw ha p c op ho ex (fun e h4 => h61 ⟨e, h4⟩) _ (q_same hv hw ha p c hlo)).2 hh
theorem bounds_only (p : Int) (op : List UInt8) (ho : op ∈ opsL) (ex : Bool) (hs : a = 4 → s.data.toList.length < 48 ∧ (op = [61] → ex = false)) (hi : inS (keyB a m t.data.toList p 0) (boundsL op a n s.data.toList ex p 0)) : Hd op a t.data.toList s.data.toList (qV a m t.data.toList n s.data.toList) ex := by
  unfold boundsL at hi
  have hlo : ¬ (a = 4 ∧ ((0 : Int) ≠ 0 ∨ 48 ≤ s.data.toList.length)) := fun h => h.2.elim (fun h2 => h2 rfl) (fun h2 => by have := (hs h.1).1; omega)
  rw [if_neg (fun hh => hlo hh.1), decide_eq_false hlo] at hi
  by_cases h61 : op = [61] ∧ a = 4
  · obtain ⟨rfl, h4⟩ := h61
    obtain ⟨h5, h6⟩ := hs h4
    obtain rfl := h6 rfl
    unfold swL nearL at hi
    rw [if_neg (by decide), if_neg (by decide), if_neg (by decide), if_neg (by decide), if_pos rfl, if_pos h4, near_iff hv hw ha p 0 _ h4, wt0, wt0, if_neg (by decide), List.take_of_length_le (l := s.data.toList) (by omega)] at hi
    unfold Hd
    rw [if_pos rfl, if_pos h4, if_neg (by decide)]
    exact hi.trans (List.take_prefix _ _)
  · exact (tight hv hw ha p 0 op ho ex (fun e h4 => h61 ⟨e, h4⟩) _ (q_same hv hw ha p 0 hlo)).1 hi
theorem bounds_G (p c : Int) (op : List UInt8) (ex : Bool) : G (keyB a m t.data.toList p c) 5 (boundsL op a n s.data.toList ex p c).1 ∧ G (keyB a m t.data.toList p c) 5 (boundsL op a n s.data.toList ex p c).2 := by
  have g1 := G_kind hv hw ha p c
  have g2 := G_key hv hw ha p c
  have g3 := G_bh (by decide) g1
  have g4 := G_bh (by decide) g2
  have up {x} (h : G (keyB a m t.data.toList p c) 4 x) := G_up h (show 4 ≤ 5 by decide)
  have sw : ∀ k nx, G (keyB a m t.data.toList p c) 5 k → G (keyB a m t.data.toList p c) 5 nx → ∀ lo, G (keyB a m t.data.toList p c) 5 (swL op a s.data.toList ex p c [UInt8.ofNat a.toNat] (bhL [UInt8.ofNat a.toNat]) k nx lo).1 ∧ G (keyB a m t.data.toList p c) 5 (swL op a s.data.toList ex p c [UInt8.ofNat a.toNat] (bhL [UInt8.ofNat a.toNat]) k nx lo).2 := by
    intro k nx hk hn lo
    unfold swL
    split
    · split <;> exact ⟨up g1, by assumption⟩
    · split
      · exact ⟨up g1, hn⟩
      · split
        · split
          · exact ⟨hk, g3⟩
          · exact ⟨hn, g3⟩
        · split
          · exact ⟨hk, g3⟩
          · split
            · by_cases h4 : a = 4
              · rw [if_pos h4]
                unfold nearL
                have gn := fun x => G_near hv hw ha p c x h4
                exact ⟨up (gn _), G_bh (by decide) (gn _)⟩
              · rw [if_neg h4]
                exact ⟨hk, hn⟩
            · exact ⟨hk, hn⟩
  unfold boundsL
  split
  · rename_i hl
    split
    · have h4 := hl.1.1
      have gk : G (keyB a m t.data.toList p c) 4 (UInt8.ofNat a.toNat :: keyW p c s.data.toList) := by
        have := G_near hv hw ha p c s.data.toList h4
        subst h4
        exact this
      refine sw _ _ (up gk) ?_ true
      split
      · exact g3
      · exact G_bh (by decide) gk
    · exact ⟨up g1, g3⟩
  · exact sw _ _ (up g2) g4 _
end
end Go.Proofs.YtnkejhfbkgfedaaDoor.L1
