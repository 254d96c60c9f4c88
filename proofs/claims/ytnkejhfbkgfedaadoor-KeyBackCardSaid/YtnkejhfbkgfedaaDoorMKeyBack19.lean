-- Written by a program of this session (wip/merge.py): the texts of this claim, joined.
import Derived.Test.YtnkejhfbkgfedaaDoorMKeyBack1
import Derived.Test.YtnkejhfbkgfedaaDoorMKeyBack2
import Derived.Test.YtnkejhfbkgfedaaDoorMKeyBack3
import Derived.Test.YtnkejhfbkgfedaaDoorMKeyBack4
import Derived.Test.YtnkejhfbkgfedaaDoorMKeyBack5
import Derived.Test.YtnkejhfbkgfedaaDoorMKeyBack6
import Derived.Test.YtnkejhfbkgfedaaDoorMKeyBack7
import Derived.Test.YtnkejhfbkgfedaaDoorMKeyBack8
import Derived.Test.YtnkejhfbkgfedaaDoorMKeyBack9
import Derived.Test.YtnkejhfbkgfedaaDoorMKeyBack10
import Derived.Test.YtnkejhfbkgfedaaDoorMKeyBack11
import Derived.Test.YtnkejhfbkgfedaaDoorMKeyBack12
import Derived.Test.YtnkejhfbkgfedaaDoorMKeyBack13
import Derived.Test.YtnkejhfbkgfedaaDoorMKeyBack14
import Derived.Test.YtnkejhfbkgfedaaDoorMKeyBack15
import Derived.Test.YtnkejhfbkgfedaaDoorMKeyBack16
import Derived.Test.YtnkejhfbkgfedaaDoorMKeyBack17
import Derived.Test.YtnkejhfbkgfedaaDoorMKeyBack18
namespace Go.Proofs.YtnkejhfbkgfedaaDoor.PA
end Go.Proofs.YtnkejhfbkgfedaaDoor.PA
namespace Go.Proofs.YtnkejhfbkgfedaaDoor.PB
end Go.Proofs.YtnkejhfbkgfedaaDoor.PB
namespace Go.Proofs.YtnkejhfbkgfedaaDoor.PC
end Go.Proofs.YtnkejhfbkgfedaaDoor.PC
namespace Go.Proofs.YtnkejhfbkgfedaaDoor.H1
end Go.Proofs.YtnkejhfbkgfedaaDoor.H1
namespace Go.Proofs.YtnkejhfbkgfedaaDoor.L1
end Go.Proofs.YtnkejhfbkgfedaaDoor.L1
namespace Go.Proofs.YtnkejhfbkgfedaaDoor.L1
open Go.RowKit Go.Proofs.YtnkejhfbkgfedaaDoorW.PrintWords Go.Proofs.YtnkejhfbkgfedaaDoor.PA Go.Proofs.YtnkejhfbkgfedaaDoor.H1 Go.Proofs.YtnkejhfbkgfedaaDoor.PB
set_option linter.unusedVariables false
set_option linter.unusedSimpArgs false
theorem tx_rest : ∀ (n : Nat) (acc l t r : List UInt8), tx n acc l = some (t, r) → r.length + 2 ≤ l.length
  | 0, _, _, _, _, h => by simp [tx] at h
  | n + 1, acc, [], t, r, h => by simp [tx] at h
  | n + 1, acc, x :: l, t, r, h => by
    rw [tx_step] at h
    by_cases hx : x = 0
    · rw [if_pos hx] at h
      cases l with
      | nil => simp at h
      | cons y m =>
        simp only [] at h
        by_cases hy : y = 0
        · rw [if_pos hy] at h
          split at h
          · cases h
          · obtain ⟨rfl, rfl⟩ := Prod.mk.inj (Option.some.inj h)
            simp
        · rw [if_neg hy] at h
          by_cases hy1 : y = 1
          · rw [if_pos hy1] at h
            have := tx_rest n _ m t r h
            simp only [List.length_cons]; omega
          · rw [if_neg hy1] at h; cases h
    · rw [if_neg hx] at h
      have := tx_rest n _ l t r h
      simp only [List.length_cons]; omega
def numV (a : Int) (z : Nat) (l : List UInt8) : Option (Int × Int × ByteArray × Int) :=
  if l.length < z then none else if validV a (if a = 2 then wrap64 (numL 0 (l.take z) - 1000000000000000) else numL 0 (l.take z)) ⟨#[]⟩ = 0 then some (a, (if a = 2 then wrap64 (numL 0 (l.take z) - 1000000000000000) else numL 0 (l.take z)), ⟨#[]⟩, (1 + z : Nat)) else none
def onV : List UInt8 → Option (Int × Int × ByteArray × Int)
  | [] => none
  | x :: l => if x = 0 then some (0, 0, ⟨#[]⟩, 1) else if x = 4 then (match tx (l.length + 1) [] l with
      | none => none
      | some (t, r) => some (4, 0, ⟨t.toArray⟩, ((l.length + 1 : Nat) : Int) - r.length))
    else if x = 1 then numV 1 1 l else if x = 2 then numV 2 8 l else if x = 3 then numV 3 4 l else none
def isCut (s : ByteArray) (r : Int × Int × ByteArray × Int) : Option (Int × Int × ByteArray × Int) → Prop
  | none => r.2.2.2 = 0
  | some q => r = q ∧ 1 ≤ q.2.2.2 ∧ q.2.2.2 ≤ (s.size : Int)
theorem cut_part (s : ByteArray) (x : UInt8) (l : List UInt8) (h : s.data.toList = x :: l) (z : Nat) (hz : z ≤ l.length) : (s.extract 1 (1 + z)).data.toList = l.take z := by
  have ls := ba_len s
  rw [h, List.length_cons] at ls
  rw [ba_extract s 1 (1 + z) (by omega), h, Nat.add_comm 1 z, List.take_succ_cons, List.drop_succ_cons, List.drop_zero]
theorem key_j0 (k : Nat) (hk : 100 ≤ k) (s : ByteArray) (hs : s.size ≤ 40000) (x : UInt8) (l : List UInt8) (h : s.data.toList = x :: l) (a : Int) (z : Nat) (hz : 1 ≤ z ∧ z ≤ 8) :
    ∃ r, key_cut.j0 k s (z : Int) a 0 (⟨#[]⟩ : ByteArray) = some r ∧ isCut s r (numV a z l) := by
  obtain ⟨k, rfl⟩ : ∃ m, k = m + 1 + 1 + 1 := ⟨k - 3, by omega⟩
  have ls := ba_len s
  rw [h, List.length_cons] at ls
  simp only [key_cut.j0, key_cut.j1]
  rw [if_neg (by omega), w64 (x := (1 : Int) + (z : Int)) (by omega) (by omega)]
  unfold numV
  by_cases hl : l.length < z
  · rw [if_pos (decide_eq_true (by omega)), if_pos hl]
    exact ⟨_, rfl, rfl⟩
  · rw [if_neg (by rw [decide_eq_false (by omega)]; decide), if_neg hl, if_pos (by omega), if_pos (by omega), show ((1 : Int) + (z : Int)).toNat = 1 + z by omega]
    have hp := cut_part s x l h z (by omega)
    have hsz : (s.extract 1 (1 + z)).size ≤ 8 := by rw [ByteArray.size_extract]; omega
    rw [key_number_f _ _ (by omega) (by omega), hp]
    simp only [Option.bind_some, validate_f]
    by_cases ha : a = 2
    · rw [if_pos ha, if_pos ha]
      by_cases hv : validV a (wrap64 (numL 0 (l.take z) - 1000000000000000)) ⟨#[]⟩ = 0
      · rw [if_pos hv, if_pos hv]
        exact ⟨_, rfl, by simp, by simp; omega, by simp; omega⟩
      · rw [if_neg hv, if_neg hv]
        exact ⟨_, rfl, rfl⟩
    · rw [if_neg ha, if_neg ha]
      by_cases hv : validV a (numL 0 (l.take z)) ⟨#[]⟩ = 0
      · rw [if_pos hv, if_pos hv]
        exact ⟨_, rfl, by simp, by simp; omega, by simp; omega⟩
      · rw [if_neg hv, if_neg hv]
        exact ⟨_, rfl, rfl⟩
theorem text_cut (s : ByteArray) (x : UInt8) (l : List UInt8) (h : s.data.toList = x :: l) : isCut s (txV s.size (tx (l.length + 1) [] l)) (match tx (l.length + 1) [] l with
      | none => none
      | some (t, r) => some (4, 0, ⟨t.toArray⟩, ((l.length + 1 : Nat) : Int) - r.length)) := by
  have ls := ba_len s
  rw [h, List.length_cons] at ls
  cases ht : tx (l.length + 1) [] l with
  | none => rfl
  | some q =>
    obtain ⟨t, r⟩ := q
    have := tx_rest _ _ _ _ _ ht
    refine ⟨?_, ?_, ?_⟩
    · unfold txV; rw [← ls]
    · show (1 : Int) ≤ ((l.length + 1 : Nat) : Int) - r.length
      omega
    · show ((l.length + 1 : Nat) : Int) - r.length ≤ (s.size : Int)
      omega
theorem key_cut_f (k : Nat) (hk : 90000 ≤ k) (s : ByteArray) (hs : s.size ≤ 40000) : ∃ r, key_cut.f k s = some r ∧ isCut s r (onV s.data.toList) := by
  unfold key_cut.f
  rw [ByteArray.toList_eq]
  cases h : s.data.toList with
  | nil =>
    rw [if_pos rfl]
    exact ⟨_, rfl, rfl⟩
  | cons x l =>
    have ls := ba_len s
    rw [h, List.length_cons] at ls
    have hb : bt s 0 = toI x := by
      have := bt_toI s 0 (by omega)
      simp only [h, List.getElem_cons_zero] at this
      exact this
    have hr := toI_range x
    rw [if_neg (by simp), if_pos (by omega), hb, w64 (by omega) (by omega)]
    by_cases h0 : x = 0
    · rw [if_pos (by rw [h0]; rfl), onV, if_pos h0, h0]
      exact ⟨_, rfl, rfl, by decide, by simp; omega⟩
    · rw [if_neg (fun e => h0 (toI_inj (e.trans rfl))), onV, if_neg h0]
      by_cases h4 : x = 4
      · rw [if_pos (by rw [h4]; rfl), if_pos h4]
        have hT := cutText_l s hs l.length 1 k [] (by omega) (by omega) (by omega) (by simp)
        rw [h, List.drop_succ_cons, List.drop_zero] at hT
        unfold key_cutText.f
        rw [show ((1 : Nat) : Int) = 1 from rfl, List.map_nil] at hT
        rw [hT]
        simp only [Option.bind_some]
        exact ⟨_, rfl, text_cut s x l h⟩
      · rw [if_neg (fun e => h4 (toI_inj (e.trans rfl))), if_neg h4]
        by_cases h1 : x = 1
        · rw [if_pos (by rw [h1]; rfl), if_pos h1, show toI x = 1 by rw [h1]; rfl]
          exact key_j0 k (by omega) s hs x l h 1 1 (by omega)
        · rw [if_neg (fun e => h1 (toI_inj (e.trans rfl))), if_neg h1]
          by_cases h2 : x = 2
          · rw [if_pos (by rw [h2]; rfl), if_pos h2, if_neg (by decide), show toI x = 2 by rw [h2]; rfl]
            exact key_j0 k (by omega) s hs x l h 2 8 (by omega)
          · rw [if_neg (fun e => h2 (toI_inj (e.trans rfl))), if_neg h2]
            by_cases h3 : x = 3
            · rw [if_pos (by rw [h3]; rfl), if_pos h3, if_pos rfl, show toI x = 3 by rw [h3]; rfl]
              exact key_j0 k (by omega) s hs x l h 3 4 (by omega)
            · rw [if_neg (fun e => h3 (toI_inj (e.trans rfl))), if_neg h3]
              obtain ⟨k, rfl⟩ : ∃ m, k = m + 1 + 1 := ⟨k - 2, by omega⟩
              simp only [key_cut.j0, key_cut.j1]
              exact ⟨_, rfl, rfl⟩
def decV (k : ByteArray) (d : Bool) : Int × Int × ByteArray × Int := match onV (negL d k.data.toList) with
  | none => (0, 0, ⟨#[]⟩, 11)
  | some (a, n, t, z) => if z = (k.size : Int) then (a, n, t, 0) else (0, 0, ⟨#[]⟩, 11)
theorem key_Decode_f (k : Nat) (hk : 90000 ≤ k) (s : ByteArray) (hs : s.size ≤ 40000) (d : Bool) : key_Decode.f k s d = some (decV s d) := by
  unfold key_Decode.f decV
  simp only [Option.bind_some, key_turner.f]
  rw [turn_f k d s (by omega) (by omega)]
  simp only [Option.bind_some]
  have hz : (⟨(negL d s.data.toList).toArray⟩ : ByteArray).size = s.size := by rw [ba_size, negL_len, ba_len]
  obtain ⟨r, h1, h2⟩ := key_cut_f k hk ⟨(negL d s.data.toList).toArray⟩ (by omega)
  rw [h1]
  simp only [Option.bind_some]
  rw [ba_mk] at h2
  rw [hz]
  cases ho : onV (negL d s.data.toList) with
  | none =>
    rw [ho] at h2
    rw [if_pos (show r.2.2.2 = 0 from h2)]
  | some q =>
    rw [ho] at h2
    obtain ⟨rfl, h3, h4⟩ := h2
    obtain ⟨a, n, t, z⟩ := r
    simp only [] at h3 ⊢
    rw [if_neg (by omega)]
    split <;> rfl
theorem same_f (a n : Int) (s : ByteArray) : cabinetryref01_SameValue.f a n s a n s = some true := by
  unfold cabinetryref01_SameValue.f
  rw [if_pos rfl, if_pos rfl]
  simp
end Go.Proofs.YtnkejhfbkgfedaaDoor.L1
namespace Go.Proofs.YtnkejhfbkgfedaaDoor.PB
open Go.RowKit Go.Proofs.YtnkejhfbkgfedaaDoorW.PrintWords Go.Proofs.YtnkejhfbkgfedaaDoorW.PrintLast Go.Proofs.YtnkejhfbkgfedaaDoorW.PrintMore Go.Proofs.YtnkejhfbkgfedaaDoor.PA Go.Proofs.YtnkejhfbkgfedaaDoor.H1
attribute [local go_sem] max2_int min2_int max_two min_two max_three min_three max_four min_four   -- for this text's walks alone
set_option linter.unusedVariables false
set_option linter.unusedSimpArgs false
def cabinetrylaw09_KeyBack.j0 : Nat → Bool → ByteArray → Int → Bool → Int → Int → ByteArray → Option (Bool)
 | 0, _, _, _, _, _, _, _ => none
 | k + 1, x2, x9, x10, x36, x306000, x306001, x306002 => if x36 = true then ((cabinetryref01_Validate.f x306000 x306001 x306002).bind fun t315 => (if x10 = t315 then ((cabinetrylaw09_known.f k).bind fun t316 => (some t316)) else (some false))) else ((key_Decode.f k x9 x2).bind fun bt317 => (if bt317.2.2.2 = 0 then ((cabinetryref01_SameValue.f x306000 x306001 x306002 bt317.1 bt317.2.1 bt317.2.2.1).bind fun t322 => (if t322 = true then ((cabinetrylaw09_known.f k).bind fun t323 => (some t323)) else (some false))) else (some false)))
def cabinetrylaw09_KeyBack.f (k : Nat) (a0_0 : Int) (a0_1 : Int) (a0_2 : ByteArray) (a1 : Int) (a2 : Bool) : Option (Bool) := (cabinetrylaw09_over.f k (([(⟨a0_0, a0_1, a0_2⟩ : S23)] : List (S23)))).bind fun t309 => (if t309 = true then ((cabinetrylaw09_known.f k).bind fun t310 => (some t310)) else ((cabinetrylaw09_page.f a1).bind fun bt311 => ((key_Encode.f k a0_0 a0_1 a0_2 bt311.1 0 a2).bind fun bt313 => (if bt313.2 = 0 then (cabinetrylaw09_KeyBack.j0 k a2 bt313.1 bt313.2 (decide ((a0_2.size : Int) > 48)) a0_0 a0_1 a0_2) else (cabinetrylaw09_KeyBack.j0 k a2 bt313.1 bt313.2 true a0_0 a0_1 a0_2)))))
set_option maxHeartbeats 8000000 in
set_option maxRecDepth 100000 in
theorem cabinetrylaw09_KeyBack.calls (k : Nat) (a0_0 : Int) (a0_1 : Int) (a0_2 : ByteArray) (a1 : Int) (a2 : Bool) (r : Bool) (w : World) (h : cabinetrylaw09_KeyBack.f k a0_0 a0_1 a0_2 a1 a2 = some r) (hr_ : Aside0 (r = true)) (hm_ : Aside0 (Hm.HM w)) :
  Calls Tryd.prog 12 #[.agg #[.int .i64 a0_0, .int .i64 a0_1, .string a0_2], .int .i64 a1, .bool a2] w fun e w' => e = .returned (.bool r) ∧ Below w.heap.size w w' := by
 have hu23 := Tryd.underlying23
 have HB := Aside0.mk (Below.refl w.heap.size w)
 have H : ((cabinetrylaw09_over.f k (([(⟨a0_0, a0_1, a0_2⟩ : S23)] : List (S23)))).bind fun t309 => (if t309 = true then ((cabinetrylaw09_known.f k).bind fun t310 => (some t310)) else ((cabinetrylaw09_page.f a1).bind fun bt311 => ((key_Encode.f k a0_0 a0_1 a0_2 bt311.1 0 a2).bind fun bt313 => (if bt313.2 = 0 then (cabinetrylaw09_KeyBack.j0 k a2 bt313.1 bt313.2 (decide ((a0_2.size : Int) > 48)) a0_0 a0_1 a0_2) else (cabinetrylaw09_KeyBack.j0 k a2 bt313.1 bt313.2 true a0_0 a0_1 a0_2)))))) = some r := h
 clear h
 obtain ⟨y306, hy306⟩ : ∃ y_ : List (S23), y_ = (([(⟨a0_0, a0_1, a0_2⟩ : S23)] : List (S23))) := ⟨_, rfl⟩
 replace H : ((cabinetrylaw09_over.f k y306).bind fun t309 => (if t309 = true then ((cabinetrylaw09_known.f k).bind fun t310 => (some t310)) else ((cabinetrylaw09_page.f a1).bind fun bt311 => ((key_Encode.f k a0_0 a0_1 a0_2 bt311.1 0 a2).bind fun bt313 => (if bt313.2 = 0 then (cabinetrylaw09_KeyBack.j0 k a2 bt313.1 bt313.2 (decide ((a0_2.size : Int) > 48)) a0_0 a0_1 a0_2) else (cabinetrylaw09_KeyBack.j0 k a2 bt313.1 bt313.2 true a0_0 a0_1 a0_2)))))) = some r := by first | (rw [hy306]; with_reducible exact H) | (have H2_ := (Option.bind_some _ _).symm.trans H; rw [hy306]; with_reducible exact H2_) | (have H2_ := (Option.bind_some _ _).symm.trans H; with_reducible exact H2_) | with_reducible exact H | (rw [hy306]; exact H) | exact H
 have Ny306 := Aside0.mk hy306
 clear hy306
 replace H := Option.bind_eq_some_iff.mp H
 obtain ⟨t309, A40, H⟩ := H
 replace H : (if t309 = true then ((cabinetrylaw09_known.f k).bind fun t310 => (some t310)) else ((cabinetrylaw09_page.f a1).bind fun bt311 => ((key_Encode.f k a0_0 a0_1 a0_2 bt311.1 0 a2).bind fun bt313 => (if bt313.2 = 0 then (cabinetrylaw09_KeyBack.j0 k a2 bt313.1 bt313.2 (decide ((a0_2.size : Int) > 48)) a0_0 a0_1 a0_2) else (cabinetrylaw09_KeyBack.j0 k a2 bt313.1 bt313.2 true a0_0 a0_1 a0_2))))) = some r := H
 have A4 := Aside0.mk A40
 clear A40
 by_cases c5 : t309 = true
 ·subst c5
  have H1 : ((cabinetrylaw09_known.f k).bind fun t310 => (some t310)) = some r := by rw [if_pos rfl] at H; exact H
  clear H
  have H := H1
  clear H1
  replace H := Option.bind_eq_some_iff.mp H
  obtain ⟨t310, A60, H⟩ := H
  replace H : (some t310) = some r := H
  have A6 := Aside0.mk A60
  clear A60
  obtain rfl := Option.some.inj H
  simp only [Option.some.injEq, Prod.mk.injEq] at H
  obtain ⟨rfl⟩ := H
  go_enter Tryd.func12, Tryd.ntmps12
  go_wp2_with (first | ((with_reducible refine gate_dst (N := 3) rfl ?_); (try (refine gate_guard (by rfl) ?_; dsimp only)); refine box_event ?hg (N := 3) ?hd (cs := #[.int .i64 a0_0, .int .i64 a0_1, .string a0_2]) (t := 23) ?hr ?_; (case hd => rfl); (case hg => rfl); (case hr => first | (go_simp; done) | (go_simp; rfl)); intro gb305 hg w7 hbox hb; have n0_ := Aside0.mk (below_step (by repeat (first | (with_reducible first | exact HB.out | apply below_alloc | apply pw_below_drewN | apply below_drew1) | exact HB.out)) hb); have n1_ := Aside0.mk (hbox); have n2_ := Aside0.mk ((by rw [hg]; exact (below_size (by repeat (first | (with_reducible first | exact HB.out | apply below_alloc | apply pw_below_drewN | apply below_drew1) | exact HB.out))) : w.heap.size ≤ gb305)); have n3_ := Aside0.mk ((by rw [hg]; exact (below_size (by repeat (first | (with_reducible first | exact HB.out | apply below_alloc | apply pw_below_drewN | apply below_drew1) | exact HB.out))) : w.heap.size ≤ gb305)); clear HB; have HB := n0_; have BK305 := n1_; have GW305 := n2_; have GE305 := n3_; clear n0_ n1_ n2_ n3_; clear hb hbox hg; have hcz8_0 : w7.cell? ⟨gb305, 0, none⟩ = some (.int .i64 a0_0) := (blk_cell BK305.out 0).trans rfl; have hcz8_1 : w7.cell? ⟨gb305, 1, none⟩ = some (.int .i64 a0_1) := (blk_cell BK305.out 1).trans rfl; have hcz8_2 : w7.cell? ⟨gb305, 2, none⟩ = some (.string a0_2) := (blk_cell BK305.out 2).trans rfl; have hfz8_0 := blk_frozen BK305.out 0; have hfz8_1 := blk_frozen BK305.out 1; have hfz8_2 := blk_frozen BK305.out 2) | ((with_reducible refine gate_dst (N := 14) rfl ?_); (try (refine gate_guard (by rfl) ?_; dsimp only)); refine Kd.R_lit k23 _ 23 ?hg (N := 14) ?hd (xs := ([(⟨a0_0, a0_1, a0_2⟩ : S23)] : List (S23))) (inner := [.int .i64 a0_0, .int .i64 a0_1, .string a0_2]) (ok := fun _ => True) (okp := fun _ => True) ?hr ?hp (fun _ hk => hk) trivial (Below.refl _ _) (Nat.le_refl _) (by simp) ?_; (case hd => rfl); (case hg => rfl); (case hr => first | (go_simp; done) | (go_simp; rfl)); (case hp => exact (Reps.c3 (show Kd.M k23 _ _ _ (⟨a0_0, a0_1, a0_2⟩ : S23) [.int .i64 a0_0, .int .i64 a0_1, .string a0_2] from (k23_mkM _ _ _ (⟨a0_0, a0_1, a0_2⟩ : S23) )) (Reps.none _ _))); intro v307 w9 ho10 hb hg_ hnew_; clear hg_ hnew_; (first | rw [← Ny306.out] at ho10 | (simp only [Int.reduceToNat] at ho10; rw [← Ny306.out] at ho10)); have n0_ := Aside0.mk (Kd.R_lower (Kd.R_newB ho10 (g := gb305) (o := .cells #[.int .i64 a0_0, .int .i64 a0_1, .string a0_2] 23 (0, 0)) (by (with_reducible repeat (first | refine blk_drewN ?_ _ | refine blk_drew ?_ | refine blk_alloc ?_ _)); exact BK305.out)) (below_size (by repeat (first | (with_reducible first | exact HB.out | apply below_alloc | apply pw_below_drewN | apply below_drew1 | refine below_set ?_ GE305.out) | exact HB.out)))); have n1_ := Aside0.mk (blk_below (g := gb305) (o := .cells #[.int .i64 a0_0, .int .i64 a0_1, .string a0_2] 23 (0, 0)) (by (with_reducible repeat (first | refine blk_drewN ?_ _ | refine blk_drew ?_ | refine blk_alloc ?_ _)); exact BK305.out) hb); have n2_ := Aside0.mk (below_step (by repeat (first | (with_reducible first | exact HB.out | apply below_alloc | apply pw_below_drewN | apply below_drew1 | refine below_set ?_ GE305.out) | exact HB.out)) hb); clear BK305; clear HB; have HO308 := n0_; have BK305 := n1_; have HB := n2_; clear n0_ n1_ n2_; clear hb ho10; obtain ⟨Ao11, co11, eo11⟩ := Kd.R_slice HO308.out; subst eo11) | ((with_reducible refine gate_callee (f := 14) rfl ?_); refine goesL_ (some 15) rfl rfl Tryd.func14 (by kernel_rfl) rfl #[.slice Ao11 y306.length co11] rfl (by (try simp only [List.map_toArray, List.map_cons, List.map_nil]); first | done | rfl | (simp only [List.length_drop, List.length_take]; rfl)) ?_; (with_reducible refine (cabinetrylaw09_over.calls k _ _ y306 true _ ?side1 ?side2 A4.out).mono ?_); (case side1 => repeat (first | exact (Kd.R_reads' HO308.out).2.2 | (with_reducible refine Kd.C_alloc ?_ _) | (with_reducible refine Kd.C_drewN ?_ _) | (with_reducible refine Kd.C_drew ?_))); (case side2 => exact (Kd.R_reads' HO308.out).2.1); rintro e w' ⟨rfl, ⟨nd, rfl⟩⟩; refine ⟨_, rfl, ?_⟩) | ((with_reducible refine gate_callee (f := 15) rfl ?_); refine goesL_ (some 16) rfl rfl Tryd.func15 (by kernel_rfl) rfl #[] rfl (by (try simp only [List.map_toArray, List.map_cons, List.map_nil]); first | done | rfl | (simp only [List.length_drop, List.length_take]; rfl)) ?_; (with_reducible refine (cabinetrylaw09_known.calls k  t310 _ A6.out hr_ (Hm.keep hm_ (by repeat (first | (with_reducible first | exact HB.out | apply below_alloc | apply pw_below_drewN | apply below_drew1 | refine below_set ?_ GE305.out) | exact HB.out)))).mono ?_); rintro e w12 ⟨rfl, hb⟩; refine ⟨_, rfl, ?_⟩; have n0_ := Aside0.mk (Kd.R_below (by (with_reducible repeat (first | apply Kd.R_alloc | apply Kd.R_drewN | apply Kd.R_drew)); exact HO308.out) hb); have n1_ := Aside0.mk (blk_below (g := gb305) (o := .cells #[.int .i64 a0_0, .int .i64 a0_1, .string a0_2] 23 (0, 0)) (by (with_reducible repeat (first | refine blk_drewN ?_ _ | refine blk_drew ?_ | refine blk_alloc ?_ _)); exact BK305.out) hb); have n2_ := Aside0.mk (below_step (by repeat (first | (with_reducible first | exact HB.out | apply below_alloc | apply pw_below_drewN | apply below_drew1 | refine below_set ?_ GE305.out) | exact HB.out)) hb); clear HO308; clear BK305; clear HB; have HO308 := n0_; have BK305 := n1_; have HB := n2_; clear n0_ n1_ n2_; (try clear hb); (try clear hb2); (try clear hk); (try clear hi)))
  go_ret
  exact ⟨by first | rfl | (simp [errW_none, errW_some] <;> rfl) | (simp [*, errW_none, errW_some] <;> rfl), by repeat (first | (with_reducible first | exact HB.out | apply below_alloc | apply pw_below_drewN | apply below_drew1 | refine below_set ?_ GE305.out) | exact HB.out)⟩
 ·replace c5 := Bool.eq_false_iff.mpr c5
  subst c5
  have H1 : ((cabinetrylaw09_page.f a1).bind fun bt311 => ((key_Encode.f k a0_0 a0_1 a0_2 bt311.1 0 a2).bind fun bt313 => (if bt313.2 = 0 then (cabinetrylaw09_KeyBack.j0 k a2 bt313.1 bt313.2 (decide ((a0_2.size : Int) > 48)) a0_0 a0_1 a0_2) else (cabinetrylaw09_KeyBack.j0 k a2 bt313.1 bt313.2 true a0_0 a0_1 a0_2)))) = some r := by rw [if_neg (show ¬ (false = true) by decide)] at H; exact H
  clear H
  have H := H1
  clear H1
  replace H := Option.bind_eq_some_iff.mp H
  obtain ⟨⟨t311, t312⟩, A130, H⟩ := H
  replace H : ((key_Encode.f k a0_0 a0_1 a0_2 t311 0 a2).bind fun bt313 => (if bt313.2 = 0 then (cabinetrylaw09_KeyBack.j0 k a2 bt313.1 bt313.2 (decide ((a0_2.size : Int) > 48)) a0_0 a0_1 a0_2) else (cabinetrylaw09_KeyBack.j0 k a2 bt313.1 bt313.2 true a0_0 a0_1 a0_2))) = some r := H
  have A13 := Aside0.mk A130
  clear A130
  replace H := Option.bind_eq_some_iff.mp H
  obtain ⟨⟨t313, t314⟩, A140, H⟩ := H
  replace H : (if t314 = 0 then (cabinetrylaw09_KeyBack.j0 k a2 t313 t314 (decide ((a0_2.size : Int) > 48)) a0_0 a0_1 a0_2) else (cabinetrylaw09_KeyBack.j0 k a2 t313 t314 true a0_0 a0_1 a0_2)) = some r := H
  have A14 := Aside0.mk A140
  clear A140
  have HC15 := Aside0.mk H
  clear H
  go_enter Tryd.func12, Tryd.ntmps12
  go_upto_region 5 with (first | ((with_reducible refine gate_dst (N := 3) rfl ?_); (try (refine gate_guard (by rfl) ?_; dsimp only)); refine box_event ?hg (N := 3) ?hd (cs := #[.int .i64 a0_0, .int .i64 a0_1, .string a0_2]) (t := 23) ?hr ?_; (case hd => rfl); (case hg => rfl); (case hr => first | (go_simp; done) | (go_simp; rfl)); intro gb305 hg w16 hbox hb; have n0_ := Aside0.mk (below_step (by repeat (first | (with_reducible first | exact HB.out | apply below_alloc | apply pw_below_drewN | apply below_drew1) | exact HB.out)) hb); have n1_ := Aside0.mk (hbox); have n2_ := Aside0.mk ((by rw [hg]; exact (below_size (by repeat (first | (with_reducible first | exact HB.out | apply below_alloc | apply pw_below_drewN | apply below_drew1) | exact HB.out))) : w.heap.size ≤ gb305)); have n3_ := Aside0.mk ((by rw [hg]; exact (below_size (by repeat (first | (with_reducible first | exact HB.out | apply below_alloc | apply pw_below_drewN | apply below_drew1) | exact HB.out))) : w.heap.size ≤ gb305)); clear HB; have HB := n0_; have BK305 := n1_; have GW305 := n2_; have GE305 := n3_; clear n0_ n1_ n2_ n3_; clear hb hbox hg; have hcz17_0 : w16.cell? ⟨gb305, 0, none⟩ = some (.int .i64 a0_0) := (blk_cell BK305.out 0).trans rfl; have hcz17_1 : w16.cell? ⟨gb305, 1, none⟩ = some (.int .i64 a0_1) := (blk_cell BK305.out 1).trans rfl; have hcz17_2 : w16.cell? ⟨gb305, 2, none⟩ = some (.string a0_2) := (blk_cell BK305.out 2).trans rfl; have hfz17_0 := blk_frozen BK305.out 0; have hfz17_1 := blk_frozen BK305.out 1; have hfz17_2 := blk_frozen BK305.out 2) | ((with_reducible refine gate_dst (N := 14) rfl ?_); (try (refine gate_guard (by rfl) ?_; dsimp only)); refine Kd.R_lit k23 _ 23 ?hg (N := 14) ?hd (xs := ([(⟨a0_0, a0_1, a0_2⟩ : S23)] : List (S23))) (inner := [.int .i64 a0_0, .int .i64 a0_1, .string a0_2]) (ok := fun _ => True) (okp := fun _ => True) ?hr ?hp (fun _ hk => hk) trivial (Below.refl _ _) (Nat.le_refl _) (by simp) ?_; (case hd => rfl); (case hg => rfl); (case hr => first | (go_simp; done) | (go_simp; rfl)); (case hp => exact (Reps.c3 (show Kd.M k23 _ _ _ (⟨a0_0, a0_1, a0_2⟩ : S23) [.int .i64 a0_0, .int .i64 a0_1, .string a0_2] from (k23_mkM _ _ _ (⟨a0_0, a0_1, a0_2⟩ : S23) )) (Reps.none _ _))); intro v307 w18 ho19 hb hg_ hnew_; clear hg_ hnew_; (first | rw [← Ny306.out] at ho19 | (simp only [Int.reduceToNat] at ho19; rw [← Ny306.out] at ho19)); have n0_ := Aside0.mk (Kd.R_lower (Kd.R_newB ho19 (g := gb305) (o := .cells #[.int .i64 a0_0, .int .i64 a0_1, .string a0_2] 23 (0, 0)) (by (with_reducible repeat (first | refine blk_drewN ?_ _ | refine blk_drew ?_ | refine blk_alloc ?_ _)); exact BK305.out)) (below_size (by repeat (first | (with_reducible first | exact HB.out | apply below_alloc | apply pw_below_drewN | apply below_drew1 | refine below_set ?_ GE305.out) | exact HB.out)))); have n1_ := Aside0.mk (blk_below (g := gb305) (o := .cells #[.int .i64 a0_0, .int .i64 a0_1, .string a0_2] 23 (0, 0)) (by (with_reducible repeat (first | refine blk_drewN ?_ _ | refine blk_drew ?_ | refine blk_alloc ?_ _)); exact BK305.out) hb); have n2_ := Aside0.mk (below_step (by repeat (first | (with_reducible first | exact HB.out | apply below_alloc | apply pw_below_drewN | apply below_drew1 | refine below_set ?_ GE305.out) | exact HB.out)) hb); clear BK305; clear HB; have HO308 := n0_; have BK305 := n1_; have HB := n2_; clear n0_ n1_ n2_; clear hb ho19; obtain ⟨Ao20, co20, eo20⟩ := Kd.R_slice HO308.out; subst eo20) | ((with_reducible refine gate_callee (f := 14) rfl ?_); refine goesL_ (some 15) rfl rfl Tryd.func14 (by kernel_rfl) rfl #[.slice Ao20 y306.length co20] rfl (by (try simp only [List.map_toArray, List.map_cons, List.map_nil]); first | done | rfl | (simp only [List.length_drop, List.length_take]; rfl)) ?_; (with_reducible refine (cabinetrylaw09_over.calls k _ _ y306 false _ ?side1 ?side2 A4.out).mono ?_); (case side1 => repeat (first | exact (Kd.R_reads' HO308.out).2.2 | (with_reducible refine Kd.C_alloc ?_ _) | (with_reducible refine Kd.C_drewN ?_ _) | (with_reducible refine Kd.C_drew ?_))); (case side2 => exact (Kd.R_reads' HO308.out).2.1); rintro e w' ⟨rfl, ⟨nd, rfl⟩⟩; refine ⟨_, rfl, ?_⟩) | ((with_reducible refine gate_callee (f := 18) rfl ?_); refine goesL_ (some 19) rfl rfl Tryd.func18 (by kernel_rfl) rfl #[.int .i64 a1] rfl (by (try simp only [List.map_toArray, List.map_cons, List.map_nil]); first | done | rfl | (simp only [List.length_drop, List.length_take]; rfl)) ?_; (with_reducible refine (cabinetrylaw09_page.calls a1 t311 t312 _ A13.out).mono ?_); rintro e w' ⟨rfl, ⟨nd, rfl⟩⟩; refine ⟨_, rfl, ?_⟩; have hcz21_0 : w18.cell? ⟨gb305, 0, none⟩ = some (.int .i64 a0_0) := (blk_cell BK305.out 0).trans rfl; have hcz21_1 : w18.cell? ⟨gb305, 1, none⟩ = some (.int .i64 a0_1) := (blk_cell BK305.out 1).trans rfl; have hcz21_2 : w18.cell? ⟨gb305, 2, none⟩ = some (.string a0_2) := (blk_cell BK305.out 2).trans rfl; have hfz21_0 := blk_frozen BK305.out 0; have hfz21_1 := blk_frozen BK305.out 1; have hfz21_2 := blk_frozen BK305.out 2) | ((with_reducible refine gate_callee (f := 16) rfl ?_); refine goesL_ (some 26) rfl rfl Tryd.func16 (by kernel_rfl) rfl #[.agg #[.int .i64 a0_0, .int .i64 a0_1, .string a0_2], .int .i64 t311, .int .i64 0, .bool a2] rfl (by (try simp only [List.map_toArray, List.map_cons, List.map_nil]); first | done | rfl | (simp only [List.length_drop, List.length_take]; rfl)) ?_; (with_reducible refine (key_Encode.calls k a0_0 a0_1 a0_2 t311 0 a2 t313 t314 _ A14.out (Hm.keep hm_ (by repeat (first | (with_reducible first | exact HB.out | apply below_alloc | apply pw_below_drewN | apply below_drew1 | refine below_set ?_ GE305.out) | exact HB.out)))).mono ?_); rintro e w22 ⟨rfl, hb⟩; refine ⟨_, rfl, ?_⟩; have n0_ := Aside0.mk (Kd.R_below (by (with_reducible repeat (first | apply Kd.R_alloc | apply Kd.R_drewN | apply Kd.R_drew)); exact HO308.out) hb); have n1_ := Aside0.mk (blk_below (g := gb305) (o := .cells #[.int .i64 a0_0, .int .i64 a0_1, .string a0_2] 23 (0, 0)) (by (with_reducible repeat (first | refine blk_drewN ?_ _ | refine blk_drew ?_ | refine blk_alloc ?_ _)); exact BK305.out) hb); have n2_ := Aside0.mk (below_step (by repeat (first | (with_reducible first | exact HB.out | apply below_alloc | apply pw_below_drewN | apply below_drew1 | refine below_set ?_ GE305.out) | exact HB.out)) hb); clear HO308; clear BK305; clear HB; have HO308 := n0_; have BK305 := n1_; have HB := n2_; clear n0_ n1_ n2_; (try clear hb); (try clear hb2); (try clear hk); (try clear hi)))
  (try simp only [Act.put, List.setIfInBounds_toArray, List.set_cons_zero, List.set_cons_succ])
  go_cut [36] (fun v36 wc => ∃ (kq : Nat) (x36_14 : Bool), v36 = .bool x36_14 ∧ Aside0 (cabinetrylaw09_KeyBack.j0 kq a2 t313 t314 x36_14 a0_0 a0_1 a0_2 = some r) ∧ Aside0 (kq ≤ k) ∧ Aside0 (wc.heap[gb305]? = some (.cells #[.int .i64 a0_0, .int .i64 a0_1, .string a0_2] 23 (0, 0))) ∧ Aside0 (Below w.heap.size w wc))
  case first =>
   have H := HC15.out
   clear HC15
   by_cases c23 : t314 = 0
   ·rw [if_pos c23] at H
    have c23b0 : (t314 == 0) = true := beq_iff_eq.mpr c23
    have c23b1 : (t314 != 0) = false := bne_eq_false_iff_eq.mpr c23
    clear c23
    (first | rw [c23b0] | (simp only [i64_w, i32_w]; rw [c23b0]) | skip)
    have H' := Aside0.mk H
    clear H
    have hcz24_0 : w22.cell? ⟨gb305, 0, none⟩ = some (.int .i64 a0_0) := (blk_cell BK305.out 0).trans rfl
    have hcz24_1 : w22.cell? ⟨gb305, 1, none⟩ = some (.int .i64 a0_1) := (blk_cell BK305.out 1).trans rfl
    have hcz24_2 : w22.cell? ⟨gb305, 2, none⟩ = some (.string a0_2) := (blk_cell BK305.out 2).trans rfl
    have hfz24_0 := blk_frozen BK305.out 0
    have hfz24_1 := blk_frozen BK305.out 1
    have hfz24_2 := blk_frozen BK305.out 2
    go_wp2
    go_meet
    case rel => exact ⟨_, (decide ((a0_2.size : Int) > 48)), (by first | rfl | (simp; done) | (simp [*]; done)), H', ⟨by first | omega | exact Nat.le_refl _⟩, ⟨by (with_reducible repeat (first | refine blk_drewN ?_ _ | refine blk_drew ?_ | refine blk_alloc ?_ _)); exact BK305.out⟩, ⟨by repeat (first | (with_reducible first | exact HB.out | apply below_alloc | apply pw_below_drewN | apply below_drew1 | refine below_set ?_ GE305.out) | exact HB.out)⟩⟩
   ·rw [if_neg c23] at H
    have c23b0 : (t314 == 0) = false := beq_eq_false_iff_ne.mpr c23
    have c23b1 : (t314 != 0) = true := bne_iff_ne.mpr c23
    (first | rw [c23b0] | (simp only [i64_w, i32_w]; rw [c23b0]) | skip)
    have H' := Aside0.mk H
    clear H
    go_wp2
    go_meet
    case rel => exact ⟨_, (true), (by first | rfl | (simp; done) | (simp [*]; done)), H', ⟨by first | omega | exact Nat.le_refl _⟩, ⟨by (with_reducible repeat (first | refine blk_drewN ?_ _ | refine blk_drew ?_ | refine blk_alloc ?_ _)); exact BK305.out⟩, ⟨by repeat (first | (with_reducible first | exact HB.out | apply below_alloc | apply pw_below_drewN | apply below_drew1 | refine below_set ?_ GE305.out) | exact HB.out)⟩⟩
  case rest =>
   clear HC15
   try clear c1; try clear c2; try clear p2; try clear c3; try clear c5; try clear c12; try clear c14; try clear c15; try clear c16; try clear c18; try clear c23; try clear c23b0; try clear c23b1; try clear hcz17_0; try clear hcz17_1; try clear hcz17_2; try clear hcz21_0; try clear hcz21_1; try clear hcz21_2; try clear hcz24_0; try clear hcz24_1; try clear hcz24_2; try clear hcz8_0; try clear hcz8_1; try clear hcz8_2; try clear hfz17_0; try clear hfz17_1; try clear hfz17_2; try clear hfz21_0; try clear hfz21_1; try clear hfz21_2; try clear hfz24_0; try clear hfz24_1; try clear hfz24_2; try clear hfz8_0; try clear hfz8_1; try clear hfz8_2
   obtain ⟨kq, x36_14, rfl, HA, HJ14, BK305, HB⟩ := hcut
   cases kq with
   | zero => exact absurd HA.out (by simp [cabinetrylaw09_KeyBack.j0])
   | succ kj14 =>
    have H := HA.out
    clear HA
    simp only [cabinetrylaw09_KeyBack.j0] at H
    by_cases c25 : x36_14 = true
    ·subst c25
     have H1 : ((cabinetryref01_Validate.f a0_0 a0_1 a0_2).bind fun t315 => (if t314 = t315 then ((cabinetrylaw09_known.f kj14).bind fun t316 => (some t316)) else (some false))) = some r := by rw [if_pos rfl] at H; exact H
     clear H
     have H := H1
     clear H1
     replace H := Option.bind_eq_some_iff.mp H
     obtain ⟨t315, A260, H⟩ := H
     replace H : (if t314 = t315 then ((cabinetrylaw09_known.f kj14).bind fun t316 => (some t316)) else (some false)) = some r := H
     have A26 := Aside0.mk A260
     clear A260
     by_cases c27 : t314 = t315
     ·rw [if_pos c27] at H
      have c27b0 : (t314 == t315) = true := beq_iff_eq.mpr c27
      have c27b1 : (t314 != t315) = false := bne_eq_false_iff_eq.mpr c27
      clear c27
      replace H := Option.bind_eq_some_iff.mp H
      obtain ⟨t316, A280, H⟩ := H
      replace H : (some t316) = some r := H
      have A28 := Aside0.mk A280
      clear A280
      obtain rfl := Option.some.inj H
      simp only [Option.some.injEq, Prod.mk.injEq] at H
      obtain ⟨rfl⟩ := H
      have hcz29_0 : wc.cell? ⟨gb305, 0, none⟩ = some (.int .i64 a0_0) := (blk_cell BK305.out 0).trans rfl
      have hcz29_1 : wc.cell? ⟨gb305, 1, none⟩ = some (.int .i64 a0_1) := (blk_cell BK305.out 1).trans rfl
      have hcz29_2 : wc.cell? ⟨gb305, 2, none⟩ = some (.string a0_2) := (blk_cell BK305.out 2).trans rfl
      have hfz29_0 := blk_frozen BK305.out 0
      have hfz29_1 := blk_frozen BK305.out 1
      have hfz29_2 := blk_frozen BK305.out 2
      go_wp2_with (first | ((with_reducible refine gate_callee (f := 26) rfl ?_); refine goesL_ (some 39) rfl rfl Tryd.func26 (by kernel_rfl) rfl #[.agg #[.int .i64 a0_0, .int .i64 a0_1, .string a0_2]] rfl (by (try simp only [List.map_toArray, List.map_cons, List.map_nil]); first | done | rfl | (simp only [List.length_drop, List.length_take]; rfl)) ?_; (with_reducible refine (cabinetryref01_Validate.calls a0_0 a0_1 a0_2 t315 _ A26.out).mono ?_); rintro e w30 ⟨rfl, hb⟩; refine ⟨_, rfl, ?_⟩; have n0_ := Aside0.mk (blk_below (g := gb305) (o := .cells #[.int .i64 a0_0, .int .i64 a0_1, .string a0_2] 23 (0, 0)) (by (with_reducible repeat (first | refine blk_drewN ?_ _ | refine blk_drew ?_ | refine blk_alloc ?_ _)); exact BK305.out) hb); have n1_ := Aside0.mk (below_step (by repeat (first | (with_reducible first | exact HB.out | apply below_alloc | apply pw_below_drewN | apply below_drew1 | refine below_set ?_ GE305.out) | exact HB.out)) hb); clear BK305; clear HB; have BK305 := n0_; have HB := n1_; clear n0_ n1_; (try clear hb); (try clear hb2); (try clear hk); (try clear hi)) | (go_at_call 15; (with_reducible refine (cabinetrylaw09_known.calls kj14  t316 _ A28.out hr_ (Hm.keep hm_ (by repeat (first | (with_reducible first | exact HB.out | apply below_alloc | apply pw_below_drewN | apply below_drew1 | refine below_set ?_ GE305.out) | exact HB.out)))).mono ?_); rintro e w31 ⟨rfl, hb⟩; have n0_ := Aside0.mk (blk_below (g := gb305) (o := .cells #[.int .i64 a0_0, .int .i64 a0_1, .string a0_2] 23 (0, 0)) (by (with_reducible repeat (first | refine blk_drewN ?_ _ | refine blk_drew ?_ | refine blk_alloc ?_ _)); exact BK305.out) hb); have n1_ := Aside0.mk (below_step (by repeat (first | (with_reducible first | exact HB.out | apply below_alloc | apply pw_below_drewN | apply below_drew1 | refine below_set ?_ GE305.out) | exact HB.out)) hb); clear BK305; clear HB; have BK305 := n0_; have HB := n1_; clear n0_ n1_; (try clear hb); (try clear hb2); (try clear hk); (try clear hi)))
      go_ret
      exact ⟨by first | rfl | (simp [errW_none, errW_some] <;> rfl) | (simp [*, errW_none, errW_some] <;> rfl), by repeat (first | (with_reducible first | exact HB.out | apply below_alloc | apply pw_below_drewN | apply below_drew1 | refine below_set ?_ GE305.out) | exact HB.out)⟩
     ·rw [if_neg c27] at H
      have c27b0 : (t314 == t315) = false := beq_eq_false_iff_ne.mpr c27
      have c27b1 : (t314 != t315) = true := bne_iff_ne.mpr c27
      obtain rfl := Option.some.inj H
      exact absurd hr_.out (by decide)
    ·replace c25 := Bool.eq_false_iff.mpr c25
     subst c25
     have H1 : ((key_Decode.f kj14 t313 a2).bind fun bt317 => (if bt317.2.2.2 = 0 then ((cabinetryref01_SameValue.f a0_0 a0_1 a0_2 bt317.1 bt317.2.1 bt317.2.2.1).bind fun t322 => (if t322 = true then ((cabinetrylaw09_known.f kj14).bind fun t323 => (some t323)) else (some false))) else (some false))) = some r := by rw [if_neg (show ¬ (false = true) by decide)] at H; exact H
     clear H
     have H := H1
     clear H1
     replace H := Option.bind_eq_some_iff.mp H
     obtain ⟨⟨t317, t318, t319, t320⟩, A320, H⟩ := H
     replace H : (if t320 = 0 then ((cabinetryref01_SameValue.f a0_0 a0_1 a0_2 t317 t318 t319).bind fun t322 => (if t322 = true then ((cabinetrylaw09_known.f kj14).bind fun t323 => (some t323)) else (some false))) else (some false)) = some r := H
     have A32 := Aside0.mk A320
     clear A320
     by_cases c33 : t320 = 0
     ·rw [if_pos c33] at H
      have c33b0 : (t320 == 0) = true := beq_iff_eq.mpr c33
      have c33b1 : (t320 != 0) = false := bne_eq_false_iff_eq.mpr c33
      clear c33
      replace H := Option.bind_eq_some_iff.mp H
      obtain ⟨t322, A340, H⟩ := H
      replace H : (if t322 = true then ((cabinetrylaw09_known.f kj14).bind fun t323 => (some t323)) else (some false)) = some r := H
      have A34 := Aside0.mk A340
      clear A340
      by_cases c35 : t322 = true
      ·subst c35
       have H1 : ((cabinetrylaw09_known.f kj14).bind fun t323 => (some t323)) = some r := by rw [if_pos rfl] at H; exact H
       clear H
       have H := H1
       clear H1
       replace H := Option.bind_eq_some_iff.mp H
       obtain ⟨t323, A360, H⟩ := H
       replace H : (some t323) = some r := H
       have A36 := Aside0.mk A360
       clear A360
       obtain rfl := Option.some.inj H
       simp only [Option.some.injEq, Prod.mk.injEq] at H
       obtain ⟨rfl⟩ := H
       go_wp2_with (first | ((with_reducible refine gate_callee (f := 45) rfl ?_); refine goesL_ (some 47) rfl rfl Tryd.func45 (by kernel_rfl) rfl #[.string t313, .bool a2] rfl (by (try simp only [List.map_toArray, List.map_cons, List.map_nil]); first | done | rfl | (simp only [List.length_drop, List.length_take]; rfl)) ?_; (with_reducible refine (key_Decode.calls kj14 t313 a2 t317 t318 t319 t320 _ A32.out).mono ?_); rintro e w37 ⟨rfl, hb⟩; refine ⟨_, rfl, ?_⟩; have n0_ := Aside0.mk (blk_below (g := gb305) (o := .cells #[.int .i64 a0_0, .int .i64 a0_1, .string a0_2] 23 (0, 0)) (by (with_reducible repeat (first | refine blk_drewN ?_ _ | refine blk_drew ?_ | refine blk_alloc ?_ _)); exact BK305.out) hb); have n1_ := Aside0.mk (below_step (by repeat (first | (with_reducible first | exact HB.out | apply below_alloc | apply pw_below_drewN | apply below_drew1 | refine below_set ?_ GE305.out) | exact HB.out)) hb); clear BK305; clear HB; have BK305 := n0_; have HB := n1_; clear n0_ n1_; (try clear hb); (try clear hb2); (try clear hk); (try clear hi)) | ((with_reducible refine gate_dst (N := 11) rfl ?_); (try (refine gate_guard (by rfl) ?_; dsimp only)); refine box_event ?hg (N := 11) ?hd (cs := #[.int .i64 0, .int .i64 0, .string (⟨#[]⟩ : ByteArray)]) (t := 23) ?hr ?_; (case hd => rfl); (case hg => rfl); (case hr => first | (go_simp; done) | (go_simp; rfl)); intro gb321 hg w38 hbox hb; have n0_ := Aside0.mk (blk_below (g := gb305) (o := .cells #[.int .i64 a0_0, .int .i64 a0_1, .string a0_2] 23 (0, 0)) (by (with_reducible repeat (first | refine blk_drewN ?_ _ | refine blk_drew ?_ | refine blk_alloc ?_ _)); exact BK305.out) hb); have n1_ := Aside0.mk (below_step (by repeat (first | (with_reducible first | exact HB.out | apply below_alloc | apply pw_below_drewN | apply below_drew1 | refine below_set ?_ GE305.out) | exact HB.out)) hb); have n2_ := Aside0.mk (hbox); have n3_ := Aside0.mk ((by rw [hg]; exact (below_size (by repeat (first | (with_reducible first | exact HB.out | apply below_alloc | apply pw_below_drewN | apply below_drew1 | refine below_set ?_ GE305.out) | exact HB.out))) : w.heap.size ≤ gb321)); have n4_ := Aside0.mk ((by rw [hg]; exact (below_size (by repeat (first | (with_reducible first | exact HB.out | apply below_alloc | apply pw_below_drewN | apply below_drew1 | refine below_set ?_ GE305.out) | exact HB.out))) : w.heap.size ≤ gb321)); have n5_ := Aside0.mk ((by rw [hg]; exact Nat.ne_of_lt (blk_lt (g := gb305) (o := .cells #[.int .i64 a0_0, .int .i64 a0_1, .string a0_2] 23 (0, 0)) (by (with_reducible repeat (first | refine blk_drewN ?_ _ | refine blk_drew ?_ | refine blk_alloc ?_ _)); exact BK305.out)) : gb305 ≠ gb321)); have n6_ := Aside0.mk ((by rw [hg]; exact Nat.ne_of_gt (blk_lt (g := gb305) (o := .cells #[.int .i64 a0_0, .int .i64 a0_1, .string a0_2] 23 (0, 0)) (by (with_reducible repeat (first | refine blk_drewN ?_ _ | refine blk_drew ?_ | refine blk_alloc ?_ _)); exact BK305.out)) : gb321 ≠ gb305)); clear BK305; clear HB; have BK305 := n0_; have HB := n1_; have BK321 := n2_; have GW321 := n3_; have GE321 := n4_; have NB305_321 := n5_; have NB321_305 := n6_; clear n0_ n1_ n2_ n3_ n4_ n5_ n6_; clear hb hbox hg; have hnb39 := NB321_305.out; have hnc39 := NB305_321.out; have hcz40_0 : w38.cell? ⟨gb321, 0, none⟩ = some (.int .i64 0) := (blk_cell BK321.out 0).trans rfl; have hcz40_1 : w38.cell? ⟨gb321, 1, none⟩ = some (.int .i64 0) := (blk_cell BK321.out 1).trans rfl; have hcz40_2 : w38.cell? ⟨gb321, 2, none⟩ = some (.string (⟨#[]⟩ : ByteArray)) := (blk_cell BK321.out 2).trans rfl; have hfz40_0 := blk_frozen BK321.out 0; have hfz40_1 := blk_frozen BK321.out 1; have hfz40_2 := blk_frozen BK321.out 2; have hcz41_0 : w38.cell? ⟨gb305, 0, none⟩ = some (.int .i64 a0_0) := (blk_cell BK305.out 0).trans rfl; have hcz41_1 : w38.cell? ⟨gb305, 1, none⟩ = some (.int .i64 a0_1) := (blk_cell BK305.out 1).trans rfl; have hcz41_2 : w38.cell? ⟨gb305, 2, none⟩ = some (.string a0_2) := (blk_cell BK305.out 2).trans rfl; have hfz41_0 := blk_frozen BK305.out 0; have hfz41_1 := blk_frozen BK305.out 1; have hfz41_2 := blk_frozen BK305.out 2) | (go_at_call 47; (with_reducible refine (cabinetryref01_SameValue.calls a0_0 a0_1 a0_2 t317 t318 t319 true _ A34.out).mono ?_); rintro e w42 ⟨rfl, hb⟩; have n0_ := Aside0.mk (blk_below (g := gb305) (o := .cells #[.int .i64 a0_0, .int .i64 a0_1, .string a0_2] 23 (0, 0)) (by (with_reducible repeat (first | refine blk_drewN ?_ _ | refine blk_drew ?_ | refine blk_alloc ?_ _)); refine blk_far ?_ NB305_321.out _; (with_reducible repeat (first | refine blk_drewN ?_ _ | refine blk_drew ?_ | refine blk_alloc ?_ _)); refine blk_far ?_ NB305_321.out _; (with_reducible repeat (first | refine blk_drewN ?_ _ | refine blk_drew ?_ | refine blk_alloc ?_ _)); refine blk_far ?_ NB305_321.out _; (with_reducible repeat (first | refine blk_drewN ?_ _ | refine blk_drew ?_ | refine blk_alloc ?_ _)); exact BK305.out) hb); have n1_ := Aside0.mk (blk_below (g := gb321) (o := .cells #[.int .i64 t317, .int .i64 t318, .string t319] 23 (0, 0)) (by (with_reducible repeat (first | refine blk_drewN ?_ _ | refine blk_drew ?_ | refine blk_alloc ?_ _)); refine blk_put (cs := #[.int .i64 t317, .int .i64 t318, .string (⟨#[]⟩ : ByteArray)]) ?_ 2 _ rfl; (with_reducible repeat (first | refine blk_drewN ?_ _ | refine blk_drew ?_ | refine blk_alloc ?_ _)); refine blk_put (cs := #[.int .i64 t317, .int .i64 0, .string (⟨#[]⟩ : ByteArray)]) ?_ 1 _ rfl; (with_reducible repeat (first | refine blk_drewN ?_ _ | refine blk_drew ?_ | refine blk_alloc ?_ _)); refine blk_put (cs := #[.int .i64 0, .int .i64 0, .string (⟨#[]⟩ : ByteArray)]) ?_ 0 _ rfl; (with_reducible repeat (first | refine blk_drewN ?_ _ | refine blk_drew ?_ | refine blk_alloc ?_ _)); exact BK321.out) hb); have n2_ := Aside0.mk (below_step (by repeat (first | (with_reducible first | exact HB.out | apply below_alloc | apply pw_below_drewN | apply below_drew1 | refine below_set ?_ GE305.out | refine below_set ?_ GE321.out) | exact HB.out)) hb); clear BK305; clear BK321; clear HB; have BK305 := n0_; have BK321 := n1_; have HB := n2_; clear n0_ n1_ n2_; (try clear hb); (try clear hb2); (try clear hk); (try clear hi)) | (go_at_call 15; (with_reducible refine (cabinetrylaw09_known.calls kj14  t323 _ A36.out hr_ (Hm.keep hm_ (by repeat (first | (with_reducible first | exact HB.out | apply below_alloc | apply pw_below_drewN | apply below_drew1 | refine below_set ?_ GE305.out | refine below_set ?_ GE321.out) | exact HB.out)))).mono ?_); rintro e w43 ⟨rfl, hb⟩; have n0_ := Aside0.mk (blk_below (g := gb305) (o := .cells #[.int .i64 a0_0, .int .i64 a0_1, .string a0_2] 23 (0, 0)) (by (with_reducible repeat (first | refine blk_drewN ?_ _ | refine blk_drew ?_ | refine blk_alloc ?_ _)); exact BK305.out) hb); have n1_ := Aside0.mk (blk_below (g := gb321) (o := .cells #[.int .i64 t317, .int .i64 t318, .string t319] 23 (0, 0)) (by (with_reducible repeat (first | refine blk_drewN ?_ _ | refine blk_drew ?_ | refine blk_alloc ?_ _)); exact BK321.out) hb); have n2_ := Aside0.mk (below_step (by repeat (first | (with_reducible first | exact HB.out | apply below_alloc | apply pw_below_drewN | apply below_drew1 | refine below_set ?_ GE305.out | refine below_set ?_ GE321.out) | exact HB.out)) hb); clear BK305; clear BK321; clear HB; have BK305 := n0_; have BK321 := n1_; have HB := n2_; clear n0_ n1_ n2_; (try clear hb); (try clear hb2); (try clear hk); (try clear hi)))
       go_ret
       exact ⟨by first | rfl | (simp [errW_none, errW_some] <;> rfl) | (simp [*, errW_none, errW_some] <;> rfl), by repeat (first | (with_reducible first | exact HB.out | apply below_alloc | apply pw_below_drewN | apply below_drew1 | refine below_set ?_ GE305.out | refine below_set ?_ GE321.out) | exact HB.out)⟩
      ·replace c35 := Bool.eq_false_iff.mpr c35
       subst c35
       have H1 : (some false) = some r := by rw [if_neg (show ¬ (false = true) by decide)] at H; exact H
       clear H
       have H := H1
       clear H1
       obtain rfl := Option.some.inj H
       exact absurd hr_.out (by decide)
     ·rw [if_neg c33] at H
      have c33b0 : (t320 == 0) = false := beq_eq_false_iff_ne.mpr c33
      have c33b1 : (t320 != 0) = true := bne_iff_ne.mpr c33
      obtain rfl := Option.some.inj H
      exact absurd hr_.out (by decide)
end Go.Proofs.YtnkejhfbkgfedaaDoor.PB
