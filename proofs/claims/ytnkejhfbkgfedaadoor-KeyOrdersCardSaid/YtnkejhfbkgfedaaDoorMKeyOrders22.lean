/-
  KeyOrders of package cabinetry/cabinetrylaw09: for every input the call returns true, and each argument reads afterwards as it read before. Conditions: the package-level variables that the row lists (of unicode/utf8) hold what the program's text lays, which the card ties; nothing else.
-/
-- Written by a program of this session (wip/merge.py): the texts of this claim, joined.
import Derived.Test.YtnkejhfbkgfedaaDoorRows
import Derived.Test.YtnkejhfbkgfedaaDoorCards
import Derived.Test.YtnkejhfbkgfedaaDoorTie
import Derived.WalkKit
import Derived.ProofKit
import Derived.OpenShut
import Derived.ShutString
import Derived.ChangeOld
import Derived.Below
import Derived.SizedLaws
import Derived.LaidMore
import Derived.Lay
import Derived.SevenTiedAt
import Derived.Stop.Joined
import Derived.Test.YtnkejhfbkgfedaaDoorMKeyOrders0
import Derived.Test.YtnkejhfbkgfedaaDoorMKeyOrders1
import Derived.Test.YtnkejhfbkgfedaaDoorMKeyOrders2
import Derived.Test.YtnkejhfbkgfedaaDoorMKeyOrders3
import Derived.Test.YtnkejhfbkgfedaaDoorMKeyOrders4
import Derived.Test.YtnkejhfbkgfedaaDoorMKeyOrders5
import Derived.Test.YtnkejhfbkgfedaaDoorMKeyOrders6
import Derived.Test.YtnkejhfbkgfedaaDoorMKeyOrders7
import Derived.Test.YtnkejhfbkgfedaaDoorMKeyOrders8
import Derived.Test.YtnkejhfbkgfedaaDoorMKeyOrders9
import Derived.Test.YtnkejhfbkgfedaaDoorMKeyOrders10
import Derived.Test.YtnkejhfbkgfedaaDoorMKeyOrders11
import Derived.Test.YtnkejhfbkgfedaaDoorMKeyOrders12
import Derived.Test.YtnkejhfbkgfedaaDoorMKeyOrders13
import Derived.Test.YtnkejhfbkgfedaaDoorMKeyOrders14
import Derived.Test.YtnkejhfbkgfedaaDoorMKeyOrders15
import Derived.Test.YtnkejhfbkgfedaaDoorMKeyOrders16
import Derived.Test.YtnkejhfbkgfedaaDoorMKeyOrders17
import Derived.Test.YtnkejhfbkgfedaaDoorMKeyOrders18
import Derived.Test.YtnkejhfbkgfedaaDoorMKeyOrders19
import Derived.Test.YtnkejhfbkgfedaaDoorMKeyOrders20
import Derived.Test.YtnkejhfbkgfedaaDoorMKeyOrders21
namespace Go.Proofs.YtnkejhfbkgfedaaDoor.PA
end Go.Proofs.YtnkejhfbkgfedaaDoor.PA
namespace Go.Proofs.YtnkejhfbkgfedaaDoor.PB
end Go.Proofs.YtnkejhfbkgfedaaDoor.PB
namespace Go.Proofs.YtnkejhfbkgfedaaDoor.PC
end Go.Proofs.YtnkejhfbkgfedaaDoor.PC
namespace Go.Proofs.YtnkejhfbkgfedaaDoor.H1
end Go.Proofs.YtnkejhfbkgfedaaDoor.H1
namespace Go.Proofs.YtnkejhfbkgfedaaDoor.L1
end Go.Proofs.YtnkejhfbkgfedaaDoor.L1
namespace Go.Proofs.YtnkejhfbkgfedaaDoor.LKeyOrders
open Go.RowKit Go.Proofs.YtnkejhfbkgfedaaDoorW.PrintWords Go.Proofs.YtnkejhfbkgfedaaDoor.PA Go.Proofs.YtnkejhfbkgfedaaDoor.H1 Go.Proofs.YtnkejhfbkgfedaaDoor.PB Go.Proofs.YtnkejhfbkgfedaaDoor.L1
set_option linter.unusedVariables false
theorem j0_true (k : Nat) (hk : 201 ≤ k) (p c : Int) (x y u w : ByteArray) (a n : Int) (s : ByteArray) (b m : Int) (t : ByteArray) : cabinetrylaw09_KeyOrders.j0 k p c x y u w true a n s b m t = some true := by
  obtain ⟨k, rfl⟩ : ∃ m, k = m + 1 := ⟨k - 1, by omega⟩
  simp only [cabinetrylaw09_KeyOrders.j0]
  rw [if_pos trivial, known_ev k (by omega)]
  rfl
theorem w64neg {x : Int} (h0 : -1 ≤ x) (h1 : x ≤ 1) : wrap64 (-x) = -x := w64 (by omega) (by omega)
theorem cmpI_bound (a b : Int) : -1 ≤ cmpI a b ∧ cmpI a b ≤ 1 := by unfold cmpI; split <;> (try split) <;> omega
theorem law (a n : Int) (s : ByteArray) (b m : Int) (t : ByteArray) (q : Int) (_ : -9223372036854775808 ≤ a ∧ a ≤ 9223372036854775807) (_ : -9223372036854775808 ≤ n ∧ n ≤ 9223372036854775807) (hs : s.size ≤ 140737488351232)
    (_ : -9223372036854775808 ≤ b ∧ b ≤ 9223372036854775807) (_ : -9223372036854775808 ≤ m ∧ m ≤ 9223372036854775807) (ht : t.size ≤ 140737488351232) (hq : -9223372036854775808 ≤ q ∧ q ≤ 9223372036854775807) :
    ∃ k, cabinetrylaw09_KeyOrders.f k a n s b m t q = some true := by
  refine ⟨9002, ?_⟩
  unfold cabinetrylaw09_KeyOrders.f
  rw [over2_f 9002 (by decide) a n s b m t hs ht, known_ev 9002 (by decide)]
  simp only [Option.bind_some]
  by_cases ho : 40000 < s.size + t.size + 2
  · rw [if_pos (decide_eq_true ho)]
  · rw [if_neg (by rw [decide_eq_false ho]; decide)]
    obtain ⟨p, c, hp, hok⟩ := page_f q hq
    have ha := (askedV_ok p c).2 hok
    rw [hp]
    simp only [Option.bind_some]
    rw [key_Encode_f 9002 (by decide), key_Encode_f 9002 (by decide), key_Encode_f 9002 (by decide), key_Encode_f 9002 (by decide)]
    simp only [Option.bind_some]
    by_cases hv : validV a n s = 0
    · by_cases hw : validV b m t = 0
      · have e : ∀ d, encV a n s p c d = (⟨(negL d (keyB a n s.data.toList p c)).toArray⟩, 0) := fun d => by unfold encV; rw [if_pos hv, if_pos ha]
        have e' : ∀ d, encV b m t p c d = (⟨(negL d (keyB b m t.data.toList p c)).toArray⟩, 0) := fun d => by unfold encV; rw [if_pos hw, if_pos ha]
        rw [e, e, e', e']
        have hl1 := keyB_len a n s.data.toList p c
        have hl2 := keyB_len b m t.data.toList p c
        simp only [if_true, cabinetrylaw09_KeyOrders.j0]
        rw [if_neg (by decide), first_f, first_f]
        simp only [Option.bind_some]
        have hv1 := valid_first hv
        have hw1 := valid_first hw
        rw [refCompare_f 9001 (by decide)]
        simp only [Option.bind_some]
        have ct : ∀ d, cabinetryref01_CompareTexts.f 9000 (⟨(negL d (keyB a n s.data.toList p c)).toArray⟩ : ByteArray) ⟨(negL d (keyB b m t.data.toList p c)).toArray⟩ = some (Lib.compareBytes (negL d (keyB a n s.data.toList p c)) (negL d (keyB b m t.data.toList p c))) := fun d => by
          rw [compareTexts_f _ _ (by rw [ba_size, negL_len]; omega) 9000 (by rw [ba_size, negL_len]; omega), ba_mk, ba_mk]
        by_cases hnil : a = 0 ∨ b = 0
        · have hj : (if a = 0 then cabinetrylaw09_KeyOrders.j1 9001 p c ⟨(negL false (keyB a n s.data.toList p c)).toArray⟩ ⟨(negL false (keyB b m t.data.toList p c)).toArray⟩ ⟨(negL true (keyB a n s.data.toList p c)).toArray⟩ ⟨(negL true (keyB b m t.data.toList p c)).toArray⟩
              (cmpV a n ⟨(s.data.toList.take 48).toArray⟩ b m ⟨(t.data.toList.take 48).toArray⟩).1 (cmpV a n ⟨(s.data.toList.take 48).toArray⟩ b m ⟨(t.data.toList.take 48).toArray⟩).2 true a n ⟨(s.data.toList.take 48).toArray⟩ b m ⟨(t.data.toList.take 48).toArray⟩
            else cabinetrylaw09_KeyOrders.j1 9001 p c ⟨(negL false (keyB a n s.data.toList p c)).toArray⟩ ⟨(negL false (keyB b m t.data.toList p c)).toArray⟩ ⟨(negL true (keyB a n s.data.toList p c)).toArray⟩ ⟨(negL true (keyB b m t.data.toList p c)).toArray⟩
              (cmpV a n ⟨(s.data.toList.take 48).toArray⟩ b m ⟨(t.data.toList.take 48).toArray⟩).1 (cmpV a n ⟨(s.data.toList.take 48).toArray⟩ b m ⟨(t.data.toList.take 48).toArray⟩).2 (b == 0) a n ⟨(s.data.toList.take 48).toArray⟩ b m ⟨(t.data.toList.take 48).toArray⟩) =
            cabinetrylaw09_KeyOrders.j1 9001 p c ⟨(negL false (keyB a n s.data.toList p c)).toArray⟩ ⟨(negL false (keyB b m t.data.toList p c)).toArray⟩ ⟨(negL true (keyB a n s.data.toList p c)).toArray⟩ ⟨(negL true (keyB b m t.data.toList p c)).toArray⟩
              (cmpV a n ⟨(s.data.toList.take 48).toArray⟩ b m ⟨(t.data.toList.take 48).toArray⟩).1 (cmpV a n ⟨(s.data.toList.take 48).toArray⟩ b m ⟨(t.data.toList.take 48).toArray⟩).2 true a n ⟨(s.data.toList.take 48).toArray⟩ b m ⟨(t.data.toList.take 48).toArray⟩ := by
            by_cases ha0 : a = 0
            · rw [if_pos ha0]
            · have hb0 : b = 0 := hnil.resolve_left ha0
              rw [if_neg ha0, hb0]
              rfl
          rw [hj]
          simp only [cabinetrylaw09_KeyOrders.j1]
          rw [if_pos trivial, compareInts_f, ct, ct, cmp_key_nil hv hw p c hnil false, cmp_key_nil hv hw p c hnil true, known_ev 9000 (by decide)]
          have hb := cmpI_bound (mn a 1) (mn b 1)
          simp only [Option.bind_some, if_true, Bool.false_eq_true, if_false]
          rw [w64neg hb.1 hb.2, if_pos rfl]
        · have ha0 : a ≠ 0 := fun h => hnil (Or.inl h)
          have hb0 : b ≠ 0 := fun h => hnil (Or.inr h)
          rw [if_neg ha0, beq_eq_false_iff_ne.mpr hb0]
          simp only [cabinetrylaw09_KeyOrders.j1]
          rw [if_neg (by decide)]
          by_cases hk : a = b
          · subst hk
            have hcv : (cmpV a n ⟨(s.data.toList.take 48).toArray⟩ a m ⟨(t.data.toList.take 48).toArray⟩).2 = 0 := (cmpV_ok _ _ _ _ _ _).2 ⟨hv1, hw1, rfl, ha0⟩
            have hcw := cmpV_val hcv
            rw [if_pos hcv, hcw, ct, ct, cmp_key_kind hv hw p c ha0 false, cmp_key_kind hv hw p c ha0 true, known_ev 9000 (by decide)]
            simp only [Option.bind_some, if_true, Bool.false_eq_true, if_false]
            by_cases h4 : a = 4
            · simp only [if_pos h4]
              rw [order_f 9000 p c hok _ _ (by rw [ba_size, List.length_take]; omega) (by rw [ba_size, List.length_take]; omega) (by decide), ba_mk, ba_mk]
              simp only [Option.bind_some, if_true]
              have hb := cmpB_bound ((s.data.toList.take 48).map (wt p c)) ((t.data.toList.take 48).map (wt p c))
              rw [w64neg hb.1 hb.2, if_pos rfl]
            · simp only [if_neg h4]
              have hb := cmpI_bound n m
              rw [w64neg hb.1 hb.2, if_pos rfl]; rfl
          · rw [if_neg (fun h => hk ((cmpV_ok _ _ _ _ _ _).1 h).2.2.1), known_ev 9000 (by decide)]
            rfl
      · have e : ∀ d, encV a n s p c d = (⟨(negL d (keyB a n s.data.toList p c)).toArray⟩, 0) := fun d => by unfold encV; rw [if_pos hv, if_pos ha]
        have e' : ∀ d, encV b m t p c d = ((⟨#[]⟩ : ByteArray), validV b m t) := fun d => by unfold encV; rw [if_neg hw]
        rw [e, e, e', e']
        simp only []
        rw [if_pos trivial, if_neg hw]
        exact j0_true _ (by decide) _ _ _ _ _ _ _ _ _ _ _ _
    · have e : ∀ d, encV a n s p c d = ((⟨#[]⟩ : ByteArray), validV a n s) := fun d => by unfold encV; rw [if_neg hv]
      rw [e]
      simp only []
      rw [if_neg hv]
      exact j0_true _ (by decide) _ _ _ _ _ _ _ _ _ _ _ _
end Go.Proofs.YtnkejhfbkgfedaaDoor.LKeyOrders
namespace Go.Proofs.YtnkejhfbkgfedaaDoor.keyOrders
open Go.ChangeShapes Go.WideShapes Go.ChangeAt Go.RowKit
open Go.ChangeMaps (open_string shut_string)
set_option linter.unusedVariables false
theorem own : ownKnob Tryd.prog.godebug = none := by kernel_rfl
set_option maxRecDepth 100000 in
theorem lifted (os : Os) (started : os.Started) (H : Type) (enc : TypeId × Value → H) :
    ReturnsInHanded {} Tryd.checked os 4 .any (fun w args => (Rows.keyOrdersSpec.pre enc Tryd.prog Tryd.f4 Rows.keyOrdersRow.domain false w args ∧ laidMetH Tryd.prog Rows.keyOrdersRow.laid w) ∧ sizedMet enc Tryd.prog Tryd.f4 (OpenSpec.ofChange Rows.keyOrdersSpec) false w args)
      (Rows.keyOrdersSpec.post enc Tryd.prog Tryd.f4 false true false false) := by
  refine L0.handed_and_shaped (C := Tryd.checked) (X := fun w _ => laidMetH Tryd.prog Rows.keyOrdersRow.laid w) (fun _ _ _ hh h => h.of_heap hh) own started (by kernel_rfl) Tryd.func4
    (ChangeSpec.witness_shaped (enc := enc) (C := Tryd.checked) (os := os) (X := fun w _ => laidMetH Tryd.prog Rows.keyOrdersRow.laid w) false (World.laidAll Tryd.prog os Rows.keyOrdersRow.laid) #[.agg #[.int .i64 0, .int .i64 0, .string ByteArray.empty], .agg #[.int .i64 0, .int .i64 0, .string ByteArray.empty], .int .i64 0] 8 (World.laidAll_os _ _ _)
      (World.shaped_of_ZipB (by kernel_rfl) (by kernel_rfl)) (by kernel_rfl) (by kernel_rfl) (by kernel_rfl)
      (by rw [MakeChecks.laidMetH_plain _ _ _ (by kernel_rfl)]; exact laidMet_laidAll _ (by kernel_rfl) (by kernel_rfl))) ?_
  intro W base args ds gs before hval0 hW hcnd hsz0 hL hsh _
  have hsz : (DataW.weightsEach Tryd.prog (Tryd.f4.params.toList ++ Rows.keyOrdersSpec.plain.varTypes Tryd.prog) (ds ++ gs)).all (· ≤ reachBytes) = true := hsz0
  have hval : ∀ (j : Nat) t v, Tryd.f4.params[j]? = some t → args[j]? = some v → Value.okWide Tryd.prog W .any base t v := hval0
  have hW' := hW
  obtain ⟨p, q, hA0, hV, rfl, hfz, hnd⟩ := hW
  have hA : DataW.TrodAll enc Tryd.prog W 0 (fun _ => true) true Tryd.f4.params.toList args.toList ds p := hA0
  rw [Tryd.params4] at hA hval hsz
  obtain ⟨v0, vs0, d0, ds0, p0, q0, hargs, rfl, rfl, h0, r0⟩ := trodAll_cons hA
  obtain ⟨v1, vs1, d1, ds1, p1, q1, rfl, rfl, rfl, h1, r1⟩ := trodAll_cons r0
  obtain ⟨v2, vs2, d2, ds2, p2, q2, rfl, rfl, rfl, h2, r2⟩ := trodAll_cons r1
  obtain ⟨rfl, rfl, rfl⟩ := trodAll_nil r2
  obtain rfl : args = #[v0, v1, v2] := by cases args; simp_all
  obtain ⟨rfl, rfl⟩ := trodVars_none hV
  obtain ⟨a0_0, a0_1, a0_2, rfl, rfl, rfl, wk0, wn0, y0⟩ := L0.open_value Tryd.underlying23 (by kernel_rfl) (by kernel_rfl) Tryd.underlying3 Tryd.underlying3 Tryd.underlying9 (hval 0 23 v0 rfl rfl) h0
  have w0 : a0_2.size ≤ 140737488351232 := by
    have z := L0.sized_value hsz (j := 0) (t := 23) rfl rfl Tryd.underlying23
    rw [Array.length_toList] at z
    exact z
  obtain ⟨a1_0, a1_1, a1_2, rfl, rfl, rfl, wk1, wn1, y1⟩ := L0.open_value Tryd.underlying23 (by kernel_rfl) (by kernel_rfl) Tryd.underlying3 Tryd.underlying3 Tryd.underlying9 (hval 1 23 v1 rfl rfl) h1
  have w1 : a1_2.size ≤ 140737488351232 := by
    have z := L0.sized_value hsz (j := 1) (t := 23) rfl rfl Tryd.underlying23
    rw [Array.length_toList] at z
    exact z
  obtain ⟨a2, rfl, rfl, rfl, w2⟩ := open_int Tryd.underlying3 (hval 2 3 v2 rfl rfl) h2
  clear hA0 hval0 hsz0 hsz
  obtain ⟨k, h⟩ := LKeyOrders.law a0_0 a0_1 a0_2 a1_0 a1_1 a1_2 a2 (bounds_i64 wk0) (bounds_i64 wn0) w0 (bounds_i64 wk1) (bounds_i64 wn1) w1 (bounds_i64 w2)
  refine (PB.cabinetrylaw09_KeyOrders.calls k a0_0 a0_1 a0_2 a1_0 a1_1 a1_2 a2 true W h ⟨rfl⟩ ⟨Tryd.laysM143.s1_3 W hsh⟩).mono fun e W' ⟨he, bel⟩ => ?_
  subst he
  exact ⟨_, rfl, _, _, _, [], _, [], hW', trodAll_mk1 (shut_bool Tryd.underlying4 _), (trodAll_cons_mk (L0.shut_value Tryd.underlying23 (by kernel_rfl) (by kernel_rfl) Tryd.underlying3 Tryd.underlying3 Tryd.underlying9 wk0 wn0 y0) (trodAll_cons_mk (L0.shut_value Tryd.underlying23 (by kernel_rfl) (by kernel_rfl) Tryd.underlying3 Tryd.underlying3 Tryd.underlying9 wk1 wn1 y1) (trodAll_cons_mk (shut_int Tryd.underlying3 w2) trodAll_mk0))), rfl, bel.frame _, fun h => by cases h⟩
theorem keyOrders_holds : Rows.KeyOrdersSaid :=
  OpenClaim.holds_of_wide 4 Tryd.f4 rfl rfl rfl rfl rfl rfl rfl ⟨rfl, rfl, rfl, rfl, rfl⟩ rfl rfl rfl rfl rfl (by kernel_rfl) Tryd.func4 (by kernel_rfl)
    (of_decide_eq_true (by kernel_rfl)) (by unfold Func.isWrapper; first | (rw [if_pos (by decide +kernel)]; kernel_rfl) | (rw [if_neg (by decide +kernel)]; exact ⟨rfl, rfl⟩))
    (fun os started H enc _ => lifted os started H enc)
end Go.Proofs.YtnkejhfbkgfedaaDoor.keyOrders
namespace Go.Proofs.YtnkejhfbkgfedaaDoor
theorem keyOrders_card : Rows.KeyOrdersCardSaid :=
  Claim7.holds_tied_plain_at .later [] [.data, .pinned] true (true, "3ca090072f74d9576caed6164917b7ff82063396b7cf458c4b58db08244bc750") false
    keyOrders.keyOrders_holds (fun _ h => by cases h) (by kernel_rfl) (fun _ h => by cases h) keyOrders_row_tie rfl ⟨rfl, rfl⟩ (by kernel_rfl) rfl
    (fun f fn hf hfn => by
      obtain rfl : f = 4 := Option.some.inj ((show Tryd.prog.funcNamed "cabinetry/cabinetrylaw09.KeyOrders" = some 4 by kernel_rfl).symm.trans hf) |>.symm
      obtain rfl : fn = Tryd.f4 := (Option.some.inj (Tryd.func4.symm.trans hfn)).symm
      exact ⟨by kernel_rfl, fun j t ht => by
        rw [Tryd.params4] at ht
        have hm : t ∈ [23, 23, 3] := by simpa using Array.mem_of_getElem? ht
        have hall : ([23, 23, 3].all fun u => !Tryd.prog.wantsStandIn u) = true := by kernel_rfl
        exact (show Tryd.prog.wantsStandIn t = false by simpa using List.all_eq_true.1 hall t hm)⟩)
    (by kernel_rfl)
#print axioms keyOrders_card
end Go.Proofs.YtnkejhfbkgfedaaDoor
