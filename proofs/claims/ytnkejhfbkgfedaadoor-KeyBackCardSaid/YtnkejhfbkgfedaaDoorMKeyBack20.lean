/-
  KeyBack of package cabinetry/cabinetrylaw09: for every input the call returns true, and each argument reads afterwards as it read before. Conditions: the package-level variables that the row lists (of unicode/utf8) hold what the program's text lays, which the card ties; nothing else.
-/
-- Written by a program of this session (wip/merge.py): the texts of this claim, joined.
import Derived.Test.YtnkejhfbkgfedaaDoorRows
import Derived.Test.YtnkejhfbkgfedaaDoorCards
import Derived.Test.YtnkejhfbkgfedaaDoorTie
import Derived.WalkKit
import Derived.ProofKit
import Derived.OpenShut
import Derived.ShutString
import Derived.ChangeOld
import Derived.Below
import Derived.SizedLaws
import Derived.LaidMore
import Derived.Lay
import Derived.SevenTiedAt
import Derived.Stop.Joined
import Derived.Test.YtnkejhfbkgfedaaDoorMKeyBack0
import Derived.Test.YtnkejhfbkgfedaaDoorMKeyBack1
import Derived.Test.YtnkejhfbkgfedaaDoorMKeyBack2
import Derived.Test.YtnkejhfbkgfedaaDoorMKeyBack3
import Derived.Test.YtnkejhfbkgfedaaDoorMKeyBack4
import Derived.Test.YtnkejhfbkgfedaaDoorMKeyBack5
import Derived.Test.YtnkejhfbkgfedaaDoorMKeyBack6
import Derived.Test.YtnkejhfbkgfedaaDoorMKeyBack7
import Derived.Test.YtnkejhfbkgfedaaDoorMKeyBack8
import Derived.Test.YtnkejhfbkgfedaaDoorMKeyBack9
import Derived.Test.YtnkejhfbkgfedaaDoorMKeyBack10
import Derived.Test.YtnkejhfbkgfedaaDoorMKeyBack11
import Derived.Test.YtnkejhfbkgfedaaDoorMKeyBack12
import Derived.Test.YtnkejhfbkgfedaaDoorMKeyBack13
import Derived.Test.YtnkejhfbkgfedaaDoorMKeyBack14
import Derived.Test.YtnkejhfbkgfedaaDoorMKeyBack15
import Derived.Test.YtnkejhfbkgfedaaDoorMKeyBack16
import Derived.Test.YtnkejhfbkgfedaaDoorMKeyBack17
import Derived.Test.YtnkejhfbkgfedaaDoorMKeyBack18
import Derived.Test.YtnkejhfbkgfedaaDoorMKeyBack19
namespace Go.Proofs.YtnkejhfbkgfedaaDoor.PA
end Go.Proofs.YtnkejhfbkgfedaaDoor.PA
namespace Go.Proofs.YtnkejhfbkgfedaaDoor.PB
end Go.Proofs.YtnkejhfbkgfedaaDoor.PB
namespace Go.Proofs.YtnkejhfbkgfedaaDoor.PC
end Go.Proofs.YtnkejhfbkgfedaaDoor.PC
namespace Go.Proofs.YtnkejhfbkgfedaaDoor.H1
end Go.Proofs.YtnkejhfbkgfedaaDoor.H1
namespace Go.Proofs.YtnkejhfbkgfedaaDoor.L1
end Go.Proofs.YtnkejhfbkgfedaaDoor.L1
namespace Go.Proofs.YtnkejhfbkgfedaaDoor.LKeyBack
open Go.RowKit Go.Proofs.YtnkejhfbkgfedaaDoorW.PrintWords Go.Proofs.YtnkejhfbkgfedaaDoor.PA Go.Proofs.YtnkejhfbkgfedaaDoor.H1 Go.Proofs.YtnkejhfbkgfedaaDoor.PB Go.Proofs.YtnkejhfbkgfedaaDoor.L1
set_option linter.unusedVariables false
theorem tx_esc : ∀ (s acc : List UInt8) (n : Nat), acc.length + s.length ≤ 48 → (escL s).length + 2 ≤ n → tx n acc (escL s ++ [0, 0]) = some (acc ++ s, [])
  | [], acc, n, h, hn => by
    obtain ⟨n, rfl⟩ : ∃ m, n = m + 1 := ⟨n - 1, by simp [escL] at hn; omega⟩
    simp only [escL, List.nil_append]
    rw [tx_step, if_pos rfl]
    simp only [if_true]
    rw [if_neg (by simp at h; omega)]
    simp
  | x :: s, acc, n, h, hn => by
    obtain ⟨n, rfl⟩ : ∃ m, n = m + 1 := ⟨n - 1, by omega⟩
    simp only [List.length_cons] at h
    simp only [escL] at hn ⊢
    by_cases hx : x = 0
    · rw [if_pos hx] at hn ⊢
      simp only [List.cons_append, List.length_cons] at hn ⊢
      rw [tx_step, if_pos rfl]
      simp only []
      rw [if_neg (by decide), if_pos trivial, tx_esc s (acc ++ [0]) n (by simp; omega) (by omega), hx]
      simp
    · rw [if_neg hx] at hn ⊢
      simp only [List.cons_append, List.length_cons] at hn ⊢
      rw [tx_step, if_neg hx, tx_esc s (acc ++ [x]) n (by simp; omega) (by omega)]
      simp
theorem take_be (k n : Nat) : (be k n).take k = be k n := List.take_of_length_le (by rw [be_len]; exact Nat.le_refl _)
theorem back {a n : Int} {s : ByteArray} (hv : validV a n s = 0) (hs48 : s.size ≤ 48) (p : Int) : onV (keyB a n s.data.toList p 0) = some (a, n, s, ((keyB a n s.data.toList p 0).length : Int)) := by
  obtain ⟨hs, hc⟩ := valid_cases hv
  have hemp : s.toList = [] → s = ⟨#[]⟩ := fun h => ba_ext (by rw [ByteArray.toList_eq] at h; exact h)
  rcases hc with ⟨rfl, rfl⟩ | ⟨h0, ⟨rfl, rfl⟩ | ⟨rfl, hn⟩ | ⟨rfl, h1, h2⟩ | ⟨rfl, h1, h2⟩⟩
  · have e : keyB 4 0 s.data.toList p 0 = 4 :: (escL s.data.toList ++ [0, 0]) := by
      unfold keyB keyW
      rw [if_neg (by decide), if_neg (by decide), if_neg (by decide), if_pos rfl, wt0, List.take_of_length_le (by rw [ba_len]; omega)]
      rfl
    rw [e, onV, if_neg (by decide), if_pos rfl, tx_esc s.data.toList [] _ (by rw [ba_len]; simp; omega) (by simp)]
    simp only [List.nil_append, List.length_nil, List.length_cons]
    rw [ba_self]
    simp
  · rw [hemp h0]; rfl
  · have hq : numL 0 (be 1 n.toNat) = n := by rw [numL_be 1 _ (by omega) (by omega)]; omega
    have e : keyB 1 n s.data.toList p 0 = 1 :: be 1 n.toNat := by unfold keyB; rw [if_pos rfl]; rfl
    rw [e, onV, if_neg (by decide), if_neg (by decide), if_pos rfl]
    unfold numV
    rw [if_neg (by rw [be_len]; omega), take_be, hq, if_neg (show ¬ (1 : Int) = 2 by decide), if_pos (by rw [← hemp h0]; exact hv), hemp h0, List.length_cons, be_len]
  · have hp : (256 : Nat) ^ 8 = 18446744073709551616 := by decide
    have hq : wrap64 (numL 0 (be 8 (n + 1000000000000000).toNat) - 1000000000000000) = n := by rw [numL_be 8 _ (by omega) (by omega), w64 (by omega) (by omega)]; omega
    have e : keyB 2 n s.data.toList p 0 = 2 :: be 8 (n + 1000000000000000).toNat := by unfold keyB; rw [if_neg (by decide), if_pos rfl]; rfl
    rw [e, onV, if_neg (by decide), if_neg (by decide), if_neg (by decide), if_pos rfl]
    unfold numV
    rw [if_neg (by rw [be_len]; omega), take_be, if_pos rfl, hq, if_pos (by rw [← hemp h0]; exact hv), hemp h0, List.length_cons, be_len]
  · have hp : (256 : Nat) ^ 4 = 4294967296 := by decide
    have hq : numL 0 (be 4 n.toNat) = n := by rw [numL_be 4 _ (by omega) (by omega)]; omega
    have e : keyB 3 n s.data.toList p 0 = 3 :: be 4 n.toNat := by unfold keyB; rw [if_neg (by decide), if_neg (by decide), if_pos rfl]; rfl
    rw [e, onV, if_neg (by decide), if_neg (by decide), if_neg (by decide), if_neg (by decide), if_pos rfl]
    unfold numV
    rw [if_neg (by rw [be_len]; omega), take_be, hq, if_neg (show ¬ (3 : Int) = 2 by decide), if_pos (by rw [← hemp h0]; exact hv), hemp h0, List.length_cons, be_len]
theorem law (a n : Int) (s : ByteArray) (q : Int) (d : Bool) (_ : -9223372036854775808 ≤ a ∧ a ≤ 9223372036854775807) (_ : -9223372036854775808 ≤ n ∧ n ≤ 9223372036854775807) (hs : s.size ≤ 140737488351232) (hq : -9223372036854775808 ≤ q ∧ q ≤ 9223372036854775807) :
    ∃ k, cabinetrylaw09_KeyBack.f k a n s q d = some true := by
  refine ⟨100001, ?_⟩
  unfold cabinetrylaw09_KeyBack.f
  rw [over1_f 100001 (by decide) a n s hs, known_ev 100001 (by decide)]
  simp only [Option.bind_some]
  by_cases ho : 40000 < s.size + 1
  · rw [if_pos (decide_eq_true ho)]
  · rw [if_neg (by rw [decide_eq_false ho]; decide)]
    obtain ⟨p, c, hp, hok⟩ := page_f q hq
    have hok0 : pageOk p 0 := ⟨hok.1, Or.inl rfl⟩
    have ha := (askedV_ok p 0).2 hok0
    rw [hp]
    simp only [Option.bind_some]
    rw [key_Encode_f 100001 (by decide)]
    simp only [Option.bind_some, cabinetrylaw09_KeyBack.j0]
    rw [refValidate_f, known_ev 100000 (by decide)]
    by_cases hv : validV a n s = 0
    · have e : encV a n s p 0 d = (⟨(negL d (keyB a n s.data.toList p 0)).toArray⟩, 0) := by unfold encV; rw [if_pos hv, if_pos ha]
      rw [e]
      simp only [if_true]
      by_cases h48 : s.size ≤ 48
      · rw [if_neg (by rw [decide_eq_false (by omega)]; decide)]
        have hl := keyB_len a n s.data.toList p 0
        rw [key_Decode_f 100000 (by decide) _ (by rw [ba_size, negL_len]; omega)]
        simp only [Option.bind_some]
        have hd : decV ⟨(negL d (keyB a n s.data.toList p 0)).toArray⟩ d = (a, n, s, 0) := by
          unfold decV
          rw [ba_mk, negL_negL, back hv h48]
          simp only []
          rw [if_pos (by rw [ba_size, negL_len])]
        rw [hd]
        simp only [if_true]
        rw [same_f]
        rfl
      · rw [if_pos (decide_eq_true (by omega)), hv]
        rfl
    · have e : encV a n s p 0 d = ((⟨#[]⟩ : ByteArray), validV a n s) := by unfold encV; rw [if_neg hv]
      rw [e]
      simp only []
      rw [if_neg hv]
      simp
end Go.Proofs.YtnkejhfbkgfedaaDoor.LKeyBack
namespace Go.Proofs.YtnkejhfbkgfedaaDoor.keyBack
open Go.ChangeShapes Go.WideShapes Go.ChangeAt Go.RowKit
open Go.ChangeMaps (open_string shut_string)
set_option linter.unusedVariables false
theorem own : ownKnob Tryd.prog.godebug = none := by kernel_rfl
set_option maxRecDepth 100000 in
theorem lifted (os : Os) (started : os.Started) (H : Type) (enc : TypeId × Value → H) :
    ReturnsInHanded {} Tryd.checked os 12 .any (fun w args => (Rows.keyBackSpec.pre enc Tryd.prog Tryd.f12 Rows.keyBackRow.domain false w args ∧ laidMetH Tryd.prog Rows.keyBackRow.laid w) ∧ sizedMet enc Tryd.prog Tryd.f12 (OpenSpec.ofChange Rows.keyBackSpec) false w args)
      (Rows.keyBackSpec.post enc Tryd.prog Tryd.f12 false true false false) := by
  refine L0.handed_and_shaped (C := Tryd.checked) (X := fun w _ => laidMetH Tryd.prog Rows.keyBackRow.laid w) (fun _ _ _ hh h => h.of_heap hh) own started (by kernel_rfl) Tryd.func12
    (ChangeSpec.witness_shaped (enc := enc) (C := Tryd.checked) (os := os) (X := fun w _ => laidMetH Tryd.prog Rows.keyBackRow.laid w) false (World.laidAll Tryd.prog os Rows.keyBackRow.laid) #[.agg #[.int .i64 0, .int .i64 0, .string ByteArray.empty], .int .i64 0, .bool false] 8 (World.laidAll_os _ _ _)
      (World.shaped_of_ZipB (by kernel_rfl) (by kernel_rfl)) (by kernel_rfl) (by kernel_rfl) (by kernel_rfl)
      (by rw [MakeChecks.laidMetH_plain _ _ _ (by kernel_rfl)]; exact laidMet_laidAll _ (by kernel_rfl) (by kernel_rfl))) ?_
  intro W base args ds gs before hval0 hW hcnd hsz0 hL hsh _
  have hsz : (DataW.weightsEach Tryd.prog (Tryd.f12.params.toList ++ Rows.keyBackSpec.plain.varTypes Tryd.prog) (ds ++ gs)).all (· ≤ reachBytes) = true := hsz0
  have hval : ∀ (j : Nat) t v, Tryd.f12.params[j]? = some t → args[j]? = some v → Value.okWide Tryd.prog W .any base t v := hval0
  have hW' := hW
  obtain ⟨p, q, hA0, hV, rfl, hfz, hnd⟩ := hW
  have hA : DataW.TrodAll enc Tryd.prog W 0 (fun _ => true) true Tryd.f12.params.toList args.toList ds p := hA0
  rw [Tryd.params12] at hA hval hsz
  obtain ⟨v0, vs0, d0, ds0, p0, q0, hargs, rfl, rfl, h0, r0⟩ := trodAll_cons hA
  obtain ⟨v1, vs1, d1, ds1, p1, q1, rfl, rfl, rfl, h1, r1⟩ := trodAll_cons r0
  obtain ⟨v2, vs2, d2, ds2, p2, q2, rfl, rfl, rfl, h2, r2⟩ := trodAll_cons r1
  obtain ⟨rfl, rfl, rfl⟩ := trodAll_nil r2
  obtain rfl : args = #[v0, v1, v2] := by cases args; simp_all
  obtain ⟨rfl, rfl⟩ := trodVars_none hV
  obtain ⟨a0_0, a0_1, a0_2, rfl, rfl, rfl, wk0, wn0, y0⟩ := L0.open_value Tryd.underlying23 (by kernel_rfl) (by kernel_rfl) Tryd.underlying3 Tryd.underlying3 Tryd.underlying9 (hval 0 23 v0 rfl rfl) h0
  have w0 : a0_2.size ≤ 140737488351232 := by
    have z := L0.sized_value hsz (j := 0) (t := 23) rfl rfl Tryd.underlying23
    rw [Array.length_toList] at z
    exact z
  obtain ⟨a1, rfl, rfl, rfl, w1⟩ := open_int Tryd.underlying3 (hval 1 3 v1 rfl rfl) h1
  obtain ⟨a2, rfl, rfl, rfl⟩ := open_bool Tryd.underlying4 (hval 2 4 v2 rfl rfl) h2
  clear hA0 hval0 hsz0 hsz
  obtain ⟨k, h⟩ := LKeyBack.law a0_0 a0_1 a0_2 a1 a2 (bounds_i64 wk0) (bounds_i64 wn0) w0 (bounds_i64 w1)
  refine (PB.cabinetrylaw09_KeyBack.calls k a0_0 a0_1 a0_2 a1 a2 true W h ⟨rfl⟩ ⟨Tryd.laysM143.s1_3 W hsh⟩).mono fun e W' ⟨he, bel⟩ => ?_
  subst he
  exact ⟨_, rfl, _, _, _, [], _, [], hW', trodAll_mk1 (shut_bool Tryd.underlying4 _), (trodAll_cons_mk (L0.shut_value Tryd.underlying23 (by kernel_rfl) (by kernel_rfl) Tryd.underlying3 Tryd.underlying3 Tryd.underlying9 wk0 wn0 y0) (trodAll_cons_mk (shut_int Tryd.underlying3 w1) (trodAll_cons_mk (shut_bool Tryd.underlying4 _) trodAll_mk0))), rfl, bel.frame _, fun h => by cases h⟩
theorem keyBack_holds : Rows.KeyBackSaid :=
  OpenClaim.holds_of_wide 12 Tryd.f12 rfl rfl rfl rfl rfl rfl rfl ⟨rfl, rfl, rfl, rfl, rfl⟩ rfl rfl rfl rfl rfl (by kernel_rfl) Tryd.func12 (by kernel_rfl)
    (of_decide_eq_true (by kernel_rfl)) (by unfold Func.isWrapper; first | (rw [if_pos (by decide +kernel)]; kernel_rfl) | (rw [if_neg (by decide +kernel)]; exact ⟨rfl, rfl⟩))
    (fun os started H enc _ => lifted os started H enc)
end Go.Proofs.YtnkejhfbkgfedaaDoor.keyBack
namespace Go.Proofs.YtnkejhfbkgfedaaDoor
theorem keyBack_card : Rows.KeyBackCardSaid :=
  Claim7.holds_tied_plain_at .later [] [.data, .pinned] true (true, "3ca090072f74d9576caed6164917b7ff82063396b7cf458c4b58db08244bc750") false
    keyBack.keyBack_holds (fun _ h => by cases h) (by kernel_rfl) (fun _ h => by cases h) keyBack_row_tie rfl ⟨rfl, rfl⟩ (by kernel_rfl) rfl
    (fun f fn hf hfn => by
      obtain rfl : f = 12 := Option.some.inj ((show Tryd.prog.funcNamed "cabinetry/cabinetrylaw09.KeyBack" = some 12 by kernel_rfl).symm.trans hf) |>.symm
      obtain rfl : fn = Tryd.f12 := (Option.some.inj (Tryd.func12.symm.trans hfn)).symm
      exact ⟨by kernel_rfl, fun j t ht => by
        rw [Tryd.params12] at ht
        have hm : t ∈ [23, 3, 4] := by simpa using Array.mem_of_getElem? ht
        have hall : ([23, 3, 4].all fun u => !Tryd.prog.wantsStandIn u) = true := by kernel_rfl
        exact (show Tryd.prog.wantsStandIn t = false by simpa using List.all_eq_true.1 hall t hm)⟩)
    (by kernel_rfl)
#print axioms keyBack_card
end Go.Proofs.YtnkejhfbkgfedaaDoor
