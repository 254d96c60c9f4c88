/-
  KeyAsks of package cabinetry/cabinetrylaw09: for every input the call returns true, and each argument reads afterwards as it read before. Conditions: the package-level variables that the row lists (of unicode/utf8) hold what the program's text lays, which the card ties; nothing else.
-/
-- Written by a program of this session (wip/merge.py): the texts of this claim, joined.
import Derived.Test.YtnkejhfbkgfedaaDoorRows
import Derived.Test.YtnkejhfbkgfedaaDoorCards
import Derived.Test.YtnkejhfbkgfedaaDoorTie
import Derived.WalkKit
import Derived.ProofKit
import Derived.OpenShut
import Derived.ShutString
import Derived.ChangeOld
import Derived.Below
import Derived.SizedLaws
import Derived.LaidMore
import Derived.Lay
import Derived.SevenTiedAt
import Derived.Stop.Joined
import Derived.Test.YtnkejhfbkgfedaaDoorMKeyAsks0
import Derived.Test.YtnkejhfbkgfedaaDoorMKeyAsks1
import Derived.Test.YtnkejhfbkgfedaaDoorMKeyAsks2
import Derived.Test.YtnkejhfbkgfedaaDoorMKeyAsks3
import Derived.Test.YtnkejhfbkgfedaaDoorMKeyAsks4
import Derived.Test.YtnkejhfbkgfedaaDoorMKeyAsks5
import Derived.Test.YtnkejhfbkgfedaaDoorMKeyAsks6
import Derived.Test.YtnkejhfbkgfedaaDoorMKeyAsks7
import Derived.Test.YtnkejhfbkgfedaaDoorMKeyAsks8
import Derived.Test.YtnkejhfbkgfedaaDoorMKeyAsks9
import Derived.Test.YtnkejhfbkgfedaaDoorMKeyAsks10
import Derived.Test.YtnkejhfbkgfedaaDoorMKeyAsks11
import Derived.Test.YtnkejhfbkgfedaaDoorMKeyAsks12
import Derived.Test.YtnkejhfbkgfedaaDoorMKeyAsks13
import Derived.Test.YtnkejhfbkgfedaaDoorMKeyAsks14
import Derived.Test.YtnkejhfbkgfedaaDoorMKeyAsks15
import Derived.Test.YtnkejhfbkgfedaaDoorMKeyAsks16
import Derived.Test.YtnkejhfbkgfedaaDoorMKeyAsks17
import Derived.Test.YtnkejhfbkgfedaaDoorMKeyAsks18
import Derived.Test.YtnkejhfbkgfedaaDoorMKeyAsks19
import Derived.Test.YtnkejhfbkgfedaaDoorMKeyAsks20
namespace Go.Proofs.YtnkejhfbkgfedaaDoor.PA
end Go.Proofs.YtnkejhfbkgfedaaDoor.PA
namespace Go.Proofs.YtnkejhfbkgfedaaDoor.PB
end Go.Proofs.YtnkejhfbkgfedaaDoor.PB
namespace Go.Proofs.YtnkejhfbkgfedaaDoor.PC
end Go.Proofs.YtnkejhfbkgfedaaDoor.PC
namespace Go.Proofs.YtnkejhfbkgfedaaDoor.H1
end Go.Proofs.YtnkejhfbkgfedaaDoor.H1
namespace Go.Proofs.YtnkejhfbkgfedaaDoor.L1
end Go.Proofs.YtnkejhfbkgfedaaDoor.L1
namespace Go.Proofs.YtnkejhfbkgfedaaDoor.LKeyAsks
open Go.RowKit Go.Proofs.YtnkejhfbkgfedaaDoorW.PrintWords Go.Proofs.YtnkejhfbkgfedaaDoor.PA Go.Proofs.YtnkejhfbkgfedaaDoor.H1 Go.Proofs.YtnkejhfbkgfedaaDoor.PB Go.Proofs.YtnkejhfbkgfedaaDoor.L1
set_option linter.unusedVariables false
theorem in_l (l : List ByteArray) (hl : l.length ≤ 1000) (x : ByteArray) : ∀ (n i k : Nat), l.length - i = n → i ≤ l.length → n < k → cabinetryref01_In.l0 k l x (i : Int) = some ((l.drop i).any (fun s => decide (s.data.toList = x.data.toList))) := by
  intro n
  induction n with
  | zero =>
    intro i k hn hi hk
    obtain ⟨k, rfl⟩ : ∃ m, k = m + 1 := ⟨k - 1, by omega⟩
    simp only [cabinetryref01_In.l0]
    rw [if_neg (by omega), List.drop_eq_nil_of_le (by omega)]
    rfl
  | succ n ih =>
    intro i k hn hi hk
    obtain ⟨k, rfl⟩ : ∃ m, k = m + 1 := ⟨k - 1, by omega⟩
    have hlt : i < l.length := by omega
    simp only [cabinetryref01_In.l0]
    have er : rdOf ByteArray.empty l (i : Int) = l[i] := by
      unfold rdOf
      rw [Int.toNat_natCast, List.getD_eq_getElem?_getD, List.getElem?_eq_getElem hlt, Option.getD_some]
    rw [if_pos (by omega), if_pos (by omega), er, ByteArray.toList_eq, ByteArray.toList_eq, List.drop_eq_getElem_cons hlt, List.any_cons]
    by_cases h : l[i].data.toList = x.data.toList
    · rw [if_pos h, decide_eq_true h, Bool.true_or]
    · rw [if_neg h, decide_eq_false h, Bool.false_or, w64 (by omega) (by omega)]
      have := ih (i + 1) k (by omega) (by omega) (by omega)
      rwa [show ((i : Int) + 1) = ((i + 1 : Nat) : Int) by omega]
theorem in_f (k : Nat) (hk : 10 ≤ k) (x : ByteArray) : ((cabinetrylaw09_operators.f).bind fun t245 => (cabinetryref01_In.f k t245 x)) = some (decide (x.data.toList ∈ opsL)) := by
  unfold cabinetrylaw09_operators.f cabinetryref01_In.f
  simp only [Option.bind_some]
  have h := in_l [(⟨#[61]⟩ : ByteArray), ⟨#[61, 61]⟩, ⟨#[60]⟩, ⟨#[60, 61]⟩, ⟨#[62]⟩, ⟨#[62, 61]⟩] (by simp) x 6 0 k (by simp) (by simp) (by omega)
  rw [show ((0 : Nat) : Int) = 0 from rfl, List.drop_zero] at h
  rw [h]
  refine congrArg some ?_
  apply Bool.eq_iff_iff.2
  simp only [List.any_eq_true, decide_eq_true_eq, opsL, List.mem_cons, List.not_mem_nil, or_false]
  constructor
  · rintro ⟨s, hs, he⟩
    rw [← he]
    rcases hs with rfl | rfl | rfl | rfl | rfl | rfl <;> simp
  · rintro (h | h | h | h | h | h) <;> rw [h]
    · exact ⟨_, Or.inl rfl, rfl⟩
    · exact ⟨_, Or.inr (Or.inl rfl), rfl⟩
    · exact ⟨_, Or.inr (Or.inr (Or.inl rfl)), rfl⟩
    · exact ⟨_, Or.inr (Or.inr (Or.inr (Or.inl rfl))), rfl⟩
    · exact ⟨_, Or.inr (Or.inr (Or.inr (Or.inr (Or.inl rfl)))), rfl⟩
    · exact ⟨_, Or.inr (Or.inr (Or.inr (Or.inr (Or.inr rfl)))), rfl⟩
theorem j0_true (k : Nat) (hk : 201 ≤ k) (x : ByteArray) (a n : Int) (s : ByteArray) (p c : Int) : cabinetrylaw09_KeyAsks.j0 k x true a n s p c = some true := by
  obtain ⟨k, rfl⟩ : ∃ m, k = m + 1 := ⟨k - 1, by omega⟩
  simp only [cabinetrylaw09_KeyAsks.j0]
  rw [if_pos trivial, known_ev k (by omega)]
  rfl
theorem j0_false (k : Nat) (hk : 1000 ≤ k) (op : ByteArray) (ho : op.size ≤ 40000) (a n : Int) (s : ByteArray) (p c : Int) : cabinetrylaw09_KeyAsks.j0 k op false a n s p c = some true := by
  obtain ⟨k, rfl⟩ : ∃ m, k = m + 1 + 1 := ⟨k - 2, by omega⟩
  simp only [cabinetrylaw09_KeyAsks.j0]
  rw [if_neg (by decide), key_Range_f _ (by omega) op ho, refValidate_f, refAskedV]
  simp only [Option.bind_some]
  have hnil : (⟨#[]⟩ : ByteArray).toList = [] := by rw [ByteArray.toList_eq]
  by_cases hv : validV a n s = 0
  · rw [if_pos hv]
    by_cases ha : askedV p c = 0
    · rw [if_pos ha]
      have hin := in_f (k + 1) (by omega) op
      have e : ∀ (F : Bool → Option Bool), ((cabinetrylaw09_operators.f).bind fun t245 => ((cabinetryref01_In.f (k + 1) t245 op).bind F)) = F (decide (op.data.toList ∈ opsL)) := fun F => by
        have : ((cabinetrylaw09_operators.f).bind fun t245 => ((cabinetryref01_In.f (k + 1) t245 op).bind F)) = ((cabinetrylaw09_operators.f).bind fun t245 => (cabinetryref01_In.f (k + 1) t245 op)).bind F := by
          rw [Option.bind_assoc]
        rw [this, hin]
        rfl
      rw [e]
      simp only [cabinetrylaw09_KeyAsks.j1]
      rw [known_ev k (by omega)]
      unfold rangeV
      rw [if_pos hv, if_pos ha]
      by_cases hm : op.data.toList ∈ opsL
      · rw [if_pos hm, decide_eq_true hm]
        by_cases h0 : a = 0
        · rw [if_pos h0]
          simp [h0, hnil]
        · rw [if_neg h0]
          simp [h0, hv]
      · rw [if_neg hm, decide_eq_false hm]
        simp [hnil]
    · rw [if_neg ha]
      simp only [cabinetrylaw09_KeyAsks.j1]
      rw [known_ev k (by omega)]
      have h1 : askedV p c = 1 := by unfold askedV at ha ⊢; split at ha <;> simp_all
      unfold rangeV
      rw [if_pos hv, if_neg ha, h1]
      simp [hnil]
  · rw [if_neg hv, known_ev (k + 1) (by omega)]
    unfold rangeV
    rw [if_neg hv]
    simp only [if_true]
    rw [if_neg hv, hnil]
    simp
theorem law (op : ByteArray) (a n : Int) (s : ByteArray) (p c : Int) (_ : op.size ≤ 140737488351232) (_ : -9223372036854775808 ≤ a ∧ a ≤ 9223372036854775807) (_ : -9223372036854775808 ≤ n ∧ n ≤ 9223372036854775807) (hs : s.size ≤ 140737488351232)
    (_ : -9223372036854775808 ≤ p ∧ p ≤ 9223372036854775807) (_ : -9223372036854775808 ≤ c ∧ c ≤ 9223372036854775807) : ∃ k, cabinetrylaw09_KeyAsks.f k op a n s p c = some true := by
  refine ⟨2000, ?_⟩
  unfold cabinetrylaw09_KeyAsks.f
  by_cases h : (op.size : Int) > 40000
  · rw [if_pos h]
    exact j0_true _ (by decide) _ _ _ _ _ _
  · rw [if_neg h, over1_f 2000 (by decide) a n s hs]
    simp only [Option.bind_some]
    by_cases ho : 40000 < s.size + 1
    · rw [decide_eq_true ho]
      exact j0_true _ (by decide) _ _ _ _ _ _
    · rw [decide_eq_false ho]
      exact j0_false _ (by decide) op (by omega) _ _ _ _ _
end Go.Proofs.YtnkejhfbkgfedaaDoor.LKeyAsks
namespace Go.Proofs.YtnkejhfbkgfedaaDoor.keyAsks
open Go.ChangeShapes Go.WideShapes Go.ChangeAt Go.RowKit
open Go.ChangeMaps (open_string shut_string)
set_option linter.unusedVariables false
theorem own : ownKnob Tryd.prog.godebug = none := by kernel_rfl
set_option maxRecDepth 100000 in
theorem lifted (os : Os) (started : os.Started) (H : Type) (enc : TypeId × Value → H) :
    ReturnsInHanded {} Tryd.checked os 8 .any (fun w args => (Rows.keyAsksSpec.pre enc Tryd.prog Tryd.f8 Rows.keyAsksRow.domain false w args ∧ laidMetH Tryd.prog Rows.keyAsksRow.laid w) ∧ sizedMet enc Tryd.prog Tryd.f8 (OpenSpec.ofChange Rows.keyAsksSpec) false w args)
      (Rows.keyAsksSpec.post enc Tryd.prog Tryd.f8 false true false false) := by
  refine L0.handed_and_shaped (C := Tryd.checked) (X := fun w _ => laidMetH Tryd.prog Rows.keyAsksRow.laid w) (fun _ _ _ hh h => h.of_heap hh) own started (by kernel_rfl) Tryd.func8
    (ChangeSpec.witness_shaped (enc := enc) (C := Tryd.checked) (os := os) (X := fun w _ => laidMetH Tryd.prog Rows.keyAsksRow.laid w) false (World.laidAll Tryd.prog os Rows.keyAsksRow.laid) #[.string ByteArray.empty, .agg #[.int .i64 0, .int .i64 0, .string ByteArray.empty], .agg #[.int .i64 0, .int .i64 0]] 8 (World.laidAll_os _ _ _)
      (World.shaped_of_ZipB (by kernel_rfl) (by kernel_rfl)) (by kernel_rfl) (by kernel_rfl) (by kernel_rfl)
      (by rw [MakeChecks.laidMetH_plain _ _ _ (by kernel_rfl)]; exact laidMet_laidAll _ (by kernel_rfl) (by kernel_rfl))) ?_
  intro W base args ds gs before hval0 hW hcnd hsz0 hL hsh _
  have hsz : (DataW.weightsEach Tryd.prog (Tryd.f8.params.toList ++ Rows.keyAsksSpec.plain.varTypes Tryd.prog) (ds ++ gs)).all (· ≤ reachBytes) = true := hsz0
  have hval : ∀ (j : Nat) t v, Tryd.f8.params[j]? = some t → args[j]? = some v → Value.okWide Tryd.prog W .any base t v := hval0
  have hW' := hW
  obtain ⟨p, q, hA0, hV, rfl, hfz, hnd⟩ := hW
  have hA : DataW.TrodAll enc Tryd.prog W 0 (fun _ => true) true Tryd.f8.params.toList args.toList ds p := hA0
  rw [Tryd.params8] at hA hval hsz
  obtain ⟨v0, vs0, d0, ds0, p0, q0, hargs, rfl, rfl, h0, r0⟩ := trodAll_cons hA
  obtain ⟨v1, vs1, d1, ds1, p1, q1, rfl, rfl, rfl, h1, r1⟩ := trodAll_cons r0
  obtain ⟨v2, vs2, d2, ds2, p2, q2, rfl, rfl, rfl, h2, r2⟩ := trodAll_cons r1
  obtain ⟨rfl, rfl, rfl⟩ := trodAll_nil r2
  obtain rfl : args = #[v0, v1, v2] := by cases args; simp_all
  obtain ⟨rfl, rfl⟩ := trodVars_none hV
  obtain ⟨a0, rfl, rfl, rfl, y0⟩ := open_string Tryd.underlying9 (hval 0 9 v0 rfl rfl) h0
  have w0 : a0.size ≤ 140737488351232 := by
    have z := sized_string hsz (j := 0) (t := 9) rfl rfl
    rw [Array.length_toList] at z
    exact z
  obtain ⟨a1_0, a1_1, a1_2, rfl, rfl, rfl, wk1, wn1, y1⟩ := L0.open_value Tryd.underlying23 (by kernel_rfl) (by kernel_rfl) Tryd.underlying3 Tryd.underlying3 Tryd.underlying9 (hval 1 23 v1 rfl rfl) h1
  have w1 : a1_2.size ≤ 140737488351232 := by
    have z := L0.sized_value hsz (j := 1) (t := 23) rfl rfl Tryd.underlying23
    rw [Array.length_toList] at z
    exact z
  obtain ⟨a2_0, a2_1, rfl, rfl, rfl, w2_0, w2_1⟩ := L0.open_arr2_int Tryd.underlying56 Tryd.underlying3 (by kernel_rfl) (by kernel_rfl) (hval 2 56 v2 rfl rfl) h2
  clear hA0 hval0 hsz0 hsz
  obtain ⟨k, h⟩ := LKeyAsks.law a0 a1_0 a1_1 a1_2 a2_0 a2_1 w0 (bounds_i64 wk1) (bounds_i64 wn1) w1 (bounds_i64 w2_0) (bounds_i64 w2_1)
  refine (PB.cabinetrylaw09_KeyAsks.calls k a0 a1_0 a1_1 a1_2 a2_0 a2_1 true W h ⟨rfl⟩ ⟨Tryd.laysM143.s1_3 W hsh⟩).mono fun e W' ⟨he, bel⟩ => ?_
  subst he
  exact ⟨_, rfl, _, _, _, [], _, [], hW', trodAll_mk1 (shut_bool Tryd.underlying4 _), (trodAll_cons_mk (shut_string Tryd.underlying9 y0) (trodAll_cons_mk (L0.shut_value Tryd.underlying23 (by kernel_rfl) (by kernel_rfl) Tryd.underlying3 Tryd.underlying3 Tryd.underlying9 wk1 wn1 y1) (trodAll_cons_mk (L0.shut_arr2_int Tryd.underlying56 Tryd.underlying3 (by kernel_rfl) (by kernel_rfl) w2_0 w2_1) trodAll_mk0))), rfl, bel.frame _, fun h => by cases h⟩
theorem keyAsks_holds : Rows.KeyAsksSaid :=
  OpenClaim.holds_of_wide 8 Tryd.f8 rfl rfl rfl rfl rfl rfl rfl ⟨rfl, rfl, rfl, rfl, rfl⟩ rfl rfl rfl rfl rfl (by kernel_rfl) Tryd.func8 (by kernel_rfl)
    (of_decide_eq_true (by kernel_rfl)) (by unfold Func.isWrapper; first | (rw [if_pos (by decide +kernel)]; kernel_rfl) | (rw [if_neg (by decide +kernel)]; exact ⟨rfl, rfl⟩))
    (fun os started H enc _ => lifted os started H enc)
end Go.Proofs.YtnkejhfbkgfedaaDoor.keyAsks
namespace Go.Proofs.YtnkejhfbkgfedaaDoor
theorem keyAsks_card : Rows.KeyAsksCardSaid :=
  Claim7.holds_tied_plain_at .later [] [.data, .pinned] true (true, "3ca090072f74d9576caed6164917b7ff82063396b7cf458c4b58db08244bc750") false
    keyAsks.keyAsks_holds (fun _ h => by cases h) (by kernel_rfl) (fun _ h => by cases h) keyAsks_row_tie rfl ⟨rfl, rfl⟩ (by kernel_rfl) rfl
    (fun f fn hf hfn => by
      obtain rfl : f = 8 := Option.some.inj ((show Tryd.prog.funcNamed "cabinetry/cabinetrylaw09.KeyAsks" = some 8 by kernel_rfl).symm.trans hf) |>.symm
      obtain rfl : fn = Tryd.f8 := (Option.some.inj (Tryd.func8.symm.trans hfn)).symm
      exact ⟨by kernel_rfl, fun j t ht => by
        rw [Tryd.params8] at ht
        have hm : t ∈ [9, 23, 56] := by simpa using Array.mem_of_getElem? ht
        have hall : ([9, 23, 56].all fun u => !Tryd.prog.wantsStandIn u) = true := by kernel_rfl
        exact (show Tryd.prog.wantsStandIn t = false by simpa using List.all_eq_true.1 hall t hm)⟩)
    (by kernel_rfl)
#print axioms keyAsks_card
end Go.Proofs.YtnkejhfbkgfedaaDoor
