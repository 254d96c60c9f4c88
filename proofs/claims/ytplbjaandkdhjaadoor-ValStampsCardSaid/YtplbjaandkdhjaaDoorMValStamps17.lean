/-
  ValStamps of package cabinetry/cabinetrylaw01: for every input the call returns true, and each argument reads afterwards as it read before. Conditions: the package-level variables that the row lists (of unicode/utf8) hold what the program's text lays, which the card ties; nothing else.
-/
-- Written by a program of this session (wip/merge.py): the texts of this claim, joined.
import Derived.Test.YtplbjaandkdhjaaDoorRows
import Derived.Test.YtplbjaandkdhjaaDoorCards
import Derived.Test.YtplbjaandkdhjaaDoorTie
import Derived.WalkKit
import Derived.ProofKit
import Derived.OpenShut
import Derived.ShutString
import Derived.ChangeOld
import Derived.Below
import Derived.SizedLaws
import Derived.LaidMore
import Derived.Lay
import Derived.SevenTiedAt
import Derived.Stop.Joined
import Derived.Test.YtplbjaandkdhjaaDoorMValStamps0
import Derived.Test.YtplbjaandkdhjaaDoorMValStamps1
import Derived.Test.YtplbjaandkdhjaaDoorMValStamps2
import Derived.Test.YtplbjaandkdhjaaDoorMValStamps3
import Derived.Test.YtplbjaandkdhjaaDoorMValStamps4
import Derived.Test.YtplbjaandkdhjaaDoorMValStamps5
import Derived.Test.YtplbjaandkdhjaaDoorMValStamps6
import Derived.Test.YtplbjaandkdhjaaDoorMValStamps7
import Derived.Test.YtplbjaandkdhjaaDoorMValStamps8
import Derived.Test.YtplbjaandkdhjaaDoorMValStamps9
import Derived.Test.YtplbjaandkdhjaaDoorMValStamps10
import Derived.Test.YtplbjaandkdhjaaDoorMValStamps11
import Derived.Test.YtplbjaandkdhjaaDoorMValStamps12
import Derived.Test.YtplbjaandkdhjaaDoorMValStamps13
import Derived.Test.YtplbjaandkdhjaaDoorMValStamps14
import Derived.Test.YtplbjaandkdhjaaDoorMValStamps15
import Derived.Test.YtplbjaandkdhjaaDoorMValStamps16
namespace Go.Proofs.YtplbjaandkdhjaaDoor.PA
end Go.Proofs.YtplbjaandkdhjaaDoor.PA
namespace Go.Proofs.YtplbjaandkdhjaaDoor.PB
end Go.Proofs.YtplbjaandkdhjaaDoor.PB
namespace Go.Proofs.YtplbjaandkdhjaaDoor.PC
end Go.Proofs.YtplbjaandkdhjaaDoor.PC
namespace Go.Proofs.YtplbjaandkdhjaaDoor.H1
end Go.Proofs.YtplbjaandkdhjaaDoor.H1
namespace Go.Proofs.YtplbjaandkdhjaaDoor.L1
end Go.Proofs.YtplbjaandkdhjaaDoor.L1
namespace Go.Proofs.YtplbjaandkdhjaaDoor.LValStamps
open Go.RowKit Go.Proofs.YtplbjaandkdhjaaDoorW.PrintWords Go.Proofs.YtplbjaandkdhjaaDoor.PA Go.Proofs.YtplbjaandkdhjaaDoor.PB Go.Proofs.YtplbjaandkdhjaaDoor.PC Go.Proofs.YtplbjaandkdhjaaDoor.H1 Go.Proofs.YtplbjaandkdhjaaDoor.L1
set_option linter.unusedVariables false
theorem law (a0 : ByteArray) (a1 : Int) (h0 : a0.size ≤ 140737488351232) (h1 : -9223372036854775808 ≤ a1 ∧ a1 ≤ 9223372036854775807) :
    ∃ k, cabinetrylaw01_ValStamps.f k a0 a1 = some true := by
  refine ⟨70001, ?_⟩
  unfold cabinetrylaw01_ValStamps.f
  by_cases hs : (a0.size : Int) > 20000
  · rw [if_pos hs, known_ev 70001 (by decide)]
    rfl
  · rw [if_neg hs, unstamp_f a0 (by omega) (by decide), Option.bind_some, refUnstamp_f a0 (by omega) (by decide), Option.bind_some]
    simp only [if_true]
    rw [bne_self_eq_false, show (70001 : Nat) = 70000 + 1 from rfl]
    simp only [cabinetrylaw01_ValStamps.j0]
    rw [if_neg (by decide), known_ev 70000 (by decide)]
    rcases day_ways a1 with h | h | ⟨y, m, d, h⟩
    · rw [stamp_no h, Option.bind_some]
      rfl
    · subst h
      have e : unstampV (⟨#[32, 32, 32, 32, 32, 32, 32, 32]⟩ : ByteArray) = (0, true) := by
        unfold unstampV
        rw [if_pos (by rw [ByteArray.toList_eq])]
      rw [stamp_zero, Option.bind_some, if_pos rfl, unstamp_f _ (by decide) (by decide), Option.bind_some, e]
      rfl
    · have hl : (⟨(stampL y m d).toArray⟩ : ByteArray).size ≤ 20000 := by
        obtain ⟨_, _, l1, l2, l3⟩ := date_pads h (k := 17) (by omega)
        rw [ba_size]; unfold stampL; rw [List.length_append, List.length_append]; omega
      rw [stamp_is h 70000 (by decide), Option.bind_some, if_pos rfl, unstamp_f _ hl (by decide), Option.bind_some, unstamp_stamp h, if_pos rfl, if_pos rfl]
      rfl
end Go.Proofs.YtplbjaandkdhjaaDoor.LValStamps
namespace Go.Proofs.YtplbjaandkdhjaaDoor.valStamps
open Go.ChangeShapes Go.WideShapes Go.ChangeAt Go.RowKit
open Go.ChangeMaps (open_string shut_string)
set_option linter.unusedVariables false
theorem own : ownKnob Tryd.prog.godebug = none := by kernel_rfl
set_option maxRecDepth 100000 in
theorem lifted (os : Os) (started : os.Started) (H : Type) (enc : TypeId × Value → H) :
    ReturnsInHanded {} Tryd.checked os 15 .any (fun w args => (Rows.valStampsSpec.pre enc Tryd.prog Tryd.f15 Rows.valStampsRow.domain false w args ∧ laidMetH Tryd.prog Rows.valStampsRow.laid w) ∧ sizedMet enc Tryd.prog Tryd.f15 (OpenSpec.ofChange Rows.valStampsSpec) false w args)
      (Rows.valStampsSpec.post enc Tryd.prog Tryd.f15 false true false false) := by
  refine returnsInHanded_of_change_and (C := Tryd.checked) (X := fun w _ => laidMetH Tryd.prog Rows.valStampsRow.laid w) (fun _ _ _ hh h => h.of_heap hh) own started (by kernel_rfl) Tryd.func15
    (ChangeSpec.witness_shaped (enc := enc) (C := Tryd.checked) (os := os) (X := fun w _ => laidMetH Tryd.prog Rows.valStampsRow.laid w) false (World.laidAll Tryd.prog os Rows.valStampsRow.laid) #[.string ByteArray.empty, .int .i64 0] 8 (World.laidAll_os _ _ _)
      (World.shaped_of_ZipB (by kernel_rfl) (by kernel_rfl)) (by kernel_rfl) (by kernel_rfl) (by kernel_rfl)
      (by rw [MakeChecks.laidMetH_plain _ _ _ (by kernel_rfl)]; exact laidMet_laidAll _ (by kernel_rfl) (by kernel_rfl))) ?_
  intro W base args ds gs before hval0 hW hcnd hsz0 hL _
  have hsz : (DataW.weightsEach Tryd.prog (Tryd.f15.params.toList ++ Rows.valStampsSpec.plain.varTypes Tryd.prog) (ds ++ gs)).all (· ≤ reachBytes) = true := hsz0
  have hval : ∀ (j : Nat) t v, Tryd.f15.params[j]? = some t → args[j]? = some v → Value.okWide Tryd.prog W .any base t v := hval0
  have hW' := hW
  obtain ⟨p, q, hA0, hV, rfl, hfz, hnd⟩ := hW
  have hA : DataW.TrodAll enc Tryd.prog W 0 (fun _ => true) true Tryd.f15.params.toList args.toList ds p := hA0
  rw [Tryd.params15] at hA hval hsz
  obtain ⟨v0, vs0, d0, ds0, p0, q0, hargs, rfl, rfl, h0, r0⟩ := trodAll_cons hA
  obtain ⟨v1, vs1, d1, ds1, p1, q1, rfl, rfl, rfl, h1, r1⟩ := trodAll_cons r0
  obtain ⟨rfl, rfl, rfl⟩ := trodAll_nil r1
  obtain rfl : args = #[v0, v1] := by cases args; simp_all
  obtain ⟨rfl, rfl⟩ := trodVars_none hV
  obtain ⟨a0, rfl, rfl, rfl, y0⟩ := open_string Tryd.underlying9 (hval 0 9 v0 rfl rfl) h0
  have w0 : a0.size ≤ 140737488351232 := by
    have z := sized_string hsz (j := 0) (t := 9) rfl rfl
    rw [Array.length_toList] at z
    exact z
  obtain ⟨a1, rfl, rfl, rfl, w1⟩ := open_int Tryd.underlying3 (hval 1 3 v1 rfl rfl) h1
  clear hA0 hval0 hsz0 hsz
  obtain ⟨k, h⟩ := LValStamps.law a0 a1 w0 (bounds_i64 w1)
  refine (PC.cabinetrylaw01_ValStamps.calls k a0 a1 true W h ⟨rfl⟩).mono fun e W' ⟨he, bel⟩ => ?_
  subst he
  exact ⟨_, rfl, _, _, _, [], _, [], hW', trodAll_mk1 (shut_bool Tryd.underlying4 _), (trodAll_cons_mk (shut_string Tryd.underlying9 y0) (trodAll_cons_mk (shut_int Tryd.underlying3 w1) trodAll_mk0)), rfl, bel.frame _, fun h => by cases h⟩
theorem valStamps_holds : Rows.ValStampsSaid :=
  OpenClaim.holds_of_wide 15 Tryd.f15 rfl rfl rfl rfl rfl rfl rfl ⟨rfl, rfl, rfl, rfl, rfl⟩ rfl rfl rfl rfl rfl (by kernel_rfl) Tryd.func15 (by kernel_rfl)
    (of_decide_eq_true (by kernel_rfl)) (by unfold Func.isWrapper; first | (rw [if_pos (by decide +kernel)]; kernel_rfl) | (rw [if_neg (by decide +kernel)]; exact ⟨rfl, rfl⟩))
    (fun os started H enc _ => lifted os started H enc)
end Go.Proofs.YtplbjaandkdhjaaDoor.valStamps
namespace Go.Proofs.YtplbjaandkdhjaaDoor
theorem valStamps_card : Rows.ValStampsCardSaid :=
  Claim7.holds_tied_plain_at .later [] [.data, .pinned] true (true, "b0e2575192d11b15c47babb91c45279908020743339f46d5cad88154cf757604") false
    valStamps.valStamps_holds (fun _ h => by cases h) (by kernel_rfl) (fun _ h => by cases h) valStamps_row_tie rfl ⟨rfl, rfl⟩ (by kernel_rfl) rfl
    (fun f fn hf hfn => by
      obtain rfl : f = 15 := Option.some.inj ((show Tryd.prog.funcNamed "cabinetry/cabinetrylaw01.ValStamps" = some 15 by kernel_rfl).symm.trans hf) |>.symm
      obtain rfl : fn = Tryd.f15 := (Option.some.inj (Tryd.func15.symm.trans hfn)).symm
      exact ⟨by kernel_rfl, fun j t ht => by
        rw [Tryd.params15] at ht
        have hm : t ∈ [9, 3] := by simpa using Array.mem_of_getElem? ht
        have hall : ([9, 3].all fun u => !Tryd.prog.wantsStandIn u) = true := by kernel_rfl
        exact (show Tryd.prog.wantsStandIn t = false by simpa using List.all_eq_true.1 hall t hm)⟩)
    (by kernel_rfl)
#print axioms valStamps_card
end Go.Proofs.YtplbjaandkdhjaaDoor
