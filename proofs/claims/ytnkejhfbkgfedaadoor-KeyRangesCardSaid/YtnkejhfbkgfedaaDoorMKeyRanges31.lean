/-
  KeyRanges of package cabinetry/cabinetrylaw09: for every input the call returns true, and each argument reads afterwards as it read before. Conditions: the package-level variables that the row lists (of unicode/utf8) hold what the program's text lays, which the card ties; nothing else.
-/
-- Written by a program of this session (wip/merge.py): the texts of this claim, joined.
import Derived.Test.YtnkejhfbkgfedaaDoorRows
import Derived.Test.YtnkejhfbkgfedaaDoorCards
import Derived.Test.YtnkejhfbkgfedaaDoorTie
import Derived.WalkKit
import Derived.ProofKit
import Derived.OpenShut
import Derived.ShutString
import Derived.ChangeOld
import Derived.Below
import Derived.SizedLaws
import Derived.LaidMore
import Derived.Lay
import Derived.SevenTiedAt
import Derived.Stop.Joined
import Derived.Test.YtnkejhfbkgfedaaDoorMKeyRanges0
import Derived.Test.YtnkejhfbkgfedaaDoorMKeyRanges1
import Derived.Test.YtnkejhfbkgfedaaDoorMKeyRanges2
import Derived.Test.YtnkejhfbkgfedaaDoorMKeyRanges3
import Derived.Test.YtnkejhfbkgfedaaDoorMKeyRanges4
import Derived.Test.YtnkejhfbkgfedaaDoorMKeyRanges5
import Derived.Test.YtnkejhfbkgfedaaDoorMKeyRanges6
import Derived.Test.YtnkejhfbkgfedaaDoorMKeyRanges7
import Derived.Test.YtnkejhfbkgfedaaDoorMKeyRanges8
import Derived.Test.YtnkejhfbkgfedaaDoorMKeyRanges9
import Derived.Test.YtnkejhfbkgfedaaDoorMKeyRanges10
import Derived.Test.YtnkejhfbkgfedaaDoorMKeyRanges11
import Derived.Test.YtnkejhfbkgfedaaDoorMKeyRanges12
import Derived.Test.YtnkejhfbkgfedaaDoorMKeyRanges13
import Derived.Test.YtnkejhfbkgfedaaDoorMKeyRanges14
import Derived.Test.YtnkejhfbkgfedaaDoorMKeyRanges15
import Derived.Test.YtnkejhfbkgfedaaDoorMKeyRanges16
import Derived.Test.YtnkejhfbkgfedaaDoorMKeyRanges17
import Derived.Test.YtnkejhfbkgfedaaDoorMKeyRanges18
import Derived.Test.YtnkejhfbkgfedaaDoorMKeyRanges19
import Derived.Test.YtnkejhfbkgfedaaDoorMKeyRanges20
import Derived.Test.YtnkejhfbkgfedaaDoorMKeyRanges21
import Derived.Test.YtnkejhfbkgfedaaDoorMKeyRanges22
import Derived.Test.YtnkejhfbkgfedaaDoorMKeyRanges23
import Derived.Test.YtnkejhfbkgfedaaDoorMKeyRanges24
import Derived.Test.YtnkejhfbkgfedaaDoorMKeyRanges25
import Derived.Test.YtnkejhfbkgfedaaDoorMKeyRanges26
import Derived.Test.YtnkejhfbkgfedaaDoorMKeyRanges27
import Derived.Test.YtnkejhfbkgfedaaDoorMKeyRanges28
import Derived.Test.YtnkejhfbkgfedaaDoorMKeyRanges29
import Derived.Test.YtnkejhfbkgfedaaDoorMKeyRanges30
namespace Go.Proofs.YtnkejhfbkgfedaaDoor.PA
end Go.Proofs.YtnkejhfbkgfedaaDoor.PA
namespace Go.Proofs.YtnkejhfbkgfedaaDoor.PB
end Go.Proofs.YtnkejhfbkgfedaaDoor.PB
namespace Go.Proofs.YtnkejhfbkgfedaaDoor.PC
end Go.Proofs.YtnkejhfbkgfedaaDoor.PC
namespace Go.Proofs.YtnkejhfbkgfedaaDoor.H1
end Go.Proofs.YtnkejhfbkgfedaaDoor.H1
namespace Go.Proofs.YtnkejhfbkgfedaaDoor.L1
end Go.Proofs.YtnkejhfbkgfedaaDoor.L1
namespace Go.Proofs.YtnkejhfbkgfedaaDoor.LKeyRanges
open Go.RowKit Go.Proofs.YtnkejhfbkgfedaaDoorW.PrintWords Go.Proofs.YtnkejhfbkgfedaaDoor.PA Go.Proofs.YtnkejhfbkgfedaaDoor.H1 Go.Proofs.YtnkejhfbkgfedaaDoor.PB Go.Proofs.YtnkejhfbkgfedaaDoor.L1
set_option linter.unusedVariables false
theorem inside_f (k : Nat) (hk : 1000 ≤ k) (K : List UInt8) (hK : K.length ≤ 400) (B : List UInt8 × List UInt8) : ∃ b, cabinetrylaw09_inside.f k ⟨K.toArray⟩ (baP B).1 (baP B).2 = some b ∧ (b = true ↔ inS K B) := by
  unfold cabinetrylaw09_inside.f baP
  rw [compareTexts_f _ _ (by rw [ba_size]; omega) k (by rw [ba_size]; omega), ba_mk, ba_mk]
  simp only [Option.bind_some, ByteArray.toList_eq]
  unfold inS Up
  by_cases h1 : Lib.compareBytes K B.1 ≥ 0
  · rw [if_pos h1]
    by_cases h2 : B.2 = []
    · rw [if_pos (by simpa using h2)]
      exact ⟨true, rfl, by simp [h2]; omega⟩
    · rw [if_neg (by simpa using h2), compareTexts_f _ _ (by rw [ba_size]; omega) k (by rw [ba_size]; omega), ba_mk, ba_mk]
      refine ⟨_, rfl, ?_⟩
      rw [decide_eq_true_eq]
      exact ⟨fun h => ⟨h1, Or.inr h⟩, fun h => h.2.resolve_left h2⟩
  · rw [if_neg h1]
    refine ⟨false, rfl, ?_⟩
    exact ⟨fun h => absurd h (by decide), fun h => absurd h.1 h1⟩
theorem equal_f (k : Nat) (hk : 50000 ≤ k) (t s : ByteArray) (ht : t.size ≤ 40000) (hs : s.size ≤ 40000) (ex : Bool) : ∃ b, cabinetryref01_Equal.f k t s ex = some b ∧ (b = true ↔ (if ex = true then Lib.trimRightS t.data.toList [32] = Lib.trimRightS s.data.toList [32] else s.data.toList <+: t.data.toList)) := by
  unfold cabinetryref01_Equal.f
  cases ex
  · rw [if_neg (by decide), if_neg (by decide), begins_f]
    refine ⟨_, rfl, ?_⟩
    exact List.isPrefixOf_iff_prefix
  · rw [if_pos rfl, if_pos rfl, bare_f t (by omega) k (by omega), bare_f s (by omega) k (by omega)]
    refine ⟨_, rfl, ?_⟩
    simp only [ByteArray.toList_eq, beq_iff_eq]
theorem holds_f (k : Nat) (hk : 50000 ≤ k) {a n m : Int} {s t : ByteArray} (hv : validV a n s = 0) (hw : validV a m t = 0) (ha : a ≠ 0) (op : ByteArray) (ex : Bool) :
    ∃ b, cabinetrylaw09_holds.f k a m t op a n s ex = some b ∧ (b = true ↔ Hd op.data.toList a t.data.toList s.data.toList (qV a m t.data.toList n s.data.toList) ex) := by
  have hs := (valid_cases hv).1
  have ht := (valid_cases hw).1
  have hcv : (cmpV a m t a n s).2 = 0 := (cmpV_ok _ _ _ _ _ _).2 ⟨hw, hv, rfl, ha⟩
  have hq : (cmpV a m t a n s).1 = qV a m t.data.toList n s.data.toList := by
    rw [cmpV_val hcv]
    unfold qV
    split <;> rfl
  unfold cabinetrylaw09_holds.f
  rw [refCompare_f k (by omega)]
  simp only [Option.bind_some, ByteArray.toList_eq]
  rw [hq]
  unfold Hd
  by_cases h1 : op.data.toList = [61]
  · rw [if_pos h1, if_pos h1]
    by_cases h4 : a = 4
    · rw [if_pos h4, if_pos h4]
      obtain ⟨b, hb, hb2⟩ := equal_f k hk t s (by omega) (by omega) ex
      rw [hb]
      exact ⟨b, rfl, hb2⟩
    · rw [if_neg h4, if_neg h4]
      exact ⟨_, rfl, by rw [beq_iff_eq]⟩
  · rw [if_neg h1, if_neg h1]
    by_cases h2 : op.data.toList = [61, 61]
    · rw [if_pos h2, if_pos h2]
      exact ⟨_, rfl, by rw [beq_iff_eq]⟩
    · rw [if_neg h2, if_neg h2]
      by_cases h3 : op.data.toList = [60]
      · rw [if_pos h3, if_pos h3]
        exact ⟨_, rfl, by rw [decide_eq_true_eq]⟩
      · rw [if_neg h3, if_neg h3]
        by_cases h4 : op.data.toList = [60, 61]
        · rw [if_pos h4, if_pos h4]
          exact ⟨_, rfl, by rw [decide_eq_true_eq]⟩
        · rw [if_neg h4, if_neg h4]
          by_cases h5 : op.data.toList = [62]
          · rw [if_pos h5, if_pos h5]
            exact ⟨_, rfl, by rw [decide_eq_true_eq]⟩
          · rw [if_neg h5, if_neg h5]
            exact ⟨_, rfl, by rw [decide_eq_true_eq]⟩
def sureV (op : List UInt8) (a : Int) (s : ByteArray) (ex : Bool) (c : Int) : Bool := if c = 0 then (if a = 4 then (if s.size < 48 then (if op = [61] then !ex else true) else false) else true) else false
theorem j2_true (k : Nat) (hk : 201 ≤ k) (p c : Int) (ex d : Bool) (op lo hi : ByteArray) (su : Bool) (a n : Int) (s : ByteArray) (b m : Int) (t : ByteArray) : cabinetrylaw09_KeyRanges.j2 k p c ex d op lo hi su true a n s b m t = some true := by
  obtain ⟨k, rfl⟩ : ∃ m, k = m + 1 := ⟨k - 1, by omega⟩
  simp only [cabinetrylaw09_KeyRanges.j2]
  rw [if_pos trivial, known_ev k (by omega)]
  rfl
theorem j2_f (k : Nat) (hk : 60000 ≤ k) (p c : Int) (hp : pageOk p c) (ex d : Bool) (op : ByteArray) (ho : op.data.toList ∈ opsL) {a n m : Int} {s t : ByteArray} (hv : validV a n s = 0) (hw : validV a m t = 0) (ha : a ≠ 0) :
    cabinetrylaw09_KeyRanges.j2 k p c ex d op (baP (if d = true then turnL (boundsL op.data.toList a n s.data.toList ex p c) else boundsL op.data.toList a n s.data.toList ex p c)).1 (baP (if d = true then turnL (boundsL op.data.toList a n s.data.toList ex p c) else boundsL op.data.toList a n s.data.toList ex p c)).2 (sureV op.data.toList a s ex c) false a n s a m t = some true := by
  obtain ⟨k, rfl⟩ : ∃ m, k = m + 1 := ⟨k - 1, by omega⟩
  simp only [cabinetrylaw09_KeyRanges.j2]
  have hl := keyB_len a m t.data.toList p c
  obtain ⟨g1, g2⟩ := bounds_G hv hw ha p c op.data.toList ex
  have hin := inside_f k (by omega) (negL d (keyB a m t.data.toList p c)) (by rw [negL_len]; omega) (if d = true then turnL (boundsL op.data.toList a n s.data.toList ex p c) else boundsL op.data.toList a n s.data.toList ex p c)
  have hS : inS (negL d (keyB a m t.data.toList p c)) (if d = true then turnL (boundsL op.data.toList a n s.data.toList ex p c) else boundsL op.data.toList a n s.data.toList ex p c) ↔ inS (keyB a m t.data.toList p c) (boundsL op.data.toList a n s.data.toList ex p c) := by
    cases d
    · rw [if_neg (by decide)]; unfold negL; rw [if_neg (by decide)]
    · rw [if_pos rfl]; unfold negL; rw [if_pos rfl]; exact inS_turn g1 g2
  rw [hS] at hin
  obtain ⟨i, hi, hi2⟩ := hin
  obtain ⟨o, hh, hh2⟩ := holds_f k (by omega) hv hw ha op ex
  rw [if_neg (by decide), refKeyOf_f k (by omega) hw p c hp d]
  simp only [Option.bind_some]
  rw [hi, hh]
  simp only [Option.bind_some]
  rw [known_ev k (by omega)]
  simp only [Option.bind_some, ite_self]
  cases o with
  | true =>
    have : i = true := hi2.2 (bounds_in hv hw ha p c _ ho ex (hh2.1 rfl))
    subst this
    rfl
  | false =>
    rw [if_neg (by decide)]
    cases i with
    | false => rw [if_neg (by decide)]
    | true =>
      rw [if_pos rfl]
      by_cases hsu : sureV op.data.toList a s ex c = true
      · exfalso
        have hc : c = 0 := by
          unfold sureV at hsu
          split at hsu
          · assumption
          · cases hsu
        subst hc
        have hsz : s.data.toList.length = s.size := ba_len s
        have := hh2.2 (bounds_only hv hw ha p _ ho ex (fun h4 => by
          unfold sureV at hsu
          rw [if_pos rfl, if_pos h4] at hsu
          by_cases h48 : s.size < 48
          · rw [if_pos h48] at hsu
            refine ⟨by omega, fun h61 => ?_⟩
            rw [if_pos h61] at hsu
            simpa using hsu
          · rw [if_neg h48] at hsu
            cases hsu) (hi2.1 rfl))
        cases this
      · rw [if_neg hsu]
theorem op_at (i : Int) (h0 : 0 ≤ i) (h1 : i < 6) : ∃ op : ByteArray, rdOf ByteArray.empty [(⟨#[61]⟩ : ByteArray), (⟨#[61, 61]⟩ : ByteArray), (⟨#[60]⟩ : ByteArray), (⟨#[60, 61]⟩ : ByteArray), (⟨#[62]⟩ : ByteArray), (⟨#[62, 61]⟩ : ByteArray)] i = op ∧ op.data.toList ∈ opsL ∧ op.size ≤ 2 := by
  have e : i = 0 ∨ i = 1 ∨ i = 2 ∨ i = 3 ∨ i = 4 ∨ i = 5 := by omega
  rcases e with rfl | rfl | rfl | rfl | rfl | rfl
  · exact ⟨⟨#[61]⟩, rfl, by decide, by decide⟩
  · exact ⟨⟨#[61, 61]⟩, rfl, by decide, by decide⟩
  · exact ⟨⟨#[60]⟩, rfl, by decide, by decide⟩
  · exact ⟨⟨#[60, 61]⟩, rfl, by decide, by decide⟩
  · exact ⟨⟨#[62]⟩, rfl, by decide, by decide⟩
  · exact ⟨⟨#[62, 61]⟩, rfl, by decide, by decide⟩
theorem law (a n : Int) (s : ByteArray) (b m : Int) (t : ByteArray) (r0 r1 r2 r3 : Int) (_ : -9223372036854775808 ≤ a ∧ a ≤ 9223372036854775807) (_ : -9223372036854775808 ≤ n ∧ n ≤ 9223372036854775807) (hs : s.size ≤ 140737488351232)
    (_ : -9223372036854775808 ≤ b ∧ b ≤ 9223372036854775807) (_ : -9223372036854775808 ≤ m ∧ m ≤ 9223372036854775807) (ht : t.size ≤ 140737488351232)
    (h0 : -9223372036854775808 ≤ r0 ∧ r0 ≤ 9223372036854775807) (h1 : -9223372036854775808 ≤ r1 ∧ r1 ≤ 9223372036854775807) (h2 : -9223372036854775808 ≤ r2 ∧ r2 ≤ 9223372036854775807) (h3 : -9223372036854775808 ≤ r3 ∧ r3 ≤ 9223372036854775807) :
    ∃ k, cabinetrylaw09_KeyRanges.f k a n s b m t r0 r1 r2 r3 = some true := by
  refine ⟨90000, ?_⟩
  unfold cabinetrylaw09_KeyRanges.f
  rw [over2_f 90000 (by decide) a n s b m t hs ht, known_ev 90000 (by decide)]
  simp only [Option.bind_some]
  by_cases hov : 40000 < s.size + t.size + 2
  · rw [if_pos (decide_eq_true hov)]
  · rw [if_neg (by rw [decide_eq_false hov]; decide)]
    obtain ⟨p, c, hp, hok⟩ := page_f r1 h1
    have hasked := (askedV_ok p c).2 hok
    have hm : -5 ≤ Int.tmod r0 6 ∧ Int.tmod r0 6 ≤ 5 := by
      have x := Int.tmod_lt_of_pos r0 (show (0 : Int) < 6 by decide)
      have y := Int.lt_tmod_of_pos r0 (show (0 : Int) < 6 by decide)
      omega
    have hi : 0 ≤ Int.tmod (wrap64 (Int.tmod r0 6 + 6)) 6 ∧ Int.tmod (wrap64 (Int.tmod r0 6 + 6)) 6 < 6 := by
      generalize Int.tmod r0 6 = q at hm
      rw [w64 (x := q + 6) (by omega) (by omega), Int.tmod_eq_emod_of_nonneg (by omega)]
      omega
    generalize Int.tmod (wrap64 (Int.tmod r0 6 + 6)) 6 = i at hi
    obtain ⟨op, hop, hmem, hsz⟩ := op_at i hi.1 hi.2
    rw [hp]
    unfold cabinetrylaw09_operators.f
    simp only [Option.bind_some]
    rw [hop, if_pos hi.1, if_pos (by simp only [List.length_cons, List.length_nil]; omega), key_Range_f 90000 (by decide) op (by omega), refValidate_f]
    simp only [Option.bind_some]
    generalize (r2 == 1) = ex
    generalize (r3 == 1) = d
    unfold rangeV
    by_cases hv : validV a n s = 0
    · rw [if_pos hv, if_pos hasked, if_pos hmem, if_pos hv]
      by_cases ha : a = 0
      · rw [if_pos ha, if_pos ha, if_pos rfl]
      · rw [if_neg ha, if_neg ha, if_pos rfl]
        have e : (if c = 0 then (if a = 4 then (if s.size < 48 then (if op.data.toList = [61] then !ex else true) else false) else true) else false) = sureV op.data.toList a s ex c := rfl
        rw [e, ByteArray.toList_eq]
        have fin : ∀ must, must = sureV op.data.toList a s ex c → cabinetrylaw09_KeyRanges.j0 90000 p c ex d op (baP (if d = true then turnL (boundsL op.data.toList a n s.data.toList ex p c) else boundsL op.data.toList a n s.data.toList ex p c)).1 (baP (if d = true then turnL (boundsL op.data.toList a n s.data.toList ex p c) else boundsL op.data.toList a n s.data.toList ex p c)).2 (sureV op.data.toList a s ex c) must a n s b m t = some true := by
          intro must hmust
          have j1 : cabinetrylaw09_KeyRanges.j1 89999 p c ex d op (baP (if d = true then turnL (boundsL op.data.toList a n s.data.toList ex p c) else boundsL op.data.toList a n s.data.toList ex p c)).1 (baP (if d = true then turnL (boundsL op.data.toList a n s.data.toList ex p c) else boundsL op.data.toList a n s.data.toList ex p c)).2 (sureV op.data.toList a s ex c) false a n s b m t = some true := by
            simp only [cabinetrylaw09_KeyRanges.j1]
            rw [if_neg (by decide), refValidate_f]
            simp only [Option.bind_some]
            by_cases hw : validV b m t = 0
            · rw [if_pos hw]
              by_cases hab : b = a
              · subst hab
                rw [show (b != b) = false from bne_self_eq_false b]
                exact j2_f 89998 (by decide) p c hok ex d op hmem hv hw ha
              · rw [show (b != a) = true from bne_iff_ne.2 hab]
                exact j2_true _ (by decide) _ _ _ _ _ _ _ _ _ _ _ _ _ _
            · rw [if_neg hw]
              exact j2_true _ (by decide) _ _ _ _ _ _ _ _ _ _ _ _ _ _
          simp only [cabinetrylaw09_KeyRanges.j0]
          cases must
          · rw [if_neg (by decide)]; exact j1
          · rw [if_pos rfl, ← hmust]; rw [← hmust] at j1; exact j1
        unfold sureV at fin ⊢
        by_cases hc : c = 0
        · rw [if_pos hc] at fin ⊢
          rw [if_pos hc]
          by_cases h4 : a = 4
          · rw [if_pos h4] at fin ⊢
            rw [if_pos h4]
            by_cases h48 : s.size < 48
            · rw [if_pos h48] at fin ⊢
              rw [if_pos (by omega)]
              by_cases h61 : op.data.toList = [61]
              · rw [if_pos h61] at fin ⊢
                rw [if_pos h61]
                exact fin _ rfl
              · rw [if_neg h61] at fin ⊢
                rw [if_neg h61]
                exact fin _ rfl
            · rw [if_neg h48] at fin ⊢
              rw [if_neg (by omega)]
              exact fin _ rfl
          · rw [if_neg h4] at fin ⊢
            rw [if_neg h4]
            exact fin _ rfl
        · rw [if_neg hc] at fin ⊢
          rw [if_neg hc]
          exact fin _ rfl
    · rw [if_neg hv, if_neg hv, if_pos rfl]
end Go.Proofs.YtnkejhfbkgfedaaDoor.LKeyRanges
namespace Go.Proofs.YtnkejhfbkgfedaaDoor.keyRanges
open Go.ChangeShapes Go.WideShapes Go.ChangeAt Go.RowKit
open Go.ChangeMaps (open_string shut_string)
set_option linter.unusedVariables false
theorem own : ownKnob Tryd.prog.godebug = none := by kernel_rfl
set_option maxRecDepth 100000 in
theorem lifted (os : Os) (started : os.Started) (H : Type) (enc : TypeId × Value → H) :
    ReturnsInHanded {} Tryd.checked os 5 .any (fun w args => (Rows.keyRangesSpec.pre enc Tryd.prog Tryd.f5 Rows.keyRangesRow.domain false w args ∧ laidMetH Tryd.prog Rows.keyRangesRow.laid w) ∧ sizedMet enc Tryd.prog Tryd.f5 (OpenSpec.ofChange Rows.keyRangesSpec) false w args)
      (Rows.keyRangesSpec.post enc Tryd.prog Tryd.f5 false true false false) := by
  refine L0.handed_and_shaped (C := Tryd.checked) (X := fun w _ => laidMetH Tryd.prog Rows.keyRangesRow.laid w) (fun _ _ _ hh h => h.of_heap hh) own started (by kernel_rfl) Tryd.func5
    (ChangeSpec.witness_shaped (enc := enc) (C := Tryd.checked) (os := os) (X := fun w _ => laidMetH Tryd.prog Rows.keyRangesRow.laid w) false (World.laidAll Tryd.prog os Rows.keyRangesRow.laid) #[.agg #[.int .i64 0, .int .i64 0, .string ByteArray.empty], .agg #[.int .i64 0, .int .i64 0, .string ByteArray.empty], .agg #[.int .i64 0, .int .i64 0, .int .i64 0, .int .i64 0]] 8 (World.laidAll_os _ _ _)
      (World.shaped_of_ZipB (by kernel_rfl) (by kernel_rfl)) (by kernel_rfl) (by kernel_rfl) (by kernel_rfl)
      (by rw [MakeChecks.laidMetH_plain _ _ _ (by kernel_rfl)]; exact laidMet_laidAll _ (by kernel_rfl) (by kernel_rfl))) ?_
  intro W base args ds gs before hval0 hW hcnd hsz0 hL hsh _
  have hsz : (DataW.weightsEach Tryd.prog (Tryd.f5.params.toList ++ Rows.keyRangesSpec.plain.varTypes Tryd.prog) (ds ++ gs)).all (· ≤ reachBytes) = true := hsz0
  have hval : ∀ (j : Nat) t v, Tryd.f5.params[j]? = some t → args[j]? = some v → Value.okWide Tryd.prog W .any base t v := hval0
  have hW' := hW
  obtain ⟨p, q, hA0, hV, rfl, hfz, hnd⟩ := hW
  have hA : DataW.TrodAll enc Tryd.prog W 0 (fun _ => true) true Tryd.f5.params.toList args.toList ds p := hA0
  rw [Tryd.params5] at hA hval hsz
  obtain ⟨v0, vs0, d0, ds0, p0, q0, hargs, rfl, rfl, h0, r0⟩ := trodAll_cons hA
  obtain ⟨v1, vs1, d1, ds1, p1, q1, rfl, rfl, rfl, h1, r1⟩ := trodAll_cons r0
  obtain ⟨v2, vs2, d2, ds2, p2, q2, rfl, rfl, rfl, h2, r2⟩ := trodAll_cons r1
  obtain ⟨rfl, rfl, rfl⟩ := trodAll_nil r2
  obtain rfl : args = #[v0, v1, v2] := by cases args; simp_all
  obtain ⟨rfl, rfl⟩ := trodVars_none hV
  obtain ⟨a0_0, a0_1, a0_2, rfl, rfl, rfl, wk0, wn0, y0⟩ := L0.open_value Tryd.underlying23 (by kernel_rfl) (by kernel_rfl) Tryd.underlying3 Tryd.underlying3 Tryd.underlying9 (hval 0 23 v0 rfl rfl) h0
  have w0 : a0_2.size ≤ 140737488351232 := by
    have z := L0.sized_value hsz (j := 0) (t := 23) rfl rfl Tryd.underlying23
    rw [Array.length_toList] at z
    exact z
  obtain ⟨a1_0, a1_1, a1_2, rfl, rfl, rfl, wk1, wn1, y1⟩ := L0.open_value Tryd.underlying23 (by kernel_rfl) (by kernel_rfl) Tryd.underlying3 Tryd.underlying3 Tryd.underlying9 (hval 1 23 v1 rfl rfl) h1
  have w1 : a1_2.size ≤ 140737488351232 := by
    have z := L0.sized_value hsz (j := 1) (t := 23) rfl rfl Tryd.underlying23
    rw [Array.length_toList] at z
    exact z
  obtain ⟨a2_0, a2_1, a2_2, a2_3, rfl, rfl, rfl, w2_0, w2_1, w2_2, w2_3⟩ := L0.open_arr4_int Tryd.underlying40 Tryd.underlying3 (by kernel_rfl) (by kernel_rfl) (hval 2 40 v2 rfl rfl) h2
  clear hA0 hval0 hsz0 hsz
  obtain ⟨k, h⟩ := LKeyRanges.law a0_0 a0_1 a0_2 a1_0 a1_1 a1_2 a2_0 a2_1 a2_2 a2_3 (bounds_i64 wk0) (bounds_i64 wn0) w0 (bounds_i64 wk1) (bounds_i64 wn1) w1 (bounds_i64 w2_0) (bounds_i64 w2_1) (bounds_i64 w2_2) (bounds_i64 w2_3)
  refine (PB.cabinetrylaw09_KeyRanges.calls k a0_0 a0_1 a0_2 a1_0 a1_1 a1_2 a2_0 a2_1 a2_2 a2_3 true W h ⟨rfl⟩ ⟨Tryd.laysM143.s1_3 W hsh⟩).mono fun e W' ⟨he, bel⟩ => ?_
  subst he
  exact ⟨_, rfl, _, _, _, [], _, [], hW', trodAll_mk1 (shut_bool Tryd.underlying4 _), (trodAll_cons_mk (L0.shut_value Tryd.underlying23 (by kernel_rfl) (by kernel_rfl) Tryd.underlying3 Tryd.underlying3 Tryd.underlying9 wk0 wn0 y0) (trodAll_cons_mk (L0.shut_value Tryd.underlying23 (by kernel_rfl) (by kernel_rfl) Tryd.underlying3 Tryd.underlying3 Tryd.underlying9 wk1 wn1 y1) (trodAll_cons_mk (L0.shut_arr4_int Tryd.underlying40 Tryd.underlying3 (by kernel_rfl) (by kernel_rfl) w2_0 w2_1 w2_2 w2_3) trodAll_mk0))), rfl, bel.frame _, fun h => by cases h⟩
theorem keyRanges_holds : Rows.KeyRangesSaid :=
  OpenClaim.holds_of_wide 5 Tryd.f5 rfl rfl rfl rfl rfl rfl rfl ⟨rfl, rfl, rfl, rfl, rfl⟩ rfl rfl rfl rfl rfl (by kernel_rfl) Tryd.func5 (by kernel_rfl)
    (of_decide_eq_true (by kernel_rfl)) (by unfold Func.isWrapper; first | (rw [if_pos (by decide +kernel)]; kernel_rfl) | (rw [if_neg (by decide +kernel)]; exact ⟨rfl, rfl⟩))
    (fun os started H enc _ => lifted os started H enc)
end Go.Proofs.YtnkejhfbkgfedaaDoor.keyRanges
namespace Go.Proofs.YtnkejhfbkgfedaaDoor
theorem keyRanges_card : Rows.KeyRangesCardSaid :=
  Claim7.holds_tied_plain_at .later [] [.data, .pinned] true (true, "3ca090072f74d9576caed6164917b7ff82063396b7cf458c4b58db08244bc750") false
    keyRanges.keyRanges_holds (fun _ h => by cases h) (by kernel_rfl) (fun _ h => by cases h) keyRanges_row_tie rfl ⟨rfl, rfl⟩ (by kernel_rfl) rfl
    (fun f fn hf hfn => by
      obtain rfl : f = 5 := Option.some.inj ((show Tryd.prog.funcNamed "cabinetry/cabinetrylaw09.KeyRanges" = some 5 by kernel_rfl).symm.trans hf) |>.symm
      obtain rfl : fn = Tryd.f5 := (Option.some.inj (Tryd.func5.symm.trans hfn)).symm
      exact ⟨by kernel_rfl, fun j t ht => by
        rw [Tryd.params5] at ht
        have hm : t ∈ [23, 23, 40] := by simpa using Array.mem_of_getElem? ht
        have hall : ([23, 23, 40].all fun u => !Tryd.prog.wantsStandIn u) = true := by kernel_rfl
        exact (show Tryd.prog.wantsStandIn t = false by simpa using List.all_eq_true.1 hall t hm)⟩)
    (by kernel_rfl)
#print axioms keyRanges_card
end Go.Proofs.YtnkejhfbkgfedaaDoor
