/- The operations of values: what the program gives is what the reference gives. -/
import Derived.Test.YtplbjaandkdhjaaDoorH2
import Derived.Test.YtplbjaandkdhjaaDoorH4
import Derived.Test.YtplbjaandkdhjaaDoorL1
import Derived.Test.YtplbjaandkdhjaaDoorL2
import Derived.Test.YtplbjaandkdhjaaDoorL3
import Derived.Test.YtplbjaandkdhjaaDoorPAx4
import Derived.Test.YtplbjaandkdhjaaDoorPAx6
import Derived.Test.YtplbjaandkdhjaaDoorPAx7
import Derived.Test.YtplbjaandkdhjaaDoorPAx8
import Derived.Test.YtplbjaandkdhjaaDoorPAx12
import Derived.Test.YtplbjaandkdhjaaDoorPAx15
import Derived.Test.YtplbjaandkdhjaaDoorPAx18
import Derived.Test.YtplbjaandkdhjaaDoorPAx19
import Derived.Test.YtplbjaandkdhjaaDoorPBx2
import Derived.Test.YtplbjaandkdhjaaDoorPAx0
import Derived.Test.YtplbjaandkdhjaaDoorH0
namespace Go.Proofs.YtplbjaandkdhjaaDoor.L1
open Go.RowKit Go.Proofs.YtplbjaandkdhjaaDoorW.PrintWords Go.Proofs.YtplbjaandkdhjaaDoor.PA Go.Proofs.YtplbjaandkdhjaaDoor.PB Go.Proofs.YtplbjaandkdhjaaDoor.H1
set_option linter.unusedVariables false
set_option linter.unusedSimpArgs false

theorem valid_num {n : Int} {s : ByteArray} (h : validV 2 n s = 0) : -1000000000000000 ≤ n ∧ n ≤ 1000000000000000 := by
  unfold validV at h
  split at h
  · cases h
  · split at h
    · rename_i h2; omega
    · cases h
theorem valid_size {a n : Int} {s : ByteArray} (h : validV a n s = 0) : s.size ≤ 2048 := by
  unfold validV at h
  split at h
  · cases h
  · omega
theorem valid_kind {a n : Int} {s : ByteArray} (h : validV a n s = 0) : 0 ≤ a ∧ a ≤ 4 := by
  unfold validV at h
  split at h
  · cases h
  · split at h
    · rename_i h2; omega
    · cases h
/-- What is between two texts when the second one is taken from the first. -/
def subT (s t : ByteArray) : ByteArray := (⟨(Lib.trimRightS s.data.toList [32]).toArray⟩ ++ t) ++ s.extract (Lib.trimRightS s.data.toList [32]).length s.size
theorem trim_le (l : List UInt8) : (Lib.trimRightS l [32]).length ≤ l.length := by
  obtain ⟨n, hn, e⟩ := trimRight_prefix l
  rw [e, List.length_take]
  exact Nat.min_le_right _ _
theorem trim_f (s : ByteArray) (hs : s.size ≤ 2048) : strings_TrimRight.f s (⟨#[32]⟩ : ByteArray) = some ⟨(Lib.trimRightS s.data.toList [32]).toArray⟩ := by
  unfold strings_TrimRight.f
  rw [if_pos ⟨by decide, by decide, by omega⟩]
/-- What an operation of two right values that are there gives. -/
theorem both_give {op a0 a1 b0 b1 : Int} {a2 b2 : ByteArray} (ha : validV a0 a1 a2 = 0) (hb : validV b0 b1 b2 = 0) (ho0 : 0 ≤ op) (ho1 : op < 6) (hna : a0 ≠ 0) (hnb : b0 ≠ 0) :
    ∃ r : R, opV op a0 a1 a2 b0 b1 b2 = some r ∧ ∀ k, 3000 ≤ k → cabinetryref01_Done.f k op a0 a1 a2 b0 b1 b2 = some r := by
  have sa := valid_size ha
  have sb := valid_size hb
  have hD : ∀ k, 3000 ≤ k → ∀ r : R, (if a0 = 2 ∧ b0 = 2 then cabinetryref01_numbers.f (k - 2) op a1 b1 else cabinetryref01_others.f (k - 2) op a0 a1 a2 b0 b1 b2) = some r → cabinetryref01_Done.f k op a0 a1 a2 b0 b1 b2 = some r := by
    intro k hk r h
    obtain ⟨k, rfl⟩ : ∃ m, k = m + 2 := ⟨k - 2, by omega⟩
    unfold cabinetryref01_Done.f
    rw [if_neg hna]
    simp only [cabinetryref01_Done.j0]
    rw [if_neg (by simp [hnb])]
    simp only [Nat.add_sub_cancel] at h
    by_cases h2 : a0 = 2
    · rw [if_pos h2]
      by_cases h3 : b0 = 2
      · rw [if_pos ⟨h2, h3⟩] at h
        simp only [cabinetryref01_Done.j1]
        rw [if_pos (by simp [h3]), h]
        rfl
      · rw [if_neg (fun hh => h3 hh.2)] at h
        simp only [cabinetryref01_Done.j1]
        rw [if_neg (by simp [h3]), h]
        rfl
    · rw [if_neg h2]
      rw [if_neg (fun hh => h2 hh.1)] at h
      simp only [cabinetryref01_Done.j1]
      rw [if_neg (by decide), h]
      rfl
  by_cases hnn : a0 = 2 ∧ b0 = 2
  · obtain ⟨rfl, rfl⟩ := hnn
    have na := valid_num ha
    have nb := valid_num hb
    suffices hs : ∃ r : R, opV op 2 a1 a2 2 b1 b2 = some r ∧ ∀ k, 2998 ≤ k → cabinetryref01_numbers.f k op a1 b1 = some r by
      obtain ⟨r, h1, h2⟩ := hs
      exact ⟨r, h1, fun k hk => hD k hk r (by rw [if_pos ⟨rfl, rfl⟩]; exact h2 _ (by omega))⟩
    have : op = 0 ∨ op = 1 ∨ op = 2 ∨ op = 3 ∨ op = 4 ∨ op = 5 := by omega
    rcases this with rfl | rfl | rfl | rfl | rfl | rfl
    · refine ⟨numV (wrap64 (a1 + b1)), ?_, fun k hk => ?_⟩
      · simp only [opV, val_add.f, val_kinds.f, Option.bind_some, BEq.rfl, Bool.and_self, if_true, number_f]
      · simp only [cabinetryref01_numbers.f, if_true, limited_t, Option.bind_some]
    · refine ⟨numV (wrap64 (a1 - b1)), ?_, fun k hk => ?_⟩
      · simp only [opV, val_sub.f, val_kinds.f, Option.bind_some, BEq.rfl, Bool.and_self, if_true, number_f, if_neg (show ¬ (1 : Int) = 0 by decide)]
      · simp only [cabinetryref01_numbers.f, if_true, limited_t, Option.bind_some, if_neg (show ¬ (1 : Int) = 0 by decide)]
    · refine ⟨limV (prodV a1 b1), ?_, fun k hk => ?_⟩
      · simp only [opV, wholeV63, and_self, if_true, if_neg (show ¬ (2 : Int) = 0 by decide), if_neg (show ¬ (2 : Int) = 1 by decide)]
        exact mul_f 99 na.1 na.2 nb.1 nb.2
      · obtain ⟨k, rfl⟩ : ∃ m, k = m + 1 := ⟨k - 1, by omega⟩
        simp only [cabinetryref01_numbers.f, if_true, if_neg (show ¬ (2 : Int) = 0 by decide), if_neg (show ¬ (2 : Int) = 1 by decide), product_f k na.1 na.2 nb.1 nb.2, Option.bind_some, limited_f]
    · by_cases h0 : b1 = 0
      · refine ⟨died 2, ?_, fun k hk => ?_⟩
        · simp only [opV, wholeV64, and_self, if_true, if_neg (show ¬ (3 : Int) = 0 by decide), if_neg (show ¬ (3 : Int) = 1 by decide), if_neg (show ¬ (3 : Int) = 2 by decide), val_div.f, if_pos h0, died_f, Option.bind_some]
        · simp only [cabinetryref01_numbers.f, if_neg (show ¬ (3 : Int) = 0 by decide), if_neg (show ¬ (3 : Int) = 1 by decide), if_neg (show ¬ (3 : Int) = 2 by decide), if_neg (show ¬ (3 : Int) = 5 by decide), if_pos h0]
          rfl
      · refine ⟨numV (wrap64 (Int.tdiv a1 b1)), ?_, fun k hk => ?_⟩
        · simp only [opV, wholeV64, and_self, if_true, if_neg (show ¬ (3 : Int) = 0 by decide), if_neg (show ¬ (3 : Int) = 1 by decide), if_neg (show ¬ (3 : Int) = 2 by decide), val_div.f, if_neg h0, number_f, Option.bind_some]
        · simp only [cabinetryref01_numbers.f, if_true, if_neg (show ¬ (3 : Int) = 0 by decide), if_neg (show ¬ (3 : Int) = 1 by decide), if_neg (show ¬ (3 : Int) = 2 by decide), if_neg (show ¬ (3 : Int) = 5 by decide), if_neg h0, limited_t, Option.bind_some]
    · by_cases h0 : b1 = 0
      · refine ⟨died 2, ?_, fun k hk => ?_⟩
        · simp only [opV, wholeV65, and_self, if_true, if_neg (show ¬ (4 : Int) = 0 by decide), if_neg (show ¬ (4 : Int) = 1 by decide), if_neg (show ¬ (4 : Int) = 2 by decide), if_neg (show ¬ (4 : Int) = 3 by decide), val_mod.f, if_pos h0, died_f, Option.bind_some]
        · simp only [cabinetryref01_numbers.f, if_neg (show ¬ (4 : Int) = 0 by decide), if_neg (show ¬ (4 : Int) = 1 by decide), if_neg (show ¬ (4 : Int) = 2 by decide), if_neg (show ¬ (4 : Int) = 5 by decide), if_pos h0]
          rfl
      · refine ⟨numV (Int.tmod a1 b1), ?_, fun k hk => ?_⟩
        · simp only [opV, wholeV65, and_self, if_true, if_neg (show ¬ (4 : Int) = 0 by decide), if_neg (show ¬ (4 : Int) = 1 by decide), if_neg (show ¬ (4 : Int) = 2 by decide), if_neg (show ¬ (4 : Int) = 3 by decide), val_mod.f, if_neg h0, number_f, Option.bind_some]
        · simp only [cabinetryref01_numbers.f, if_neg (show ¬ (4 : Int) = 0 by decide), if_neg (show ¬ (4 : Int) = 1 by decide), if_neg (show ¬ (4 : Int) = 2 by decide), if_neg (show ¬ (4 : Int) = 3 by decide), if_neg (show ¬ (4 : Int) = 5 by decide), if_neg h0, limited_t, Option.bind_some]
    · obtain ⟨p, q1, q2⟩ := pow_f na.1 na.2 nb.1 nb.2
      refine ⟨limV p, ?_, fun k hk => ?_⟩
      · simp only [opV, wholeV66, and_self, if_true, if_neg (show ¬ (5 : Int) = 0 by decide), if_neg (show ¬ (5 : Int) = 1 by decide), if_neg (show ¬ (5 : Int) = 2 by decide), if_neg (show ¬ (5 : Int) = 3 by decide), if_neg (show ¬ (5 : Int) = 4 by decide)]
        exact q2
      · simp only [cabinetryref01_numbers.f, if_true, if_neg (show ¬ (5 : Int) = 0 by decide), if_neg (show ¬ (5 : Int) = 1 by decide), if_neg (show ¬ (5 : Int) = 2 by decide), q1 k (by omega), Option.bind_some, limited_f]
  · suffices hs : ∃ r : R, opV op a0 a1 a2 b0 b1 b2 = some r ∧ ∀ k, 2998 ≤ k → cabinetryref01_others.f k op a0 a1 a2 b0 b1 b2 = some r by
      obtain ⟨r, h1, h2⟩ := hs
      exact ⟨r, h1, fun k hk => hD k hk r (by rw [if_neg hnn]; exact h2 _ (by omega))⟩
    by_cases h0 : op = 0
    · subst h0
      simp only [opV, if_true, val_add.f, val_kinds.f, Option.bind_some, day_f, died_f, number_f, text_f]
      by_cases c1 : a0 = 3 ∧ b0 = 2
      · obtain ⟨rfl, rfl⟩ := c1
        refine ⟨dayV a1 b1, by simp, fun k hk => ?_⟩
        obtain ⟨k, rfl⟩ : ∃ m, k = m + 1 := ⟨k - 1, by omega⟩
        simp [cabinetryref01_others.f, cabinetryref01_others.j0, moved_f]
      · by_cases c2 : a0 = 2 ∧ b0 = 3
        · obtain ⟨rfl, rfl⟩ := c2
          refine ⟨dayV b1 a1, by simp, fun k hk => ?_⟩
          obtain ⟨k, rfl⟩ : ∃ m, k = m + 2 := ⟨k - 2, by omega⟩
          simp [cabinetryref01_others.f, cabinetryref01_others.j0, cabinetryref01_others.j1, moved_f]
        · by_cases c3 : a0 = 4 ∧ b0 = 4
          · obtain ⟨rfl, rfl⟩ := c3
            refine ⟨textV (a2 ++ b2), ?_, fun k hk => ?_⟩
            · have hz : a2.size + b2.size ≤ 9223372036854775807 := by omega
              simp [hz]
            · have hz : a2.size + b2.size ≤ 9223372036854775807 := by omega
              obtain ⟨k, rfl⟩ : ∃ m, k = m + 3 := ⟨k - 3, by omega⟩
              simp [cabinetryref01_others.f, cabinetryref01_others.j0, cabinetryref01_others.j1, cabinetryref01_others.j2, refText_f, hz]
          · refine ⟨died 1, ?_, fun k hk => ?_⟩
            · rw [if_neg (by simp; omega), if_neg (by simp; omega), if_neg (by simp; omega), if_neg (by simp; omega)]
            · obtain ⟨k, rfl⟩ : ∃ m, k = m + 7 := ⟨k - 7, by omega⟩
              have e1 : cabinetryref01_others.j6 (k + 2) false a0 a1 a2 b0 b1 b2 = some (died 1) := by simp [cabinetryref01_others.j6, died]
              have e2 : cabinetryref01_others.j2 (k + 5) 0 false a0 a1 a2 b0 b1 b2 = some (died 1) := by
                simp [cabinetryref01_others.j2, cabinetryref01_others.j3, cabinetryref01_others.j4, e1]
              have e3 : cabinetryref01_others.j1 (k + 6) 0 false a0 a1 a2 b0 b1 b2 = some (died 1) := by
                simp only [cabinetryref01_others.j1]
                rw [if_neg (by decide), if_pos trivial]
                by_cases h4 : a0 = 4
                · have : (b0 == 4) = false := by simp; omega
                  rw [if_pos h4, this, e2]
                · rw [if_neg h4, e2]
              have e4 : cabinetryref01_others.j0 (k + 7) 0 false a0 a1 a2 b0 b1 b2 = some (died 1) := by
                simp only [cabinetryref01_others.j0]
                rw [if_neg (by decide), if_pos trivial]
                by_cases h4 : a0 = 2
                · have : (b0 == 3) = false := by simp; omega
                  rw [if_pos h4, this, e3]
                · rw [if_neg h4, e3]
              unfold cabinetryref01_others.f
              rw [if_pos rfl]
              by_cases h4 : a0 = 3
              · have : (b0 == 2) = false := by simp; omega
                rw [if_pos h4, this, e4]
              · rw [if_neg h4, e4]
    · by_cases h1 : op = 1
      · subst h1
        simp only [opV, if_neg h0, if_true, val_sub.f, val_kinds.f, Option.bind_some, day_f, died_f, number_f, text_f]
        have down : ∀ k, cabinetryref01_others.f (k + 3) 1 a0 a1 a2 b0 b1 b2 = if a0 = 3 then cabinetryref01_others.j3 k 1 (b0 == 2) a0 a1 a2 b0 b1 b2 else cabinetryref01_others.j3 k 1 false a0 a1 a2 b0 b1 b2 := by
          intro k
          simp [cabinetryref01_others.f, cabinetryref01_others.j0, cabinetryref01_others.j1, cabinetryref01_others.j2]
        by_cases c1 : a0 = 3 ∧ b0 = 2
        · obtain ⟨rfl, rfl⟩ := c1
          refine ⟨dayV a1 (wrap64 (-b1)), by simp, fun k hk => ?_⟩
          obtain ⟨k, rfl⟩ : ∃ m, k = m + 4 := ⟨k - 4, by omega⟩
          rw [show k + 4 = (k + 1) + 3 from rfl, down]
          simp [cabinetryref01_others.j3, moved_f]
        · by_cases c2 : a0 = 3 ∧ b0 = 3
          · obtain ⟨rfl, rfl⟩ := c2
            have va : 0 ≤ a1 ∧ a1 ≤ 3652059 := by
              unfold validV at ha
              split at ha
              · cases ha
              · split at ha
                · rename_i h2; omega
                · cases ha
            have vb : 0 ≤ b1 ∧ b1 ≤ 3652059 := by
              unfold validV at hb
              split at hb
              · cases hb
              · split at hb
                · rename_i h2; omega
                · cases hb
            have dn : ∀ k, cabinetryref01_others.f (k + 6) 1 3 a1 a2 3 b1 b2 = if a1 = 0 then cabinetryref01_others.j5 (k + 1) true 3 a1 a2 3 b1 b2 else cabinetryref01_others.j5 (k + 1) (b1 == 0) 3 a1 a2 3 b1 b2 := by
              intro k
              rw [show k + 6 = (k + 3) + 3 from rfl, down]
              simp [cabinetryref01_others.j3, cabinetryref01_others.j4]
            by_cases hz : a1 = 0 ∨ b1 = 0
            · refine ⟨numV 0, ?_, fun k hk => ?_⟩
              · by_cases ha0 : a1 = 0
                · simp [ha0, val_sub.j0, number_f]
                · have hb0 : b1 = 0 := by omega
                  simp [ha0, hb0, val_sub.j0, number_f]
              · obtain ⟨k, rfl⟩ : ∃ m, k = m + 6 := ⟨k - 6, by omega⟩
                rw [dn]
                by_cases ha0 : a1 = 0
                · simp [ha0, cabinetryref01_others.j5, cabinetryref01_Num.f, numV]
                · have hb0 : b1 = 0 := by omega
                  simp [ha0, hb0, cabinetryref01_others.j5, cabinetryref01_Num.f, numV]
            · have ha0 : a1 ≠ 0 := by omega
              have hb0 : b1 ≠ 0 := by omega
              refine ⟨numV (wrap64 (a1 - b1)), ?_, fun k hk => ?_⟩
              · simp [ha0, hb0, val_sub.j0, number_f]
              · obtain ⟨k, rfl⟩ : ∃ m, k = m + 6 := ⟨k - 6, by omega⟩
                rw [dn, if_neg ha0]
                have hw : wrap64 (a1 - b1) = a1 - b1 := w64 (by omega) (by omega)
                simp only [cabinetryref01_others.j5, cabinetryref01_Num.f, Option.bind_some]
                rw [if_neg (by simp [hb0]), hw]
                unfold numV
                rw [if_pos (by omega)]
          · by_cases c3 : a0 = 4 ∧ b0 = 4
            · obtain ⟨rfl, rfl⟩ := c3
              have tl := trim_le a2.data.toList
              rw [ba_len] at tl
              have ts : (⟨(Lib.trimRightS a2.data.toList [32]).toArray⟩ : ByteArray).size = (Lib.trimRightS a2.data.toList [32]).length := ba_size _
              have z1 : (Lib.trimRightS a2.data.toList [32]).length + b2.size ≤ 9223372036854775807 := by omega
              have z2 : ((⟨(Lib.trimRightS a2.data.toList [32]).toArray⟩ ++ b2) : ByteArray).size + (a2.extract (Lib.trimRightS a2.data.toList [32]).length a2.size).size ≤ 9223372036854775807 := by
                rw [ByteArray.size_append, ByteArray.size_extract, ts]
                omega
              refine ⟨textV (subT a2 b2), ?_, fun k hk => ?_⟩
              · simp only [trim_f a2 sa, Option.bind_some, ts, Int.toNat_natCast]
                rw [if_neg (by decide), if_neg (by decide), if_neg (by decide), if_pos (by decide), if_pos z1, if_pos (by omega), if_pos (by omega), if_pos z2]
                rfl
              · obtain ⟨k, rfl⟩ : ∃ m, k = m + 6 := ⟨k - 6, by omega⟩
                rw [show k + 6 = (k + 3) + 3 from rfl, down, if_neg (by decide)]
                simp only [cabinetryref01_others.j3, cabinetryref01_others.j4, cabinetryref01_others.j6]
                rw [if_neg (by decide), if_pos trivial, if_neg (by decide), if_neg (by decide), if_pos trivial, if_pos trivial, if_pos (by decide), bare_f a2 (by omega) k (by omega)]
                simp only [Option.bind_some, ts, Int.toNat_natCast]
                rw [if_pos z1, if_pos (by omega), if_pos (by omega), if_pos z2, refText_f]
                rfl
            · refine ⟨died 1, ?_, fun k hk => ?_⟩
              · rw [if_neg (by simp; omega), if_neg (by simp; omega), if_neg (by simp; omega), if_neg (by simp; omega)]
              · obtain ⟨k, rfl⟩ : ∃ m, k = m + 6 := ⟨k - 6, by omega⟩
                have e1 : cabinetryref01_others.j6 (k + 1) false a0 a1 a2 b0 b1 b2 = some (died 1) := by simp [cabinetryref01_others.j6, died]
                have e2 : cabinetryref01_others.j4 (k + 2) 1 false a0 a1 a2 b0 b1 b2 = some (died 1) := by
                  simp only [cabinetryref01_others.j4]
                  rw [if_neg (by decide), if_pos trivial]
                  by_cases h4 : a0 = 4
                  · have : (b0 == 4) = false := by simp; omega
                    rw [if_pos h4, this, e1]
                  · rw [if_neg h4, e1]
                have e3 : cabinetryref01_others.j3 (k + 3) 1 false a0 a1 a2 b0 b1 b2 = some (died 1) := by
                  simp only [cabinetryref01_others.j3]
                  rw [if_neg (by decide), if_pos trivial]
                  by_cases h4 : a0 = 3
                  · have : (b0 == 3) = false := by simp; omega
                    rw [if_pos h4, this, e2]
                  · rw [if_neg h4, e2]
                rw [show k + 6 = (k + 3) + 3 from rfl, down]
                by_cases h4 : a0 = 3
                · have : (b0 == 2) = false := by simp; omega
                  rw [if_pos h4, this, e3]
                · rw [if_neg h4, e3]
      · refine ⟨died 1, ?_, fun k hk => ?_⟩
        · simp only [opV, if_neg h0, if_neg h1, wholeV63, wholeV64, wholeV65, wholeV66, if_neg hnn, died_f]
          split
          · rfl
          · split
            · rfl
            · split <;> rfl
        · obtain ⟨k, rfl⟩ : ∃ m, k = m + 6 := ⟨k - 6, by omega⟩
          simp [cabinetryref01_others.f, cabinetryref01_others.j0, cabinetryref01_others.j1, cabinetryref01_others.j2, cabinetryref01_others.j3, cabinetryref01_others.j4, cabinetryref01_others.j6, h0, h1, died]
end Go.Proofs.YtplbjaandkdhjaaDoor.L1
