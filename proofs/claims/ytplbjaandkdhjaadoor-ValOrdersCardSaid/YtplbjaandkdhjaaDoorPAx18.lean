-- thin
-- Written by a program of this session (wip/stage.sh) out of the translation: functions as Lean functions, and walks.
import Derived.Test.YtplbjaandkdhjaaDoorPAx0
import Derived.Test.YtplbjaandkdhjaaDoorPAx12
import Derived.Test.YtplbjaandkdhjaaDoorPAx16
import Derived.Test.YtplbjaandkdhjaaDoorPAx17
namespace Go.Proofs.YtplbjaandkdhjaaDoor.PA
open Go.RowKit Go.Proofs.YtplbjaandkdhjaaDoorW.PrintWords Go.Proofs.YtplbjaandkdhjaaDoorW.PrintLast Go.Proofs.YtplbjaandkdhjaaDoorW.PrintMore
attribute [local go_sem] max2_int min2_int max_two min_two max_three min_three max_four min_four   -- for this text's walks alone
set_option linter.unusedVariables false
set_option linter.unusedSimpArgs false

/-! ### cabinetryref01_others: function 110 -/
mutual
def cabinetryref01_others.j0 : Nat → Int → Bool → Int → Int → ByteArray → Int → Int → ByteArray → Option (Int × Int × ByteArray × Int)
 | 0, _, _, _, _, _, _, _, _ => none
 | k + 1, x0, x9, x302000, x302001, x302002, x303000, x303001, x303002 => if x9 = true then ((cabinetryref01_moved.f x302001 x303001).bind fun bt304 => (some (bt304.1, bt304.2.1, bt304.2.2.1, bt304.2.2.2))) else (if x0 = 0 then (if x302000 = 2 then (cabinetryref01_others.j1 k x0 (x303000 == 3) x302000 x302001 x302002 x303000 x303001 x303002) else (cabinetryref01_others.j1 k x0 false x302000 x302001 x302002 x303000 x303001 x303002)) else (cabinetryref01_others.j1 k x0 false x302000 x302001 x302002 x303000 x303001 x303002))
def cabinetryref01_others.j1 : Nat → Int → Bool → Int → Int → ByteArray → Int → Int → ByteArray → Option (Int × Int × ByteArray × Int)
 | 0, _, _, _, _, _, _, _, _ => none
 | k + 1, x0, x29, x302000, x302001, x302002, x303000, x303001, x303002 => if x29 = true then ((cabinetryref01_moved.f x303001 x302001).bind fun bt308 => (some (bt308.1, bt308.2.1, bt308.2.2.1, bt308.2.2.2))) else (if x0 = 0 then (if x302000 = 4 then (cabinetryref01_others.j2 k x0 (x303000 == 4) x302000 x302001 x302002 x303000 x303001 x303002) else (cabinetryref01_others.j2 k x0 false x302000 x302001 x302002 x303000 x303001 x303002)) else (cabinetryref01_others.j2 k x0 false x302000 x302001 x302002 x303000 x303001 x303002))
def cabinetryref01_others.j2 : Nat → Int → Bool → Int → Int → ByteArray → Int → Int → ByteArray → Option (Int × Int × ByteArray × Int)
 | 0, _, _, _, _, _, _, _, _ => none
 | k + 1, x0, x49, x302000, x302001, x302002, x303000, x303001, x303002 => if x49 = true then (if x302002.size + x303002.size ≤ 9223372036854775807 then ((cabinetryref01_text.f (x302002 ++ x303002)).bind fun bt312 => (some (bt312.1, bt312.2.1, bt312.2.2.1, bt312.2.2.2))) else (none)) else (if x0 = 1 then (if x302000 = 3 then (cabinetryref01_others.j3 k x0 (x303000 == 2) x302000 x302001 x302002 x303000 x303001 x303002) else (cabinetryref01_others.j3 k x0 false x302000 x302001 x302002 x303000 x303001 x303002)) else (cabinetryref01_others.j3 k x0 false x302000 x302001 x302002 x303000 x303001 x303002))
def cabinetryref01_others.j3 : Nat → Int → Bool → Int → Int → ByteArray → Int → Int → ByteArray → Option (Int × Int × ByteArray × Int)
 | 0, _, _, _, _, _, _, _, _ => none
 | k + 1, x0, x70, x302000, x302001, x302002, x303000, x303001, x303002 => if x70 = true then ((cabinetryref01_moved.f x302001 (wrap64 (-x303001))).bind fun bt316 => (some (bt316.1, bt316.2.1, bt316.2.2.1, bt316.2.2.2))) else (if x0 = 1 then (if x302000 = 3 then (cabinetryref01_others.j4 k x0 (x303000 == 3) x302000 x302001 x302002 x303000 x303001 x303002) else (cabinetryref01_others.j4 k x0 false x302000 x302001 x302002 x303000 x303001 x303002)) else (cabinetryref01_others.j4 k x0 false x302000 x302001 x302002 x303000 x303001 x303002))
def cabinetryref01_others.j4 : Nat → Int → Bool → Int → Int → ByteArray → Int → Int → ByteArray → Option (Int × Int × ByteArray × Int)
 | 0, _, _, _, _, _, _, _, _ => none
 | k + 1, x0, x91, x302000, x302001, x302002, x303000, x303001, x303002 => if x91 = true then (if x302001 = 0 then (cabinetryref01_others.j5 k true x302000 x302001 x302002 x303000 x303001 x303002) else (cabinetryref01_others.j5 k (x303001 == 0) x302000 x302001 x302002 x303000 x303001 x303002)) else (if x0 = 1 then (if x302000 = 4 then (cabinetryref01_others.j6 k (x303000 == 4) x302000 x302001 x302002 x303000 x303001 x303002) else (cabinetryref01_others.j6 k false x302000 x302001 x302002 x303000 x303001 x303002)) else (cabinetryref01_others.j6 k false x302000 x302001 x302002 x303000 x303001 x303002))
def cabinetryref01_others.j5 : Nat → Bool → Int → Int → ByteArray → Int → Int → ByteArray → Option (Int × Int × ByteArray × Int)
 | 0, _, _, _, _, _, _, _ => none
 | k + 1, x111, x302000, x302001, x302002, x303000, x303001, x303002 => if x111 = true then ((cabinetryref01_Num.f 0).bind fun bt320 => (some (bt320.1, bt320.2.1, bt320.2.2, 0))) else ((cabinetryref01_Num.f (wrap64 (x302001 - x303001))).bind fun bt323 => (some (bt323.1, bt323.2.1, bt323.2.2, 0)))
def cabinetryref01_others.j6 : Nat → Bool → Int → Int → ByteArray → Int → Int → ByteArray → Option (Int × Int × ByteArray × Int)
 | 0, _, _, _, _, _, _, _ => none
 | k + 1, x119, x302000, x302001, x302002, x303000, x303001, x303002 => if x119 = true then ((cabinetryref01_Bare.f k x302002).bind fun t326 => (if t326.size + x303002.size ≤ 9223372036854775807 then (if 0 ≤ (t326.size : Int) then (if (t326.size : Int) ≤ (x302002.size : Int) then (if (t326 ++ x303002).size + (x302002.extract ((t326.size : Int) : Int).toNat x302002.size).size ≤ 9223372036854775807 then ((cabinetryref01_text.f ((t326 ++ x303002) ++ (x302002.extract ((t326.size : Int) : Int).toNat x302002.size))).bind fun bt327 => (some (bt327.1, bt327.2.1, bt327.2.2.1, bt327.2.2.2))) else (none)) else (none)) else (none)) else (none))) else (some (0, 0, (⟨#[]⟩ : ByteArray), 1))
end
def cabinetryref01_others.f (k : Nat) (a0 : Int) (a1_0 : Int) (a1_1 : Int) (a1_2 : ByteArray) (a2_0 : Int) (a2_1 : Int) (a2_2 : ByteArray) : Option (Int × Int × ByteArray × Int) := if a0 = 0 then (if a1_0 = 3 then (cabinetryref01_others.j0 k a0 (a2_0 == 2) a1_0 a1_1 a1_2 a2_0 a2_1 a2_2) else (cabinetryref01_others.j0 k a0 false a1_0 a1_1 a1_2 a2_0 a2_1 a2_2)) else (cabinetryref01_others.j0 k a0 false a1_0 a1_1 a1_2 a2_0 a2_1 a2_2)
theorem cabinetryref01_others.mono_l : ∀ k, (∀ y0 y1 y2 y3 y4 y5 y6 y7, LeO (cabinetryref01_others.j0 k y0 y1 y2 y3 y4 y5 y6 y7) (cabinetryref01_others.j0 (k + 1) y0 y1 y2 y3 y4 y5 y6 y7)) ∧ (∀ y0 y1 y2 y3 y4 y5 y6 y7, LeO (cabinetryref01_others.j1 k y0 y1 y2 y3 y4 y5 y6 y7) (cabinetryref01_others.j1 (k + 1) y0 y1 y2 y3 y4 y5 y6 y7)) ∧ (∀ y0 y1 y2 y3 y4 y5 y6 y7, LeO (cabinetryref01_others.j2 k y0 y1 y2 y3 y4 y5 y6 y7) (cabinetryref01_others.j2 (k + 1) y0 y1 y2 y3 y4 y5 y6 y7)) ∧ (∀ y0 y1 y2 y3 y4 y5 y6 y7, LeO (cabinetryref01_others.j3 k y0 y1 y2 y3 y4 y5 y6 y7) (cabinetryref01_others.j3 (k + 1) y0 y1 y2 y3 y4 y5 y6 y7)) ∧ (∀ y0 y1 y2 y3 y4 y5 y6 y7, LeO (cabinetryref01_others.j4 k y0 y1 y2 y3 y4 y5 y6 y7) (cabinetryref01_others.j4 (k + 1) y0 y1 y2 y3 y4 y5 y6 y7)) ∧ (∀ y0 y1 y2 y3 y4 y5 y6, LeO (cabinetryref01_others.j5 k y0 y1 y2 y3 y4 y5 y6) (cabinetryref01_others.j5 (k + 1) y0 y1 y2 y3 y4 y5 y6)) ∧ (∀ y0 y1 y2 y3 y4 y5 y6, LeO (cabinetryref01_others.j6 k y0 y1 y2 y3 y4 y5 y6) (cabinetryref01_others.j6 (k + 1) y0 y1 y2 y3 y4 y5 y6))
 | 0 => ⟨fun _ _ _ _ _ _ _ _ r h => by simp [cabinetryref01_others.j0] at h, fun _ _ _ _ _ _ _ _ r h => by simp [cabinetryref01_others.j1] at h, fun _ _ _ _ _ _ _ _ r h => by simp [cabinetryref01_others.j2] at h, fun _ _ _ _ _ _ _ _ r h => by simp [cabinetryref01_others.j3] at h, fun _ _ _ _ _ _ _ _ r h => by simp [cabinetryref01_others.j4] at h, fun _ _ _ _ _ _ _ r h => by simp [cabinetryref01_others.j5] at h, fun _ _ _ _ _ _ _ r h => by simp [cabinetryref01_others.j6] at h⟩
 | k + 1 => by
  obtain ⟨ih0, ih1, ih2, ih3, ih4, ih5, ih6⟩ := cabinetryref01_others.mono_l k
  refine ⟨?_, ?_, ?_, ?_, ?_, ?_, ?_⟩
  ·intro y0 y1 y2 y3 y4 y5 y6 y7
   unfold cabinetryref01_others.j0
   repeat' first
   | (with_reducible exact ih0 _ _ _ _ _ _ _ _)
   | (with_reducible exact ih1 _ _ _ _ _ _ _ _)
   | (with_reducible exact ih2 _ _ _ _ _ _ _ _)
   | (with_reducible exact ih3 _ _ _ _ _ _ _ _)
   | (with_reducible exact ih4 _ _ _ _ _ _ _ _)
   | (with_reducible exact ih5 _ _ _ _ _ _ _)
   | (with_reducible exact ih6 _ _ _ _ _ _ _)
   | (with_reducible exact cabinetryref01_Bare.mono _ _)
   | (with_reducible exact LeO.refl _)
   | (with_reducible exact LeO.none _)
   | (with_reducible refine LeO.ite ?_ ?_)
   | (with_reducible refine LeO.bind ?_ (fun _ => ?_))
   | exact ih0 _ _ _ _ _ _ _ _
   | exact ih1 _ _ _ _ _ _ _ _
   | exact ih2 _ _ _ _ _ _ _ _
   | exact ih3 _ _ _ _ _ _ _ _
   | exact ih4 _ _ _ _ _ _ _ _
   | exact ih5 _ _ _ _ _ _ _
   | exact ih6 _ _ _ _ _ _ _
   | exact cabinetryref01_Bare.mono _ _
   | exact LeO.none _
   | refine LeO.ite ?_ ?_
   | refine LeO.bind ?_ (fun _ => ?_)
  ·intro y0 y1 y2 y3 y4 y5 y6 y7
   unfold cabinetryref01_others.j1
   repeat' first
   | (with_reducible exact ih0 _ _ _ _ _ _ _ _)
   | (with_reducible exact ih1 _ _ _ _ _ _ _ _)
   | (with_reducible exact ih2 _ _ _ _ _ _ _ _)
   | (with_reducible exact ih3 _ _ _ _ _ _ _ _)
   | (with_reducible exact ih4 _ _ _ _ _ _ _ _)
   | (with_reducible exact ih5 _ _ _ _ _ _ _)
   | (with_reducible exact ih6 _ _ _ _ _ _ _)
   | (with_reducible exact cabinetryref01_Bare.mono _ _)
   | (with_reducible exact LeO.refl _)
   | (with_reducible exact LeO.none _)
   | (with_reducible refine LeO.ite ?_ ?_)
   | (with_reducible refine LeO.bind ?_ (fun _ => ?_))
   | exact ih0 _ _ _ _ _ _ _ _
   | exact ih1 _ _ _ _ _ _ _ _
   | exact ih2 _ _ _ _ _ _ _ _
   | exact ih3 _ _ _ _ _ _ _ _
   | exact ih4 _ _ _ _ _ _ _ _
   | exact ih5 _ _ _ _ _ _ _
   | exact ih6 _ _ _ _ _ _ _
   | exact cabinetryref01_Bare.mono _ _
   | exact LeO.none _
   | refine LeO.ite ?_ ?_
   | refine LeO.bind ?_ (fun _ => ?_)
  ·intro y0 y1 y2 y3 y4 y5 y6 y7
   unfold cabinetryref01_others.j2
   repeat' first
   | (with_reducible exact ih0 _ _ _ _ _ _ _ _)
   | (with_reducible exact ih1 _ _ _ _ _ _ _ _)
   | (with_reducible exact ih2 _ _ _ _ _ _ _ _)
   | (with_reducible exact ih3 _ _ _ _ _ _ _ _)
   | (with_reducible exact ih4 _ _ _ _ _ _ _ _)
   | (with_reducible exact ih5 _ _ _ _ _ _ _)
   | (with_reducible exact ih6 _ _ _ _ _ _ _)
   | (with_reducible exact cabinetryref01_Bare.mono _ _)
   | (with_reducible exact LeO.refl _)
   | (with_reducible exact LeO.none _)
   | (with_reducible refine LeO.ite ?_ ?_)
   | (with_reducible refine LeO.bind ?_ (fun _ => ?_))
   | exact ih0 _ _ _ _ _ _ _ _
   | exact ih1 _ _ _ _ _ _ _ _
   | exact ih2 _ _ _ _ _ _ _ _
   | exact ih3 _ _ _ _ _ _ _ _
   | exact ih4 _ _ _ _ _ _ _ _
   | exact ih5 _ _ _ _ _ _ _
   | exact ih6 _ _ _ _ _ _ _
   | exact cabinetryref01_Bare.mono _ _
   | exact LeO.none _
   | refine LeO.ite ?_ ?_
   | refine LeO.bind ?_ (fun _ => ?_)
  ·intro y0 y1 y2 y3 y4 y5 y6 y7
   unfold cabinetryref01_others.j3
   repeat' first
   | (with_reducible exact ih0 _ _ _ _ _ _ _ _)
   | (with_reducible exact ih1 _ _ _ _ _ _ _ _)
   | (with_reducible exact ih2 _ _ _ _ _ _ _ _)
   | (with_reducible exact ih3 _ _ _ _ _ _ _ _)
   | (with_reducible exact ih4 _ _ _ _ _ _ _ _)
   | (with_reducible exact ih5 _ _ _ _ _ _ _)
   | (with_reducible exact ih6 _ _ _ _ _ _ _)
   | (with_reducible exact cabinetryref01_Bare.mono _ _)
   | (with_reducible exact LeO.refl _)
   | (with_reducible exact LeO.none _)
   | (with_reducible refine LeO.ite ?_ ?_)
   | (with_reducible refine LeO.bind ?_ (fun _ => ?_))
   | exact ih0 _ _ _ _ _ _ _ _
   | exact ih1 _ _ _ _ _ _ _ _
   | exact ih2 _ _ _ _ _ _ _ _
   | exact ih3 _ _ _ _ _ _ _ _
   | exact ih4 _ _ _ _ _ _ _ _
   | exact ih5 _ _ _ _ _ _ _
   | exact ih6 _ _ _ _ _ _ _
   | exact cabinetryref01_Bare.mono _ _
   | exact LeO.none _
   | refine LeO.ite ?_ ?_
   | refine LeO.bind ?_ (fun _ => ?_)
  ·intro y0 y1 y2 y3 y4 y5 y6 y7
   unfold cabinetryref01_others.j4
   repeat' first
   | (with_reducible exact ih0 _ _ _ _ _ _ _ _)
   | (with_reducible exact ih1 _ _ _ _ _ _ _ _)
   | (with_reducible exact ih2 _ _ _ _ _ _ _ _)
   | (with_reducible exact ih3 _ _ _ _ _ _ _ _)
   | (with_reducible exact ih4 _ _ _ _ _ _ _ _)
   | (with_reducible exact ih5 _ _ _ _ _ _ _)
   | (with_reducible exact ih6 _ _ _ _ _ _ _)
   | (with_reducible exact cabinetryref01_Bare.mono _ _)
   | (with_reducible exact LeO.refl _)
   | (with_reducible exact LeO.none _)
   | (with_reducible refine LeO.ite ?_ ?_)
   | (with_reducible refine LeO.bind ?_ (fun _ => ?_))
   | exact ih0 _ _ _ _ _ _ _ _
   | exact ih1 _ _ _ _ _ _ _ _
   | exact ih2 _ _ _ _ _ _ _ _
   | exact ih3 _ _ _ _ _ _ _ _
   | exact ih4 _ _ _ _ _ _ _ _
   | exact ih5 _ _ _ _ _ _ _
   | exact ih6 _ _ _ _ _ _ _
   | exact cabinetryref01_Bare.mono _ _
   | exact LeO.none _
   | refine LeO.ite ?_ ?_
   | refine LeO.bind ?_ (fun _ => ?_)
  ·intro y0 y1 y2 y3 y4 y5 y6
   unfold cabinetryref01_others.j5
   repeat' first
   | (with_reducible exact ih0 _ _ _ _ _ _ _ _)
   | (with_reducible exact ih1 _ _ _ _ _ _ _ _)
   | (with_reducible exact ih2 _ _ _ _ _ _ _ _)
   | (with_reducible exact ih3 _ _ _ _ _ _ _ _)
   | (with_reducible exact ih4 _ _ _ _ _ _ _ _)
   | (with_reducible exact ih5 _ _ _ _ _ _ _)
   | (with_reducible exact ih6 _ _ _ _ _ _ _)
   | (with_reducible exact cabinetryref01_Bare.mono _ _)
   | (with_reducible exact LeO.refl _)
   | (with_reducible exact LeO.none _)
   | (with_reducible refine LeO.ite ?_ ?_)
   | (with_reducible refine LeO.bind ?_ (fun _ => ?_))
   | exact ih0 _ _ _ _ _ _ _ _
   | exact ih1 _ _ _ _ _ _ _ _
   | exact ih2 _ _ _ _ _ _ _ _
   | exact ih3 _ _ _ _ _ _ _ _
   | exact ih4 _ _ _ _ _ _ _ _
   | exact ih5 _ _ _ _ _ _ _
   | exact ih6 _ _ _ _ _ _ _
   | exact cabinetryref01_Bare.mono _ _
   | exact LeO.none _
   | refine LeO.ite ?_ ?_
   | refine LeO.bind ?_ (fun _ => ?_)
  ·intro y0 y1 y2 y3 y4 y5 y6
   unfold cabinetryref01_others.j6
   repeat' first
   | (with_reducible exact ih0 _ _ _ _ _ _ _ _)
   | (with_reducible exact ih1 _ _ _ _ _ _ _ _)
   | (with_reducible exact ih2 _ _ _ _ _ _ _ _)
   | (with_reducible exact ih3 _ _ _ _ _ _ _ _)
   | (with_reducible exact ih4 _ _ _ _ _ _ _ _)
   | (with_reducible exact ih5 _ _ _ _ _ _ _)
   | (with_reducible exact ih6 _ _ _ _ _ _ _)
   | (with_reducible exact cabinetryref01_Bare.mono _ _)
   | (with_reducible exact LeO.refl _)
   | (with_reducible exact LeO.none _)
   | (with_reducible refine LeO.ite ?_ ?_)
   | (with_reducible refine LeO.bind ?_ (fun _ => ?_))
   | exact ih0 _ _ _ _ _ _ _ _
   | exact ih1 _ _ _ _ _ _ _ _
   | exact ih2 _ _ _ _ _ _ _ _
   | exact ih3 _ _ _ _ _ _ _ _
   | exact ih4 _ _ _ _ _ _ _ _
   | exact ih5 _ _ _ _ _ _ _
   | exact ih6 _ _ _ _ _ _ _
   | exact cabinetryref01_Bare.mono _ _
   | exact LeO.none _
   | refine LeO.ite ?_ ?_
   | refine LeO.bind ?_ (fun _ => ?_)
theorem cabinetryref01_others.mono : ∀ a0 a1 a2 a3 a4 a5 a6 k, LeO (cabinetryref01_others.f k a0 a1 a2 a3 a4 a5 a6) (cabinetryref01_others.f (k + 1) a0 a1 a2 a3 a4 a5 a6) := by
 intro a0 a1 a2 a3 a4 a5 a6 k
 obtain ⟨ih0, ih1, ih2, ih3, ih4, ih5, ih6⟩ := cabinetryref01_others.mono_l k
 unfold cabinetryref01_others.f
 repeat' first
   | (with_reducible exact ih0 _ _ _ _ _ _ _ _)
   | (with_reducible exact ih1 _ _ _ _ _ _ _ _)
   | (with_reducible exact ih2 _ _ _ _ _ _ _ _)
   | (with_reducible exact ih3 _ _ _ _ _ _ _ _)
   | (with_reducible exact ih4 _ _ _ _ _ _ _ _)
   | (with_reducible exact ih5 _ _ _ _ _ _ _)
   | (with_reducible exact ih6 _ _ _ _ _ _ _)
   | (with_reducible exact cabinetryref01_Bare.mono _ _)
   | (with_reducible exact LeO.refl _)
   | (with_reducible exact LeO.none _)
   | (with_reducible refine LeO.ite ?_ ?_)
   | (with_reducible refine LeO.bind ?_ (fun _ => ?_))
   | exact ih0 _ _ _ _ _ _ _ _
   | exact ih1 _ _ _ _ _ _ _ _
   | exact ih2 _ _ _ _ _ _ _ _
   | exact ih3 _ _ _ _ _ _ _ _
   | exact ih4 _ _ _ _ _ _ _ _
   | exact ih5 _ _ _ _ _ _ _
   | exact ih6 _ _ _ _ _ _ _
   | exact cabinetryref01_Bare.mono _ _
   | exact LeO.none _
   | refine LeO.ite ?_ ?_
   | refine LeO.bind ?_ (fun _ => ?_)
def cabinetryref01_others.T15 : Bool × List (List Nat × List Nat) := (true, [([], []), ([], []), ([1], [1]), ([0, 2], [0, 2]), ([], []), ([4], [4]), ([], []), ([6], [6]), ([5, 7], [5, 7]), ([3, 8], [3, 8]), ([9], [9]), ([10], [10]), ([10], [10]), ([11, 10, 0, 1, 2, 3, 4, 5, 6, 7, 8, 9, 10, 11, 12], [11]), ([12, 13, 0, 1, 2, 3, 4, 5, 6, 7, 8, 9, 10, 11, 12, 13], [12])])
def cabinetryref01_others.B15 : List Nat := [0, 0, 2, 7, 0, 16, 0, 64, 240, 511, 1023, 2047, 2047, 8191, 16383]
theorem cabinetryref01_others.tab15 : rtab .any (opsOf Tryd.f110 15) = cabinetryref01_others.T15 := by kernel_rfl
theorem cabinetryref01_others.bits15 : waitsOk cabinetryref01_others.T15.2 cabinetryref01_others.B15 = true := by kernel_rfl
set_option maxHeartbeats 8000000 in
set_option maxRecDepth 100000 in
theorem cabinetryref01_others.calls (k : Nat) (a0 : Int) (a1_0 : Int) (a1_1 : Int) (a1_2 : ByteArray) (a2_0 : Int) (a2_1 : Int) (a2_2 : ByteArray) (r1 : Int) (r2 : Int) (r3 : ByteArray) (r4 : Int) (w : World) (h : cabinetryref01_others.f k a0 a1_0 a1_1 a1_2 a2_0 a2_1 a2_2 = some (r1, r2, r3, r4)) :
  Calls Tryd.prog 110 #[.int .i64 a0, .agg #[.int .i64 a1_0, .int .i64 a1_1, .string a1_2], .agg #[.int .i64 a2_0, .int .i64 a2_1, .string a2_2]] w fun e w' => e = .returned (.tuple #[.agg #[.int .i64 r1, .int .i64 r2, .string r3], .int .i64 r4]) ∧ Below w.heap.size w w' := by
 have hu23 := Tryd.underlying23
 have HB := Aside0.mk (Below.refl w.heap.size w)
 have H : (if a0 = 0 then (if a1_0 = 3 then (cabinetryref01_others.j0 k a0 (a2_0 == 2) a1_0 a1_1 a1_2 a2_0 a2_1 a2_2) else (cabinetryref01_others.j0 k a0 false a1_0 a1_1 a1_2 a2_0 a2_1 a2_2)) else (cabinetryref01_others.j0 k a0 false a1_0 a1_1 a1_2 a2_0 a2_1 a2_2)) = some (r1, r2, r3, r4) := h
 clear h
 have HC4 := Aside0.mk H
 clear H
 go_enter Tryd.func110, Tryd.ntmps110
 go_upto_region 1 with (first | ((with_reducible refine gate_dst (N := 4) rfl ?_); refine box_event ?hg (N := 4) ?hd (cs := #[.int .i64 a1_0, .int .i64 a1_1, .string a1_2]) (t := 23) ?hr ?_; (case hd => rfl); (case hg => rfl); (case hr => first | (go_simp; done) | (go_simp; rfl)); intro gb301 hg w5 hbox hb; have n0_ := Aside0.mk (below_step (by repeat (first | (with_reducible first | exact HB.out | apply below_alloc | apply pw_below_drewN | apply below_drew1) | exact HB.out)) hb); have n1_ := Aside0.mk (hbox); have n2_ := Aside0.mk ((by rw [hg]; exact (below_size (by repeat (first | (with_reducible first | exact HB.out | apply below_alloc | apply pw_below_drewN | apply below_drew1) | exact HB.out))) : w.heap.size ≤ gb301)); have n3_ := Aside0.mk ((by rw [hg]; exact (below_size (by repeat (first | (with_reducible first | exact HB.out | apply below_alloc | apply pw_below_drewN | apply below_drew1) | exact HB.out))) : w.heap.size ≤ gb301)); clear HB; have HB := n0_; have BK301 := n1_; have GW301 := n2_; have GE301 := n3_; clear n0_ n1_ n2_ n3_; clear hb hbox hg) | ((with_reducible refine gate_dst (N := 5) rfl ?_); refine box_event ?hg (N := 5) ?hd (cs := #[.int .i64 a2_0, .int .i64 a2_1, .string a2_2]) (t := 23) ?hr ?_; (case hd => rfl); (case hg => rfl); (case hr => first | (go_simp; done) | (go_simp; rfl)); intro gb302 hg w6 hbox hb; have n0_ := Aside0.mk (blk_below (g := gb301) (o := .cells #[.int .i64 a1_0, .int .i64 a1_1, .string a1_2] 23 (0, 0)) (by (with_reducible repeat (first | refine blk_drewN ?_ _ | refine blk_drew ?_ | refine blk_alloc ?_ _)); exact BK301.out) hb); have n1_ := Aside0.mk (below_step (by repeat (first | (with_reducible first | exact HB.out | apply below_alloc | apply pw_below_drewN | apply below_drew1 | refine below_set ?_ GE301.out) | exact HB.out)) hb); have n2_ := Aside0.mk (hbox); have n3_ := Aside0.mk ((by rw [hg]; exact (below_size (by repeat (first | (with_reducible first | exact HB.out | apply below_alloc | apply pw_below_drewN | apply below_drew1 | refine below_set ?_ GE301.out) | exact HB.out))) : w.heap.size ≤ gb302)); have n4_ := Aside0.mk ((by rw [hg]; exact (below_size (by repeat (first | (with_reducible first | exact HB.out | apply below_alloc | apply pw_below_drewN | apply below_drew1 | refine below_set ?_ GE301.out) | exact HB.out))) : w.heap.size ≤ gb302)); have n5_ := Aside0.mk ((by rw [hg]; exact Nat.ne_of_lt (blk_lt (g := gb301) (o := .cells #[.int .i64 a1_0, .int .i64 a1_1, .string a1_2] 23 (0, 0)) (by (with_reducible repeat (first | refine blk_drewN ?_ _ | refine blk_drew ?_ | refine blk_alloc ?_ _)); exact BK301.out)) : gb301 ≠ gb302)); have n6_ := Aside0.mk ((by rw [hg]; exact Nat.ne_of_gt (blk_lt (g := gb301) (o := .cells #[.int .i64 a1_0, .int .i64 a1_1, .string a1_2] 23 (0, 0)) (by (with_reducible repeat (first | refine blk_drewN ?_ _ | refine blk_drew ?_ | refine blk_alloc ?_ _)); exact BK301.out)) : gb302 ≠ gb301)); clear BK301; clear HB; have BK301 := n0_; have HB := n1_; have BK302 := n2_; have GW302 := n3_; have GE302 := n4_; have NB301_302 := n5_; have NB302_301 := n6_; clear n0_ n1_ n2_ n3_ n4_ n5_ n6_; clear hb hbox hg) | ((with_reducible refine gate_dst (N := 6) rfl ?_); refine box_event ?hg (N := 6) ?hd (cs := #[.int .i64 0, .int .i64 0, .string (⟨#[]⟩ : ByteArray)]) (t := 23) ?hr ?_; (case hd => rfl); (case hg => rfl); (case hr => first | (go_simp; done) | (go_simp; rfl)); intro gb303 hg w7 hbox hb; have n0_ := Aside0.mk (blk_below (g := gb301) (o := .cells #[.int .i64 a1_0, .int .i64 a1_1, .string a1_2] 23 (0, 0)) (by (with_reducible repeat (first | refine blk_drewN ?_ _ | refine blk_drew ?_ | refine blk_alloc ?_ _)); exact BK301.out) hb); have n1_ := Aside0.mk (blk_below (g := gb302) (o := .cells #[.int .i64 a2_0, .int .i64 a2_1, .string a2_2] 23 (0, 0)) (by (with_reducible repeat (first | refine blk_drewN ?_ _ | refine blk_drew ?_ | refine blk_alloc ?_ _)); exact BK302.out) hb); have n2_ := Aside0.mk (below_step (by repeat (first | (with_reducible first | exact HB.out | apply below_alloc | apply pw_below_drewN | apply below_drew1 | refine below_set ?_ GE301.out | refine below_set ?_ GE302.out) | exact HB.out)) hb); have n3_ := Aside0.mk (hbox); have n4_ := Aside0.mk ((by rw [hg]; exact (below_size (by repeat (first | (with_reducible first | exact HB.out | apply below_alloc | apply pw_below_drewN | apply below_drew1 | refine below_set ?_ GE301.out | refine below_set ?_ GE302.out) | exact HB.out))) : w.heap.size ≤ gb303)); have n5_ := Aside0.mk ((by rw [hg]; exact (below_size (by repeat (first | (with_reducible first | exact HB.out | apply below_alloc | apply pw_below_drewN | apply below_drew1 | refine below_set ?_ GE301.out | refine below_set ?_ GE302.out) | exact HB.out))) : w.heap.size ≤ gb303)); have n6_ := Aside0.mk ((by rw [hg]; exact Nat.ne_of_lt (blk_lt (g := gb301) (o := .cells #[.int .i64 a1_0, .int .i64 a1_1, .string a1_2] 23 (0, 0)) (by (with_reducible repeat (first | refine blk_drewN ?_ _ | refine blk_drew ?_ | refine blk_alloc ?_ _)); exact BK301.out)) : gb301 ≠ gb303)); have n7_ := Aside0.mk ((by rw [hg]; exact Nat.ne_of_gt (blk_lt (g := gb301) (o := .cells #[.int .i64 a1_0, .int .i64 a1_1, .string a1_2] 23 (0, 0)) (by (with_reducible repeat (first | refine blk_drewN ?_ _ | refine blk_drew ?_ | refine blk_alloc ?_ _)); exact BK301.out)) : gb303 ≠ gb301)); have n8_ := Aside0.mk ((by rw [hg]; exact Nat.ne_of_lt (blk_lt (g := gb302) (o := .cells #[.int .i64 a2_0, .int .i64 a2_1, .string a2_2] 23 (0, 0)) (by (with_reducible repeat (first | refine blk_drewN ?_ _ | refine blk_drew ?_ | refine blk_alloc ?_ _)); exact BK302.out)) : gb302 ≠ gb303)); have n9_ := Aside0.mk ((by rw [hg]; exact Nat.ne_of_gt (blk_lt (g := gb302) (o := .cells #[.int .i64 a2_0, .int .i64 a2_1, .string a2_2] 23 (0, 0)) (by (with_reducible repeat (first | refine blk_drewN ?_ _ | refine blk_drew ?_ | refine blk_alloc ?_ _)); exact BK302.out)) : gb303 ≠ gb302)); clear BK301; clear BK302; clear HB; have BK301 := n0_; have BK302 := n1_; have HB := n2_; have BK303 := n3_; have GW303 := n4_; have GE303 := n5_; have NB301_303 := n6_; have NB303_301 := n7_; have NB302_303 := n8_; have NB303_302 := n9_; clear n0_ n1_ n2_ n3_ n4_ n5_ n6_ n7_ n8_ n9_; clear hb hbox hg))
 (try simp only [Act.put, List.setIfInBounds_toArray, List.set_cons_zero, List.set_cons_succ])
 go_cut [9] (fun v9 wc => ∃ (kq : Nat) (x9_3 : Bool), v9 = .bool x9_3 ∧ Aside0 (cabinetryref01_others.j0 kq a0 x9_3 a1_0 a1_1 a1_2 a2_0 a2_1 a2_2 = some (r1, r2, r3, r4)) ∧ Aside0 (kq ≤ k) ∧ Aside0 (wc.heap[gb301]? = some (.cells #[.int .i64 a1_0, .int .i64 a1_1, .string a1_2] 23 (0, 0))) ∧ Aside0 (wc.heap[gb302]? = some (.cells #[.int .i64 a2_0, .int .i64 a2_1, .string a2_2] 23 (0, 0))) ∧ Aside0 (wc.heap[gb303]? = some (.cells #[.int .i64 0, .int .i64 0, .string (⟨#[]⟩ : ByteArray)] 23 (0, 0))) ∧ Aside0 (Below w.heap.size w wc))
 case first =>
  have H := HC4.out
  clear HC4
  by_cases c8 : a0 = 0
  ·rw [if_pos c8] at H
   have c8b0 : (a0 == 0) = true := beq_iff_eq.mpr c8
   have c8b1 : (a0 != 0) = false := bne_eq_false_iff_eq.mpr c8
   clear c8
   (first | rw [c8b0] | (simp only [i64_w, i32_w]; rw [c8b0]) | skip)
   by_cases c9 : a1_0 = 3
   ·rw [if_pos c9] at H
    have c9b0 : (a1_0 == 3) = true := beq_iff_eq.mpr c9
    have c9b1 : (a1_0 != 3) = false := bne_eq_false_iff_eq.mpr c9
    clear c9
    have H' := Aside0.mk H
    clear H
    have hnb10 := NB301_302.out
    have hnc10 := NB302_301.out
    have hnb11 := NB301_303.out
    have hnc11 := NB303_301.out
    have hcz12_0 : w7.cell? ⟨gb301, 0, none⟩ = some (.int .i64 a1_0) := (blk_cell BK301.out 0).trans rfl
    have hcz12_1 : w7.cell? ⟨gb301, 1, none⟩ = some (.int .i64 a1_1) := (blk_cell BK301.out 1).trans rfl
    have hcz12_2 : w7.cell? ⟨gb301, 2, none⟩ = some (.string a1_2) := (blk_cell BK301.out 2).trans rfl
    have hfz12_0 := blk_frozen BK301.out 0
    have hfz12_1 := blk_frozen BK301.out 1
    have hfz12_2 := blk_frozen BK301.out 2
    have hnb13 := NB302_303.out
    have hnc13 := NB303_302.out
    have hcz14_0 : w7.cell? ⟨gb302, 0, none⟩ = some (.int .i64 a2_0) := (blk_cell BK302.out 0).trans rfl
    have hcz14_1 : w7.cell? ⟨gb302, 1, none⟩ = some (.int .i64 a2_1) := (blk_cell BK302.out 1).trans rfl
    have hcz14_2 : w7.cell? ⟨gb302, 2, none⟩ = some (.string a2_2) := (blk_cell BK302.out 2).trans rfl
    have hfz14_0 := blk_frozen BK302.out 0
    have hfz14_1 := blk_frozen BK302.out 1
    have hfz14_2 := blk_frozen BK302.out 2
    go_wp2
    go_meet
    case rel => exact ⟨_, ((a2_0 == 2)), (by first | rfl | (simp; done) | (simp [*]; done)), H', ⟨by first | omega | exact Nat.le_refl _⟩, ⟨by (with_reducible repeat (first | refine blk_drewN ?_ _ | refine blk_drew ?_ | refine blk_alloc ?_ _)); exact BK301.out⟩, ⟨by (with_reducible repeat (first | refine blk_drewN ?_ _ | refine blk_drew ?_ | refine blk_alloc ?_ _)); exact BK302.out⟩, ⟨by (with_reducible repeat (first | refine blk_drewN ?_ _ | refine blk_drew ?_ | refine blk_alloc ?_ _)); exact BK303.out⟩, ⟨by repeat (first | (with_reducible first | exact HB.out | apply below_alloc | apply pw_below_drewN | apply below_drew1 | refine below_set ?_ GE301.out | refine below_set ?_ GE302.out | refine below_set ?_ GE303.out) | exact HB.out)⟩⟩
   ·rw [if_neg c9] at H
    have c9b0 : (a1_0 == 3) = false := beq_eq_false_iff_ne.mpr c9
    have c9b1 : (a1_0 != 3) = true := bne_iff_ne.mpr c9
    have H' := Aside0.mk H
    clear H
    have hnb15 := NB301_302.out
    have hnc15 := NB302_301.out
    have hnb16 := NB301_303.out
    have hnc16 := NB303_301.out
    have hcz17_0 : w7.cell? ⟨gb301, 0, none⟩ = some (.int .i64 a1_0) := (blk_cell BK301.out 0).trans rfl
    have hcz17_1 : w7.cell? ⟨gb301, 1, none⟩ = some (.int .i64 a1_1) := (blk_cell BK301.out 1).trans rfl
    have hcz17_2 : w7.cell? ⟨gb301, 2, none⟩ = some (.string a1_2) := (blk_cell BK301.out 2).trans rfl
    have hfz17_0 := blk_frozen BK301.out 0
    have hfz17_1 := blk_frozen BK301.out 1
    have hfz17_2 := blk_frozen BK301.out 2
    go_wp2
    go_meet
    case rel => exact ⟨_, (false), (by first | rfl | (simp; done) | (simp [*]; done)), H', ⟨by first | omega | exact Nat.le_refl _⟩, ⟨by (with_reducible repeat (first | refine blk_drewN ?_ _ | refine blk_drew ?_ | refine blk_alloc ?_ _)); exact BK301.out⟩, ⟨by (with_reducible repeat (first | refine blk_drewN ?_ _ | refine blk_drew ?_ | refine blk_alloc ?_ _)); exact BK302.out⟩, ⟨by (with_reducible repeat (first | refine blk_drewN ?_ _ | refine blk_drew ?_ | refine blk_alloc ?_ _)); exact BK303.out⟩, ⟨by repeat (first | (with_reducible first | exact HB.out | apply below_alloc | apply pw_below_drewN | apply below_drew1 | refine below_set ?_ GE301.out | refine below_set ?_ GE302.out | refine below_set ?_ GE303.out) | exact HB.out)⟩⟩
  ·rw [if_neg c8] at H
   have c8b0 : (a0 == 0) = false := beq_eq_false_iff_ne.mpr c8
   have c8b1 : (a0 != 0) = true := bne_iff_ne.mpr c8
   (first | rw [c8b0] | (simp only [i64_w, i32_w]; rw [c8b0]) | skip)
   have H' := Aside0.mk H
   clear H
   go_wp2
   go_meet
   case rel => exact ⟨_, (false), (by first | rfl | (simp; done) | (simp [*]; done)), H', ⟨by first | omega | exact Nat.le_refl _⟩, ⟨by (with_reducible repeat (first | refine blk_drewN ?_ _ | refine blk_drew ?_ | refine blk_alloc ?_ _)); exact BK301.out⟩, ⟨by (with_reducible repeat (first | refine blk_drewN ?_ _ | refine blk_drew ?_ | refine blk_alloc ?_ _)); exact BK302.out⟩, ⟨by (with_reducible repeat (first | refine blk_drewN ?_ _ | refine blk_drew ?_ | refine blk_alloc ?_ _)); exact BK303.out⟩, ⟨by repeat (first | (with_reducible first | exact HB.out | apply below_alloc | apply pw_below_drewN | apply below_drew1 | refine below_set ?_ GE301.out | refine below_set ?_ GE302.out | refine below_set ?_ GE303.out) | exact HB.out)⟩⟩
 case rest =>
  clear HC4
  try clear c1; try clear p2; try clear c8; try clear c8b0; try clear c8b1; try clear c9; try clear c9b0; try clear c9b1; try clear c10; try clear c11; try clear c13; try clear c15; try clear c16; try clear hcz12_0; try clear hcz12_1; try clear hcz12_2; try clear hcz14_0; try clear hcz14_1; try clear hcz14_2; try clear hcz17_0; try clear hcz17_1; try clear hcz17_2; try clear hfz12_0; try clear hfz12_1; try clear hfz12_2; try clear hfz14_0; try clear hfz14_1; try clear hfz14_2; try clear hfz17_0; try clear hfz17_1; try clear hfz17_2
  obtain ⟨kq, x9_3, rfl, HA, HJ3, BK301, BK302, BK303, HB⟩ := hcut
  cases kq with
  | zero => exact absurd HA.out (by simp [cabinetryref01_others.j0])
  | succ kj3 =>
   have H := HA.out
   clear HA
   simp only [cabinetryref01_others.j0] at H
   by_cases c18 : x9_3 = true
   ·subst c18
    have H1 : ((cabinetryref01_moved.f a1_1 a2_1).bind fun bt304 => (some (bt304.1, bt304.2.1, bt304.2.2.1, bt304.2.2.2))) = some (r1, r2, r3, r4) := by rw [if_pos rfl] at H; exact H
    clear H
    have H := H1
    clear H1
    replace H := Option.bind_eq_some_iff.mp H
    obtain ⟨⟨t304, t305, t306, t307⟩, A190, H⟩ := H
    replace H : (some (t304, t305, t306, t307)) = some (r1, r2, r3, r4) := H
    have A19 := Aside0.mk A190
    clear A190
    simp only [Option.some.injEq, Prod.mk.injEq] at H
    obtain ⟨rfl, rfl, rfl, rfl⟩ := H
    have hnb20 := NB301_302.out
    have hnc20 := NB302_301.out
    have hnb21 := NB301_303.out
    have hnc21 := NB303_301.out
    have hcz22_0 : wc.cell? ⟨gb301, 0, none⟩ = some (.int .i64 a1_0) := (blk_cell BK301.out 0).trans rfl
    have hcz22_1 : wc.cell? ⟨gb301, 1, none⟩ = some (.int .i64 a1_1) := (blk_cell BK301.out 1).trans rfl
    have hcz22_2 : wc.cell? ⟨gb301, 2, none⟩ = some (.string a1_2) := (blk_cell BK301.out 2).trans rfl
    have hfz22_0 := blk_frozen BK301.out 0
    have hfz22_1 := blk_frozen BK301.out 1
    have hfz22_2 := blk_frozen BK301.out 2
    have hnb23 := NB302_303.out
    have hnc23 := NB303_302.out
    have hcz24_0 : wc.cell? ⟨gb302, 0, none⟩ = some (.int .i64 a2_0) := (blk_cell BK302.out 0).trans rfl
    have hcz24_1 : wc.cell? ⟨gb302, 1, none⟩ = some (.int .i64 a2_1) := (blk_cell BK302.out 1).trans rfl
    have hcz24_2 : wc.cell? ⟨gb302, 2, none⟩ = some (.string a2_2) := (blk_cell BK302.out 2).trans rfl
    have hfz24_0 := blk_frozen BK302.out 0
    have hfz24_1 := blk_frozen BK302.out 1
    have hfz24_2 := blk_frozen BK302.out 2
    go_wp2_with (first | ((with_reducible refine gate_callee (f := 134) rfl ?_); refine goesL_ (some 26) rfl rfl Tryd.func134 (by kernel_rfl) rfl #[.int .i64 a1_1, .int .i64 a2_1] rfl (by (try simp only [List.map_toArray, List.map_cons, List.map_nil]); first | done | rfl | (simp only [List.length_drop, List.length_take]; rfl)) ?_; (with_reducible refine (cabinetryref01_moved.calls a1_1 a2_1 t304 t305 t306 t307 _ A19.out).mono ?_); rintro e w25 ⟨rfl, hb⟩; refine ⟨_, rfl, ?_⟩; have n0_ := Aside0.mk (blk_below (g := gb301) (o := .cells #[.int .i64 a1_0, .int .i64 a1_1, .string a1_2] 23 (0, 0)) (by (with_reducible repeat (first | refine blk_drewN ?_ _ | refine blk_drew ?_ | refine blk_alloc ?_ _)); exact BK301.out) hb); have n1_ := Aside0.mk (blk_below (g := gb302) (o := .cells #[.int .i64 a2_0, .int .i64 a2_1, .string a2_2] 23 (0, 0)) (by (with_reducible repeat (first | refine blk_drewN ?_ _ | refine blk_drew ?_ | refine blk_alloc ?_ _)); exact BK302.out) hb); have n2_ := Aside0.mk (blk_below (g := gb303) (o := .cells #[.int .i64 0, .int .i64 0, .string (⟨#[]⟩ : ByteArray)] 23 (0, 0)) (by (with_reducible repeat (first | refine blk_drewN ?_ _ | refine blk_drew ?_ | refine blk_alloc ?_ _)); exact BK303.out) hb); have n3_ := Aside0.mk (below_step (by repeat (first | (with_reducible first | exact HB.out | apply below_alloc | apply pw_below_drewN | apply below_drew1 | refine below_set ?_ GE301.out | refine below_set ?_ GE302.out | refine below_set ?_ GE303.out) | exact HB.out)) hb); clear BK301; clear BK302; clear BK303; clear HB; have BK301 := n0_; have BK302 := n1_; have BK303 := n2_; have HB := n3_; clear n0_ n1_ n2_ n3_; (try clear hb); (try clear hb2); (try clear hk); (try clear hi); have hcz26_0 : w25.cell? ⟨gb303, 0, none⟩ = some (.int .i64 0) := (blk_cell BK303.out 0).trans rfl; have hcz26_1 : w25.cell? ⟨gb303, 1, none⟩ = some (.int .i64 0) := (blk_cell BK303.out 1).trans rfl; have hcz26_2 : w25.cell? ⟨gb303, 2, none⟩ = some (.string (⟨#[]⟩ : ByteArray)) := (blk_cell BK303.out 2).trans rfl; have hfz26_0 := blk_frozen BK303.out 0; have hfz26_1 := blk_frozen BK303.out 1; have hfz26_2 := blk_frozen BK303.out 2))
    refine bodyPost_ret (results_ct rfl _ _ gb303 23 #[.int .i64 t304, .int .i64 t305, .string t306] (0, 0) _ rfl (by (with_reducible repeat (first | refine blk_drewN ?_ _ | refine blk_drew ?_ | refine blk_alloc ?_ _)); refine blk_put (cs := #[.int .i64 t304, .int .i64 t305, .string (⟨#[]⟩ : ByteArray)]) ?_ 2 _ rfl; (with_reducible repeat (first | refine blk_drewN ?_ _ | refine blk_drew ?_ | refine blk_alloc ?_ _)); refine blk_put (cs := #[.int .i64 t304, .int .i64 0, .string (⟨#[]⟩ : ByteArray)]) ?_ 1 _ rfl; (with_reducible repeat (first | refine blk_drewN ?_ _ | refine blk_drew ?_ | refine blk_alloc ?_ _)); refine blk_put (cs := #[.int .i64 0, .int .i64 0, .string (⟨#[]⟩ : ByteArray)]) ?_ 0 _ rfl; (with_reducible repeat (first | refine blk_drewN ?_ _ | refine blk_drew ?_ | refine blk_alloc ?_ _)); exact BK303.out) Tryd.underlying23 rfl (by kernel_rfl)) rfl ?_
    exact ⟨by first | rfl | (simp [errW_none, errW_some] <;> rfl) | (simp [*, errW_none, errW_some] <;> rfl), by repeat (first | (with_reducible first | exact HB.out | apply below_alloc | apply pw_below_drewN | apply below_drew1 | refine below_set ?_ GE301.out | refine below_set ?_ GE302.out | refine below_set ?_ GE303.out) | exact HB.out)⟩
   ·replace c18 := Bool.eq_false_iff.mpr c18
    subst c18
    have H1 : (if a0 = 0 then (if a1_0 = 2 then (cabinetryref01_others.j1 kj3 a0 (a2_0 == 3) a1_0 a1_1 a1_2 a2_0 a2_1 a2_2) else (cabinetryref01_others.j1 kj3 a0 false a1_0 a1_1 a1_2 a2_0 a2_1 a2_2)) else (cabinetryref01_others.j1 kj3 a0 false a1_0 a1_1 a1_2 a2_0 a2_1 a2_2)) = some (r1, r2, r3, r4) := by rw [if_neg (show ¬ (false = true) by decide)] at H; exact H
    clear H
    have H := H1
    clear H1
    have HC27 := Aside0.mk H
    clear H
    go_upto_region 3 with (fail)
    go_cut [29] (fun v29 wc => ∃ (kq : Nat) (x29_26 : Bool), v29 = .bool x29_26 ∧ Aside0 (cabinetryref01_others.j1 kq a0 x29_26 a1_0 a1_1 a1_2 a2_0 a2_1 a2_2 = some (r1, r2, r3, r4)) ∧ Aside0 (kq ≤ kj3) ∧ Aside0 (wc.heap[gb301]? = some (.cells #[.int .i64 a1_0, .int .i64 a1_1, .string a1_2] 23 (0, 0))) ∧ Aside0 (wc.heap[gb302]? = some (.cells #[.int .i64 a2_0, .int .i64 a2_1, .string a2_2] 23 (0, 0))) ∧ Aside0 (wc.heap[gb303]? = some (.cells #[.int .i64 0, .int .i64 0, .string (⟨#[]⟩ : ByteArray)] 23 (0, 0))) ∧ Aside0 (Below w.heap.size w wc))
    case first =>
     have H := HC27.out
     clear HC27
     by_cases c28 : a0 = 0
     ·rw [if_pos c28] at H
      have c28b0 : (a0 == 0) = true := beq_iff_eq.mpr c28
      have c28b1 : (a0 != 0) = false := bne_eq_false_iff_eq.mpr c28
      clear c28
      (first | rw [c28b0] | (simp only [i64_w, i32_w]; rw [c28b0]) | skip)
      by_cases c29 : a1_0 = 2
      ·rw [if_pos c29] at H
       have c29b0 : (a1_0 == 2) = true := beq_iff_eq.mpr c29
       have c29b1 : (a1_0 != 2) = false := bne_eq_false_iff_eq.mpr c29
       clear c29
       have H' := Aside0.mk H
       clear H
       have hnb30 := NB301_302.out
       have hnc30 := NB302_301.out
       have hnb31 := NB301_303.out
       have hnc31 := NB303_301.out
       have hcz32_0 : wc.cell? ⟨gb301, 0, none⟩ = some (.int .i64 a1_0) := (blk_cell BK301.out 0).trans rfl
       have hcz32_1 : wc.cell? ⟨gb301, 1, none⟩ = some (.int .i64 a1_1) := (blk_cell BK301.out 1).trans rfl
       have hcz32_2 : wc.cell? ⟨gb301, 2, none⟩ = some (.string a1_2) := (blk_cell BK301.out 2).trans rfl
       have hfz32_0 := blk_frozen BK301.out 0
       have hfz32_1 := blk_frozen BK301.out 1
       have hfz32_2 := blk_frozen BK301.out 2
       have hnb33 := NB302_303.out
       have hnc33 := NB303_302.out
       have hcz34_0 : wc.cell? ⟨gb302, 0, none⟩ = some (.int .i64 a2_0) := (blk_cell BK302.out 0).trans rfl
       have hcz34_1 : wc.cell? ⟨gb302, 1, none⟩ = some (.int .i64 a2_1) := (blk_cell BK302.out 1).trans rfl
       have hcz34_2 : wc.cell? ⟨gb302, 2, none⟩ = some (.string a2_2) := (blk_cell BK302.out 2).trans rfl
       have hfz34_0 := blk_frozen BK302.out 0
       have hfz34_1 := blk_frozen BK302.out 1
       have hfz34_2 := blk_frozen BK302.out 2
       go_wp2
       go_meet
       case rel => exact ⟨_, ((a2_0 == 3)), (by first | rfl | (simp; done) | (simp [*]; done)), H', ⟨by have := HJ3.out; first | omega | exact Nat.le_refl _⟩, ⟨by (with_reducible repeat (first | refine blk_drewN ?_ _ | refine blk_drew ?_ | refine blk_alloc ?_ _)); exact BK301.out⟩, ⟨by (with_reducible repeat (first | refine blk_drewN ?_ _ | refine blk_drew ?_ | refine blk_alloc ?_ _)); exact BK302.out⟩, ⟨by (with_reducible repeat (first | refine blk_drewN ?_ _ | refine blk_drew ?_ | refine blk_alloc ?_ _)); exact BK303.out⟩, ⟨by repeat (first | (with_reducible first | exact HB.out | apply below_alloc | apply pw_below_drewN | apply below_drew1 | refine below_set ?_ GE301.out | refine below_set ?_ GE302.out | refine below_set ?_ GE303.out) | exact HB.out)⟩⟩
      ·rw [if_neg c29] at H
       have c29b0 : (a1_0 == 2) = false := beq_eq_false_iff_ne.mpr c29
       have c29b1 : (a1_0 != 2) = true := bne_iff_ne.mpr c29
       have H' := Aside0.mk H
       clear H
       have hnb35 := NB301_302.out
       have hnc35 := NB302_301.out
       have hnb36 := NB301_303.out
       have hnc36 := NB303_301.out
       have hcz37_0 : wc.cell? ⟨gb301, 0, none⟩ = some (.int .i64 a1_0) := (blk_cell BK301.out 0).trans rfl
       have hcz37_1 : wc.cell? ⟨gb301, 1, none⟩ = some (.int .i64 a1_1) := (blk_cell BK301.out 1).trans rfl
       have hcz37_2 : wc.cell? ⟨gb301, 2, none⟩ = some (.string a1_2) := (blk_cell BK301.out 2).trans rfl
       have hfz37_0 := blk_frozen BK301.out 0
       have hfz37_1 := blk_frozen BK301.out 1
       have hfz37_2 := blk_frozen BK301.out 2
       go_wp2
       go_meet
       case rel => exact ⟨_, (false), (by first | rfl | (simp; done) | (simp [*]; done)), H', ⟨by have := HJ3.out; first | omega | exact Nat.le_refl _⟩, ⟨by (with_reducible repeat (first | refine blk_drewN ?_ _ | refine blk_drew ?_ | refine blk_alloc ?_ _)); exact BK301.out⟩, ⟨by (with_reducible repeat (first | refine blk_drewN ?_ _ | refine blk_drew ?_ | refine blk_alloc ?_ _)); exact BK302.out⟩, ⟨by (with_reducible repeat (first | refine blk_drewN ?_ _ | refine blk_drew ?_ | refine blk_alloc ?_ _)); exact BK303.out⟩, ⟨by repeat (first | (with_reducible first | exact HB.out | apply below_alloc | apply pw_below_drewN | apply below_drew1 | refine below_set ?_ GE301.out | refine below_set ?_ GE302.out | refine below_set ?_ GE303.out) | exact HB.out)⟩⟩
     ·rw [if_neg c28] at H
      have c28b0 : (a0 == 0) = false := beq_eq_false_iff_ne.mpr c28
      have c28b1 : (a0 != 0) = true := bne_iff_ne.mpr c28
      (first | rw [c28b0] | (simp only [i64_w, i32_w]; rw [c28b0]) | skip)
      have H' := Aside0.mk H
      clear H
      go_wp2
      go_meet
      case rel => exact ⟨_, (false), (by first | rfl | (simp; done) | (simp [*]; done)), H', ⟨by have := HJ3.out; first | omega | exact Nat.le_refl _⟩, ⟨by (with_reducible repeat (first | refine blk_drewN ?_ _ | refine blk_drew ?_ | refine blk_alloc ?_ _)); exact BK301.out⟩, ⟨by (with_reducible repeat (first | refine blk_drewN ?_ _ | refine blk_drew ?_ | refine blk_alloc ?_ _)); exact BK302.out⟩, ⟨by (with_reducible repeat (first | refine blk_drewN ?_ _ | refine blk_drew ?_ | refine blk_alloc ?_ _)); exact BK303.out⟩, ⟨by repeat (first | (with_reducible first | exact HB.out | apply below_alloc | apply pw_below_drewN | apply below_drew1 | refine below_set ?_ GE301.out | refine below_set ?_ GE302.out | refine below_set ?_ GE303.out) | exact HB.out)⟩⟩
    case rest =>
     clear HC27
     try clear c1; try clear c2; try clear p2; try clear c3; try clear c8; try clear c8b0; try clear c8b1; try clear c9; try clear c9b0; try clear c9b1; try clear c10; try clear c11; try clear c13; try clear c15; try clear c16; try clear c18; try clear c20; try clear c21; try clear c23; try clear c28; try clear c28b0; try clear c28b1; try clear c29; try clear c29b0; try clear c29b1; try clear c30; try clear c31; try clear c33; try clear c35; try clear c36; try clear hcz12_0; try clear hcz12_1; try clear hcz12_2; try clear hcz14_0; try clear hcz14_1; try clear hcz14_2; try clear hcz17_0; try clear hcz17_1; try clear hcz17_2; try clear hcz22_0; try clear hcz22_1; try clear hcz22_2; try clear hcz24_0; try clear hcz24_1; try clear hcz24_2; try clear hcz26_0; try clear hcz26_1; try clear hcz26_2; try clear hcz32_0; try clear hcz32_1; try clear hcz32_2; try clear hcz34_0; try clear hcz34_1; try clear hcz34_2; try clear hcz37_0; try clear hcz37_1; try clear hcz37_2; try clear hfz12_0; try clear hfz12_1; try clear hfz12_2; try clear hfz14_0; try clear hfz14_1; try clear hfz14_2; try clear hfz17_0; try clear hfz17_1; try clear hfz17_2; try clear hfz22_0; try clear hfz22_1; try clear hfz22_2; try clear hfz24_0; try clear hfz24_1; try clear hfz24_2; try clear hfz26_0; try clear hfz26_1; try clear hfz26_2; try clear hfz32_0; try clear hfz32_1; try clear hfz32_2; try clear hfz34_0; try clear hfz34_1; try clear hfz34_2; try clear hfz37_0; try clear hfz37_1; try clear hfz37_2; try clear p2
     obtain ⟨kq, x29_26, rfl, HA, HJ26, BK301, BK302, BK303, HB⟩ := hcut
     cases kq with
     | zero => exact absurd HA.out (by simp [cabinetryref01_others.j1])
     | succ kj26 =>
      have H := HA.out
      clear HA
      simp only [cabinetryref01_others.j1] at H
      by_cases c38 : x29_26 = true
      ·subst c38
       have H1 : ((cabinetryref01_moved.f a2_1 a1_1).bind fun bt308 => (some (bt308.1, bt308.2.1, bt308.2.2.1, bt308.2.2.2))) = some (r1, r2, r3, r4) := by rw [if_pos rfl] at H; exact H
       clear H
       have H := H1
       clear H1
       replace H := Option.bind_eq_some_iff.mp H
       obtain ⟨⟨t308, t309, t310, t311⟩, A390, H⟩ := H
       replace H : (some (t308, t309, t310, t311)) = some (r1, r2, r3, r4) := H
       have A39 := Aside0.mk A390
       clear A390
       simp only [Option.some.injEq, Prod.mk.injEq] at H
       obtain ⟨rfl, rfl, rfl, rfl⟩ := H
       have hnb40 := NB302_301.out
       have hnc40 := NB301_302.out
       have hnb41 := NB302_303.out
       have hnc41 := NB303_302.out
       have hcz42_0 : wc.cell? ⟨gb302, 0, none⟩ = some (.int .i64 a2_0) := (blk_cell BK302.out 0).trans rfl
       have hcz42_1 : wc.cell? ⟨gb302, 1, none⟩ = some (.int .i64 a2_1) := (blk_cell BK302.out 1).trans rfl
       have hcz42_2 : wc.cell? ⟨gb302, 2, none⟩ = some (.string a2_2) := (blk_cell BK302.out 2).trans rfl
       have hfz42_0 := blk_frozen BK302.out 0
       have hfz42_1 := blk_frozen BK302.out 1
       have hfz42_2 := blk_frozen BK302.out 2
       have hnb43 := NB301_303.out
       have hnc43 := NB303_301.out
       have hcz44_0 : wc.cell? ⟨gb301, 0, none⟩ = some (.int .i64 a1_0) := (blk_cell BK301.out 0).trans rfl
       have hcz44_1 : wc.cell? ⟨gb301, 1, none⟩ = some (.int .i64 a1_1) := (blk_cell BK301.out 1).trans rfl
       have hcz44_2 : wc.cell? ⟨gb301, 2, none⟩ = some (.string a1_2) := (blk_cell BK301.out 2).trans rfl
       have hfz44_0 := blk_frozen BK301.out 0
       have hfz44_1 := blk_frozen BK301.out 1
       have hfz44_2 := blk_frozen BK301.out 2
       go_wp2_with (first | ((with_reducible refine gate_callee (f := 134) rfl ?_); refine goesL_ (some 46) rfl rfl Tryd.func134 (by kernel_rfl) rfl #[.int .i64 a2_1, .int .i64 a1_1] rfl (by (try simp only [List.map_toArray, List.map_cons, List.map_nil]); first | done | rfl | (simp only [List.length_drop, List.length_take]; rfl)) ?_; (with_reducible refine (cabinetryref01_moved.calls a2_1 a1_1 t308 t309 t310 t311 _ A39.out).mono ?_); rintro e w45 ⟨rfl, hb⟩; refine ⟨_, rfl, ?_⟩; have n0_ := Aside0.mk (blk_below (g := gb301) (o := .cells #[.int .i64 a1_0, .int .i64 a1_1, .string a1_2] 23 (0, 0)) (by (with_reducible repeat (first | refine blk_drewN ?_ _ | refine blk_drew ?_ | refine blk_alloc ?_ _)); exact BK301.out) hb); have n1_ := Aside0.mk (blk_below (g := gb302) (o := .cells #[.int .i64 a2_0, .int .i64 a2_1, .string a2_2] 23 (0, 0)) (by (with_reducible repeat (first | refine blk_drewN ?_ _ | refine blk_drew ?_ | refine blk_alloc ?_ _)); exact BK302.out) hb); have n2_ := Aside0.mk (blk_below (g := gb303) (o := .cells #[.int .i64 0, .int .i64 0, .string (⟨#[]⟩ : ByteArray)] 23 (0, 0)) (by (with_reducible repeat (first | refine blk_drewN ?_ _ | refine blk_drew ?_ | refine blk_alloc ?_ _)); exact BK303.out) hb); have n3_ := Aside0.mk (below_step (by repeat (first | (with_reducible first | exact HB.out | apply below_alloc | apply pw_below_drewN | apply below_drew1 | refine below_set ?_ GE301.out | refine below_set ?_ GE302.out | refine below_set ?_ GE303.out) | exact HB.out)) hb); clear BK301; clear BK302; clear BK303; clear HB; have BK301 := n0_; have BK302 := n1_; have BK303 := n2_; have HB := n3_; clear n0_ n1_ n2_ n3_; (try clear hb); (try clear hb2); (try clear hk); (try clear hi); have hcz46_0 : w45.cell? ⟨gb303, 0, none⟩ = some (.int .i64 0) := (blk_cell BK303.out 0).trans rfl; have hcz46_1 : w45.cell? ⟨gb303, 1, none⟩ = some (.int .i64 0) := (blk_cell BK303.out 1).trans rfl; have hcz46_2 : w45.cell? ⟨gb303, 2, none⟩ = some (.string (⟨#[]⟩ : ByteArray)) := (blk_cell BK303.out 2).trans rfl; have hfz46_0 := blk_frozen BK303.out 0; have hfz46_1 := blk_frozen BK303.out 1; have hfz46_2 := blk_frozen BK303.out 2))
       refine bodyPost_ret (results_ct rfl _ _ gb303 23 #[.int .i64 t308, .int .i64 t309, .string t310] (0, 0) _ rfl (by (with_reducible repeat (first | refine blk_drewN ?_ _ | refine blk_drew ?_ | refine blk_alloc ?_ _)); refine blk_put (cs := #[.int .i64 t308, .int .i64 t309, .string (⟨#[]⟩ : ByteArray)]) ?_ 2 _ rfl; (with_reducible repeat (first | refine blk_drewN ?_ _ | refine blk_drew ?_ | refine blk_alloc ?_ _)); refine blk_put (cs := #[.int .i64 t308, .int .i64 0, .string (⟨#[]⟩ : ByteArray)]) ?_ 1 _ rfl; (with_reducible repeat (first | refine blk_drewN ?_ _ | refine blk_drew ?_ | refine blk_alloc ?_ _)); refine blk_put (cs := #[.int .i64 0, .int .i64 0, .string (⟨#[]⟩ : ByteArray)]) ?_ 0 _ rfl; (with_reducible repeat (first | refine blk_drewN ?_ _ | refine blk_drew ?_ | refine blk_alloc ?_ _)); exact BK303.out) Tryd.underlying23 rfl (by kernel_rfl)) rfl ?_
       exact ⟨by first | rfl | (simp [errW_none, errW_some] <;> rfl) | (simp [*, errW_none, errW_some] <;> rfl), by repeat (first | (with_reducible first | exact HB.out | apply below_alloc | apply pw_below_drewN | apply below_drew1 | refine below_set ?_ GE301.out | refine below_set ?_ GE302.out | refine below_set ?_ GE303.out) | exact HB.out)⟩
      ·replace c38 := Bool.eq_false_iff.mpr c38
       subst c38
       have H1 : (if a0 = 0 then (if a1_0 = 4 then (cabinetryref01_others.j2 kj26 a0 (a2_0 == 4) a1_0 a1_1 a1_2 a2_0 a2_1 a2_2) else (cabinetryref01_others.j2 kj26 a0 false a1_0 a1_1 a1_2 a2_0 a2_1 a2_2)) else (cabinetryref01_others.j2 kj26 a0 false a1_0 a1_1 a1_2 a2_0 a2_1 a2_2)) = some (r1, r2, r3, r4) := by rw [if_neg (show ¬ (false = true) by decide)] at H; exact H
       clear H
       have H := H1
       clear H1
       have HC47 := Aside0.mk H
       clear H
       go_upto_region 5 with (fail)
       go_cut [49] (fun v49 wc => ∃ (kq : Nat) (x49_46 : Bool), v49 = .bool x49_46 ∧ Aside0 (cabinetryref01_others.j2 kq a0 x49_46 a1_0 a1_1 a1_2 a2_0 a2_1 a2_2 = some (r1, r2, r3, r4)) ∧ Aside0 (kq ≤ kj26) ∧ Aside0 (wc.heap[gb301]? = some (.cells #[.int .i64 a1_0, .int .i64 a1_1, .string a1_2] 23 (0, 0))) ∧ Aside0 (wc.heap[gb302]? = some (.cells #[.int .i64 a2_0, .int .i64 a2_1, .string a2_2] 23 (0, 0))) ∧ Aside0 (wc.heap[gb303]? = some (.cells #[.int .i64 0, .int .i64 0, .string (⟨#[]⟩ : ByteArray)] 23 (0, 0))) ∧ Aside0 (Below w.heap.size w wc))
       case first =>
        have H := HC47.out
        clear HC47
        by_cases c48 : a0 = 0
        ·rw [if_pos c48] at H
         have c48b0 : (a0 == 0) = true := beq_iff_eq.mpr c48
         have c48b1 : (a0 != 0) = false := bne_eq_false_iff_eq.mpr c48
         clear c48
         (first | rw [c48b0] | (simp only [i64_w, i32_w]; rw [c48b0]) | skip)
         by_cases c49 : a1_0 = 4
         ·rw [if_pos c49] at H
          have c49b0 : (a1_0 == 4) = true := beq_iff_eq.mpr c49
          have c49b1 : (a1_0 != 4) = false := bne_eq_false_iff_eq.mpr c49
          clear c49
          have H' := Aside0.mk H
          clear H
          have hnb50 := NB301_302.out
          have hnc50 := NB302_301.out
          have hnb51 := NB301_303.out
          have hnc51 := NB303_301.out
          have hcz52_0 : wc.cell? ⟨gb301, 0, none⟩ = some (.int .i64 a1_0) := (blk_cell BK301.out 0).trans rfl
          have hcz52_1 : wc.cell? ⟨gb301, 1, none⟩ = some (.int .i64 a1_1) := (blk_cell BK301.out 1).trans rfl
          have hcz52_2 : wc.cell? ⟨gb301, 2, none⟩ = some (.string a1_2) := (blk_cell BK301.out 2).trans rfl
          have hfz52_0 := blk_frozen BK301.out 0
          have hfz52_1 := blk_frozen BK301.out 1
          have hfz52_2 := blk_frozen BK301.out 2
          have hnb53 := NB302_303.out
          have hnc53 := NB303_302.out
          have hcz54_0 : wc.cell? ⟨gb302, 0, none⟩ = some (.int .i64 a2_0) := (blk_cell BK302.out 0).trans rfl
          have hcz54_1 : wc.cell? ⟨gb302, 1, none⟩ = some (.int .i64 a2_1) := (blk_cell BK302.out 1).trans rfl
          have hcz54_2 : wc.cell? ⟨gb302, 2, none⟩ = some (.string a2_2) := (blk_cell BK302.out 2).trans rfl
          have hfz54_0 := blk_frozen BK302.out 0
          have hfz54_1 := blk_frozen BK302.out 1
          have hfz54_2 := blk_frozen BK302.out 2
          go_wp2
          go_meet
          case rel => exact ⟨_, ((a2_0 == 4)), (by first | rfl | (simp; done) | (simp [*]; done)), H', ⟨by have := HJ3.out; have := HJ26.out; first | omega | exact Nat.le_refl _⟩, ⟨by (with_reducible repeat (first | refine blk_drewN ?_ _ | refine blk_drew ?_ | refine blk_alloc ?_ _)); exact BK301.out⟩, ⟨by (with_reducible repeat (first | refine blk_drewN ?_ _ | refine blk_drew ?_ | refine blk_alloc ?_ _)); exact BK302.out⟩, ⟨by (with_reducible repeat (first | refine blk_drewN ?_ _ | refine blk_drew ?_ | refine blk_alloc ?_ _)); exact BK303.out⟩, ⟨by repeat (first | (with_reducible first | exact HB.out | apply below_alloc | apply pw_below_drewN | apply below_drew1 | refine below_set ?_ GE301.out | refine below_set ?_ GE302.out | refine below_set ?_ GE303.out) | exact HB.out)⟩⟩
         ·rw [if_neg c49] at H
          have c49b0 : (a1_0 == 4) = false := beq_eq_false_iff_ne.mpr c49
          have c49b1 : (a1_0 != 4) = true := bne_iff_ne.mpr c49
          have H' := Aside0.mk H
          clear H
          have hnb55 := NB301_302.out
          have hnc55 := NB302_301.out
          have hnb56 := NB301_303.out
          have hnc56 := NB303_301.out
          have hcz57_0 : wc.cell? ⟨gb301, 0, none⟩ = some (.int .i64 a1_0) := (blk_cell BK301.out 0).trans rfl
          have hcz57_1 : wc.cell? ⟨gb301, 1, none⟩ = some (.int .i64 a1_1) := (blk_cell BK301.out 1).trans rfl
          have hcz57_2 : wc.cell? ⟨gb301, 2, none⟩ = some (.string a1_2) := (blk_cell BK301.out 2).trans rfl
          have hfz57_0 := blk_frozen BK301.out 0
          have hfz57_1 := blk_frozen BK301.out 1
          have hfz57_2 := blk_frozen BK301.out 2
          go_wp2
          go_meet
          case rel => exact ⟨_, (false), (by first | rfl | (simp; done) | (simp [*]; done)), H', ⟨by have := HJ3.out; have := HJ26.out; first | omega | exact Nat.le_refl _⟩, ⟨by (with_reducible repeat (first | refine blk_drewN ?_ _ | refine blk_drew ?_ | refine blk_alloc ?_ _)); exact BK301.out⟩, ⟨by (with_reducible repeat (first | refine blk_drewN ?_ _ | refine blk_drew ?_ | refine blk_alloc ?_ _)); exact BK302.out⟩, ⟨by (with_reducible repeat (first | refine blk_drewN ?_ _ | refine blk_drew ?_ | refine blk_alloc ?_ _)); exact BK303.out⟩, ⟨by repeat (first | (with_reducible first | exact HB.out | apply below_alloc | apply pw_below_drewN | apply below_drew1 | refine below_set ?_ GE301.out | refine below_set ?_ GE302.out | refine below_set ?_ GE303.out) | exact HB.out)⟩⟩
        ·rw [if_neg c48] at H
         have c48b0 : (a0 == 0) = false := beq_eq_false_iff_ne.mpr c48
         have c48b1 : (a0 != 0) = true := bne_iff_ne.mpr c48
         (first | rw [c48b0] | (simp only [i64_w, i32_w]; rw [c48b0]) | skip)
         have H' := Aside0.mk H
         clear H
         go_wp2
         go_meet
         case rel => exact ⟨_, (false), (by first | rfl | (simp; done) | (simp [*]; done)), H', ⟨by have := HJ3.out; have := HJ26.out; first | omega | exact Nat.le_refl _⟩, ⟨by (with_reducible repeat (first | refine blk_drewN ?_ _ | refine blk_drew ?_ | refine blk_alloc ?_ _)); exact BK301.out⟩, ⟨by (with_reducible repeat (first | refine blk_drewN ?_ _ | refine blk_drew ?_ | refine blk_alloc ?_ _)); exact BK302.out⟩, ⟨by (with_reducible repeat (first | refine blk_drewN ?_ _ | refine blk_drew ?_ | refine blk_alloc ?_ _)); exact BK303.out⟩, ⟨by repeat (first | (with_reducible first | exact HB.out | apply below_alloc | apply pw_below_drewN | apply below_drew1 | refine below_set ?_ GE301.out | refine below_set ?_ GE302.out | refine below_set ?_ GE303.out) | exact HB.out)⟩⟩
       case rest =>
        clear HC47
        try clear c1; try clear c2; try clear p2; try clear c3; try clear c4; try clear c5; try clear c8; try clear c8b0; try clear c8b1; try clear c9; try clear c9b0; try clear c9b1; try clear c10; try clear c11; try clear c13; try clear c15; try clear c16; try clear c18; try clear c20; try clear c21; try clear c23; try clear c28; try clear c28b0; try clear c28b1; try clear c29; try clear c29b0; try clear c29b1; try clear c30; try clear c31; try clear c33; try clear c35; try clear c36; try clear c38; try clear c40; try clear c41; try clear c43; try clear c48; try clear c48b0; try clear c48b1; try clear c49; try clear c49b0; try clear c49b1; try clear c50; try clear c51; try clear c53; try clear c55; try clear c56; try clear hcz12_0; try clear hcz12_1; try clear hcz12_2; try clear hcz14_0; try clear hcz14_1; try clear hcz14_2; try clear hcz17_0; try clear hcz17_1; try clear hcz17_2; try clear hcz22_0; try clear hcz22_1; try clear hcz22_2; try clear hcz24_0; try clear hcz24_1; try clear hcz24_2; try clear hcz26_0; try clear hcz26_1; try clear hcz26_2; try clear hcz32_0; try clear hcz32_1; try clear hcz32_2; try clear hcz34_0; try clear hcz34_1; try clear hcz34_2; try clear hcz37_0; try clear hcz37_1; try clear hcz37_2; try clear hcz42_0; try clear hcz42_1; try clear hcz42_2; try clear hcz44_0; try clear hcz44_1; try clear hcz44_2; try clear hcz46_0; try clear hcz46_1; try clear hcz46_2; try clear hcz52_0; try clear hcz52_1; try clear hcz52_2; try clear hcz54_0; try clear hcz54_1; try clear hcz54_2; try clear hcz57_0; try clear hcz57_1; try clear hcz57_2; try clear hfz12_0; try clear hfz12_1; try clear hfz12_2; try clear hfz14_0; try clear hfz14_1; try clear hfz14_2; try clear hfz17_0; try clear hfz17_1; try clear hfz17_2; try clear hfz22_0; try clear hfz22_1; try clear hfz22_2; try clear hfz24_0; try clear hfz24_1; try clear hfz24_2; try clear hfz26_0; try clear hfz26_1; try clear hfz26_2; try clear hfz32_0; try clear hfz32_1; try clear hfz32_2; try clear hfz34_0; try clear hfz34_1; try clear hfz34_2; try clear hfz37_0; try clear hfz37_1; try clear hfz37_2; try clear hfz42_0; try clear hfz42_1; try clear hfz42_2; try clear hfz44_0; try clear hfz44_1; try clear hfz44_2; try clear hfz46_0; try clear hfz46_1; try clear hfz46_2; try clear hfz52_0; try clear hfz52_1; try clear hfz52_2; try clear hfz54_0; try clear hfz54_1; try clear hfz54_2; try clear hfz57_0; try clear hfz57_1; try clear hfz57_2; try clear p2
        obtain ⟨kq, x49_46, rfl, HA, HJ46, BK301, BK302, BK303, HB⟩ := hcut
        cases kq with
        | zero => exact absurd HA.out (by simp [cabinetryref01_others.j2])
        | succ kj46 =>
         have H := HA.out
         clear HA
         simp only [cabinetryref01_others.j2] at H
         by_cases c58 : x49_46 = true
         ·subst c58
          have H1 : (if a1_2.size + a2_2.size ≤ 9223372036854775807 then ((cabinetryref01_text.f (a1_2 ++ a2_2)).bind fun bt312 => (some (bt312.1, bt312.2.1, bt312.2.2.1, bt312.2.2.2))) else (none)) = some (r1, r2, r3, r4) := by rw [if_pos rfl] at H; exact H
          clear H
          have H := H1
          clear H1
          by_cases c59 : a1_2.size + a2_2.size ≤ 9223372036854775807
          ·rw [if_pos c59] at H
           have c59b0 := eq_true c59
           have c59b1 : decide (a1_2.size + a2_2.size ≤ 9223372036854775807) = true := decide_eq_true c59
           try have c59b2 : (9223372036854775807 < a1_2.size + a2_2.size) = False := eq_false (Nat.not_lt.2 c59)
           replace H := Option.bind_eq_some_iff.mp H
           obtain ⟨⟨t312, t313, t314, t315⟩, A600, H⟩ := H
           replace H : (some (t312, t313, t314, t315)) = some (r1, r2, r3, r4) := H
           have A60 := Aside0.mk A600
           clear A600
           simp only [Option.some.injEq, Prod.mk.injEq] at H
           obtain ⟨rfl, rfl, rfl, rfl⟩ := H
           have hnb61 := NB301_302.out
           have hnc61 := NB302_301.out
           have hnb62 := NB301_303.out
           have hnc62 := NB303_301.out
           have hcz63_0 : wc.cell? ⟨gb301, 0, none⟩ = some (.int .i64 a1_0) := (blk_cell BK301.out 0).trans rfl
           have hcz63_1 : wc.cell? ⟨gb301, 1, none⟩ = some (.int .i64 a1_1) := (blk_cell BK301.out 1).trans rfl
           have hcz63_2 : wc.cell? ⟨gb301, 2, none⟩ = some (.string a1_2) := (blk_cell BK301.out 2).trans rfl
           have hfz63_0 := blk_frozen BK301.out 0
           have hfz63_1 := blk_frozen BK301.out 1
           have hfz63_2 := blk_frozen BK301.out 2
           have hnb64 := NB302_303.out
           have hnc64 := NB303_302.out
           have hcz65_0 : wc.cell? ⟨gb302, 0, none⟩ = some (.int .i64 a2_0) := (blk_cell BK302.out 0).trans rfl
           have hcz65_1 : wc.cell? ⟨gb302, 1, none⟩ = some (.int .i64 a2_1) := (blk_cell BK302.out 1).trans rfl
           have hcz65_2 : wc.cell? ⟨gb302, 2, none⟩ = some (.string a2_2) := (blk_cell BK302.out 2).trans rfl
           have hfz65_0 := blk_frozen BK302.out 0
           have hfz65_1 := blk_frozen BK302.out 1
           have hfz65_2 := blk_frozen BK302.out 2
           go_wp2_with (first | ((with_reducible refine gate_callee (f := 135) rfl ?_); refine goesL_ (some 67) rfl rfl Tryd.func135 (by kernel_rfl) rfl #[.string (a1_2 ++ a2_2)] rfl (by (try simp only [List.map_toArray, List.map_cons, List.map_nil]); first | done | rfl | (simp only [List.length_drop, List.length_take]; rfl)) ?_; (with_reducible refine (cabinetryref01_text.calls (a1_2 ++ a2_2) t312 t313 t314 t315 _ A60.out).mono ?_); rintro e w66 ⟨rfl, hb⟩; refine ⟨_, rfl, ?_⟩; have n0_ := Aside0.mk (blk_below (g := gb301) (o := .cells #[.int .i64 a1_0, .int .i64 a1_1, .string a1_2] 23 (0, 0)) (by (with_reducible repeat (first | refine blk_drewN ?_ _ | refine blk_drew ?_ | refine blk_alloc ?_ _)); exact BK301.out) hb); have n1_ := Aside0.mk (blk_below (g := gb302) (o := .cells #[.int .i64 a2_0, .int .i64 a2_1, .string a2_2] 23 (0, 0)) (by (with_reducible repeat (first | refine blk_drewN ?_ _ | refine blk_drew ?_ | refine blk_alloc ?_ _)); exact BK302.out) hb); have n2_ := Aside0.mk (blk_below (g := gb303) (o := .cells #[.int .i64 0, .int .i64 0, .string (⟨#[]⟩ : ByteArray)] 23 (0, 0)) (by (with_reducible repeat (first | refine blk_drewN ?_ _ | refine blk_drew ?_ | refine blk_alloc ?_ _)); exact BK303.out) hb); have n3_ := Aside0.mk (below_step (by repeat (first | (with_reducible first | exact HB.out | apply below_alloc | apply pw_below_drewN | apply below_drew1 | refine below_set ?_ GE301.out | refine below_set ?_ GE302.out | refine below_set ?_ GE303.out) | exact HB.out)) hb); clear BK301; clear BK302; clear BK303; clear HB; have BK301 := n0_; have BK302 := n1_; have BK303 := n2_; have HB := n3_; clear n0_ n1_ n2_ n3_; (try clear hb); (try clear hb2); (try clear hk); (try clear hi); have hcz67_0 : w66.cell? ⟨gb303, 0, none⟩ = some (.int .i64 0) := (blk_cell BK303.out 0).trans rfl; have hcz67_1 : w66.cell? ⟨gb303, 1, none⟩ = some (.int .i64 0) := (blk_cell BK303.out 1).trans rfl; have hcz67_2 : w66.cell? ⟨gb303, 2, none⟩ = some (.string (⟨#[]⟩ : ByteArray)) := (blk_cell BK303.out 2).trans rfl; have hfz67_0 := blk_frozen BK303.out 0; have hfz67_1 := blk_frozen BK303.out 1; have hfz67_2 := blk_frozen BK303.out 2))
           refine bodyPost_ret (results_ct rfl _ _ gb303 23 #[.int .i64 t312, .int .i64 t313, .string t314] (0, 0) _ rfl (by (with_reducible repeat (first | refine blk_drewN ?_ _ | refine blk_drew ?_ | refine blk_alloc ?_ _)); refine blk_put (cs := #[.int .i64 t312, .int .i64 t313, .string (⟨#[]⟩ : ByteArray)]) ?_ 2 _ rfl; (with_reducible repeat (first | refine blk_drewN ?_ _ | refine blk_drew ?_ | refine blk_alloc ?_ _)); refine blk_put (cs := #[.int .i64 t312, .int .i64 0, .string (⟨#[]⟩ : ByteArray)]) ?_ 1 _ rfl; (with_reducible repeat (first | refine blk_drewN ?_ _ | refine blk_drew ?_ | refine blk_alloc ?_ _)); refine blk_put (cs := #[.int .i64 0, .int .i64 0, .string (⟨#[]⟩ : ByteArray)]) ?_ 0 _ rfl; (with_reducible repeat (first | refine blk_drewN ?_ _ | refine blk_drew ?_ | refine blk_alloc ?_ _)); exact BK303.out) Tryd.underlying23 rfl (by kernel_rfl)) rfl ?_
           exact ⟨by first | rfl | (simp [errW_none, errW_some] <;> rfl) | (simp [*, errW_none, errW_some] <;> rfl), by repeat (first | (with_reducible first | exact HB.out | apply below_alloc | apply pw_below_drewN | apply below_drew1 | refine below_set ?_ GE301.out | refine below_set ?_ GE302.out | refine below_set ?_ GE303.out) | exact HB.out)⟩
          ·rw [if_neg c59] at H
           exact absurd H (by simp)
         ·replace c58 := Bool.eq_false_iff.mpr c58
          subst c58
          have H1 : (if a0 = 1 then (if a1_0 = 3 then (cabinetryref01_others.j3 kj46 a0 (a2_0 == 2) a1_0 a1_1 a1_2 a2_0 a2_1 a2_2) else (cabinetryref01_others.j3 kj46 a0 false a1_0 a1_1 a1_2 a2_0 a2_1 a2_2)) else (cabinetryref01_others.j3 kj46 a0 false a1_0 a1_1 a1_2 a2_0 a2_1 a2_2)) = some (r1, r2, r3, r4) := by rw [if_neg (show ¬ (false = true) by decide)] at H; exact H
          clear H
          have H := H1
          clear H1
          have HC68 := Aside0.mk H
          clear H
          go_upto_region 7 with (fail)
          go_cut [70] (fun v70 wc => ∃ (kq : Nat) (x70_67 : Bool), v70 = .bool x70_67 ∧ Aside0 (cabinetryref01_others.j3 kq a0 x70_67 a1_0 a1_1 a1_2 a2_0 a2_1 a2_2 = some (r1, r2, r3, r4)) ∧ Aside0 (kq ≤ kj46) ∧ Aside0 (wc.heap[gb301]? = some (.cells #[.int .i64 a1_0, .int .i64 a1_1, .string a1_2] 23 (0, 0))) ∧ Aside0 (wc.heap[gb302]? = some (.cells #[.int .i64 a2_0, .int .i64 a2_1, .string a2_2] 23 (0, 0))) ∧ Aside0 (wc.heap[gb303]? = some (.cells #[.int .i64 0, .int .i64 0, .string (⟨#[]⟩ : ByteArray)] 23 (0, 0))) ∧ Aside0 (Below w.heap.size w wc))
          case first =>
           have H := HC68.out
           clear HC68
           by_cases c69 : a0 = 1
           ·rw [if_pos c69] at H
            have c69b0 : (a0 == 1) = true := beq_iff_eq.mpr c69
            have c69b1 : (a0 != 1) = false := bne_eq_false_iff_eq.mpr c69
            clear c69
            (first | rw [c69b0] | (simp only [i64_w, i32_w]; rw [c69b0]) | skip)
            by_cases c70 : a1_0 = 3
            ·rw [if_pos c70] at H
             have c70b0 : (a1_0 == 3) = true := beq_iff_eq.mpr c70
             have c70b1 : (a1_0 != 3) = false := bne_eq_false_iff_eq.mpr c70
             clear c70
             have H' := Aside0.mk H
             clear H
             have hnb71 := NB301_302.out
             have hnc71 := NB302_301.out
             have hnb72 := NB301_303.out
             have hnc72 := NB303_301.out
             have hcz73_0 : wc.cell? ⟨gb301, 0, none⟩ = some (.int .i64 a1_0) := (blk_cell BK301.out 0).trans rfl
             have hcz73_1 : wc.cell? ⟨gb301, 1, none⟩ = some (.int .i64 a1_1) := (blk_cell BK301.out 1).trans rfl
             have hcz73_2 : wc.cell? ⟨gb301, 2, none⟩ = some (.string a1_2) := (blk_cell BK301.out 2).trans rfl
             have hfz73_0 := blk_frozen BK301.out 0
             have hfz73_1 := blk_frozen BK301.out 1
             have hfz73_2 := blk_frozen BK301.out 2
             have hnb74 := NB302_303.out
             have hnc74 := NB303_302.out
             have hcz75_0 : wc.cell? ⟨gb302, 0, none⟩ = some (.int .i64 a2_0) := (blk_cell BK302.out 0).trans rfl
             have hcz75_1 : wc.cell? ⟨gb302, 1, none⟩ = some (.int .i64 a2_1) := (blk_cell BK302.out 1).trans rfl
             have hcz75_2 : wc.cell? ⟨gb302, 2, none⟩ = some (.string a2_2) := (blk_cell BK302.out 2).trans rfl
             have hfz75_0 := blk_frozen BK302.out 0
             have hfz75_1 := blk_frozen BK302.out 1
             have hfz75_2 := blk_frozen BK302.out 2
             go_wp2
             go_meet
             case rel => exact ⟨_, ((a2_0 == 2)), (by first | rfl | (simp; done) | (simp [*]; done)), H', ⟨by have := HJ3.out; have := HJ26.out; have := HJ46.out; first | omega | exact Nat.le_refl _⟩, ⟨by (with_reducible repeat (first | refine blk_drewN ?_ _ | refine blk_drew ?_ | refine blk_alloc ?_ _)); exact BK301.out⟩, ⟨by (with_reducible repeat (first | refine blk_drewN ?_ _ | refine blk_drew ?_ | refine blk_alloc ?_ _)); exact BK302.out⟩, ⟨by (with_reducible repeat (first | refine blk_drewN ?_ _ | refine blk_drew ?_ | refine blk_alloc ?_ _)); exact BK303.out⟩, ⟨by repeat (first | (with_reducible first | exact HB.out | apply below_alloc | apply pw_below_drewN | apply below_drew1 | refine below_set ?_ GE301.out | refine below_set ?_ GE302.out | refine below_set ?_ GE303.out) | exact HB.out)⟩⟩
            ·rw [if_neg c70] at H
             have c70b0 : (a1_0 == 3) = false := beq_eq_false_iff_ne.mpr c70
             have c70b1 : (a1_0 != 3) = true := bne_iff_ne.mpr c70
             have H' := Aside0.mk H
             clear H
             have hnb76 := NB301_302.out
             have hnc76 := NB302_301.out
             have hnb77 := NB301_303.out
             have hnc77 := NB303_301.out
             have hcz78_0 : wc.cell? ⟨gb301, 0, none⟩ = some (.int .i64 a1_0) := (blk_cell BK301.out 0).trans rfl
             have hcz78_1 : wc.cell? ⟨gb301, 1, none⟩ = some (.int .i64 a1_1) := (blk_cell BK301.out 1).trans rfl
             have hcz78_2 : wc.cell? ⟨gb301, 2, none⟩ = some (.string a1_2) := (blk_cell BK301.out 2).trans rfl
             have hfz78_0 := blk_frozen BK301.out 0
             have hfz78_1 := blk_frozen BK301.out 1
             have hfz78_2 := blk_frozen BK301.out 2
             go_wp2
             go_meet
             case rel => exact ⟨_, (false), (by first | rfl | (simp; done) | (simp [*]; done)), H', ⟨by have := HJ3.out; have := HJ26.out; have := HJ46.out; first | omega | exact Nat.le_refl _⟩, ⟨by (with_reducible repeat (first | refine blk_drewN ?_ _ | refine blk_drew ?_ | refine blk_alloc ?_ _)); exact BK301.out⟩, ⟨by (with_reducible repeat (first | refine blk_drewN ?_ _ | refine blk_drew ?_ | refine blk_alloc ?_ _)); exact BK302.out⟩, ⟨by (with_reducible repeat (first | refine blk_drewN ?_ _ | refine blk_drew ?_ | refine blk_alloc ?_ _)); exact BK303.out⟩, ⟨by repeat (first | (with_reducible first | exact HB.out | apply below_alloc | apply pw_below_drewN | apply below_drew1 | refine below_set ?_ GE301.out | refine below_set ?_ GE302.out | refine below_set ?_ GE303.out) | exact HB.out)⟩⟩
           ·rw [if_neg c69] at H
            have c69b0 : (a0 == 1) = false := beq_eq_false_iff_ne.mpr c69
            have c69b1 : (a0 != 1) = true := bne_iff_ne.mpr c69
            (first | rw [c69b0] | (simp only [i64_w, i32_w]; rw [c69b0]) | skip)
            have H' := Aside0.mk H
            clear H
            go_wp2
            go_meet
            case rel => exact ⟨_, (false), (by first | rfl | (simp; done) | (simp [*]; done)), H', ⟨by have := HJ3.out; have := HJ26.out; have := HJ46.out; first | omega | exact Nat.le_refl _⟩, ⟨by (with_reducible repeat (first | refine blk_drewN ?_ _ | refine blk_drew ?_ | refine blk_alloc ?_ _)); exact BK301.out⟩, ⟨by (with_reducible repeat (first | refine blk_drewN ?_ _ | refine blk_drew ?_ | refine blk_alloc ?_ _)); exact BK302.out⟩, ⟨by (with_reducible repeat (first | refine blk_drewN ?_ _ | refine blk_drew ?_ | refine blk_alloc ?_ _)); exact BK303.out⟩, ⟨by repeat (first | (with_reducible first | exact HB.out | apply below_alloc | apply pw_below_drewN | apply below_drew1 | refine below_set ?_ GE301.out | refine below_set ?_ GE302.out | refine below_set ?_ GE303.out) | exact HB.out)⟩⟩
          case rest =>
           clear HC68
           try clear c1; try clear c2; try clear p2; try clear c3; try clear c4; try clear c5; try clear c6; try clear c7; try clear c8; try clear c8b0; try clear c8b1; try clear c9; try clear c9b0; try clear c9b1; try clear c10; try clear c11; try clear c13; try clear c15; try clear c16; try clear c18; try clear c20; try clear c21; try clear c23; try clear c28; try clear c28b0; try clear c28b1; try clear c29; try clear c29b0; try clear c29b1; try clear c30; try clear c31; try clear c33; try clear c35; try clear c36; try clear c38; try clear c40; try clear c41; try clear c43; try clear c48; try clear c48b0; try clear c48b1; try clear c49; try clear c49b0; try clear c49b1; try clear c50; try clear c51; try clear c53; try clear c55; try clear c56; try clear c58; try clear c59; try clear c59b0; try clear c59b1; try clear c59b2; try clear c61; try clear c62; try clear c64; try clear c69; try clear c69b0; try clear c69b1; try clear c70; try clear c70b0; try clear c70b1; try clear c71; try clear c72; try clear c74; try clear c76; try clear c77; try clear hcz12_0; try clear hcz12_1; try clear hcz12_2; try clear hcz14_0; try clear hcz14_1; try clear hcz14_2; try clear hcz17_0; try clear hcz17_1; try clear hcz17_2; try clear hcz22_0; try clear hcz22_1; try clear hcz22_2; try clear hcz24_0; try clear hcz24_1; try clear hcz24_2; try clear hcz26_0; try clear hcz26_1; try clear hcz26_2; try clear hcz32_0; try clear hcz32_1; try clear hcz32_2; try clear hcz34_0; try clear hcz34_1; try clear hcz34_2; try clear hcz37_0; try clear hcz37_1; try clear hcz37_2; try clear hcz42_0; try clear hcz42_1; try clear hcz42_2; try clear hcz44_0; try clear hcz44_1; try clear hcz44_2; try clear hcz46_0; try clear hcz46_1; try clear hcz46_2; try clear hcz52_0; try clear hcz52_1; try clear hcz52_2; try clear hcz54_0; try clear hcz54_1; try clear hcz54_2; try clear hcz57_0; try clear hcz57_1; try clear hcz57_2; try clear hcz63_0; try clear hcz63_1; try clear hcz63_2; try clear hcz65_0; try clear hcz65_1; try clear hcz65_2; try clear hcz67_0; try clear hcz67_1; try clear hcz67_2; try clear hcz73_0; try clear hcz73_1; try clear hcz73_2; try clear hcz75_0; try clear hcz75_1; try clear hcz75_2; try clear hcz78_0; try clear hcz78_1; try clear hcz78_2; try clear hfz12_0; try clear hfz12_1; try clear hfz12_2; try clear hfz14_0; try clear hfz14_1; try clear hfz14_2; try clear hfz17_0; try clear hfz17_1; try clear hfz17_2; try clear hfz22_0; try clear hfz22_1; try clear hfz22_2; try clear hfz24_0; try clear hfz24_1; try clear hfz24_2; try clear hfz26_0; try clear hfz26_1; try clear hfz26_2; try clear hfz32_0; try clear hfz32_1; try clear hfz32_2; try clear hfz34_0; try clear hfz34_1; try clear hfz34_2; try clear hfz37_0; try clear hfz37_1; try clear hfz37_2; try clear hfz42_0; try clear hfz42_1; try clear hfz42_2; try clear hfz44_0; try clear hfz44_1; try clear hfz44_2; try clear hfz46_0; try clear hfz46_1; try clear hfz46_2; try clear hfz52_0; try clear hfz52_1; try clear hfz52_2; try clear hfz54_0; try clear hfz54_1; try clear hfz54_2; try clear hfz57_0; try clear hfz57_1; try clear hfz57_2; try clear hfz63_0; try clear hfz63_1; try clear hfz63_2; try clear hfz65_0; try clear hfz65_1; try clear hfz65_2; try clear hfz67_0; try clear hfz67_1; try clear hfz67_2; try clear hfz73_0; try clear hfz73_1; try clear hfz73_2; try clear hfz75_0; try clear hfz75_1; try clear hfz75_2; try clear hfz78_0; try clear hfz78_1; try clear hfz78_2; try clear p2
           obtain ⟨kq, x70_67, rfl, HA, HJ67, BK301, BK302, BK303, HB⟩ := hcut
           cases kq with
           | zero => exact absurd HA.out (by simp [cabinetryref01_others.j3])
           | succ kj67 =>
            have H := HA.out
            clear HA
            simp only [cabinetryref01_others.j3] at H
            by_cases c79 : x70_67 = true
            ·subst c79
             have H1 : ((cabinetryref01_moved.f a1_1 (wrap64 (-a2_1))).bind fun bt316 => (some (bt316.1, bt316.2.1, bt316.2.2.1, bt316.2.2.2))) = some (r1, r2, r3, r4) := by rw [if_pos rfl] at H; exact H
             clear H
             have H := H1
             clear H1
             replace H := Option.bind_eq_some_iff.mp H
             obtain ⟨⟨t316, t317, t318, t319⟩, A800, H⟩ := H
             replace H : (some (t316, t317, t318, t319)) = some (r1, r2, r3, r4) := H
             have A80 := Aside0.mk A800
             clear A800
             simp only [Option.some.injEq, Prod.mk.injEq] at H
             obtain ⟨rfl, rfl, rfl, rfl⟩ := H
             have hnb81 := NB301_302.out
             have hnc81 := NB302_301.out
             have hnb82 := NB301_303.out
             have hnc82 := NB303_301.out
             have hcz83_0 : wc.cell? ⟨gb301, 0, none⟩ = some (.int .i64 a1_0) := (blk_cell BK301.out 0).trans rfl
             have hcz83_1 : wc.cell? ⟨gb301, 1, none⟩ = some (.int .i64 a1_1) := (blk_cell BK301.out 1).trans rfl
             have hcz83_2 : wc.cell? ⟨gb301, 2, none⟩ = some (.string a1_2) := (blk_cell BK301.out 2).trans rfl
             have hfz83_0 := blk_frozen BK301.out 0
             have hfz83_1 := blk_frozen BK301.out 1
             have hfz83_2 := blk_frozen BK301.out 2
             have hnb84 := NB302_303.out
             have hnc84 := NB303_302.out
             have hcz85_0 : wc.cell? ⟨gb302, 0, none⟩ = some (.int .i64 a2_0) := (blk_cell BK302.out 0).trans rfl
             have hcz85_1 : wc.cell? ⟨gb302, 1, none⟩ = some (.int .i64 a2_1) := (blk_cell BK302.out 1).trans rfl
             have hcz85_2 : wc.cell? ⟨gb302, 2, none⟩ = some (.string a2_2) := (blk_cell BK302.out 2).trans rfl
             have hfz85_0 := blk_frozen BK302.out 0
             have hfz85_1 := blk_frozen BK302.out 1
             have hfz85_2 := blk_frozen BK302.out 2
             go_wp2_with (first | ((with_reducible refine gate_callee (f := 134) rfl ?_); refine goesL_ (some 88) rfl rfl Tryd.func134 (by kernel_rfl) rfl #[.int .i64 a1_1, .int .i64 (wrap64 (-a2_1))] rfl (by (try simp only [List.map_toArray, List.map_cons, List.map_nil]); first | done | rfl | (simp only [List.length_drop, List.length_take]; rfl)) ?_; (with_reducible refine (cabinetryref01_moved.calls a1_1 (wrap64 (-a2_1)) t316 t317 t318 t319 _ A80.out).mono ?_); rintro e w86 ⟨rfl, hb⟩; refine ⟨_, rfl, ?_⟩; have n0_ := Aside0.mk (blk_below (g := gb301) (o := .cells #[.int .i64 a1_0, .int .i64 a1_1, .string a1_2] 23 (0, 0)) (by (with_reducible repeat (first | refine blk_drewN ?_ _ | refine blk_drew ?_ | refine blk_alloc ?_ _)); exact BK301.out) hb); have n1_ := Aside0.mk (blk_below (g := gb302) (o := .cells #[.int .i64 a2_0, .int .i64 a2_1, .string a2_2] 23 (0, 0)) (by (with_reducible repeat (first | refine blk_drewN ?_ _ | refine blk_drew ?_ | refine blk_alloc ?_ _)); exact BK302.out) hb); have n2_ := Aside0.mk (blk_below (g := gb303) (o := .cells #[.int .i64 0, .int .i64 0, .string (⟨#[]⟩ : ByteArray)] 23 (0, 0)) (by (with_reducible repeat (first | refine blk_drewN ?_ _ | refine blk_drew ?_ | refine blk_alloc ?_ _)); exact BK303.out) hb); have n3_ := Aside0.mk (below_step (by repeat (first | (with_reducible first | exact HB.out | apply below_alloc | apply pw_below_drewN | apply below_drew1 | refine below_set ?_ GE301.out | refine below_set ?_ GE302.out | refine below_set ?_ GE303.out) | exact HB.out)) hb); clear BK301; clear BK302; clear BK303; clear HB; have BK301 := n0_; have BK302 := n1_; have BK303 := n2_; have HB := n3_; clear n0_ n1_ n2_ n3_; (try clear hb); (try clear hb2); (try clear hk); (try clear hi); have hcz87_0 : w86.cell? ⟨gb303, 0, none⟩ = some (.int .i64 0) := (blk_cell BK303.out 0).trans rfl; have hcz87_1 : w86.cell? ⟨gb303, 1, none⟩ = some (.int .i64 0) := (blk_cell BK303.out 1).trans rfl; have hcz87_2 : w86.cell? ⟨gb303, 2, none⟩ = some (.string (⟨#[]⟩ : ByteArray)) := (blk_cell BK303.out 2).trans rfl; have hfz87_0 := blk_frozen BK303.out 0; have hfz87_1 := blk_frozen BK303.out 1; have hfz87_2 := blk_frozen BK303.out 2))
             refine bodyPost_ret (results_ct rfl _ _ gb303 23 #[.int .i64 t316, .int .i64 t317, .string t318] (0, 0) _ rfl (by (with_reducible repeat (first | refine blk_drewN ?_ _ | refine blk_drew ?_ | refine blk_alloc ?_ _)); refine blk_put (cs := #[.int .i64 t316, .int .i64 t317, .string (⟨#[]⟩ : ByteArray)]) ?_ 2 _ rfl; (with_reducible repeat (first | refine blk_drewN ?_ _ | refine blk_drew ?_ | refine blk_alloc ?_ _)); refine blk_put (cs := #[.int .i64 t316, .int .i64 0, .string (⟨#[]⟩ : ByteArray)]) ?_ 1 _ rfl; (with_reducible repeat (first | refine blk_drewN ?_ _ | refine blk_drew ?_ | refine blk_alloc ?_ _)); refine blk_put (cs := #[.int .i64 0, .int .i64 0, .string (⟨#[]⟩ : ByteArray)]) ?_ 0 _ rfl; (with_reducible repeat (first | refine blk_drewN ?_ _ | refine blk_drew ?_ | refine blk_alloc ?_ _)); exact BK303.out) Tryd.underlying23 rfl (by kernel_rfl)) rfl ?_
             exact ⟨by first | rfl | (simp [errW_none, errW_some] <;> rfl) | (simp [*, errW_none, errW_some] <;> rfl), by repeat (first | (with_reducible first | exact HB.out | apply below_alloc | apply pw_below_drewN | apply below_drew1 | refine below_set ?_ GE301.out | refine below_set ?_ GE302.out | refine below_set ?_ GE303.out) | exact HB.out)⟩
            ·replace c79 := Bool.eq_false_iff.mpr c79
             subst c79
             have H1 : (if a0 = 1 then (if a1_0 = 3 then (cabinetryref01_others.j4 kj67 a0 (a2_0 == 3) a1_0 a1_1 a1_2 a2_0 a2_1 a2_2) else (cabinetryref01_others.j4 kj67 a0 false a1_0 a1_1 a1_2 a2_0 a2_1 a2_2)) else (cabinetryref01_others.j4 kj67 a0 false a1_0 a1_1 a1_2 a2_0 a2_1 a2_2)) = some (r1, r2, r3, r4) := by rw [if_neg (show ¬ (false = true) by decide)] at H; exact H
             clear H
             have H := H1
             clear H1
             have HC88 := Aside0.mk H
             clear H
             go_upto_region 9 with (fail)
             go_cut [91] (fun v91 wc => ∃ (kq : Nat) (x91_87 : Bool), v91 = .bool x91_87 ∧ Aside0 (cabinetryref01_others.j4 kq a0 x91_87 a1_0 a1_1 a1_2 a2_0 a2_1 a2_2 = some (r1, r2, r3, r4)) ∧ Aside0 (kq ≤ kj67) ∧ Aside0 (wc.heap[gb301]? = some (.cells #[.int .i64 a1_0, .int .i64 a1_1, .string a1_2] 23 (0, 0))) ∧ Aside0 (wc.heap[gb302]? = some (.cells #[.int .i64 a2_0, .int .i64 a2_1, .string a2_2] 23 (0, 0))) ∧ Aside0 (wc.heap[gb303]? = some (.cells #[.int .i64 0, .int .i64 0, .string (⟨#[]⟩ : ByteArray)] 23 (0, 0))) ∧ Aside0 (Below w.heap.size w wc))
             case first =>
              have H := HC88.out
              clear HC88
              by_cases c89 : a0 = 1
              ·rw [if_pos c89] at H
               have c89b0 : (a0 == 1) = true := beq_iff_eq.mpr c89
               have c89b1 : (a0 != 1) = false := bne_eq_false_iff_eq.mpr c89
               clear c89
               (first | rw [c89b0] | (simp only [i64_w, i32_w]; rw [c89b0]) | skip)
               by_cases c90 : a1_0 = 3
               ·rw [if_pos c90] at H
                have c90b0 : (a1_0 == 3) = true := beq_iff_eq.mpr c90
                have c90b1 : (a1_0 != 3) = false := bne_eq_false_iff_eq.mpr c90
                clear c90
                have H' := Aside0.mk H
                clear H
                have hnb91 := NB301_302.out
                have hnc91 := NB302_301.out
                have hnb92 := NB301_303.out
                have hnc92 := NB303_301.out
                have hcz93_0 : wc.cell? ⟨gb301, 0, none⟩ = some (.int .i64 a1_0) := (blk_cell BK301.out 0).trans rfl
                have hcz93_1 : wc.cell? ⟨gb301, 1, none⟩ = some (.int .i64 a1_1) := (blk_cell BK301.out 1).trans rfl
                have hcz93_2 : wc.cell? ⟨gb301, 2, none⟩ = some (.string a1_2) := (blk_cell BK301.out 2).trans rfl
                have hfz93_0 := blk_frozen BK301.out 0
                have hfz93_1 := blk_frozen BK301.out 1
                have hfz93_2 := blk_frozen BK301.out 2
                have hnb94 := NB302_303.out
                have hnc94 := NB303_302.out
                have hcz95_0 : wc.cell? ⟨gb302, 0, none⟩ = some (.int .i64 a2_0) := (blk_cell BK302.out 0).trans rfl
                have hcz95_1 : wc.cell? ⟨gb302, 1, none⟩ = some (.int .i64 a2_1) := (blk_cell BK302.out 1).trans rfl
                have hcz95_2 : wc.cell? ⟨gb302, 2, none⟩ = some (.string a2_2) := (blk_cell BK302.out 2).trans rfl
                have hfz95_0 := blk_frozen BK302.out 0
                have hfz95_1 := blk_frozen BK302.out 1
                have hfz95_2 := blk_frozen BK302.out 2
                go_wp2
                go_meet
                case rel => exact ⟨_, ((a2_0 == 3)), (by first | rfl | (simp; done) | (simp [*]; done)), H', ⟨by have := HJ3.out; have := HJ26.out; have := HJ46.out; have := HJ67.out; first | omega | exact Nat.le_refl _⟩, ⟨by (with_reducible repeat (first | refine blk_drewN ?_ _ | refine blk_drew ?_ | refine blk_alloc ?_ _)); exact BK301.out⟩, ⟨by (with_reducible repeat (first | refine blk_drewN ?_ _ | refine blk_drew ?_ | refine blk_alloc ?_ _)); exact BK302.out⟩, ⟨by (with_reducible repeat (first | refine blk_drewN ?_ _ | refine blk_drew ?_ | refine blk_alloc ?_ _)); exact BK303.out⟩, ⟨by repeat (first | (with_reducible first | exact HB.out | apply below_alloc | apply pw_below_drewN | apply below_drew1 | refine below_set ?_ GE301.out | refine below_set ?_ GE302.out | refine below_set ?_ GE303.out) | exact HB.out)⟩⟩
               ·rw [if_neg c90] at H
                have c90b0 : (a1_0 == 3) = false := beq_eq_false_iff_ne.mpr c90
                have c90b1 : (a1_0 != 3) = true := bne_iff_ne.mpr c90
                have H' := Aside0.mk H
                clear H
                have hnb96 := NB301_302.out
                have hnc96 := NB302_301.out
                have hnb97 := NB301_303.out
                have hnc97 := NB303_301.out
                have hcz98_0 : wc.cell? ⟨gb301, 0, none⟩ = some (.int .i64 a1_0) := (blk_cell BK301.out 0).trans rfl
                have hcz98_1 : wc.cell? ⟨gb301, 1, none⟩ = some (.int .i64 a1_1) := (blk_cell BK301.out 1).trans rfl
                have hcz98_2 : wc.cell? ⟨gb301, 2, none⟩ = some (.string a1_2) := (blk_cell BK301.out 2).trans rfl
                have hfz98_0 := blk_frozen BK301.out 0
                have hfz98_1 := blk_frozen BK301.out 1
                have hfz98_2 := blk_frozen BK301.out 2
                go_wp2
                go_meet
                case rel => exact ⟨_, (false), (by first | rfl | (simp; done) | (simp [*]; done)), H', ⟨by have := HJ3.out; have := HJ26.out; have := HJ46.out; have := HJ67.out; first | omega | exact Nat.le_refl _⟩, ⟨by (with_reducible repeat (first | refine blk_drewN ?_ _ | refine blk_drew ?_ | refine blk_alloc ?_ _)); exact BK301.out⟩, ⟨by (with_reducible repeat (first | refine blk_drewN ?_ _ | refine blk_drew ?_ | refine blk_alloc ?_ _)); exact BK302.out⟩, ⟨by (with_reducible repeat (first | refine blk_drewN ?_ _ | refine blk_drew ?_ | refine blk_alloc ?_ _)); exact BK303.out⟩, ⟨by repeat (first | (with_reducible first | exact HB.out | apply below_alloc | apply pw_below_drewN | apply below_drew1 | refine below_set ?_ GE301.out | refine below_set ?_ GE302.out | refine below_set ?_ GE303.out) | exact HB.out)⟩⟩
              ·rw [if_neg c89] at H
               have c89b0 : (a0 == 1) = false := beq_eq_false_iff_ne.mpr c89
               have c89b1 : (a0 != 1) = true := bne_iff_ne.mpr c89
               (first | rw [c89b0] | (simp only [i64_w, i32_w]; rw [c89b0]) | skip)
               have H' := Aside0.mk H
               clear H
               go_wp2
               go_meet
               case rel => exact ⟨_, (false), (by first | rfl | (simp; done) | (simp [*]; done)), H', ⟨by have := HJ3.out; have := HJ26.out; have := HJ46.out; have := HJ67.out; first | omega | exact Nat.le_refl _⟩, ⟨by (with_reducible repeat (first | refine blk_drewN ?_ _ | refine blk_drew ?_ | refine blk_alloc ?_ _)); exact BK301.out⟩, ⟨by (with_reducible repeat (first | refine blk_drewN ?_ _ | refine blk_drew ?_ | refine blk_alloc ?_ _)); exact BK302.out⟩, ⟨by (with_reducible repeat (first | refine blk_drewN ?_ _ | refine blk_drew ?_ | refine blk_alloc ?_ _)); exact BK303.out⟩, ⟨by repeat (first | (with_reducible first | exact HB.out | apply below_alloc | apply pw_below_drewN | apply below_drew1 | refine below_set ?_ GE301.out | refine below_set ?_ GE302.out | refine below_set ?_ GE303.out) | exact HB.out)⟩⟩
             case rest =>
              clear HC88
              try clear c1; try clear c2; try clear p2; try clear c3; try clear c4; try clear c5; try clear c6; try clear p6; try clear c7; try clear c8; try clear c8b0; try clear c8b1; try clear c9; try clear c9b0; try clear c9b1; try clear c10; try clear c11; try clear c13; try clear c15; try clear c16; try clear c18; try clear c20; try clear c21; try clear c23; try clear c28; try clear c28b0; try clear c28b1; try clear c29; try clear c29b0; try clear c29b1; try clear c30; try clear c31; try clear c33; try clear c35; try clear c36; try clear c38; try clear c40; try clear c41; try clear c43; try clear c48; try clear c48b0; try clear c48b1; try clear c49; try clear c49b0; try clear c49b1; try clear c50; try clear c51; try clear c53; try clear c55; try clear c56; try clear c58; try clear c59; try clear c59b0; try clear c59b1; try clear c59b2; try clear c61; try clear c62; try clear c64; try clear p64; try clear c69; try clear c69b0; try clear c69b1; try clear c70; try clear c70b0; try clear c70b1; try clear c71; try clear c72; try clear c74; try clear c76; try clear c77; try clear c79; try clear c81; try clear c82; try clear c84; try clear c89; try clear c89b0; try clear c89b1; try clear c90; try clear c90b0; try clear c90b1; try clear c91; try clear c92; try clear c94; try clear c96; try clear c97; try clear hcz12_0; try clear hcz12_1; try clear hcz12_2; try clear hcz14_0; try clear hcz14_1; try clear hcz14_2; try clear hcz17_0; try clear hcz17_1; try clear hcz17_2; try clear hcz22_0; try clear hcz22_1; try clear hcz22_2; try clear hcz24_0; try clear hcz24_1; try clear hcz24_2; try clear hcz26_0; try clear hcz26_1; try clear hcz26_2; try clear hcz32_0; try clear hcz32_1; try clear hcz32_2; try clear hcz34_0; try clear hcz34_1; try clear hcz34_2; try clear hcz37_0; try clear hcz37_1; try clear hcz37_2; try clear hcz42_0; try clear hcz42_1; try clear hcz42_2; try clear hcz44_0; try clear hcz44_1; try clear hcz44_2; try clear hcz46_0; try clear hcz46_1; try clear hcz46_2; try clear hcz52_0; try clear hcz52_1; try clear hcz52_2; try clear hcz54_0; try clear hcz54_1; try clear hcz54_2; try clear hcz57_0; try clear hcz57_1; try clear hcz57_2; try clear hcz63_0; try clear hcz63_1; try clear hcz63_2; try clear hcz65_0; try clear hcz65_1; try clear hcz65_2; try clear hcz67_0; try clear hcz67_1; try clear hcz67_2; try clear hcz73_0; try clear hcz73_1; try clear hcz73_2; try clear hcz75_0; try clear hcz75_1; try clear hcz75_2; try clear hcz78_0; try clear hcz78_1; try clear hcz78_2; try clear hcz83_0; try clear hcz83_1; try clear hcz83_2; try clear hcz85_0; try clear hcz85_1; try clear hcz85_2; try clear hcz87_0; try clear hcz87_1; try clear hcz87_2; try clear hcz93_0; try clear hcz93_1; try clear hcz93_2; try clear hcz95_0; try clear hcz95_1; try clear hcz95_2; try clear hcz98_0; try clear hcz98_1; try clear hcz98_2; try clear hfz12_0; try clear hfz12_1; try clear hfz12_2; try clear hfz14_0; try clear hfz14_1; try clear hfz14_2; try clear hfz17_0; try clear hfz17_1; try clear hfz17_2; try clear hfz22_0; try clear hfz22_1; try clear hfz22_2; try clear hfz24_0; try clear hfz24_1; try clear hfz24_2; try clear hfz26_0; try clear hfz26_1; try clear hfz26_2; try clear hfz32_0; try clear hfz32_1; try clear hfz32_2; try clear hfz34_0; try clear hfz34_1; try clear hfz34_2; try clear hfz37_0; try clear hfz37_1; try clear hfz37_2; try clear hfz42_0; try clear hfz42_1; try clear hfz42_2; try clear hfz44_0; try clear hfz44_1; try clear hfz44_2; try clear hfz46_0; try clear hfz46_1; try clear hfz46_2; try clear hfz52_0; try clear hfz52_1; try clear hfz52_2; try clear hfz54_0; try clear hfz54_1; try clear hfz54_2; try clear hfz57_0; try clear hfz57_1; try clear hfz57_2; try clear hfz63_0; try clear hfz63_1; try clear hfz63_2; try clear hfz65_0; try clear hfz65_1; try clear hfz65_2; try clear hfz67_0; try clear hfz67_1; try clear hfz67_2; try clear hfz73_0; try clear hfz73_1; try clear hfz73_2; try clear hfz75_0; try clear hfz75_1; try clear hfz75_2; try clear hfz78_0; try clear hfz78_1; try clear hfz78_2; try clear hfz83_0; try clear hfz83_1; try clear hfz83_2; try clear hfz85_0; try clear hfz85_1; try clear hfz85_2; try clear hfz87_0; try clear hfz87_1; try clear hfz87_2; try clear hfz93_0; try clear hfz93_1; try clear hfz93_2; try clear hfz95_0; try clear hfz95_1; try clear hfz95_2; try clear hfz98_0; try clear hfz98_1; try clear hfz98_2; try clear p2
              obtain ⟨kq, x91_87, rfl, HA, HJ87, BK301, BK302, BK303, HB⟩ := hcut
              cases kq with
              | zero => exact absurd HA.out (by simp [cabinetryref01_others.j4])
              | succ kj87 =>
               have H := HA.out
               clear HA
               simp only [cabinetryref01_others.j4] at H
               by_cases c99 : x91_87 = true
               ·subst c99
                have H1 : (if a1_1 = 0 then (cabinetryref01_others.j5 kj87 true a1_0 a1_1 a1_2 a2_0 a2_1 a2_2) else (cabinetryref01_others.j5 kj87 (a2_1 == 0) a1_0 a1_1 a1_2 a2_0 a2_1 a2_2)) = some (r1, r2, r3, r4) := by rw [if_pos rfl] at H; exact H
                clear H
                have H := H1
                clear H1
                have HC100 := Aside0.mk H
                clear H
                go_upto_region 10 with (fail)
                go_cut [111] (fun v111 wc => ∃ (kq : Nat) (x111_99 : Bool), v111 = .bool x111_99 ∧ Aside0 (cabinetryref01_others.j5 kq x111_99 a1_0 a1_1 a1_2 a2_0 a2_1 a2_2 = some (r1, r2, r3, r4)) ∧ Aside0 (kq ≤ kj87) ∧ Aside0 (wc.heap[gb301]? = some (.cells #[.int .i64 a1_0, .int .i64 a1_1, .string a1_2] 23 (0, 0))) ∧ Aside0 (wc.heap[gb302]? = some (.cells #[.int .i64 a2_0, .int .i64 a2_1, .string a2_2] 23 (0, 0))) ∧ Aside0 (wc.heap[gb303]? = some (.cells #[.int .i64 0, .int .i64 0, .string (⟨#[]⟩ : ByteArray)] 23 (0, 0))) ∧ Aside0 (Below w.heap.size w wc))
                case first =>
                 have H := HC100.out
                 clear HC100
                 by_cases c101 : a1_1 = 0
                 ·rw [if_pos c101] at H
                  have c101b0 : (a1_1 == 0) = true := beq_iff_eq.mpr c101
                  have c101b1 : (a1_1 != 0) = false := bne_eq_false_iff_eq.mpr c101
                  clear c101
                  (first | rw [c101b0] | (simp only [i64_w, i32_w]; rw [c101b0]) | skip)
                  have H' := Aside0.mk H
                  clear H
                  have hnb102 := NB301_302.out
                  have hnc102 := NB302_301.out
                  have hnb103 := NB301_303.out
                  have hnc103 := NB303_301.out
                  have hcz104_0 : wc.cell? ⟨gb301, 0, none⟩ = some (.int .i64 a1_0) := (blk_cell BK301.out 0).trans rfl
                  have hcz104_1 : wc.cell? ⟨gb301, 1, none⟩ = some (.int .i64 a1_1) := (blk_cell BK301.out 1).trans rfl
                  have hcz104_2 : wc.cell? ⟨gb301, 2, none⟩ = some (.string a1_2) := (blk_cell BK301.out 2).trans rfl
                  have hfz104_0 := blk_frozen BK301.out 0
                  have hfz104_1 := blk_frozen BK301.out 1
                  have hfz104_2 := blk_frozen BK301.out 2
                  go_wp2
                  go_meet
                  case rel => exact ⟨_, (true), (by first | rfl | (simp; done) | (simp [*]; done)), H', ⟨by have := HJ3.out; have := HJ26.out; have := HJ46.out; have := HJ67.out; have := HJ87.out; first | omega | exact Nat.le_refl _⟩, ⟨by (with_reducible repeat (first | refine blk_drewN ?_ _ | refine blk_drew ?_ | refine blk_alloc ?_ _)); exact BK301.out⟩, ⟨by (with_reducible repeat (first | refine blk_drewN ?_ _ | refine blk_drew ?_ | refine blk_alloc ?_ _)); exact BK302.out⟩, ⟨by (with_reducible repeat (first | refine blk_drewN ?_ _ | refine blk_drew ?_ | refine blk_alloc ?_ _)); exact BK303.out⟩, ⟨by repeat (first | (with_reducible first | exact HB.out | apply below_alloc | apply pw_below_drewN | apply below_drew1 | refine below_set ?_ GE301.out | refine below_set ?_ GE302.out | refine below_set ?_ GE303.out) | exact HB.out)⟩⟩
                 ·rw [if_neg c101] at H
                  have c101b0 : (a1_1 == 0) = false := beq_eq_false_iff_ne.mpr c101
                  have c101b1 : (a1_1 != 0) = true := bne_iff_ne.mpr c101
                  (first | rw [c101b0] | (simp only [i64_w, i32_w]; rw [c101b0]) | skip)
                  have H' := Aside0.mk H
                  clear H
                  have hnb105 := NB301_302.out
                  have hnc105 := NB302_301.out
                  have hnb106 := NB301_303.out
                  have hnc106 := NB303_301.out
                  have hcz107_0 : wc.cell? ⟨gb301, 0, none⟩ = some (.int .i64 a1_0) := (blk_cell BK301.out 0).trans rfl
                  have hcz107_1 : wc.cell? ⟨gb301, 1, none⟩ = some (.int .i64 a1_1) := (blk_cell BK301.out 1).trans rfl
                  have hcz107_2 : wc.cell? ⟨gb301, 2, none⟩ = some (.string a1_2) := (blk_cell BK301.out 2).trans rfl
                  have hfz107_0 := blk_frozen BK301.out 0
                  have hfz107_1 := blk_frozen BK301.out 1
                  have hfz107_2 := blk_frozen BK301.out 2
                  have hnb108 := NB302_303.out
                  have hnc108 := NB303_302.out
                  have hcz109_0 : wc.cell? ⟨gb302, 0, none⟩ = some (.int .i64 a2_0) := (blk_cell BK302.out 0).trans rfl
                  have hcz109_1 : wc.cell? ⟨gb302, 1, none⟩ = some (.int .i64 a2_1) := (blk_cell BK302.out 1).trans rfl
                  have hcz109_2 : wc.cell? ⟨gb302, 2, none⟩ = some (.string a2_2) := (blk_cell BK302.out 2).trans rfl
                  have hfz109_0 := blk_frozen BK302.out 0
                  have hfz109_1 := blk_frozen BK302.out 1
                  have hfz109_2 := blk_frozen BK302.out 2
                  go_wp2
                  go_meet
                  case rel => exact ⟨_, ((a2_1 == 0)), (by first | rfl | (simp; done) | (simp [*]; done)), H', ⟨by have := HJ3.out; have := HJ26.out; have := HJ46.out; have := HJ67.out; have := HJ87.out; first | omega | exact Nat.le_refl _⟩, ⟨by (with_reducible repeat (first | refine blk_drewN ?_ _ | refine blk_drew ?_ | refine blk_alloc ?_ _)); exact BK301.out⟩, ⟨by (with_reducible repeat (first | refine blk_drewN ?_ _ | refine blk_drew ?_ | refine blk_alloc ?_ _)); exact BK302.out⟩, ⟨by (with_reducible repeat (first | refine blk_drewN ?_ _ | refine blk_drew ?_ | refine blk_alloc ?_ _)); exact BK303.out⟩, ⟨by repeat (first | (with_reducible first | exact HB.out | apply below_alloc | apply pw_below_drewN | apply below_drew1 | refine below_set ?_ GE301.out | refine below_set ?_ GE302.out | refine below_set ?_ GE303.out) | exact HB.out)⟩⟩
                case rest =>
                 clear HC100
                 try clear c1; try clear c2; try clear p2; try clear c3; try clear c4; try clear c5; try clear c6; try clear p6; try clear c7; try clear c8; try clear c8b0; try clear c8b1; try clear c9; try clear c9b0; try clear c9b1; try clear c10; try clear c11; try clear c13; try clear c15; try clear c16; try clear c18; try clear c20; try clear c21; try clear c23; try clear c28; try clear c28b0; try clear c28b1; try clear c29; try clear c29b0; try clear c29b1; try clear c30; try clear c31; try clear c33; try clear c35; try clear c36; try clear c38; try clear c40; try clear c41; try clear c43; try clear c48; try clear c48b0; try clear c48b1; try clear c49; try clear c49b0; try clear c49b1; try clear c50; try clear c51; try clear c53; try clear c55; try clear c56; try clear c58; try clear c59; try clear c59b0; try clear c59b1; try clear c59b2; try clear c61; try clear c62; try clear c64; try clear p64; try clear c69; try clear c69b0; try clear c69b1; try clear c70; try clear c70b0; try clear c70b1; try clear c71; try clear c72; try clear c74; try clear c76; try clear c77; try clear c79; try clear c81; try clear c82; try clear c84; try clear c89; try clear c89b0; try clear c89b1; try clear c90; try clear c90b0; try clear c90b1; try clear c91; try clear c92; try clear c94; try clear c96; try clear c97; try clear c99; try clear c101; try clear c101b0; try clear c101b1; try clear c102; try clear c103; try clear c105; try clear c106; try clear c108; try clear hcz104_0; try clear hcz104_1; try clear hcz104_2; try clear hcz107_0; try clear hcz107_1; try clear hcz107_2; try clear hcz109_0; try clear hcz109_1; try clear hcz109_2; try clear hcz12_0; try clear hcz12_1; try clear hcz12_2; try clear hcz14_0; try clear hcz14_1; try clear hcz14_2; try clear hcz17_0; try clear hcz17_1; try clear hcz17_2; try clear hcz22_0; try clear hcz22_1; try clear hcz22_2; try clear hcz24_0; try clear hcz24_1; try clear hcz24_2; try clear hcz26_0; try clear hcz26_1; try clear hcz26_2; try clear hcz32_0; try clear hcz32_1; try clear hcz32_2; try clear hcz34_0; try clear hcz34_1; try clear hcz34_2; try clear hcz37_0; try clear hcz37_1; try clear hcz37_2; try clear hcz42_0; try clear hcz42_1; try clear hcz42_2; try clear hcz44_0; try clear hcz44_1; try clear hcz44_2; try clear hcz46_0; try clear hcz46_1; try clear hcz46_2; try clear hcz52_0; try clear hcz52_1; try clear hcz52_2; try clear hcz54_0; try clear hcz54_1; try clear hcz54_2; try clear hcz57_0; try clear hcz57_1; try clear hcz57_2; try clear hcz63_0; try clear hcz63_1; try clear hcz63_2; try clear hcz65_0; try clear hcz65_1; try clear hcz65_2; try clear hcz67_0; try clear hcz67_1; try clear hcz67_2; try clear hcz73_0; try clear hcz73_1; try clear hcz73_2; try clear hcz75_0; try clear hcz75_1; try clear hcz75_2; try clear hcz78_0; try clear hcz78_1; try clear hcz78_2; try clear hcz83_0; try clear hcz83_1; try clear hcz83_2; try clear hcz85_0; try clear hcz85_1; try clear hcz85_2; try clear hcz87_0; try clear hcz87_1; try clear hcz87_2; try clear hcz93_0; try clear hcz93_1; try clear hcz93_2; try clear hcz95_0; try clear hcz95_1; try clear hcz95_2; try clear hcz98_0; try clear hcz98_1; try clear hcz98_2; try clear hfz104_0; try clear hfz104_1; try clear hfz104_2; try clear hfz107_0; try clear hfz107_1; try clear hfz107_2; try clear hfz109_0; try clear hfz109_1; try clear hfz109_2; try clear hfz12_0; try clear hfz12_1; try clear hfz12_2; try clear hfz14_0; try clear hfz14_1; try clear hfz14_2; try clear hfz17_0; try clear hfz17_1; try clear hfz17_2; try clear hfz22_0; try clear hfz22_1; try clear hfz22_2; try clear hfz24_0; try clear hfz24_1; try clear hfz24_2; try clear hfz26_0; try clear hfz26_1; try clear hfz26_2; try clear hfz32_0; try clear hfz32_1; try clear hfz32_2; try clear hfz34_0; try clear hfz34_1; try clear hfz34_2; try clear hfz37_0; try clear hfz37_1; try clear hfz37_2; try clear hfz42_0; try clear hfz42_1; try clear hfz42_2; try clear hfz44_0; try clear hfz44_1; try clear hfz44_2; try clear hfz46_0; try clear hfz46_1; try clear hfz46_2; try clear hfz52_0; try clear hfz52_1; try clear hfz52_2; try clear hfz54_0; try clear hfz54_1; try clear hfz54_2; try clear hfz57_0; try clear hfz57_1; try clear hfz57_2; try clear hfz63_0; try clear hfz63_1; try clear hfz63_2; try clear hfz65_0; try clear hfz65_1; try clear hfz65_2; try clear hfz67_0; try clear hfz67_1; try clear hfz67_2; try clear hfz73_0; try clear hfz73_1; try clear hfz73_2; try clear hfz75_0; try clear hfz75_1; try clear hfz75_2; try clear hfz78_0; try clear hfz78_1; try clear hfz78_2; try clear hfz83_0; try clear hfz83_1; try clear hfz83_2; try clear hfz85_0; try clear hfz85_1; try clear hfz85_2; try clear hfz87_0; try clear hfz87_1; try clear hfz87_2; try clear hfz93_0; try clear hfz93_1; try clear hfz93_2; try clear hfz95_0; try clear hfz95_1; try clear hfz95_2; try clear hfz98_0; try clear hfz98_1; try clear hfz98_2; try clear p2; try clear p6; try clear p64
                 obtain ⟨kq, x111_99, rfl, HA, HJ99, BK301, BK302, BK303, HB⟩ := hcut
                 cases kq with
                 | zero => exact absurd HA.out (by simp [cabinetryref01_others.j5])
                 | succ kj99 =>
                  have H := HA.out
                  clear HA
                  simp only [cabinetryref01_others.j5] at H
                  by_cases c110 : x111_99 = true
                  ·subst c110
                   have H1 : ((cabinetryref01_Num.f 0).bind fun bt320 => (some (bt320.1, bt320.2.1, bt320.2.2, 0))) = some (r1, r2, r3, r4) := by rw [if_pos rfl] at H; exact H
                   clear H
                   have H := H1
                   clear H1
                   replace H := Option.bind_eq_some_iff.mp H
                   obtain ⟨⟨t320, t321, t322⟩, A1110, H⟩ := H
                   replace H : (some (t320, t321, t322, 0)) = some (r1, r2, r3, r4) := H
                   have A111 := Aside0.mk A1110
                   clear A1110
                   simp only [Option.some.injEq, Prod.mk.injEq] at H
                   obtain ⟨rfl, rfl, rfl, rfl⟩ := H
                   go_wp2_with (first | ((with_reducible refine gate_callee (f := 20) rfl ?_); refine goesL_ (some 112) rfl rfl Tryd.func20 (by kernel_rfl) rfl #[.int .i64 0] rfl (by (try simp only [List.map_toArray, List.map_cons, List.map_nil]); first | done | rfl | (simp only [List.length_drop, List.length_take]; rfl)) ?_; (with_reducible refine (cabinetryref01_Num.calls 0 t320 t321 t322 _ A111.out).mono ?_); rintro e w112 ⟨rfl, hb⟩; refine ⟨_, rfl, ?_⟩; have n0_ := Aside0.mk (blk_below (g := gb301) (o := .cells #[.int .i64 a1_0, .int .i64 a1_1, .string a1_2] 23 (0, 0)) (by (with_reducible repeat (first | refine blk_drewN ?_ _ | refine blk_drew ?_ | refine blk_alloc ?_ _)); exact BK301.out) hb); have n1_ := Aside0.mk (blk_below (g := gb302) (o := .cells #[.int .i64 a2_0, .int .i64 a2_1, .string a2_2] 23 (0, 0)) (by (with_reducible repeat (first | refine blk_drewN ?_ _ | refine blk_drew ?_ | refine blk_alloc ?_ _)); exact BK302.out) hb); have n2_ := Aside0.mk (blk_below (g := gb303) (o := .cells #[.int .i64 0, .int .i64 0, .string (⟨#[]⟩ : ByteArray)] 23 (0, 0)) (by (with_reducible repeat (first | refine blk_drewN ?_ _ | refine blk_drew ?_ | refine blk_alloc ?_ _)); exact BK303.out) hb); have n3_ := Aside0.mk (below_step (by repeat (first | (with_reducible first | exact HB.out | apply below_alloc | apply pw_below_drewN | apply below_drew1 | refine below_set ?_ GE301.out | refine below_set ?_ GE302.out | refine below_set ?_ GE303.out) | exact HB.out)) hb); clear BK301; clear BK302; clear BK303; clear HB; have BK301 := n0_; have BK302 := n1_; have BK303 := n2_; have HB := n3_; clear n0_ n1_ n2_ n3_; (try clear hb); (try clear hb2); (try clear hk); (try clear hi); have hnb113 := NB303_301.out; have hnc113 := NB301_303.out; have hnb114 := NB303_302.out; have hnc114 := NB302_303.out; have hcz115_0 : w112.cell? ⟨gb303, 0, none⟩ = some (.int .i64 0) := (blk_cell BK303.out 0).trans rfl; have hcz115_1 : w112.cell? ⟨gb303, 1, none⟩ = some (.int .i64 0) := (blk_cell BK303.out 1).trans rfl; have hcz115_2 : w112.cell? ⟨gb303, 2, none⟩ = some (.string (⟨#[]⟩ : ByteArray)) := (blk_cell BK303.out 2).trans rfl; have hfz115_0 := blk_frozen BK303.out 0; have hfz115_1 := blk_frozen BK303.out 1; have hfz115_2 := blk_frozen BK303.out 2))
                   refine bodyPost_ret (results_ct rfl _ _ gb303 23 #[.int .i64 t320, .int .i64 t321, .string t322] (0, 0) _ rfl (by (with_reducible repeat (first | refine blk_drewN ?_ _ | refine blk_drew ?_ | refine blk_alloc ?_ _)); refine blk_put (cs := #[.int .i64 t320, .int .i64 t321, .string (⟨#[]⟩ : ByteArray)]) ?_ 2 _ rfl; (with_reducible repeat (first | refine blk_drewN ?_ _ | refine blk_drew ?_ | refine blk_alloc ?_ _)); refine blk_put (cs := #[.int .i64 t320, .int .i64 0, .string (⟨#[]⟩ : ByteArray)]) ?_ 1 _ rfl; (with_reducible repeat (first | refine blk_drewN ?_ _ | refine blk_drew ?_ | refine blk_alloc ?_ _)); refine blk_put (cs := #[.int .i64 0, .int .i64 0, .string (⟨#[]⟩ : ByteArray)]) ?_ 0 _ rfl; (with_reducible repeat (first | refine blk_drewN ?_ _ | refine blk_drew ?_ | refine blk_alloc ?_ _)); exact BK303.out) Tryd.underlying23 rfl (by kernel_rfl)) rfl ?_
                   exact ⟨by first | rfl | (simp [errW_none, errW_some] <;> rfl) | (simp [*, errW_none, errW_some] <;> rfl), by repeat (first | (with_reducible first | exact HB.out | apply below_alloc | apply pw_below_drewN | apply below_drew1 | refine below_set ?_ GE301.out | refine below_set ?_ GE302.out | refine below_set ?_ GE303.out) | exact HB.out)⟩
                  ·replace c110 := Bool.eq_false_iff.mpr c110
                   subst c110
                   have H1 : ((cabinetryref01_Num.f (wrap64 (a1_1 - a2_1))).bind fun bt323 => (some (bt323.1, bt323.2.1, bt323.2.2, 0))) = some (r1, r2, r3, r4) := by rw [if_neg (show ¬ (false = true) by decide)] at H; exact H
                   clear H
                   have H := H1
                   clear H1
                   replace H := Option.bind_eq_some_iff.mp H
                   obtain ⟨⟨t323, t324, t325⟩, A1160, H⟩ := H
                   replace H : (some (t323, t324, t325, 0)) = some (r1, r2, r3, r4) := H
                   have A116 := Aside0.mk A1160
                   clear A1160
                   simp only [Option.some.injEq, Prod.mk.injEq] at H
                   obtain ⟨rfl, rfl, rfl, rfl⟩ := H
                   have hnb117 := NB301_302.out
                   have hnc117 := NB302_301.out
                   have hnb118 := NB301_303.out
                   have hnc118 := NB303_301.out
                   have hcz119_0 : wc.cell? ⟨gb301, 0, none⟩ = some (.int .i64 a1_0) := (blk_cell BK301.out 0).trans rfl
                   have hcz119_1 : wc.cell? ⟨gb301, 1, none⟩ = some (.int .i64 a1_1) := (blk_cell BK301.out 1).trans rfl
                   have hcz119_2 : wc.cell? ⟨gb301, 2, none⟩ = some (.string a1_2) := (blk_cell BK301.out 2).trans rfl
                   have hfz119_0 := blk_frozen BK301.out 0
                   have hfz119_1 := blk_frozen BK301.out 1
                   have hfz119_2 := blk_frozen BK301.out 2
                   have hnb120 := NB302_303.out
                   have hnc120 := NB303_302.out
                   have hcz121_0 : wc.cell? ⟨gb302, 0, none⟩ = some (.int .i64 a2_0) := (blk_cell BK302.out 0).trans rfl
                   have hcz121_1 : wc.cell? ⟨gb302, 1, none⟩ = some (.int .i64 a2_1) := (blk_cell BK302.out 1).trans rfl
                   have hcz121_2 : wc.cell? ⟨gb302, 2, none⟩ = some (.string a2_2) := (blk_cell BK302.out 2).trans rfl
                   have hfz121_0 := blk_frozen BK302.out 0
                   have hfz121_1 := blk_frozen BK302.out 1
                   have hfz121_2 := blk_frozen BK302.out 2
                   go_wp2_with (first | ((with_reducible refine gate_callee (f := 20) rfl ?_); refine goesL_ (some 118) rfl rfl Tryd.func20 (by kernel_rfl) rfl #[.int .i64 (wrap64 (a1_1 - a2_1))] rfl (by (try simp only [List.map_toArray, List.map_cons, List.map_nil]); first | done | rfl | (simp only [List.length_drop, List.length_take]; rfl)) ?_; (with_reducible refine (cabinetryref01_Num.calls (wrap64 (a1_1 - a2_1)) t323 t324 t325 _ A116.out).mono ?_); rintro e w122 ⟨rfl, hb⟩; refine ⟨_, rfl, ?_⟩; have n0_ := Aside0.mk (blk_below (g := gb301) (o := .cells #[.int .i64 a1_0, .int .i64 a1_1, .string a1_2] 23 (0, 0)) (by (with_reducible repeat (first | refine blk_drewN ?_ _ | refine blk_drew ?_ | refine blk_alloc ?_ _)); exact BK301.out) hb); have n1_ := Aside0.mk (blk_below (g := gb302) (o := .cells #[.int .i64 a2_0, .int .i64 a2_1, .string a2_2] 23 (0, 0)) (by (with_reducible repeat (first | refine blk_drewN ?_ _ | refine blk_drew ?_ | refine blk_alloc ?_ _)); exact BK302.out) hb); have n2_ := Aside0.mk (blk_below (g := gb303) (o := .cells #[.int .i64 0, .int .i64 0, .string (⟨#[]⟩ : ByteArray)] 23 (0, 0)) (by (with_reducible repeat (first | refine blk_drewN ?_ _ | refine blk_drew ?_ | refine blk_alloc ?_ _)); exact BK303.out) hb); have n3_ := Aside0.mk (below_step (by repeat (first | (with_reducible first | exact HB.out | apply below_alloc | apply pw_below_drewN | apply below_drew1 | refine below_set ?_ GE301.out | refine below_set ?_ GE302.out | refine below_set ?_ GE303.out) | exact HB.out)) hb); clear BK301; clear BK302; clear BK303; clear HB; have BK301 := n0_; have BK302 := n1_; have BK303 := n2_; have HB := n3_; clear n0_ n1_ n2_ n3_; (try clear hb); (try clear hb2); (try clear hk); (try clear hi); have hcz123_0 : w122.cell? ⟨gb303, 0, none⟩ = some (.int .i64 0) := (blk_cell BK303.out 0).trans rfl; have hcz123_1 : w122.cell? ⟨gb303, 1, none⟩ = some (.int .i64 0) := (blk_cell BK303.out 1).trans rfl; have hcz123_2 : w122.cell? ⟨gb303, 2, none⟩ = some (.string (⟨#[]⟩ : ByteArray)) := (blk_cell BK303.out 2).trans rfl; have hfz123_0 := blk_frozen BK303.out 0; have hfz123_1 := blk_frozen BK303.out 1; have hfz123_2 := blk_frozen BK303.out 2))
                   refine bodyPost_ret (results_ct rfl _ _ gb303 23 #[.int .i64 t323, .int .i64 t324, .string t325] (0, 0) _ rfl (by (with_reducible repeat (first | refine blk_drewN ?_ _ | refine blk_drew ?_ | refine blk_alloc ?_ _)); refine blk_put (cs := #[.int .i64 t323, .int .i64 t324, .string (⟨#[]⟩ : ByteArray)]) ?_ 2 _ rfl; (with_reducible repeat (first | refine blk_drewN ?_ _ | refine blk_drew ?_ | refine blk_alloc ?_ _)); refine blk_put (cs := #[.int .i64 t323, .int .i64 0, .string (⟨#[]⟩ : ByteArray)]) ?_ 1 _ rfl; (with_reducible repeat (first | refine blk_drewN ?_ _ | refine blk_drew ?_ | refine blk_alloc ?_ _)); refine blk_put (cs := #[.int .i64 0, .int .i64 0, .string (⟨#[]⟩ : ByteArray)]) ?_ 0 _ rfl; (with_reducible repeat (first | refine blk_drewN ?_ _ | refine blk_drew ?_ | refine blk_alloc ?_ _)); exact BK303.out) Tryd.underlying23 rfl (by kernel_rfl)) rfl ?_
                   exact ⟨by first | rfl | (simp [errW_none, errW_some] <;> rfl) | (simp [*, errW_none, errW_some] <;> rfl), by repeat (first | (with_reducible first | exact HB.out | apply below_alloc | apply pw_below_drewN | apply below_drew1 | refine below_set ?_ GE301.out | refine below_set ?_ GE302.out | refine below_set ?_ GE303.out) | exact HB.out)⟩
               ·replace c99 := Bool.eq_false_iff.mpr c99
                subst c99
                have H1 : (if a0 = 1 then (if a1_0 = 4 then (cabinetryref01_others.j6 kj87 (a2_0 == 4) a1_0 a1_1 a1_2 a2_0 a2_1 a2_2) else (cabinetryref01_others.j6 kj87 false a1_0 a1_1 a1_2 a2_0 a2_1 a2_2)) else (cabinetryref01_others.j6 kj87 false a1_0 a1_1 a1_2 a2_0 a2_1 a2_2)) = some (r1, r2, r3, r4) := by rw [if_neg (show ¬ (false = true) by decide)] at H; exact H
                clear H
                have H := H1
                clear H1
                have HC124 := Aside0.mk H
                clear H
                go_upto_region 13 with (fail)
                go_cut [119] (fun v119 wc => ∃ (kq : Nat) (x119_123 : Bool), v119 = .bool x119_123 ∧ Aside0 (cabinetryref01_others.j6 kq x119_123 a1_0 a1_1 a1_2 a2_0 a2_1 a2_2 = some (r1, r2, r3, r4)) ∧ Aside0 (kq ≤ kj87) ∧ Aside0 (wc.heap[gb301]? = some (.cells #[.int .i64 a1_0, .int .i64 a1_1, .string a1_2] 23 (0, 0))) ∧ Aside0 (wc.heap[gb302]? = some (.cells #[.int .i64 a2_0, .int .i64 a2_1, .string a2_2] 23 (0, 0))) ∧ Aside0 (wc.heap[gb303]? = some (.cells #[.int .i64 0, .int .i64 0, .string (⟨#[]⟩ : ByteArray)] 23 (0, 0))) ∧ Aside0 (Below w.heap.size w wc))
                case first =>
                 have H := HC124.out
                 clear HC124
                 by_cases c125 : a0 = 1
                 ·rw [if_pos c125] at H
                  have c125b0 : (a0 == 1) = true := beq_iff_eq.mpr c125
                  have c125b1 : (a0 != 1) = false := bne_eq_false_iff_eq.mpr c125
                  clear c125
                  (first | rw [c125b0] | (simp only [i64_w, i32_w]; rw [c125b0]) | skip)
                  by_cases c126 : a1_0 = 4
                  ·rw [if_pos c126] at H
                   have c126b0 : (a1_0 == 4) = true := beq_iff_eq.mpr c126
                   have c126b1 : (a1_0 != 4) = false := bne_eq_false_iff_eq.mpr c126
                   clear c126
                   have H' := Aside0.mk H
                   clear H
                   have hnb127 := NB301_302.out
                   have hnc127 := NB302_301.out
                   have hnb128 := NB301_303.out
                   have hnc128 := NB303_301.out
                   have hcz129_0 : wc.cell? ⟨gb301, 0, none⟩ = some (.int .i64 a1_0) := (blk_cell BK301.out 0).trans rfl
                   have hcz129_1 : wc.cell? ⟨gb301, 1, none⟩ = some (.int .i64 a1_1) := (blk_cell BK301.out 1).trans rfl
                   have hcz129_2 : wc.cell? ⟨gb301, 2, none⟩ = some (.string a1_2) := (blk_cell BK301.out 2).trans rfl
                   have hfz129_0 := blk_frozen BK301.out 0
                   have hfz129_1 := blk_frozen BK301.out 1
                   have hfz129_2 := blk_frozen BK301.out 2
                   have hnb130 := NB302_303.out
                   have hnc130 := NB303_302.out
                   have hcz131_0 : wc.cell? ⟨gb302, 0, none⟩ = some (.int .i64 a2_0) := (blk_cell BK302.out 0).trans rfl
                   have hcz131_1 : wc.cell? ⟨gb302, 1, none⟩ = some (.int .i64 a2_1) := (blk_cell BK302.out 1).trans rfl
                   have hcz131_2 : wc.cell? ⟨gb302, 2, none⟩ = some (.string a2_2) := (blk_cell BK302.out 2).trans rfl
                   have hfz131_0 := blk_frozen BK302.out 0
                   have hfz131_1 := blk_frozen BK302.out 1
                   have hfz131_2 := blk_frozen BK302.out 2
                   go_wp2
                   go_meet
                   case rel => exact ⟨_, ((a2_0 == 4)), (by first | rfl | (simp; done) | (simp [*]; done)), H', ⟨by have := HJ3.out; have := HJ26.out; have := HJ46.out; have := HJ67.out; have := HJ87.out; first | omega | exact Nat.le_refl _⟩, ⟨by (with_reducible repeat (first | refine blk_drewN ?_ _ | refine blk_drew ?_ | refine blk_alloc ?_ _)); exact BK301.out⟩, ⟨by (with_reducible repeat (first | refine blk_drewN ?_ _ | refine blk_drew ?_ | refine blk_alloc ?_ _)); exact BK302.out⟩, ⟨by (with_reducible repeat (first | refine blk_drewN ?_ _ | refine blk_drew ?_ | refine blk_alloc ?_ _)); exact BK303.out⟩, ⟨by repeat (first | (with_reducible first | exact HB.out | apply below_alloc | apply pw_below_drewN | apply below_drew1 | refine below_set ?_ GE301.out | refine below_set ?_ GE302.out | refine below_set ?_ GE303.out) | exact HB.out)⟩⟩
                  ·rw [if_neg c126] at H
                   have c126b0 : (a1_0 == 4) = false := beq_eq_false_iff_ne.mpr c126
                   have c126b1 : (a1_0 != 4) = true := bne_iff_ne.mpr c126
                   have H' := Aside0.mk H
                   clear H
                   have hnb132 := NB301_302.out
                   have hnc132 := NB302_301.out
                   have hnb133 := NB301_303.out
                   have hnc133 := NB303_301.out
                   have hcz134_0 : wc.cell? ⟨gb301, 0, none⟩ = some (.int .i64 a1_0) := (blk_cell BK301.out 0).trans rfl
                   have hcz134_1 : wc.cell? ⟨gb301, 1, none⟩ = some (.int .i64 a1_1) := (blk_cell BK301.out 1).trans rfl
                   have hcz134_2 : wc.cell? ⟨gb301, 2, none⟩ = some (.string a1_2) := (blk_cell BK301.out 2).trans rfl
                   have hfz134_0 := blk_frozen BK301.out 0
                   have hfz134_1 := blk_frozen BK301.out 1
                   have hfz134_2 := blk_frozen BK301.out 2
                   go_wp2
                   go_meet
                   case rel => exact ⟨_, (false), (by first | rfl | (simp; done) | (simp [*]; done)), H', ⟨by have := HJ3.out; have := HJ26.out; have := HJ46.out; have := HJ67.out; have := HJ87.out; first | omega | exact Nat.le_refl _⟩, ⟨by (with_reducible repeat (first | refine blk_drewN ?_ _ | refine blk_drew ?_ | refine blk_alloc ?_ _)); exact BK301.out⟩, ⟨by (with_reducible repeat (first | refine blk_drewN ?_ _ | refine blk_drew ?_ | refine blk_alloc ?_ _)); exact BK302.out⟩, ⟨by (with_reducible repeat (first | refine blk_drewN ?_ _ | refine blk_drew ?_ | refine blk_alloc ?_ _)); exact BK303.out⟩, ⟨by repeat (first | (with_reducible first | exact HB.out | apply below_alloc | apply pw_below_drewN | apply below_drew1 | refine below_set ?_ GE301.out | refine below_set ?_ GE302.out | refine below_set ?_ GE303.out) | exact HB.out)⟩⟩
                 ·rw [if_neg c125] at H
                  have c125b0 : (a0 == 1) = false := beq_eq_false_iff_ne.mpr c125
                  have c125b1 : (a0 != 1) = true := bne_iff_ne.mpr c125
                  (first | rw [c125b0] | (simp only [i64_w, i32_w]; rw [c125b0]) | skip)
                  have H' := Aside0.mk H
                  clear H
                  go_wp2
                  go_meet
                  case rel => exact ⟨_, (false), (by first | rfl | (simp; done) | (simp [*]; done)), H', ⟨by have := HJ3.out; have := HJ26.out; have := HJ46.out; have := HJ67.out; have := HJ87.out; first | omega | exact Nat.le_refl _⟩, ⟨by (with_reducible repeat (first | refine blk_drewN ?_ _ | refine blk_drew ?_ | refine blk_alloc ?_ _)); exact BK301.out⟩, ⟨by (with_reducible repeat (first | refine blk_drewN ?_ _ | refine blk_drew ?_ | refine blk_alloc ?_ _)); exact BK302.out⟩, ⟨by (with_reducible repeat (first | refine blk_drewN ?_ _ | refine blk_drew ?_ | refine blk_alloc ?_ _)); exact BK303.out⟩, ⟨by repeat (first | (with_reducible first | exact HB.out | apply below_alloc | apply pw_below_drewN | apply below_drew1 | refine below_set ?_ GE301.out | refine below_set ?_ GE302.out | refine below_set ?_ GE303.out) | exact HB.out)⟩⟩
                case rest =>
                 clear HC124
                 try clear c1; try clear c2; try clear p2; try clear c3; try clear c4; try clear c5; try clear c6; try clear p6; try clear c7; try clear c8; try clear c8b0; try clear c8b1; try clear c9; try clear c9b0; try clear c9b1; try clear c10; try clear c11; try clear c12; try clear c13; try clear c15; try clear c16; try clear c18; try clear c20; try clear c21; try clear c23; try clear c28; try clear c28b0; try clear c28b1; try clear c29; try clear c29b0; try clear c29b1; try clear c30; try clear c31; try clear c33; try clear c35; try clear c36; try clear c38; try clear c40; try clear c41; try clear c43; try clear c48; try clear c48b0; try clear c48b1; try clear c49; try clear c49b0; try clear c49b1; try clear c50; try clear c51; try clear c53; try clear c55; try clear c56; try clear c58; try clear c59; try clear c59b0; try clear c59b1; try clear c59b2; try clear c61; try clear c62; try clear c64; try clear p64; try clear c69; try clear c69b0; try clear c69b1; try clear c70; try clear c70b0; try clear c70b1; try clear c71; try clear c72; try clear c74; try clear c76; try clear c77; try clear c79; try clear c81; try clear c82; try clear c84; try clear c89; try clear c89b0; try clear c89b1; try clear c90; try clear c90b0; try clear c90b1; try clear c91; try clear c92; try clear c94; try clear c96; try clear c97; try clear c99; try clear c101; try clear c101b0; try clear c101b1; try clear c102; try clear c103; try clear c105; try clear c106; try clear c108; try clear c110; try clear c113; try clear c114; try clear c117; try clear c118; try clear c120; try clear c125; try clear c125b0; try clear c125b1; try clear c126; try clear c126b0; try clear c126b1; try clear c127; try clear c128; try clear c130; try clear c132; try clear c133; try clear hcz104_0; try clear hcz104_1; try clear hcz104_2; try clear hcz107_0; try clear hcz107_1; try clear hcz107_2; try clear hcz109_0; try clear hcz109_1; try clear hcz109_2; try clear hcz115_0; try clear hcz115_1; try clear hcz115_2; try clear hcz119_0; try clear hcz119_1; try clear hcz119_2; try clear hcz121_0; try clear hcz121_1; try clear hcz121_2; try clear hcz123_0; try clear hcz123_1; try clear hcz123_2; try clear hcz129_0; try clear hcz129_1; try clear hcz129_2; try clear hcz12_0; try clear hcz12_1; try clear hcz12_2; try clear hcz131_0; try clear hcz131_1; try clear hcz131_2; try clear hcz134_0; try clear hcz134_1; try clear hcz134_2; try clear hcz14_0; try clear hcz14_1; try clear hcz14_2; try clear hcz17_0; try clear hcz17_1; try clear hcz17_2; try clear hcz22_0; try clear hcz22_1; try clear hcz22_2; try clear hcz24_0; try clear hcz24_1; try clear hcz24_2; try clear hcz26_0; try clear hcz26_1; try clear hcz26_2; try clear hcz32_0; try clear hcz32_1; try clear hcz32_2; try clear hcz34_0; try clear hcz34_1; try clear hcz34_2; try clear hcz37_0; try clear hcz37_1; try clear hcz37_2; try clear hcz42_0; try clear hcz42_1; try clear hcz42_2; try clear hcz44_0; try clear hcz44_1; try clear hcz44_2; try clear hcz46_0; try clear hcz46_1; try clear hcz46_2; try clear hcz52_0; try clear hcz52_1; try clear hcz52_2; try clear hcz54_0; try clear hcz54_1; try clear hcz54_2; try clear hcz57_0; try clear hcz57_1; try clear hcz57_2; try clear hcz63_0; try clear hcz63_1; try clear hcz63_2; try clear hcz65_0; try clear hcz65_1; try clear hcz65_2; try clear hcz67_0; try clear hcz67_1; try clear hcz67_2; try clear hcz73_0; try clear hcz73_1; try clear hcz73_2; try clear hcz75_0; try clear hcz75_1; try clear hcz75_2; try clear hcz78_0; try clear hcz78_1; try clear hcz78_2; try clear hcz83_0; try clear hcz83_1; try clear hcz83_2; try clear hcz85_0; try clear hcz85_1; try clear hcz85_2; try clear hcz87_0; try clear hcz87_1; try clear hcz87_2; try clear hcz93_0; try clear hcz93_1; try clear hcz93_2; try clear hcz95_0; try clear hcz95_1; try clear hcz95_2; try clear hcz98_0; try clear hcz98_1; try clear hcz98_2; try clear hfz104_0; try clear hfz104_1; try clear hfz104_2; try clear hfz107_0; try clear hfz107_1; try clear hfz107_2; try clear hfz109_0; try clear hfz109_1; try clear hfz109_2; try clear hfz115_0; try clear hfz115_1; try clear hfz115_2; try clear hfz119_0; try clear hfz119_1; try clear hfz119_2; try clear hfz121_0; try clear hfz121_1; try clear hfz121_2; try clear hfz123_0; try clear hfz123_1; try clear hfz123_2; try clear hfz129_0; try clear hfz129_1; try clear hfz129_2; try clear hfz12_0; try clear hfz12_1; try clear hfz12_2; try clear hfz131_0; try clear hfz131_1; try clear hfz131_2; try clear hfz134_0; try clear hfz134_1; try clear hfz134_2; try clear hfz14_0; try clear hfz14_1; try clear hfz14_2; try clear hfz17_0; try clear hfz17_1; try clear hfz17_2; try clear hfz22_0; try clear hfz22_1; try clear hfz22_2; try clear hfz24_0; try clear hfz24_1; try clear hfz24_2; try clear hfz26_0; try clear hfz26_1; try clear hfz26_2; try clear hfz32_0; try clear hfz32_1; try clear hfz32_2; try clear hfz34_0; try clear hfz34_1; try clear hfz34_2; try clear hfz37_0; try clear hfz37_1; try clear hfz37_2; try clear hfz42_0; try clear hfz42_1; try clear hfz42_2; try clear hfz44_0; try clear hfz44_1; try clear hfz44_2; try clear hfz46_0; try clear hfz46_1; try clear hfz46_2; try clear hfz52_0; try clear hfz52_1; try clear hfz52_2; try clear hfz54_0; try clear hfz54_1; try clear hfz54_2; try clear hfz57_0; try clear hfz57_1; try clear hfz57_2; try clear hfz63_0; try clear hfz63_1; try clear hfz63_2; try clear hfz65_0; try clear hfz65_1; try clear hfz65_2; try clear hfz67_0; try clear hfz67_1; try clear hfz67_2; try clear hfz73_0; try clear hfz73_1; try clear hfz73_2; try clear hfz75_0; try clear hfz75_1; try clear hfz75_2; try clear hfz78_0; try clear hfz78_1; try clear hfz78_2; try clear hfz83_0; try clear hfz83_1; try clear hfz83_2; try clear hfz85_0; try clear hfz85_1; try clear hfz85_2; try clear hfz87_0; try clear hfz87_1; try clear hfz87_2; try clear hfz93_0; try clear hfz93_1; try clear hfz93_2; try clear hfz95_0; try clear hfz95_1; try clear hfz95_2; try clear hfz98_0; try clear hfz98_1; try clear hfz98_2; try clear p2; try clear p6; try clear p64
                 obtain ⟨kq, x119_123, rfl, HA, HJ123, BK301, BK302, BK303, HB⟩ := hcut
                 cases kq with
                 | zero => exact absurd HA.out (by simp [cabinetryref01_others.j6])
                 | succ kj123 =>
                  have H := HA.out
                  clear HA
                  simp only [cabinetryref01_others.j6] at H
                  by_cases c135 : x119_123 = true
                  ·subst c135
                   have H1 : ((cabinetryref01_Bare.f kj123 a1_2).bind fun t326 => (if t326.size + a2_2.size ≤ 9223372036854775807 then (if 0 ≤ (t326.size : Int) then (if (t326.size : Int) ≤ (a1_2.size : Int) then (if (t326 ++ a2_2).size + (a1_2.extract ((t326.size : Int) : Int).toNat a1_2.size).size ≤ 9223372036854775807 then ((cabinetryref01_text.f ((t326 ++ a2_2) ++ (a1_2.extract ((t326.size : Int) : Int).toNat a1_2.size))).bind fun bt327 => (some (bt327.1, bt327.2.1, bt327.2.2.1, bt327.2.2.2))) else (none)) else (none)) else (none)) else (none))) = some (r1, r2, r3, r4) := by rw [if_pos rfl] at H; exact H
                   clear H
                   have H := H1
                   clear H1
                   replace H := Option.bind_eq_some_iff.mp H
                   obtain ⟨t326, A1360, H⟩ := H
                   replace H : (if t326.size + a2_2.size ≤ 9223372036854775807 then (if 0 ≤ (t326.size : Int) then (if (t326.size : Int) ≤ (a1_2.size : Int) then (if (t326 ++ a2_2).size + (a1_2.extract ((t326.size : Int) : Int).toNat a1_2.size).size ≤ 9223372036854775807 then ((cabinetryref01_text.f ((t326 ++ a2_2) ++ (a1_2.extract ((t326.size : Int) : Int).toNat a1_2.size))).bind fun bt327 => (some (bt327.1, bt327.2.1, bt327.2.2.1, bt327.2.2.2))) else (none)) else (none)) else (none)) else (none)) = some (r1, r2, r3, r4) := H
                   have A136 := Aside0.mk A1360
                   clear A1360
                   by_cases c137 : t326.size + a2_2.size ≤ 9223372036854775807
                   ·rw [if_pos c137] at H
                    have c137b0 := eq_true c137
                    have c137b1 : decide (t326.size + a2_2.size ≤ 9223372036854775807) = true := decide_eq_true c137
                    try have c137b2 : (9223372036854775807 < t326.size + a2_2.size) = False := eq_false (Nat.not_lt.2 c137)
                    by_cases c138 : 0 ≤ (t326.size : Int)
                    ·rw [if_pos c138] at H
                     have c138b0 := eq_true c138
                     have c138b1 : decide (0 ≤ (t326.size : Int)) = true := decide_eq_true c138
                     clear c138
                     by_cases c139 : (t326.size : Int) ≤ (a1_2.size : Int)
                     ·rw [if_pos c139] at H
                      have c139b0 := eq_true c139
                      have c139b1 : decide ((t326.size : Int) ≤ (a1_2.size : Int)) = true := decide_eq_true c139
                      clear c139
                      by_cases c140 : (t326 ++ a2_2).size + (a1_2.extract ((t326.size : Int) : Int).toNat a1_2.size).size ≤ 9223372036854775807
                      ·rw [if_pos c140] at H
                       have c140b0 := eq_true c140
                       have c140b1 : decide ((t326 ++ a2_2).size + (a1_2.extract ((t326.size : Int) : Int).toNat a1_2.size).size ≤ 9223372036854775807) = true := decide_eq_true c140
                       try have c140b2 : (9223372036854775807 < (t326 ++ a2_2).size + (a1_2.extract ((t326.size : Int) : Int).toNat a1_2.size).size) = False := eq_false (Nat.not_lt.2 c140)
                       try have c140b3 : (9223372036854775807 < t326.size + a2_2.size + (a1_2.size - t326.size)) = False := eq_false (by have z := c140; simp only [eq_iff_iff, iff_true, iff_false, Nat.not_lt] at *; simp only [ByteArray.size_append, ByteArray.size_extract] at z; omega)
                       replace H := Option.bind_eq_some_iff.mp H
                       obtain ⟨⟨t327, t328, t329, t330⟩, A1410, H⟩ := H
                       replace H : (some (t327, t328, t329, t330)) = some (r1, r2, r3, r4) := H
                       have A141 := Aside0.mk A1410
                       clear A1410
                       simp only [Option.some.injEq, Prod.mk.injEq] at H
                       obtain ⟨rfl, rfl, rfl, rfl⟩ := H
                       have hnb142 := NB301_302.out
                       have hnc142 := NB302_301.out
                       have hnb143 := NB301_303.out
                       have hnc143 := NB303_301.out
                       have hcz144_0 : wc.cell? ⟨gb301, 0, none⟩ = some (.int .i64 a1_0) := (blk_cell BK301.out 0).trans rfl
                       have hcz144_1 : wc.cell? ⟨gb301, 1, none⟩ = some (.int .i64 a1_1) := (blk_cell BK301.out 1).trans rfl
                       have hcz144_2 : wc.cell? ⟨gb301, 2, none⟩ = some (.string a1_2) := (blk_cell BK301.out 2).trans rfl
                       have hfz144_0 := blk_frozen BK301.out 0
                       have hfz144_1 := blk_frozen BK301.out 1
                       have hfz144_2 := blk_frozen BK301.out 2
                       try go_wp2_with (first | ((with_reducible refine gate_callee (f := 75) rfl ?_); refine goesL_ (some 134) rfl rfl Tryd.func75 (by kernel_rfl) rfl #[.string a1_2] rfl (by (try simp only [List.map_toArray, List.map_cons, List.map_nil]); first | done | rfl | (simp only [List.length_drop, List.length_take]; rfl)) ?_; (with_reducible refine (cabinetryref01_Bare.calls kj123 a1_2 t326 _ A136.out).mono ?_); rintro e w' ⟨rfl, ⟨nd, rfl⟩⟩; refine ⟨_, rfl, ?_⟩; (try (rw [drewN_self wc]; generalize hq_ : World.drewN wc _ = wc; have n0_ : Aside0 (wc.heap[gb301]? = some (.cells #[.int .i64 a1_0, .int .i64 a1_1, .string a1_2] 23 (0, 0))) := ⟨by rw [← hq_]; exact (by (with_reducible repeat (first | refine blk_drewN ?_ _ | refine blk_drew ?_ | refine blk_alloc ?_ _)); exact BK301.out)⟩; have n1_ : Aside0 (wc.heap[gb302]? = some (.cells #[.int .i64 a2_0, .int .i64 a2_1, .string a2_2] 23 (0, 0))) := ⟨by rw [← hq_]; exact (by (with_reducible repeat (first | refine blk_drewN ?_ _ | refine blk_drew ?_ | refine blk_alloc ?_ _)); exact BK302.out)⟩; have n2_ : Aside0 (wc.heap[gb303]? = some (.cells #[.int .i64 0, .int .i64 0, .string (⟨#[]⟩ : ByteArray)] 23 (0, 0))) := ⟨by rw [← hq_]; exact (by (with_reducible repeat (first | refine blk_drewN ?_ _ | refine blk_drew ?_ | refine blk_alloc ?_ _)); exact BK303.out)⟩; have n3_ : Aside0 (Below w.heap.size w wc) := ⟨by rw [← hq_]; exact (by repeat (first | (with_reducible first | exact HB.out | apply below_alloc | apply pw_below_drewN | apply below_drew1 | refine below_set ?_ GE301.out | refine below_set ?_ GE302.out | refine below_set ?_ GE303.out) | exact HB.out))⟩; clear BK301 BK302 BK303 HB hq_; have BK301 := n0_; have BK302 := n1_; have BK303 := n2_; have HB := n3_; clear n0_ n1_ n2_ n3_))))
                       have n0_ := Aside0.mk (blk_drew BK301.out)
                       have n1_ := Aside0.mk (blk_drew BK302.out)
                       have n2_ := Aside0.mk (blk_drew BK303.out)
                       have n3_ := Aside0.mk (below_drew1 HB.out)
                       clear BK301
                       clear BK302
                       clear BK303
                       clear HB
                       have BK301 := n0_
                       have BK302 := n1_
                       have BK303 := n2_
                       have HB := n3_
                       clear n0_ n1_ n2_ n3_
                       refine start_ (n := 15) (S := fun w' => w'.cell? ⟨gb302, 0, none⟩ = some (.int .i64 a2_0) ∧ w'.cell? ⟨gb302, 1, none⟩ = some (.int .i64 a2_1) ∧ w'.cell? ⟨gb302, 2, none⟩ = some (.string a2_2) ∧ w'.cell? ⟨gb301, 0, none⟩ = some (.int .i64 a1_0) ∧ w'.cell? ⟨gb301, 1, none⟩ = some (.int .i64 a1_1) ∧ w'.cell? ⟨gb301, 2, none⟩ = some (.string a1_2)) (ds := []) #[false, false, false, false, false, false, false, false, false, false, false, false, false, false, false] (by kernel_rfl) rfl rfl ⟨(blk_cell BK302.out 0).trans rfl, (blk_cell BK302.out 1).trans rfl, (blk_cell BK302.out 2).trans rfl, (blk_cell BK301.out 0).trans rfl, (blk_cell BK301.out 1).trans rfl, (blk_cell BK301.out 2).trans rfl⟩ (fun hHeld => ?_); refine with_tabW cabinetryref01_others.tab15 cabinetryref01_others.bits15 (fun HT_ HW_ => ?_)
                       generalize wc.drew = w145 at BK301 BK302 BK303 HB hHeld ⊢
                       refine pure_ (i := 0) (N := some 135) (v := ?_) (a' := ?_) #[true, false, false, false, false, false, false, false, false, false, false, false, false, false, false] rfl rfl (any_of HT_.out (by kernel_rfl)) (fun _ _ _ h => h) (Or.inl ⟨by rfl, ?_⟩) ?_ ?_
                       rotate_left
                       ·intro w'
                        go_simp
                        with_reducible rfl
                       rotate_left
                       ·simp only [Act.put, List.setIfInBounds_toArray, List.set_cons_zero, List.set_cons_succ, i64_w, i32_w]
                        rfl
                       refine pure_ (i := 1) (N := some 136) (v := ?_) (a' := ?_) #[true, true, false, false, false, false, false, false, false, false, false, false, false, false, false] rfl rfl (any_of HT_.out (by kernel_rfl)) (fun _ _ _ h => h) (Or.inl ⟨by rfl, ?_⟩) ?_ ?_
                       rotate_left
                       ·intro w'
                        go_simp
                        with_reducible rfl
                       rotate_left
                       ·simp only [Act.put, List.setIfInBounds_toArray, List.set_cons_zero, List.set_cons_succ, i64_w, i32_w]
                        rfl
                       refine pure_ (i := 4) (N := some 139) (v := ?_) (a' := ?_) #[true, true, false, false, true, false, false, false, false, false, false, false, false, false, false] rfl rfl (any_of HT_.out (by kernel_rfl)) (fun _ _ _ h => h) (Or.inl ⟨by rfl, ?_⟩) ?_ ?_
                       rotate_left
                       ·intro w'
                        go_simp
                        with_reducible rfl
                       rotate_left
                       ·simp only [Act.put, List.setIfInBounds_toArray, List.set_cons_zero, List.set_cons_succ, i64_w, i32_w]
                        rfl
                       refine pure_ (i := 6) (N := some 141) (v := ?_) (a' := ?_) #[true, true, false, false, true, false, true, false, false, false, false, false, false, false, false] rfl rfl (any_of HT_.out (by kernel_rfl)) (fun _ _ _ h => h) (Or.inl ⟨by rfl, ?_⟩) ?_ ?_
                       rotate_left
                       ·intro w'
                        go_simp
                        with_reducible rfl
                       rotate_left
                       ·simp only [Act.put, List.setIfInBounds_toArray, List.set_cons_zero, List.set_cons_succ, i64_w, i32_w]
                        rfl
                       refine pure_ (i := 7) (N := some 142) (v := ?_) (a' := ?_) #[true, true, false, false, true, false, true, true, false, false, false, false, false, false, false] rfl rfl (any_of HT_.out (by kernel_rfl)) (fun _ _ _ h => h) (Or.inl ⟨by rfl, ?_⟩) ?_ ?_
                       rotate_left
                       ·intro w'
                        go_simp
                        with_reducible rfl
                       rotate_left
                       ·simp only [Act.put, List.setIfInBounds_toArray, List.set_cons_zero, List.set_cons_succ, i64_w, i32_w]
                        rfl
                       refine take_ (i := 2) (N := some 137) (v := ?_) (a' := ?_) #[true, true, true, false, true, false, true, true, false, false, false, false, false, false, false] rfl rfl (take_ofW HT_.out HW_.out (by kernel_rfl)) (fun _ _ _ h => h) (Or.inl ⟨by rfl, ?_⟩) hHeld ?_ ?_
                       rotate_left
                       ·rintro w' ⟨s0, s1, s2, s3, s4, s5⟩
                        go_simp
                        with_reducible rfl
                       rotate_left
                       ·simp only [Act.put, List.setIfInBounds_toArray, List.set_cons_zero, List.set_cons_succ, i64_w, i32_w]
                        rfl
                       refine pure_ (i := 3) (N := some 138) (v := ?_) (a' := ?_) #[true, true, true, true, true, false, true, true, false, false, false, false, false, false, false] rfl rfl (any_of HT_.out (by kernel_rfl)) (fun _ _ _ h => h) (Or.inl ⟨by rfl, ?_⟩) ?_ ?_
                       rotate_left
                       ·intro w'
                        go_simp
                        with_reducible rfl
                       rotate_left
                       ·simp only [Act.put, List.setIfInBounds_toArray, List.set_cons_zero, List.set_cons_succ, i64_w, i32_w]
                        rfl
                       refine take_ (i := 5) (N := some 140) (v := ?_) (a' := ?_) #[true, true, true, true, true, true, true, true, false, false, false, false, false, false, false] rfl rfl (take_ofW HT_.out HW_.out (by kernel_rfl)) (fun _ _ _ h => h) (Or.inl ⟨by rfl, ?_⟩) hHeld ?_ ?_
                       rotate_left
                       ·rintro w' ⟨s0, s1, s2, s3, s4, s5⟩
                        go_simp
                        with_reducible rfl
                       rotate_left
                       ·simp only [Act.put, List.setIfInBounds_toArray, List.set_cons_zero, List.set_cons_succ, i64_w, i32_w]
                        rfl
                       refine pure_ (i := 8) (N := some 143) (v := ?_) (a' := ?_) #[true, true, true, true, true, true, true, true, true, false, false, false, false, false, false] rfl rfl (any_of HT_.out (by kernel_rfl)) (fun _ _ _ h => h) (Or.inl ⟨by rfl, ?_⟩) ?_ ?_
                       rotate_left
                       ·intro w'
                        go_simp
                        with_reducible rfl
                       rotate_left
                       ·simp only [Act.put, List.setIfInBounds_toArray, List.set_cons_zero, List.set_cons_succ, i64_w, i32_w]
                        rfl
                       refine pure_ (i := 9) (N := some 144) (v := ?_) (a' := ?_) #[true, true, true, true, true, true, true, true, true, true, false, false, false, false, false] rfl rfl (any_of HT_.out (by kernel_rfl)) (fun _ _ _ h => h) (Or.inl ⟨by rfl, ?_⟩) ?_ ?_
                       rotate_left
                       ·intro w'
                        go_simp
                        with_reducible rfl
                       rotate_left
                       ·simp only [Act.put, List.setIfInBounds_toArray, List.set_cons_zero, List.set_cons_succ, i64_w, i32_w]
                        rfl
                       refine one_ (i := 10) (N := some 145) #[true, true, true, true, true, true, true, true, true, true, true, false, false, false, false] rfl rfl (one_of HT_.out (by kernel_rfl)) (by decide) (fun K hK => ?_)
                       refine goes_ Tryd.func135 (by kernel_rfl) rfl #[.string ((t326 ++ a2_2) ++ (a1_2.extract ((t326.size : Int) : Int).toNat a1_2.size))] (by rfl) rfl rfl (by (try simp only [List.map_toArray, List.map_cons, List.map_nil]); first | done | rfl | (simp only [List.length_drop, List.length_take]; rfl)) ?_
                       with_reducible refine (cabinetryref01_text.calls ((t326 ++ a2_2) ++ (a1_2.extract ((t326.size : Int) : Int).toNat a1_2.size)) t327 t328 t329 t330 _ A141.out).mono ?_
                       rintro e w146 ⟨rfl, hb⟩
                       refine ⟨_, rfl, ?_⟩
                       have n0_ := Aside0.mk (blk_below (g := gb301) (o := .cells #[.int .i64 a1_0, .int .i64 a1_1, .string a1_2] 23 (0, 0)) (by (with_reducible repeat (first | refine blk_drewN ?_ _ | refine blk_drew ?_ | refine blk_alloc ?_ _)); exact BK301.out) hb)
                       have n1_ := Aside0.mk (blk_below (g := gb302) (o := .cells #[.int .i64 a2_0, .int .i64 a2_1, .string a2_2] 23 (0, 0)) (by (with_reducible repeat (first | refine blk_drewN ?_ _ | refine blk_drew ?_ | refine blk_alloc ?_ _)); exact BK302.out) hb)
                       have n2_ := Aside0.mk (blk_below (g := gb303) (o := .cells #[.int .i64 0, .int .i64 0, .string (⟨#[]⟩ : ByteArray)] 23 (0, 0)) (by (with_reducible repeat (first | refine blk_drewN ?_ _ | refine blk_drew ?_ | refine blk_alloc ?_ _)); exact BK303.out) hb)
                       have n3_ := Aside0.mk (below_step (by repeat (first | (with_reducible first | exact HB.out | apply below_alloc | apply pw_below_drewN | apply below_drew1 | refine below_set ?_ GE301.out | refine below_set ?_ GE302.out | refine below_set ?_ GE303.out) | exact HB.out)) hb)
                       clear BK301
                       clear BK302
                       clear BK303
                       clear HB
                       have BK301 := n0_
                       have BK302 := n1_
                       have BK303 := n2_
                       have HB := n3_
                       clear n0_ n1_ n2_ n3_
                       (try clear hb)
                       (try clear hb2)
                       (try clear hk)
                       (try clear hi)
                       refine hK.out _ _ ⟨(blk_cell BK302.out 0).trans rfl, (blk_cell BK302.out 1).trans rfl, (blk_cell BK302.out 2).trans rfl, (blk_cell BK301.out 0).trans rfl, (blk_cell BK301.out 1).trans rfl, (blk_cell BK301.out 2).trans rfl⟩ (fun hHeld => ?_)
                       clear hK K
                       refine norm_ (a' := ?_) ?_ ?_
                       rotate_left
                       ·show Act.put _ (some 145) _ = _
                        simp only [Act.put, List.setIfInBounds_toArray, List.set_cons_zero, List.set_cons_succ, i64_w, i32_w]
                        rfl
                       refine pure_ (i := 11) (N := some 146) (v := ?_) (a' := ?_) #[true, true, true, true, true, true, true, true, true, true, true, true, false, false, false] rfl rfl (any_of HT_.out (by kernel_rfl)) (fun _ _ _ h => h) (Or.inl ⟨by rfl, ?_⟩) ?_ ?_
                       rotate_left
                       ·intro w'
                        go_simp
                        with_reducible rfl
                       rotate_left
                       ·simp only [Act.put, List.setIfInBounds_toArray, List.set_cons_zero, List.set_cons_succ, i64_w, i32_w]
                        rfl
                       refine pure_ (i := 12) (N := some 147) (v := ?_) (a' := ?_) #[true, true, true, true, true, true, true, true, true, true, true, true, true, false, false] rfl rfl (any_of HT_.out (by kernel_rfl)) (fun _ _ _ h => h) (Or.inl ⟨by rfl, ?_⟩) ?_ ?_
                       rotate_left
                       ·intro w'
                        go_simp
                        with_reducible rfl
                       rotate_left
                       ·simp only [Act.put, List.setIfInBounds_toArray, List.set_cons_zero, List.set_cons_succ, i64_w, i32_w]
                        rfl
                       refine one_ (i := 13) (N := none) #[true, true, true, true, true, true, true, true, true, true, true, true, true, true, false] rfl rfl (one_of HT_.out (by kernel_rfl)) (by decide) (fun K hK => ?_)
                       have hs147 : w146.cell? ⟨gb303, 0, none⟩ = some (.int .i64 0) := (blk_cell BK303.out 0).trans rfl
                       have hfs147 := blk_frozen BK303.out 0
                       have hns147_0 := NB301_303.out
                       have hns147_1 := NB302_303.out
                       have hms147_0 := NB303_301.out
                       have hms147_1 := NB303_302.out
                       have hs148 : w146.cell? ⟨gb303, 1, none⟩ = some (.int .i64 0) := (blk_cell BK303.out 1).trans rfl
                       have hfs148 := blk_frozen BK303.out 1
                       have hns148_0 := NB301_303.out
                       have hns148_1 := NB302_303.out
                       have hms148_0 := NB303_301.out
                       have hms148_1 := NB303_302.out
                       have hs149 : w146.cell? ⟨gb303, 2, none⟩ = some (.string (⟨#[]⟩ : ByteArray)) := (blk_cell BK303.out 2).trans rfl
                       have hfs149 := blk_frozen BK303.out 2
                       have hns149_0 := NB301_303.out
                       have hns149_1 := NB302_303.out
                       have hms149_0 := NB303_301.out
                       have hms149_1 := NB303_302.out
                       refine skip_ (w1 := ?_) (by rfl) rfl ?_ ?_
                       rotate_left
                       ·go_simp
                        rfl
                       refine hK.out _ _ ⟨((cell_far (p := ⟨gb303, _, none⟩) NB302_303.out _).trans (((cell_far (p := ⟨gb303, _, none⟩) NB302_303.out _).trans (((cell_far (p := ⟨gb303, _, none⟩) NB302_303.out _).trans (hHeld.1)))))), ((cell_far (p := ⟨gb303, _, none⟩) NB302_303.out _).trans (((cell_far (p := ⟨gb303, _, none⟩) NB302_303.out _).trans (((cell_far (p := ⟨gb303, _, none⟩) NB302_303.out _).trans (hHeld.2.1)))))), ((cell_far (p := ⟨gb303, _, none⟩) NB302_303.out _).trans (((cell_far (p := ⟨gb303, _, none⟩) NB302_303.out _).trans (((cell_far (p := ⟨gb303, _, none⟩) NB302_303.out _).trans (hHeld.2.2.1)))))), ((cell_far (p := ⟨gb303, _, none⟩) NB301_303.out _).trans (((cell_far (p := ⟨gb303, _, none⟩) NB301_303.out _).trans (((cell_far (p := ⟨gb303, _, none⟩) NB301_303.out _).trans (hHeld.2.2.2.1)))))), ((cell_far (p := ⟨gb303, _, none⟩) NB301_303.out _).trans (((cell_far (p := ⟨gb303, _, none⟩) NB301_303.out _).trans (((cell_far (p := ⟨gb303, _, none⟩) NB301_303.out _).trans (hHeld.2.2.2.2.1)))))), ((cell_far (p := ⟨gb303, _, none⟩) NB301_303.out _).trans (((cell_far (p := ⟨gb303, _, none⟩) NB301_303.out _).trans (((cell_far (p := ⟨gb303, _, none⟩) NB301_303.out _).trans (hHeld.2.2.2.2.2))))))⟩ (fun hHeld => ?_)
                       clear hK K
                       refine pure_ (i := 14) (N := some 7) (v := ?_) (a' := ?_) #[true, true, true, true, true, true, true, true, true, true, true, true, true, true, true] rfl rfl (any_of HT_.out (by kernel_rfl)) (fun _ _ _ h => h) (Or.inl ⟨by rfl, ?_⟩) ?_ ?_
                       rotate_left
                       ·intro w'
                        go_simp
                        with_reducible rfl
                       rotate_left
                       ·simp only [Act.put, List.setIfInBounds_toArray, List.set_cons_zero, List.set_cons_succ, i64_w, i32_w]
                        rfl
                       refine done_ (done_of HT_.out (by kernel_rfl)) ?_
                       try go_wp2
                       refine bodyPost_ret (results_ct rfl _ _ gb303 23 #[.int .i64 t327, .int .i64 t328, .string t329] (0, 0) _ rfl (by (with_reducible repeat (first | refine blk_drewN ?_ _ | refine blk_drew ?_ | refine blk_alloc ?_ _)); refine blk_put (cs := #[.int .i64 t327, .int .i64 t328, .string (⟨#[]⟩ : ByteArray)]) ?_ 2 _ rfl; (with_reducible repeat (first | refine blk_drewN ?_ _ | refine blk_drew ?_ | refine blk_alloc ?_ _)); refine blk_put (cs := #[.int .i64 t327, .int .i64 0, .string (⟨#[]⟩ : ByteArray)]) ?_ 1 _ rfl; (with_reducible repeat (first | refine blk_drewN ?_ _ | refine blk_drew ?_ | refine blk_alloc ?_ _)); refine blk_put (cs := #[.int .i64 0, .int .i64 0, .string (⟨#[]⟩ : ByteArray)]) ?_ 0 _ rfl; (with_reducible repeat (first | refine blk_drewN ?_ _ | refine blk_drew ?_ | refine blk_alloc ?_ _)); exact BK303.out) Tryd.underlying23 rfl (by kernel_rfl)) rfl ?_
                       exact ⟨by first | rfl | (simp [errW_none, errW_some] <;> rfl) | (simp [*, errW_none, errW_some] <;> rfl), by repeat (first | (with_reducible first | exact HB.out | apply below_alloc | apply pw_below_drewN | apply below_drew1 | refine below_set ?_ GE301.out | refine below_set ?_ GE302.out | refine below_set ?_ GE303.out) | exact HB.out)⟩
                      ·rw [if_neg c140] at H
                       exact absurd H (by simp)
                     ·rw [if_neg c139] at H
                      exact absurd H (by simp)
                    ·rw [if_neg c138] at H
                     exact absurd H (by simp)
                   ·rw [if_neg c137] at H
                    exact absurd H (by simp)
                  ·replace c135 := Bool.eq_false_iff.mpr c135
                   subst c135
                   have H1 : (some (0, 0, (⟨#[]⟩ : ByteArray), 1)) = some (r1, r2, r3, r4) := by rw [if_neg (show ¬ (false = true) by decide)] at H; exact H
                   clear H
                   have H := H1
                   clear H1
                   simp only [Option.some.injEq, Prod.mk.injEq] at H
                   obtain ⟨rfl, rfl, rfl, rfl⟩ := H
                   have hnb150 := NB303_301.out
                   have hnc150 := NB301_303.out
                   have hnb151 := NB303_302.out
                   have hnc151 := NB302_303.out
                   have hcz152_0 : wc.cell? ⟨gb303, 0, none⟩ = some (.int .i64 0) := (blk_cell BK303.out 0).trans rfl
                   have hcz152_1 : wc.cell? ⟨gb303, 1, none⟩ = some (.int .i64 0) := (blk_cell BK303.out 1).trans rfl
                   have hcz152_2 : wc.cell? ⟨gb303, 2, none⟩ = some (.string (⟨#[]⟩ : ByteArray)) := (blk_cell BK303.out 2).trans rfl
                   have hfz152_0 := blk_frozen BK303.out 0
                   have hfz152_1 := blk_frozen BK303.out 1
                   have hfz152_2 := blk_frozen BK303.out 2
                   go_wp2
                   refine bodyPost_ret (results_ct rfl _ _ gb303 23 #[.int .i64 0, .int .i64 0, .string (⟨#[]⟩ : ByteArray)] (0, 0) _ rfl (by (with_reducible repeat (first | refine blk_drewN ?_ _ | refine blk_drew ?_ | refine blk_alloc ?_ _)); refine blk_put (cs := #[.int .i64 0, .int .i64 0, .string (⟨#[]⟩ : ByteArray)]) ?_ 2 _ rfl; (with_reducible repeat (first | refine blk_drewN ?_ _ | refine blk_drew ?_ | refine blk_alloc ?_ _)); refine blk_put (cs := #[.int .i64 0, .int .i64 0, .string (⟨#[]⟩ : ByteArray)]) ?_ 1 _ rfl; (with_reducible repeat (first | refine blk_drewN ?_ _ | refine blk_drew ?_ | refine blk_alloc ?_ _)); refine blk_put (cs := #[.int .i64 0, .int .i64 0, .string (⟨#[]⟩ : ByteArray)]) ?_ 0 _ rfl; (with_reducible repeat (first | refine blk_drewN ?_ _ | refine blk_drew ?_ | refine blk_alloc ?_ _)); exact BK303.out) Tryd.underlying23 rfl (by kernel_rfl)) rfl ?_
                   exact ⟨by first | rfl | (simp [errW_none, errW_some] <;> rfl) | (simp [*, errW_none, errW_some] <;> rfl), by repeat (first | (with_reducible first | exact HB.out | apply below_alloc | apply pw_below_drewN | apply below_drew1 | refine below_set ?_ GE301.out | refine below_set ?_ GE302.out | refine below_set ?_ GE303.out) | exact HB.out)⟩

end Go.Proofs.YtplbjaandkdhjaaDoor.PA
