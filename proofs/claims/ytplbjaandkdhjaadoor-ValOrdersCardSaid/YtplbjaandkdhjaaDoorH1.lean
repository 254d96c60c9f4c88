/- The days of a month: the walk of val.monthDays. -/
import Derived.Test.YtplbjaandkdhjaaDoorPAx10
namespace Go.Proofs.YtplbjaandkdhjaaDoor.H1
open Go.RowKit Go.Proofs.YtplbjaandkdhjaaDoorW.PrintWords Go.Proofs.YtplbjaandkdhjaaDoorW.PrintLast Go.Proofs.YtplbjaandkdhjaaDoorW.PrintMore Go.Proofs.YtplbjaandkdhjaaDoor.PA
set_option linter.unusedVariables false
set_option linter.unusedSimpArgs false

/-- Whether a year is a leap year. -/
def leapB (y : Int) : Bool := Int.tmod y 4 == 0 && (Int.tmod y 100 != 0 || Int.tmod y 400 == 0)
theorem isLeap_f (y : Int) : val_isLeap.f y = some (leapB y) := by
  unfold val_isLeap.f leapB
  by_cases h4 : Int.tmod y 4 = 0 <;> by_cases h1 : Int.tmod y 100 = 0 <;> simp [h4, h1]
/-- How many days a month has. -/
def mdays (y m : Int) : Int := if m = 2 then (if leapB y = true then 29 else 28) else if m = 4 ∨ m = 6 ∨ m = 9 ∨ m = 11 then 30 else 31
def val_monthDays.f (a0 : Int) (a1 : Int) : Option (Int) := if 1 ≤ a1 ∧ a1 ≤ 12 then some (mdays a0 a1) else none
theorem months12 (m : Int) (h1 : 1 ≤ m) (h2 : m ≤ 12) : m = 1 ∨ m = 2 ∨ m = 3 ∨ m = 4 ∨ m = 5 ∨ m = 6 ∨ m = 7 ∨ m = 8 ∨ m = 9 ∨ m = 10 ∨ m = 11 ∨ m = 12 := by omega
set_option maxHeartbeats 4000000 in
set_option maxRecDepth 100000 in
theorem val_monthDays.calls (a0 : Int) (a1 : Int) (r : Int) (w : World) (h : val_monthDays.f a0 a1 = some r) :
    Calls Tryd.prog 69 #[.int .i64 a0, .int .i64 a1] w fun e w' => e = .returned (.int .i64 r) ∧ Below w.heap.size w w' := by
  have hu95 := Tryd.underlying95
  unfold val_monthDays.f at h
  split at h
  · rename_i hm
    obtain rfl := Option.some.inj h
    clear h
    rcases months12 a1 hm.1 hm.2 with rfl | rfl | rfl | rfl | rfl | rfl | rfl | rfl | rfl | rfl | rfl | rfl
    case inr.inl =>
      clear hm
      have A := isLeap_f a0
      cases hb : leapB a0 with
      | true =>
        rw [hb] at A
        have HA := Aside0.mk A
        simp only [mdays, hb]
        clear A hb
        go_enter Tryd.func69, Tryd.ntmps69
        go_wp2_with (go_at_call 111; refine (val_isLeap.calls a0 true _ HA.out).mono ?_; rintro e w' ⟨rfl, ⟨nd, rfl⟩⟩)
        go_ret
        exact ⟨rfl, by repeat (with_reducible first | exact Below.refl _ _ | apply below_alloc | apply pw_below_drewN | apply below_drew1)⟩
      | false =>
        rw [hb] at A
        have HA := Aside0.mk A
        simp only [mdays, hb]
        clear A hb
        go_enter Tryd.func69, Tryd.ntmps69
        go_wp2_with (go_at_call 111; refine (val_isLeap.calls a0 false _ HA.out).mono ?_; rintro e w' ⟨rfl, ⟨nd, rfl⟩⟩)
        go_ret
        exact ⟨rfl, by repeat (with_reducible first | exact Below.refl _ _ | apply below_alloc | apply pw_below_drewN | apply below_drew1)⟩
    all_goals
      clear hm
      simp only [mdays]
      go_enter Tryd.func69, Tryd.ntmps69
      go_wp2
      go_ret
      exact ⟨rfl, by repeat (with_reducible first | exact Below.refl _ _ | apply below_alloc | apply pw_below_drewN | apply below_drew1)⟩
  · cases h
end Go.Proofs.YtplbjaandkdhjaaDoor.H1
