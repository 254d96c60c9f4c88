-- Written by a program of this session (wip/merge.py): the texts of this claim, joined.
import Derived.Lib.IndexMore
import Derived.Test.YtplbjaandkdhjaaDoorMValParts1
import Derived.Test.YtplbjaandkdhjaaDoorMValParts2
import Derived.Test.YtplbjaandkdhjaaDoorMValParts8
import Derived.Test.YtplbjaandkdhjaaDoorMValParts11
import Derived.Test.YtplbjaandkdhjaaDoorMValParts12
namespace Go.Proofs.YtplbjaandkdhjaaDoor.PA
end Go.Proofs.YtplbjaandkdhjaaDoor.PA
namespace Go.Proofs.YtplbjaandkdhjaaDoor.PB
end Go.Proofs.YtplbjaandkdhjaaDoor.PB
namespace Go.Proofs.YtplbjaandkdhjaaDoor.PC
end Go.Proofs.YtplbjaandkdhjaaDoor.PC
namespace Go.Proofs.YtplbjaandkdhjaaDoor.H1
end Go.Proofs.YtplbjaandkdhjaaDoor.H1
namespace Go.Proofs.YtplbjaandkdhjaaDoor.L1
end Go.Proofs.YtplbjaandkdhjaaDoor.L1
namespace Go.Proofs.YtplbjaandkdhjaaDoor.PA
open Go.RowKit Go.Proofs.YtplbjaandkdhjaaDoorW.PrintWords Go.Proofs.YtplbjaandkdhjaaDoorW.PrintLast Go.Proofs.YtplbjaandkdhjaaDoorW.PrintMore
attribute [local go_sem] max2_int min2_int max_two min_two max_three min_three max_four min_four   -- for this text's walks alone
set_option linter.unusedVariables false
set_option linter.unusedSimpArgs false
def val_long.l0 : Nat → List ByteArray → Int → Int → Option (Int)
 | 0, _, _, _ => none
 | k + 1, x5, x6, x7 => if x7 < x6 then (if 0 ≤ x7 then (if x7 < (x5.length : Int) then (if ((rdOf ByteArray.empty x5 x7).size : Int) > 2048 then (some 3) else (val_long.l0 k x5 x6 (wrap64 (x7 + 1)))) else (none)) else (none)) else (some 0)
def val_long.f (k : Nat) (l0 : List ByteArray) : Option (Int) := val_long.l0 k l0 (l0.length : Int) 0
set_option maxHeartbeats 8000000 in
set_option maxRecDepth 100000 in
theorem val_long.calls (k : Nat) (A0 : Option Addr) (c0 : Nat) (l0 : List ByteArray) (r : Int) (w : World) (hr0 : Kd.C Kd.string w A0 l0.length l0) (hc0 : l0.length ≤ c0) (h : val_long.f k l0 = some r) :
  Calls Tryd.prog 81 #[.slice A0 l0.length c0] w fun e w' => e = .returned (.int .i64 r) ∧ Drawn0 w w' := by
 have HR0 := Aside0.mk hr0
 have HC0 := Aside0.mk hc0
 clear hr0 hc0
 have H : (val_long.l0 k l0 (l0.length : Int) 0) = some r := h
 clear h
 have H' := Aside0.mk H
 clear H
 go_enter Tryd.func81, Tryd.ntmps81
 go_wp2
 go_loopg [7] k (fun kq v7 w' => ∃ (x7_1 : Int), v7 = .int .i64 x7_1 ∧ Aside0 (val_long.l0 kq l0 (l0.length : Int) x7_1 = some r) ∧ Aside0 (kq ≤ k) ∧ Drawn0 w w')
 case atStart => exact ⟨(0), (by first | rfl | (simp; done) | (simp [*]; done)), H', ⟨Nat.le_refl _⟩, by repeat (first | exact Drawn0.refl _ | apply Drawn0.step)⟩
 case round =>
  clear H'
  obtain ⟨x7_1, rfl, HA, HK1, ⟨m1, rfl⟩⟩ := hrel
  cases gk with
  | zero => exact absurd HA.out (by simp [val_long.l0])
  | succ k1 =>
   have H := HA.out
   clear HA
   simp only [val_long.l0] at H
   by_cases c2 : x7_1 < (l0.length : Int)
   ·rw [if_pos c2] at H
    have c2b0 : decide (x7_1 < (l0.length : Int)) = true := decide_eq_true c2
    clear c2
    by_cases c3 : 0 ≤ x7_1
    ·rw [if_pos c3] at H
     have c3b0 : decide (0 ≤ x7_1) = true := decide_eq_true c3
     clear c3
     by_cases c4 : x7_1 < (l0.length : Int)
     ·rw [if_pos c4] at H
      have c4b0 : decide (x7_1 < (l0.length : Int)) = true := decide_eq_true c4
      clear c4
      by_cases c5 : ((rdOf ByteArray.empty l0 x7_1).size : Int) > 2048
      ·rw [if_pos c5] at H
       have c5b0 : decide (2048 < ((rdOf ByteArray.empty l0 x7_1).size : Int)) = true := decide_eq_true c5
       have c5b1 : decide (2048 < (rdOf ByteArray.empty l0 x7_1).size) = true := decide_eq_true (by omega)
       clear c5
       obtain rfl := Option.some.inj H
       simp only [Option.some.injEq, Prod.mk.injEq] at H
       obtain ⟨rfl⟩ := H
       have p385 : 0 ≤ (x7_1 : Int) := of_decide_eq_true (by first | (with_reducible assumption) | assumption)
       have q385 : x7_1 < (l0.length : Int) := of_decide_eq_true (by first | (with_reducible assumption) | assumption)
       obtain ⟨ad385, e385, hx385_0⟩ := Kd.at_string HR0.out x7_1 p385 q385
       cases e385
       replace p385 := eq_true p385
       replace q385 := eq_true q385
       go_wp2
       go_ret
       exact ⟨by first | rfl | (simp; done) | (simp [*]; done), by repeat (first | exact Drawn0.refl _ | apply Drawn0.step)⟩
      ·rw [if_neg c5] at H
       have c5b0 : decide (2048 < ((rdOf ByteArray.empty l0 x7_1).size : Int)) = false := decide_eq_false c5
       have c5b1 : decide (2048 < (rdOf ByteArray.empty l0 x7_1).size) = false := decide_eq_false (by omega)
       clear c5
       have H' := Aside0.mk H
       clear H
       have p385 : 0 ≤ (x7_1 : Int) := of_decide_eq_true (by first | (with_reducible assumption) | assumption)
       have q385 : x7_1 < (l0.length : Int) := of_decide_eq_true (by first | (with_reducible assumption) | assumption)
       obtain ⟨ad385, e385, hx385_0⟩ := Kd.at_string HR0.out x7_1 p385 q385
       cases e385
       replace p385 := eq_true p385
       replace q385 := eq_true q385
       go_wp2
       go_roundg k1
       case measure => have := HK1.out; omega
       case rel => exact ⟨(wrap64 (x7_1 + 1)), (by first | rfl | (simp; done) | (simp [*]; done)), H', ⟨by have := HK1.out; omega⟩, by repeat (first | exact Drawn0.refl _ | apply Drawn0.step)⟩
     ·rw [if_neg c4] at H
      exact absurd H (by simp)
    ·rw [if_neg c3] at H
     exact absurd H (by simp)
   ·rw [if_neg c2] at H
    have c2b0 : decide (x7_1 < (l0.length : Int)) = false := decide_eq_false c2
    clear c2
    obtain rfl := Option.some.inj H
    simp only [Option.some.injEq, Prod.mk.injEq] at H
    obtain ⟨rfl⟩ := H
    go_wp2
    go_ret
    exact ⟨by first | rfl | (simp; done) | (simp [*]; done), by repeat (first | exact Drawn0.refl _ | apply Drawn0.step)⟩
def val_bounds.f (a0 : ByteArray) (a1 : Int) (a2 : Int) : Option (Int × Int) := some (mn (wrap64 ((mx a1 1) - 1)) (a0.size : Int), wrap64 ((mn (wrap64 ((mx a1 1) - 1)) (a0.size : Int)) + (mn (mx a2 0) (wrap64 ((a0.size : Int) - (mn (wrap64 ((mx a1 1) - 1)) (a0.size : Int)))))))
set_option maxHeartbeats 8000000 in
set_option maxRecDepth 100000 in
theorem val_bounds.calls (a0 : ByteArray) (a1 : Int) (a2 : Int) (r1 : Int) (r2 : Int) (w : World) (h : val_bounds.f a0 a1 a2 = some (r1, r2)) :
  Calls Tryd.prog 82 #[.string a0, .int .i64 a1, .int .i64 a2] w fun e w' => e = .returned (.tuple #[.int .i64 r1, .int .i64 r2]) ∧ Below w.heap.size w w' := by
 have HB := Aside0.mk (Below.refl w.heap.size w)
 have H : (some (mn (wrap64 ((mx a1 1) - 1)) (a0.size : Int), wrap64 ((mn (wrap64 ((mx a1 1) - 1)) (a0.size : Int)) + (mn (mx a2 0) (wrap64 ((a0.size : Int) - (mn (wrap64 ((mx a1 1) - 1)) (a0.size : Int)))))))) = some (r1, r2) := h
 clear h
 obtain ⟨ji4, hji4⟩ : ∃ j_ : Int, (mx a1 1) = j_ := ⟨_, rfl⟩
 replace H : (some (mn (wrap64 ((ji4) - 1)) (a0.size : Int), wrap64 ((mn (wrap64 ((ji4) - 1)) (a0.size : Int)) + (mn (mx a2 0) (wrap64 ((a0.size : Int) - (mn (wrap64 ((ji4) - 1)) (a0.size : Int)))))))) = some (r1, r2) := by first | (rw [hji4] at H; exact H) | (simp only [hji4] at H ⊢; exact H)
 (try (have hji4l : 1 ≤ ji4 := by (rw [← hji4]; unfold mx; (repeat' split) <;> omega)))
 (try (have hji4m : 0 ≤ ji4 := by omega))
 have hji4_ : (if a1 < 1 then 1 else a1) = ji4 := hji4
 obtain ⟨ji5, hji5⟩ : ∃ j_ : Int, (mn (wrap64 ((ji4) - 1)) (a0.size : Int)) = j_ := ⟨_, rfl⟩
 replace H : (some (ji5, wrap64 ((ji5) + (mn (mx a2 0) (wrap64 ((a0.size : Int) - (ji5))))))) = some (r1, r2) := by first | (rw [hji5] at H; exact H) | (simp only [hji5] at H ⊢; exact H)
 have hji5_ : (if (a0.size : Int) < (wrap64 ((ji4) - 1)) then (a0.size : Int) else (wrap64 ((ji4) - 1))) = ji5 := hji5
 obtain ⟨ji6, hji6⟩ : ∃ j_ : Int, (mx a2 0) = j_ := ⟨_, rfl⟩
 replace H : (some (ji5, wrap64 ((ji5) + (mn (ji6) (wrap64 ((a0.size : Int) - (ji5))))))) = some (r1, r2) := by first | (rw [hji6] at H; exact H) | (simp only [hji6] at H ⊢; exact H)
 (try (have hji6l : 0 ≤ ji6 := by (rw [← hji6]; unfold mx; (repeat' split) <;> omega)))
 (try (have hji6m : 0 ≤ ji6 := by omega))
 have hji6_ : (if a2 < 0 then 0 else a2) = ji6 := hji6
 obtain ⟨ji7, hji7⟩ : ∃ j_ : Int, (mn (ji6) (wrap64 ((a0.size : Int) - (ji5)))) = j_ := ⟨_, rfl⟩
 replace H : (some (ji5, wrap64 ((ji5) + (ji7)))) = some (r1, r2) := by first | (rw [hji7] at H; exact H) | (simp only [hji7] at H ⊢; exact H)
 have hji7_ : (if (wrap64 ((a0.size : Int) - (ji5))) < (ji6) then (wrap64 ((a0.size : Int) - (ji5))) else (ji6)) = ji7 := hji7
 simp only [Option.some.injEq, Prod.mk.injEq] at H
 obtain ⟨rfl, rfl⟩ := H
 go_enter Tryd.func82, Tryd.ntmps82
 go_wp2
 go_ret2
 exact ⟨by first | rfl | (simp [errW_none, errW_some] <;> rfl) | (simp only [← hji4, ← hji5, ← hji6, ← hji7]; first | rfl | (simp [errW_none, errW_some] <;> rfl)) | (simp [*, errW_none, errW_some] <;> rfl), by repeat (first | (with_reducible first | exact HB.out | apply below_alloc | apply pw_below_drewN | apply below_drew1) | exact HB.out)⟩
end Go.Proofs.YtplbjaandkdhjaaDoor.PA
namespace Go.Proofs.YtplbjaandkdhjaaDoor.PA
open Go.RowKit Go.Proofs.YtplbjaandkdhjaaDoorW.PrintWords Go.Proofs.YtplbjaandkdhjaaDoorW.PrintLast Go.Proofs.YtplbjaandkdhjaaDoorW.PrintMore
attribute [local go_sem] max2_int min2_int max_two min_two max_three min_three max_four min_four   -- for this text's walks alone
set_option linter.unusedVariables false
set_option linter.unusedSimpArgs false
def val_Part.f (k : Nat) (a0 : ByteArray) (a1 : Int) (a2 : Int) : Option (ByteArray × Int) := (val_long.f k (([a0] : List ByteArray))).bind fun t389 => (if t389 = 0 then ((val_bounds.f a0 a1 a2).bind fun bt390 => (if 0 ≤ bt390.1 then (if bt390.1 ≤ bt390.2 then (if bt390.2 ≤ (a0.size : Int) then (some (a0.extract (bt390.1 : Int).toNat (bt390.2 : Int).toNat, 0)) else (none)) else (none)) else (none))) else (some ((⟨#[]⟩ : ByteArray), t389)))
set_option maxHeartbeats 8000000 in
set_option maxRecDepth 100000 in
theorem val_Part.calls (k : Nat) (a0 : ByteArray) (a1 : Int) (a2 : Int) (r1 : ByteArray) (r2 : Int) (w : World) (h : val_Part.f k a0 a1 a2 = some (r1, r2)) :
  Calls Tryd.prog 29 #[.string a0, .int .i64 a1, .int .i64 a2] w fun e w' => e = .returned (.tuple #[.string r1, .int .i64 r2]) ∧ Below w.heap.size w w' := by
 have HB := Aside0.mk (Below.refl w.heap.size w)
 have H : ((val_long.f k (([a0] : List ByteArray))).bind fun t389 => (if t389 = 0 then ((val_bounds.f a0 a1 a2).bind fun bt390 => (if 0 ≤ bt390.1 then (if bt390.1 ≤ bt390.2 then (if bt390.2 ≤ (a0.size : Int) then (some (a0.extract (bt390.1 : Int).toNat (bt390.2 : Int).toNat, 0)) else (none)) else (none)) else (none))) else (some ((⟨#[]⟩ : ByteArray), t389)))) = some (r1, r2) := h
 clear h
 obtain ⟨y386, hy386⟩ : ∃ y_ : List ByteArray, y_ = (([a0] : List ByteArray)) := ⟨_, rfl⟩
 replace H : ((val_long.f k y386).bind fun t389 => (if t389 = 0 then ((val_bounds.f a0 a1 a2).bind fun bt390 => (if 0 ≤ bt390.1 then (if bt390.1 ≤ bt390.2 then (if bt390.2 ≤ (a0.size : Int) then (some (a0.extract (bt390.1 : Int).toNat (bt390.2 : Int).toNat, 0)) else (none)) else (none)) else (none))) else (some ((⟨#[]⟩ : ByteArray), t389)))) = some (r1, r2) := by first | (rw [hy386]; with_reducible exact H) | (have H2_ := (Option.bind_some _ _).symm.trans H; rw [hy386]; with_reducible exact H2_) | (have H2_ := (Option.bind_some _ _).symm.trans H; with_reducible exact H2_) | with_reducible exact H | (rw [hy386]; exact H) | exact H
 have Ny386 := Aside0.mk hy386
 clear hy386
 replace H := Option.bind_eq_some_iff.mp H
 obtain ⟨t389, A40, H⟩ := H
 replace H : (if t389 = 0 then ((val_bounds.f a0 a1 a2).bind fun bt390 => (if 0 ≤ bt390.1 then (if bt390.1 ≤ bt390.2 then (if bt390.2 ≤ (a0.size : Int) then (some (a0.extract (bt390.1 : Int).toNat (bt390.2 : Int).toNat, 0)) else (none)) else (none)) else (none))) else (some ((⟨#[]⟩ : ByteArray), t389))) = some (r1, r2) := H
 have A4 := Aside0.mk A40
 clear A40
 by_cases c5 : t389 = 0
 ·rw [if_pos c5] at H
  have c5b0 : (t389 == 0) = true := beq_iff_eq.mpr c5
  have c5b1 : (t389 != 0) = false := bne_eq_false_iff_eq.mpr c5
  clear c5
  replace H := Option.bind_eq_some_iff.mp H
  obtain ⟨⟨t390, t391⟩, A60, H⟩ := H
  replace H : (if 0 ≤ t390 then (if t390 ≤ t391 then (if t391 ≤ (a0.size : Int) then (some (a0.extract (t390 : Int).toNat (t391 : Int).toNat, 0)) else (none)) else (none)) else (none)) = some (r1, r2) := H
  have A6 := Aside0.mk A60
  clear A60
  by_cases c7 : 0 ≤ t390
  ·rw [if_pos c7] at H
   have c7b0 := eq_true c7
   have c7b1 : decide (0 ≤ t390) = true := decide_eq_true c7
   clear c7
   by_cases c8 : t390 ≤ t391
   ·rw [if_pos c8] at H
    have c8b0 := eq_true c8
    have c8b1 : decide (t390 ≤ t391) = true := decide_eq_true c8
    clear c8
    by_cases c9 : t391 ≤ (a0.size : Int)
    ·rw [if_pos c9] at H
     have c9b0 := eq_true c9
     have c9b1 : decide (t391 ≤ (a0.size : Int)) = true := decide_eq_true c9
     clear c9
     simp only [Option.some.injEq, Prod.mk.injEq] at H
     obtain ⟨rfl, rfl⟩ := H
     go_enter Tryd.func29, Tryd.ntmps29
     go_wp2_with (first | ((with_reducible refine gate_dst (N := 12) rfl ?_); refine Kd.R_lit Kd.string _ 9 ?hg (N := 12) ?hd (xs := ([a0] : List ByteArray)) (inner := [.string a0]) (ok := fun _ => True) (okp := fun _ => True) ?hr ?hp (fun _ hk => hk) trivial (Below.refl _ _) (Nat.le_refl _) (by simp) ?_; (case hd => rfl); (case hg => rfl); (case hr => first | (go_simp; done) | (go_simp; rfl)); (case hp => exact (Reps.one (show Kd.M Kd.string _ _ _ a0 [.string a0] from rfl) (Reps.none _ _))); intro v387 w10 ho11 hb hg_ hnew_; clear hg_ hnew_; (first | rw [← Ny386.out] at ho11 | (simp only [Int.reduceToNat] at ho11; rw [← Ny386.out] at ho11)); have n0_ := Aside0.mk (Kd.R_lower ho11 (below_size (by repeat (first | (with_reducible first | exact HB.out | apply below_alloc | apply pw_below_drewN | apply below_drew1) | exact HB.out)))); have n1_ := Aside0.mk (below_step (by repeat (first | (with_reducible first | exact HB.out | apply below_alloc | apply pw_below_drewN | apply below_drew1) | exact HB.out)) hb); clear HB; have HO388 := n0_; have HB := n1_; clear n0_ n1_; clear hb ho11; obtain ⟨Ao12, co12, eo12⟩ := Kd.R_slice HO388.out; subst eo12) | ((with_reducible refine gate_callee (f := 81) rfl ?_); refine goesL_ (some 13) rfl rfl Tryd.func81 (by kernel_rfl) rfl #[.slice Ao12 y386.length co12] rfl (by (try simp only [List.map_toArray, List.map_cons, List.map_nil]); first | done | rfl | (simp only [List.length_drop, List.length_take]; rfl)) ?_; (with_reducible refine (val_long.calls k _ _ y386 t389 _ ?side1 ?side2 A4.out).mono ?_); (case side1 => repeat (first | exact (Kd.R_reads' HO388.out).2.2 | (with_reducible refine Kd.C_alloc ?_ _) | (with_reducible refine Kd.C_drewN ?_ _) | (with_reducible refine Kd.C_drew ?_))); (case side2 => exact (Kd.R_reads' HO388.out).2.1); rintro e w' ⟨rfl, ⟨nd, rfl⟩⟩; refine ⟨_, rfl, ?_⟩) | ((with_reducible refine gate_callee (f := 82) rfl ?_); refine goesL_ (some 21) rfl rfl Tryd.func82 (by kernel_rfl) rfl #[.string a0, .int .i64 a1, .int .i64 a2] rfl (by (try simp only [List.map_toArray, List.map_cons, List.map_nil]); first | done | rfl | (simp only [List.length_drop, List.length_take]; rfl)) ?_; (with_reducible refine (val_bounds.calls a0 a1 a2 t390 t391 _ A6.out).mono ?_); rintro e w13 ⟨rfl, hb⟩; refine ⟨_, rfl, ?_⟩; have n0_ := Aside0.mk (Kd.R_below (by (with_reducible repeat (first | apply Kd.R_alloc | apply Kd.R_drewN | apply Kd.R_drew)); exact HO388.out) hb); have n1_ := Aside0.mk (below_step (by repeat (first | (with_reducible first | exact HB.out | apply below_alloc | apply pw_below_drewN | apply below_drew1) | exact HB.out)) hb); clear HO388; clear HB; have HO388 := n0_; have HB := n1_; clear n0_ n1_; (try clear hb); (try clear hb2); (try clear hk); (try clear hi)))
     go_ret2
     exact ⟨by first | rfl | (simp [errW_none, errW_some] <;> rfl) | (simp [*, errW_none, errW_some] <;> rfl), by repeat (first | (with_reducible first | exact HB.out | apply below_alloc | apply pw_below_drewN | apply below_drew1) | exact HB.out)⟩
    ·rw [if_neg c9] at H
     exact absurd H (by simp)
   ·rw [if_neg c8] at H
    exact absurd H (by simp)
  ·rw [if_neg c7] at H
   exact absurd H (by simp)
 ·rw [if_neg c5] at H
  have c5b0 : (t389 == 0) = false := beq_eq_false_iff_ne.mpr c5
  have c5b1 : (t389 != 0) = true := bne_iff_ne.mpr c5
  simp only [Option.some.injEq, Prod.mk.injEq] at H
  obtain ⟨rfl, rfl⟩ := H
  go_enter Tryd.func29, Tryd.ntmps29
  go_wp2_with (first | ((with_reducible refine gate_dst (N := 12) rfl ?_); refine Kd.R_lit Kd.string _ 9 ?hg (N := 12) ?hd (xs := ([a0] : List ByteArray)) (inner := [.string a0]) (ok := fun _ => True) (okp := fun _ => True) ?hr ?hp (fun _ hk => hk) trivial (Below.refl _ _) (Nat.le_refl _) (by simp) ?_; (case hd => rfl); (case hg => rfl); (case hr => first | (go_simp; done) | (go_simp; rfl)); (case hp => exact (Reps.one (show Kd.M Kd.string _ _ _ a0 [.string a0] from rfl) (Reps.none _ _))); intro v387 w14 ho15 hb hg_ hnew_; clear hg_ hnew_; (first | rw [← Ny386.out] at ho15 | (simp only [Int.reduceToNat] at ho15; rw [← Ny386.out] at ho15)); have n0_ := Aside0.mk (Kd.R_lower ho15 (below_size (by repeat (first | (with_reducible first | exact HB.out | apply below_alloc | apply pw_below_drewN | apply below_drew1) | exact HB.out)))); have n1_ := Aside0.mk (below_step (by repeat (first | (with_reducible first | exact HB.out | apply below_alloc | apply pw_below_drewN | apply below_drew1) | exact HB.out)) hb); clear HB; have HO388 := n0_; have HB := n1_; clear n0_ n1_; clear hb ho15; obtain ⟨Ao16, co16, eo16⟩ := Kd.R_slice HO388.out; subst eo16) | ((with_reducible refine gate_callee (f := 81) rfl ?_); refine goesL_ (some 13) rfl rfl Tryd.func81 (by kernel_rfl) rfl #[.slice Ao16 y386.length co16] rfl (by (try simp only [List.map_toArray, List.map_cons, List.map_nil]); first | done | rfl | (simp only [List.length_drop, List.length_take]; rfl)) ?_; (with_reducible refine (val_long.calls k _ _ y386 t389 _ ?side1 ?side2 A4.out).mono ?_); (case side1 => repeat (first | exact (Kd.R_reads' HO388.out).2.2 | (with_reducible refine Kd.C_alloc ?_ _) | (with_reducible refine Kd.C_drewN ?_ _) | (with_reducible refine Kd.C_drew ?_))); (case side2 => exact (Kd.R_reads' HO388.out).2.1); rintro e w' ⟨rfl, ⟨nd, rfl⟩⟩; refine ⟨_, rfl, ?_⟩))
  go_ret2
  exact ⟨by first | rfl | (simp [errW_none, errW_some] <;> rfl) | (simp [*, errW_none, errW_some] <;> rfl), by repeat (first | (with_reducible first | exact HB.out | apply below_alloc | apply pw_below_drewN | apply below_drew1) | exact HB.out)⟩
def cabinetryref01_long.f (a0 : ByteArray) : Option (Bool) := some (decide ((a0.size : Int) > 2048))
set_option maxHeartbeats 8000000 in
set_option maxRecDepth 100000 in
theorem cabinetryref01_long.calls (a0 : ByteArray) (r : Bool) (w : World) (h : cabinetryref01_long.f a0 = some r) :
  Calls Tryd.prog 83 #[.string a0] w fun e w' => e = .returned (.bool r) ∧ Drawn0 w w' := by
 have H : (some (decide ((a0.size : Int) > 2048))) = some r := h
 clear h
 obtain rfl := Option.some.inj H
 simp only [Option.some.injEq, Prod.mk.injEq] at H
 obtain ⟨rfl⟩ := H
 go_enter Tryd.func83, Tryd.ntmps83
 go_wp2
 go_ret
 exact ⟨by first | rfl | (simp; done) | (simp [*]; done), by repeat (first | exact Drawn0.refl _ | apply Drawn0.step)⟩
def cabinetryref01_cut.f (a0 : ByteArray) (a1 : Int) (a2 : Int) : Option (Int × Int) := some (wrap64 ((mn (mx a1 1) (wrap64 ((a0.size : Int) + 1))) - 1), wrap64 ((wrap64 ((mn (mx a1 1) (wrap64 ((a0.size : Int) + 1))) - 1)) + (mn (mx a2 0) (wrap64 ((a0.size : Int) - (wrap64 ((mn (mx a1 1) (wrap64 ((a0.size : Int) + 1))) - 1)))))))
set_option maxHeartbeats 8000000 in
set_option maxRecDepth 100000 in
theorem cabinetryref01_cut.calls (a0 : ByteArray) (a1 : Int) (a2 : Int) (r1 : Int) (r2 : Int) (w : World) (h : cabinetryref01_cut.f a0 a1 a2 = some (r1, r2)) :
  Calls Tryd.prog 84 #[.string a0, .int .i64 a1, .int .i64 a2] w fun e w' => e = .returned (.tuple #[.int .i64 r1, .int .i64 r2]) ∧ Below w.heap.size w w' := by
 have HB := Aside0.mk (Below.refl w.heap.size w)
 have H : (some (wrap64 ((mn (mx a1 1) (wrap64 ((a0.size : Int) + 1))) - 1), wrap64 ((wrap64 ((mn (mx a1 1) (wrap64 ((a0.size : Int) + 1))) - 1)) + (mn (mx a2 0) (wrap64 ((a0.size : Int) - (wrap64 ((mn (mx a1 1) (wrap64 ((a0.size : Int) + 1))) - 1)))))))) = some (r1, r2) := h
 clear h
 obtain ⟨ji4, hji4⟩ : ∃ j_ : Int, (mx a1 1) = j_ := ⟨_, rfl⟩
 replace H : (some (wrap64 ((mn (ji4) (wrap64 ((a0.size : Int) + 1))) - 1), wrap64 ((wrap64 ((mn (ji4) (wrap64 ((a0.size : Int) + 1))) - 1)) + (mn (mx a2 0) (wrap64 ((a0.size : Int) - (wrap64 ((mn (ji4) (wrap64 ((a0.size : Int) + 1))) - 1)))))))) = some (r1, r2) := by first | (rw [hji4] at H; exact H) | (simp only [hji4] at H ⊢; exact H)
 (try (have hji4l : 1 ≤ ji4 := by (rw [← hji4]; unfold mx; (repeat' split) <;> omega)))
 (try (have hji4m : 0 ≤ ji4 := by omega))
 have hji4_ : (if a1 < 1 then 1 else a1) = ji4 := hji4
 obtain ⟨ji5, hji5⟩ : ∃ j_ : Int, (mn (ji4) (wrap64 ((a0.size : Int) + 1))) = j_ := ⟨_, rfl⟩
 replace H : (some (wrap64 ((ji5) - 1), wrap64 ((wrap64 ((ji5) - 1)) + (mn (mx a2 0) (wrap64 ((a0.size : Int) - (wrap64 ((ji5) - 1)))))))) = some (r1, r2) := by first | (rw [hji5] at H; exact H) | (simp only [hji5] at H ⊢; exact H)
 have hji5_ : (if (wrap64 ((a0.size : Int) + 1)) < (ji4) then (wrap64 ((a0.size : Int) + 1)) else (ji4)) = ji5 := hji5
 obtain ⟨ji6, hji6⟩ : ∃ j_ : Int, (mx a2 0) = j_ := ⟨_, rfl⟩
 replace H : (some (wrap64 ((ji5) - 1), wrap64 ((wrap64 ((ji5) - 1)) + (mn (ji6) (wrap64 ((a0.size : Int) - (wrap64 ((ji5) - 1)))))))) = some (r1, r2) := by first | (rw [hji6] at H; exact H) | (simp only [hji6] at H ⊢; exact H)
 (try (have hji6l : 0 ≤ ji6 := by (rw [← hji6]; unfold mx; (repeat' split) <;> omega)))
 (try (have hji6m : 0 ≤ ji6 := by omega))
 have hji6_ : (if a2 < 0 then 0 else a2) = ji6 := hji6
 obtain ⟨ji7, hji7⟩ : ∃ j_ : Int, (mn (ji6) (wrap64 ((a0.size : Int) - (wrap64 ((ji5) - 1))))) = j_ := ⟨_, rfl⟩
 replace H : (some (wrap64 ((ji5) - 1), wrap64 ((wrap64 ((ji5) - 1)) + (ji7)))) = some (r1, r2) := by first | (rw [hji7] at H; exact H) | (simp only [hji7] at H ⊢; exact H)
 have hji7_ : (if (wrap64 ((a0.size : Int) - (wrap64 ((ji5) - 1)))) < (ji6) then (wrap64 ((a0.size : Int) - (wrap64 ((ji5) - 1)))) else (ji6)) = ji7 := hji7
 simp only [Option.some.injEq, Prod.mk.injEq] at H
 obtain ⟨rfl, rfl⟩ := H
 go_enter Tryd.func84, Tryd.ntmps84
 go_wp2
 go_ret2
 exact ⟨by first | rfl | (simp [errW_none, errW_some] <;> rfl) | (simp only [← hji4, ← hji5, ← hji6, ← hji7]; first | rfl | (simp [errW_none, errW_some] <;> rfl)) | (simp [*, errW_none, errW_some] <;> rfl), by repeat (first | (with_reducible first | exact HB.out | apply below_alloc | apply pw_below_drewN | apply below_drew1) | exact HB.out)⟩
def cabinetryref01_Part.f (a0 : ByteArray) (a1 : Int) (a2 : Int) : Option (ByteArray × Int) := (cabinetryref01_long.f a0).bind fun t392 => (if t392 = true then (some ((⟨#[]⟩ : ByteArray), 3)) else ((cabinetryref01_cut.f a0 a1 a2).bind fun bt393 => (if 0 ≤ bt393.1 then (if bt393.1 ≤ bt393.2 then (if bt393.2 ≤ (a0.size : Int) then (some (a0.extract (bt393.1 : Int).toNat (bt393.2 : Int).toNat, 0)) else (none)) else (none)) else (none))))
set_option maxHeartbeats 8000000 in
set_option maxRecDepth 100000 in
theorem cabinetryref01_Part.calls (a0 : ByteArray) (a1 : Int) (a2 : Int) (r1 : ByteArray) (r2 : Int) (w : World) (h : cabinetryref01_Part.f a0 a1 a2 = some (r1, r2)) :
  Calls Tryd.prog 30 #[.string a0, .int .i64 a1, .int .i64 a2] w fun e w' => e = .returned (.tuple #[.string r1, .int .i64 r2]) ∧ Below w.heap.size w w' := by
 have HB := Aside0.mk (Below.refl w.heap.size w)
 have H : ((cabinetryref01_long.f a0).bind fun t392 => (if t392 = true then (some ((⟨#[]⟩ : ByteArray), 3)) else ((cabinetryref01_cut.f a0 a1 a2).bind fun bt393 => (if 0 ≤ bt393.1 then (if bt393.1 ≤ bt393.2 then (if bt393.2 ≤ (a0.size : Int) then (some (a0.extract (bt393.1 : Int).toNat (bt393.2 : Int).toNat, 0)) else (none)) else (none)) else (none))))) = some (r1, r2) := h
 clear h
 replace H := Option.bind_eq_some_iff.mp H
 obtain ⟨t392, A40, H⟩ := H
 replace H : (if t392 = true then (some ((⟨#[]⟩ : ByteArray), 3)) else ((cabinetryref01_cut.f a0 a1 a2).bind fun bt393 => (if 0 ≤ bt393.1 then (if bt393.1 ≤ bt393.2 then (if bt393.2 ≤ (a0.size : Int) then (some (a0.extract (bt393.1 : Int).toNat (bt393.2 : Int).toNat, 0)) else (none)) else (none)) else (none)))) = some (r1, r2) := H
 have A4 := Aside0.mk A40
 clear A40
 by_cases c5 : t392 = true
 ·subst c5
  have H1 : (some ((⟨#[]⟩ : ByteArray), 3)) = some (r1, r2) := by rw [if_pos rfl] at H; exact H
  clear H
  have H := H1
  clear H1
  simp only [Option.some.injEq, Prod.mk.injEq] at H
  obtain ⟨rfl, rfl⟩ := H
  go_enter Tryd.func30, Tryd.ntmps30
  go_wp2_with (first | ((with_reducible refine gate_callee (f := 83) rfl ?_); refine goesL_ (some 11) rfl rfl Tryd.func83 (by kernel_rfl) rfl #[.string a0] rfl (by (try simp only [List.map_toArray, List.map_cons, List.map_nil]); first | done | rfl | (simp only [List.length_drop, List.length_take]; rfl)) ?_; (with_reducible refine (cabinetryref01_long.calls a0 true _ A4.out).mono ?_); rintro e w' ⟨rfl, ⟨nd, rfl⟩⟩; refine ⟨_, rfl, ?_⟩))
  go_ret2
  exact ⟨by first | rfl | (simp [errW_none, errW_some] <;> rfl) | (simp [*, errW_none, errW_some] <;> rfl), by repeat (first | (with_reducible first | exact HB.out | apply below_alloc | apply pw_below_drewN | apply below_drew1) | exact HB.out)⟩
 ·replace c5 := Bool.eq_false_iff.mpr c5
  subst c5
  have H1 : ((cabinetryref01_cut.f a0 a1 a2).bind fun bt393 => (if 0 ≤ bt393.1 then (if bt393.1 ≤ bt393.2 then (if bt393.2 ≤ (a0.size : Int) then (some (a0.extract (bt393.1 : Int).toNat (bt393.2 : Int).toNat, 0)) else (none)) else (none)) else (none))) = some (r1, r2) := by rw [if_neg (show ¬ (false = true) by decide)] at H; exact H
  clear H
  have H := H1
  clear H1
  replace H := Option.bind_eq_some_iff.mp H
  obtain ⟨⟨t393, t394⟩, A60, H⟩ := H
  replace H : (if 0 ≤ t393 then (if t393 ≤ t394 then (if t394 ≤ (a0.size : Int) then (some (a0.extract (t393 : Int).toNat (t394 : Int).toNat, 0)) else (none)) else (none)) else (none)) = some (r1, r2) := H
  have A6 := Aside0.mk A60
  clear A60
  by_cases c7 : 0 ≤ t393
  ·rw [if_pos c7] at H
   have c7b0 := eq_true c7
   have c7b1 : decide (0 ≤ t393) = true := decide_eq_true c7
   clear c7
   by_cases c8 : t393 ≤ t394
   ·rw [if_pos c8] at H
    have c8b0 := eq_true c8
    have c8b1 : decide (t393 ≤ t394) = true := decide_eq_true c8
    clear c8
    by_cases c9 : t394 ≤ (a0.size : Int)
    ·rw [if_pos c9] at H
     have c9b0 := eq_true c9
     have c9b1 : decide (t394 ≤ (a0.size : Int)) = true := decide_eq_true c9
     clear c9
     simp only [Option.some.injEq, Prod.mk.injEq] at H
     obtain ⟨rfl, rfl⟩ := H
     go_enter Tryd.func30, Tryd.ntmps30
     go_wp2_with (first | ((with_reducible refine gate_callee (f := 83) rfl ?_); refine goesL_ (some 11) rfl rfl Tryd.func83 (by kernel_rfl) rfl #[.string a0] rfl (by (try simp only [List.map_toArray, List.map_cons, List.map_nil]); first | done | rfl | (simp only [List.length_drop, List.length_take]; rfl)) ?_; (with_reducible refine (cabinetryref01_long.calls a0 false _ A4.out).mono ?_); rintro e w' ⟨rfl, ⟨nd, rfl⟩⟩; refine ⟨_, rfl, ?_⟩) | ((with_reducible refine gate_callee (f := 84) rfl ?_); refine goesL_ (some 16) rfl rfl Tryd.func84 (by kernel_rfl) rfl #[.string a0, .int .i64 a1, .int .i64 a2] rfl (by (try simp only [List.map_toArray, List.map_cons, List.map_nil]); first | done | rfl | (simp only [List.length_drop, List.length_take]; rfl)) ?_; (with_reducible refine (cabinetryref01_cut.calls a0 a1 a2 t393 t394 _ A6.out).mono ?_); rintro e w10 ⟨rfl, hb⟩; refine ⟨_, rfl, ?_⟩; have n0_ := Aside0.mk (below_step (by repeat (first | (with_reducible first | exact HB.out | apply below_alloc | apply pw_below_drewN | apply below_drew1) | exact HB.out)) hb); clear HB; have HB := n0_; clear n0_; (try clear hb); (try clear hb2); (try clear hk); (try clear hi)))
     go_ret2
     exact ⟨by first | rfl | (simp [errW_none, errW_some] <;> rfl) | (simp [*, errW_none, errW_some] <;> rfl), by repeat (first | (with_reducible first | exact HB.out | apply below_alloc | apply pw_below_drewN | apply below_drew1) | exact HB.out)⟩
    ·rw [if_neg c9] at H
     exact absurd H (by simp)
   ·rw [if_neg c8] at H
    exact absurd H (by simp)
  ·rw [if_neg c7] at H
   exact absurd H (by simp)
end Go.Proofs.YtplbjaandkdhjaaDoor.PA
namespace Go.Proofs.YtplbjaandkdhjaaDoor.PA
open Go.RowKit Go.Proofs.YtplbjaandkdhjaaDoorW.PrintWords Go.Proofs.YtplbjaandkdhjaaDoorW.PrintLast Go.Proofs.YtplbjaandkdhjaaDoorW.PrintMore
attribute [local go_sem] max2_int min2_int max_two min_two max_three min_three max_four min_four   -- for this text's walks alone
set_option linter.unusedVariables false
set_option linter.unusedSimpArgs false
def cabinetryref01_At.l0 : Nat → ByteArray → ByteArray → Int → Option (Int)
 | 0, _, _, _ => none
 | k + 1, x0, x1, x5 => if (wrap64 (x5 + (x0.size : Int))) ≤ (x1.size : Int) then (if 0 ≤ x5 then (if x5 ≤ (wrap64 (x5 + (x0.size : Int))) then (if (x1.extract (x5 : Int).toNat ((wrap64 (x5 + (x0.size : Int))) : Int).toNat).toList = x0.toList then (some (wrap64 (x5 + 1))) else (cabinetryref01_At.l0 k x0 x1 (wrap64 (x5 + 1)))) else (none)) else (none)) else (some 0)
def cabinetryref01_At.f (k : Nat) (a0 : ByteArray) (a1 : ByteArray) : Option (Int) := if a0.toList = ([] : List UInt8) then (some 0) else (cabinetryref01_At.l0 k a0 a1 0)
set_option maxHeartbeats 8000000 in
set_option maxRecDepth 100000 in
theorem cabinetryref01_At.calls (k : Nat) (a0 : ByteArray) (a1 : ByteArray) (r : Int) (w : World) (h : cabinetryref01_At.f k a0 a1 = some r) :
  Calls Tryd.prog 34 #[.string a0, .string a1] w fun e w' => e = .returned (.int .i64 r) ∧ Drawn0 w w' := by
 have H : (if a0.toList = ([] : List UInt8) then (some 0) else (cabinetryref01_At.l0 k a0 a1 0)) = some r := h
 clear h
 by_cases c3 : a0.toList = ([] : List UInt8)
 ·rw [if_pos c3] at H
  have c3b0 : (a0.toList == ([] : List UInt8)) = true := beq_iff_eq.mpr c3
  have c3b1 : (a0.toList != ([] : List UInt8)) = false := bne_eq_false_iff_eq.mpr c3
  clear c3
  obtain rfl := Option.some.inj H
  simp only [Option.some.injEq, Prod.mk.injEq] at H
  obtain ⟨rfl⟩ := H
  go_enter Tryd.func34, Tryd.ntmps34
  go_wp2
  go_ret
  exact ⟨by first | rfl | (simp; done) | (simp [*]; done), by repeat (first | exact Drawn0.refl _ | apply Drawn0.step)⟩
 ·rw [if_neg c3] at H
  have c3b0 : (a0.toList == ([] : List UInt8)) = false := beq_eq_false_iff_ne.mpr c3
  have c3b1 : (a0.toList != ([] : List UInt8)) = true := bne_iff_ne.mpr c3
  have H' := Aside0.mk H
  clear H
  go_enter Tryd.func34, Tryd.ntmps34
  go_wp2
  go_loopg [5] k (fun kq v5 w' => ∃ (x5_1 : Int), v5 = .int .i64 x5_1 ∧ Aside0 (cabinetryref01_At.l0 kq a0 a1 x5_1 = some r) ∧ Aside0 (kq ≤ k) ∧ Drawn0 w w')
  case atStart => exact ⟨(0), (by first | rfl | (simp; done) | (simp [*]; done)), H', ⟨Nat.le_refl _⟩, by repeat (first | exact Drawn0.refl _ | apply Drawn0.step)⟩
  case round =>
   clear H'
   try clear p2; try clear c3; try clear c3b0; try clear c3b1
   obtain ⟨x5_1, rfl, HA, HK1, ⟨m1, rfl⟩⟩ := hrel
   cases gk with
   | zero => exact absurd HA.out (by simp [cabinetryref01_At.l0])
   | succ k1 =>
    have H := HA.out
    clear HA
    simp only [cabinetryref01_At.l0] at H
    by_cases c4 : (wrap64 (x5_1 + (a0.size : Int))) ≤ (a1.size : Int)
    ·rw [if_pos c4] at H
     have c4b0 : decide ((wrap64 (x5_1 + (a0.size : Int))) ≤ (a1.size : Int)) = true := decide_eq_true c4
     clear c4
     by_cases c5 : 0 ≤ x5_1
     ·rw [if_pos c5] at H
      have c5b0 := eq_true c5
      have c5b1 : decide (0 ≤ x5_1) = true := decide_eq_true c5
      clear c5
      by_cases c6 : x5_1 ≤ (wrap64 (x5_1 + (a0.size : Int)))
      ·rw [if_pos c6] at H
       have c6b0 := eq_true c6
       have c6b1 : decide (x5_1 ≤ (wrap64 (x5_1 + (a0.size : Int)))) = true := decide_eq_true c6
       have c7b0 := eq_true (of_decide_eq_true (by first | (with_reducible assumption) | assumption) : (wrap64 (x5_1 + (a0.size : Int))) ≤ (a1.size : Int))
       by_cases c8 : (a1.extract (x5_1 : Int).toNat ((wrap64 (x5_1 + (a0.size : Int))) : Int).toNat).toList = a0.toList
       ·rw [if_pos c8] at H
        have c8b0 : ((a1.extract (x5_1 : Int).toNat ((wrap64 (x5_1 + (a0.size : Int))) : Int).toNat).toList == a0.toList) = true := beq_iff_eq.mpr c8
        have c8b1 : ((a1.extract (x5_1 : Int).toNat ((wrap64 (x5_1 + (a0.size : Int))) : Int).toNat).toList != a0.toList) = false := bne_eq_false_iff_eq.mpr c8
        clear c8
        obtain rfl := Option.some.inj H
        simp only [Option.some.injEq, Prod.mk.injEq] at H
        obtain ⟨rfl⟩ := H
        go_wp2
        go_ret
        exact ⟨by first | rfl | (simp; done) | (simp [*]; done), by repeat (first | exact Drawn0.refl _ | apply Drawn0.step)⟩
       ·rw [if_neg c8] at H
        have c8b0 : ((a1.extract (x5_1 : Int).toNat ((wrap64 (x5_1 + (a0.size : Int))) : Int).toNat).toList == a0.toList) = false := beq_eq_false_iff_ne.mpr c8
        have c8b1 : ((a1.extract (x5_1 : Int).toNat ((wrap64 (x5_1 + (a0.size : Int))) : Int).toNat).toList != a0.toList) = true := bne_iff_ne.mpr c8
        have H' := Aside0.mk H
        clear H
        go_wp2
        go_roundg k1
        case measure => have := HK1.out; omega
        case rel => exact ⟨(wrap64 (x5_1 + 1)), (by first | rfl | (simp; done) | (simp [*]; done)), H', ⟨by have := HK1.out; omega⟩, by repeat (first | exact Drawn0.refl _ | apply Drawn0.step)⟩
      ·rw [if_neg c6] at H
       exact absurd H (by simp)
     ·rw [if_neg c5] at H
      exact absurd H (by simp)
    ·rw [if_neg c4] at H
     have c4b0 : decide ((wrap64 (x5_1 + (a0.size : Int))) ≤ (a1.size : Int)) = false := decide_eq_false c4
     clear c4
     obtain rfl := Option.some.inj H
     simp only [Option.some.injEq, Prod.mk.injEq] at H
     obtain ⟨rfl⟩ := H
     go_wp2
     go_ret
     exact ⟨by first | rfl | (simp; done) | (simp [*]; done), by repeat (first | exact Drawn0.refl _ | apply Drawn0.step)⟩
end Go.Proofs.YtplbjaandkdhjaaDoor.PA
namespace Go.Proofs.YtplbjaandkdhjaaDoor.PB
open Go.RowKit Go.Proofs.YtplbjaandkdhjaaDoorW.PrintWords Go.Proofs.YtplbjaandkdhjaaDoorW.PrintLast Go.Proofs.YtplbjaandkdhjaaDoorW.PrintMore Go.Proofs.YtplbjaandkdhjaaDoor.PA Go.Proofs.YtplbjaandkdhjaaDoor.H1
attribute [local go_sem] max2_int min2_int max_two min_two max_three min_three max_four min_four   -- for this text's walks alone
set_option linter.unusedVariables false
set_option linter.unusedSimpArgs false
def val_At.f (a0 : ByteArray) (a1 : ByteArray) : Option (Int) := if a0.toList = ([] : List UInt8) then (some 0) else ((strings_Index.f a1 a0).bind fun t185 => (some (wrap64 (t185 + 1))))
set_option maxHeartbeats 8000000 in
set_option maxRecDepth 100000 in
theorem val_At.calls (a0 : ByteArray) (a1 : ByteArray) (r : Int) (w : World) (h : val_At.f a0 a1 = some r) (hm_ : Aside0 (Hm.HM w)) :
  Calls Tryd.prog 33 #[.string a0, .string a1] w fun e w' => e = .returned (.int .i64 r) ∧ Below w.heap.size w w' := by
 have HB := Aside0.mk (Below.refl w.heap.size w)
 have H : (if a0.toList = ([] : List UInt8) then (some 0) else ((strings_Index.f a1 a0).bind fun t185 => (some (wrap64 (t185 + 1))))) = some r := h
 clear h
 by_cases c3 : a0.toList = ([] : List UInt8)
 ·rw [if_pos c3] at H
  have c3b0 : (a0.toList == ([] : List UInt8)) = true := beq_iff_eq.mpr c3
  have c3b1 : (a0.toList != ([] : List UInt8)) = false := bne_eq_false_iff_eq.mpr c3
  clear c3
  obtain rfl := Option.some.inj H
  simp only [Option.some.injEq, Prod.mk.injEq] at H
  obtain ⟨rfl⟩ := H
  go_enter Tryd.func33, Tryd.ntmps33
  go_wp2
  go_ret
  exact ⟨by first | rfl | (simp [errW_none, errW_some] <;> rfl) | (simp [*, errW_none, errW_some] <;> rfl), by repeat (first | (with_reducible first | exact HB.out | apply below_alloc | apply pw_below_drewN | apply below_drew1) | exact HB.out)⟩
 ·rw [if_neg c3] at H
  have c3b0 : (a0.toList == ([] : List UInt8)) = false := beq_eq_false_iff_ne.mpr c3
  have c3b1 : (a0.toList != ([] : List UInt8)) = true := bne_iff_ne.mpr c3
  replace H := Option.bind_eq_some_iff.mp H
  obtain ⟨t185, A40, H⟩ := H
  replace H : (some (wrap64 (t185 + 1))) = some r := H
  have A4 := Aside0.mk A40
  clear A40
  obtain rfl := Option.some.inj H
  simp only [Option.some.injEq, Prod.mk.injEq] at H
  obtain ⟨rfl⟩ := H
  go_enter Tryd.func33, Tryd.ntmps33
  go_wp2_with (first | ((with_reducible refine gate_callee (f := 87) rfl ?_); refine goesL_ (some 9) rfl rfl Tryd.func87 (by kernel_rfl) rfl #[.string a1, .string a0] rfl (by (try simp only [List.map_toArray, List.map_cons, List.map_nil]); first | done | rfl | (simp only [List.length_drop, List.length_take]; rfl)) ?_; (with_reducible refine (strings_Index.calls a1 a0 t185 _ A4.out (Hm.keep hm_ (by repeat (first | (with_reducible first | exact HB.out | apply below_alloc | apply pw_below_drewN | apply below_drew1) | exact HB.out)))).mono ?_); rintro e w5 ⟨rfl, hb⟩; refine ⟨_, rfl, ?_⟩; have n0_ := Aside0.mk (below_step (by repeat (first | (with_reducible first | exact HB.out | apply below_alloc | apply pw_below_drewN | apply below_drew1) | exact HB.out)) hb); clear HB; have HB := n0_; clear n0_; (try clear hb); (try clear hb2); (try clear hk); (try clear hi)))
  go_ret
  exact ⟨by first | rfl | (simp [errW_none, errW_some] <;> rfl) | (simp [*, errW_none, errW_some] <;> rfl), by repeat (first | (with_reducible first | exact HB.out | apply below_alloc | apply pw_below_drewN | apply below_drew1) | exact HB.out)⟩
end Go.Proofs.YtplbjaandkdhjaaDoor.PB
namespace Go.Proofs.YtplbjaandkdhjaaDoor.L1
open Go.RowKit Go.Proofs.YtplbjaandkdhjaaDoorW.PrintWords Go.Proofs.YtplbjaandkdhjaaDoor.PA Go.Proofs.YtplbjaandkdhjaaDoor.PB Go.Proofs.YtplbjaandkdhjaaDoor.H1
set_option linter.unusedVariables false
set_option linter.unusedSimpArgs false
theorem long_l (l : List ByteArray) (hl : l.length ≤ 100) : ∀ (n i k : Nat), l.length - i = n → i ≤ l.length → n < k →
    val_long.l0 k l (l.length : Int) (i : Int) = some (if (l.drop i).any (fun s => decide (2048 < s.size)) = true then 3 else 0) := by
  intro n
  induction n with
  | zero =>
    intro i k hn hi hk
    obtain ⟨k, rfl⟩ : ∃ m, k = m + 1 := ⟨k - 1, by omega⟩
    simp only [val_long.l0]
    rw [if_neg (by omega), List.drop_eq_nil_of_le (by omega)]
    simp
  | succ n ih =>
    intro i k hn hi hk
    obtain ⟨k, rfl⟩ : ∃ m, k = m + 1 := ⟨k - 1, by omega⟩
    have hlt : i < l.length := by omega
    simp only [val_long.l0]
    rw [if_pos (by omega), if_pos (by omega), if_pos (by omega), List.drop_eq_getElem_cons hlt]
    have er : rdOf ByteArray.empty l (i : Int) = l[i] := by
      unfold rdOf
      rw [Int.toNat_natCast, List.getD_eq_getElem?_getD, List.getElem?_eq_getElem hlt, Option.getD_some]
    rw [er]
    by_cases h : 2048 < l[i].size
    · rw [if_pos (by omega), List.any_cons, decide_eq_true h, Bool.true_or, if_pos rfl]
    · rw [if_neg (by omega), w64 (by omega) (by omega)]
      have := ih (i + 1) k (by omega) (by omega) (by omega)
      rw [show ((i : Int) + 1) = ((i + 1 : Nat) : Int) by omega, this, List.any_cons, decide_eq_false h, Bool.false_or]
theorem long_f (l : List ByteArray) (hl : l.length ≤ 100) (k : Nat) (hk : 100 < k) : val_long.f k l = some (if l.any (fun s => decide (2048 < s.size)) = true then 3 else 0) := by
  have := long_l l hl l.length 0 k (by omega) (by omega) (by omega)
  simpa [val_long.f] using this
theorem refLong_f (s : ByteArray) : cabinetryref01_long.f s = some (decide (2048 < s.size)) := by
  unfold cabinetryref01_long.f
  congr 1
  exact decide_eq_decide.2 (by omega)
def partB (s : ByteArray) (from_ : Int) : Nat := min ((max from_ 1) - 1).toNat s.size
def partE (s : ByteArray) (from_ n : Int) : Nat := partB s from_ + min (max n 0).toNat (s.size - partB s from_)
theorem partB_le (s : ByteArray) (f : Int) : partB s f ≤ s.size := by unfold partB; omega
theorem part_le (s : ByteArray) (f n : Int) : partB s f ≤ partE s f n := by unfold partE; omega
theorem partE_le (s : ByteArray) (f n : Int) : partE s f n ≤ s.size := by have := partB_le s f; unfold partE; omega
theorem bounds_f (s : ByteArray) (f n : Int) (hs : s.size ≤ 140737488351232) (hf : -9223372036854775808 ≤ f ∧ f ≤ 9223372036854775807) (hn : -9223372036854775808 ≤ n ∧ n ≤ 9223372036854775807) :
    val_bounds.f s f n = some ((partB s f : Int), (partE s f n : Int)) := by
  unfold val_bounds.f
  have e1 : wrap64 (mx f 1 - 1) = max f 1 - 1 := by
    unfold mx
    rw [w64 (by split <;> omega) (by split <;> omega)]
    split <;> omega
  have e2 : mn (max f 1 - 1) (s.size : Int) = (partB s f : Int) := by
    unfold mn partB
    split <;> omega
  have hb := partB_le s f
  have e3 : wrap64 ((s.size : Int) - (partB s f : Int)) = (s.size : Int) - (partB s f : Int) := w64 (by omega) (by omega)
  have e4 : mn (mx n 0) ((s.size : Int) - (partB s f : Int)) = ((min (max n 0).toNat (s.size - partB s f) : Nat) : Int) := by
    unfold mn mx
    split <;> split <;> omega
  rw [e1, e2, e3, e4, w64 (by omega) (by omega)]
  unfold partE
  congr 2
theorem cut_f (s : ByteArray) (f n : Int) (hs : s.size ≤ 140737488351232) (hf : -9223372036854775808 ≤ f ∧ f ≤ 9223372036854775807) (hn : -9223372036854775808 ≤ n ∧ n ≤ 9223372036854775807) :
    cabinetryref01_cut.f s f n = some ((partB s f : Int), (partE s f n : Int)) := by
  unfold cabinetryref01_cut.f
  have e0 : wrap64 ((s.size : Int) + 1) = (s.size : Int) + 1 := w64 (by omega) (by omega)
  rw [e0]
  have e2 : wrap64 (mn (mx f 1) ((s.size : Int) + 1) - 1) = (partB s f : Int) := by
    have : mn (mx f 1) ((s.size : Int) + 1) - 1 = (partB s f : Int) := by
      unfold mn mx partB
      split <;> split <;> omega
    rw [this, w64 (by have := partB_le s f; omega) (by have := partB_le s f; omega)]
  have hb := partB_le s f
  rw [e2]
  have e3 : wrap64 ((s.size : Int) - (partB s f : Int)) = (s.size : Int) - (partB s f : Int) := w64 (by omega) (by omega)
  have e4 : mn (mx n 0) ((s.size : Int) - (partB s f : Int)) = ((min (max n 0).toNat (s.size - partB s f) : Nat) : Int) := by
    unfold mn mx
    split <;> split <;> omega
  rw [e3, e4, w64 (by omega) (by omega)]
  unfold partE
  congr 2
theorem ba_extract (s : ByteArray) (i j : Nat) (hj : j ≤ s.size) : (s.extract i j).data.toList = (s.data.toList.take j).drop i := by
  rw [Lib.extract_data]
  simp [List.drop_take]
theorem ba_toList (s : ByteArray) : s.toList = s.data.toList := ByteArray.toList_eq s
theorem occ_iff (s t : ByteArray) (i : Nat) (h : i + t.size ≤ s.size) : ((s.extract i (i + t.size)).toList = t.toList) ↔ Lib.occAt s.data.toList t.data.toList i = true := by
  rw [ba_toList, ba_toList, ba_extract s i _ h]
  unfold Lib.occAt
  rw [List.isPrefixOf_iff_prefix, List.drop_take]
  rw [show i + t.size - i = t.data.toList.length by rw [ba_len]; omega]
  constructor
  · intro e
    have := List.take_prefix t.data.toList.length (s.data.toList.drop i)
    rwa [e] at this
  · intro e
    exact (List.prefix_iff_eq_take.1 e).symm
theorem occ_room {s t : List UInt8} {i : Nat} (h : Lib.occAt s t i = true) (hi : i ≤ s.length) : i + t.length ≤ s.length := by
  unfold Lib.occAt at h
  have := (List.isPrefixOf_iff_prefix.1 h).length_le
  rw [List.length_drop] at this
  omega
theorem refAt_l (t s : ByteArray) (hs : s.size ≤ 140737488351232) (ht : t.size ≤ 140737488351232) (h1 : 1 ≤ t.size) : ∀ (n i k : Nat), s.size + 1 - i = n → i ≤ s.size + 1 → n < k → Lib.NoOcc s.data.toList t.data.toList i →
    cabinetryref01_At.l0 k t s (i : Int) = some (Lib.index s.data.toList t.data.toList + 1) := by
  intro n
  induction n with
  | zero =>
    intro i k hn hi hk hno
    obtain ⟨k, rfl⟩ : ∃ m, k = m + 1 := ⟨k - 1, by omega⟩
    simp only [cabinetryref01_At.l0]
    rw [w64 (by omega) (by omega), if_neg (by omega)]
    have : Lib.index s.data.toList t.data.toList = -1 := Lib.index_none fun j hj => hno j (by rw [ba_len] at hj; omega)
    rw [this]
    rfl
  | succ n ih =>
    intro i k hn hi hk hno
    obtain ⟨k, rfl⟩ : ∃ m, k = m + 1 := ⟨k - 1, by omega⟩
    simp only [cabinetryref01_At.l0]
    rw [w64 (x := (i : Int) + (t.size : Int)) (by omega) (by omega)]
    by_cases hb : i + t.size ≤ s.size
    · rw [if_pos (by omega), if_pos (by omega), if_pos (by omega)]
      rw [show ((i : Int)).toNat = i by omega, show ((i : Int) + (t.size : Int)).toNat = i + t.size by omega]
      by_cases ho : Lib.occAt s.data.toList t.data.toList i = true
      · rw [if_pos ((occ_iff s t i hb).2 ho), w64 (by omega) (by omega), Lib.index_first (by rw [ba_len]; omega) ho hno]
      · rw [if_neg (fun e => ho ((occ_iff s t i hb).1 e)), w64 (by omega) (by omega)]
        have := ih (i + 1) k (by omega) (by omega) (by omega) (fun j hj => by
          rcases Nat.lt_or_ge j i with h | h
          · exact hno j h
          · obtain rfl : j = i := by omega
            exact Bool.eq_false_iff.2 ho)
        rwa [show ((i : Int) + 1) = ((i + 1 : Nat) : Int) by omega]
    · rw [if_neg (by omega)]
      have : Lib.index s.data.toList t.data.toList = -1 := Lib.index_none fun j hj => by
        rcases Nat.lt_or_ge j i with h | h
        · exact hno j h
        · apply Bool.eq_false_iff.2
          intro h2
          have := occ_room h2 hj
          rw [ba_len, ba_len] at this
          omega
      rw [this]
      rfl
theorem nil_iff (t : ByteArray) : t.toList = [] ↔ t.size = 0 := by
  rw [ba_toList, ← ba_len]
  exact List.length_eq_zero_iff.symm
theorem at_same (t s : ByteArray) (hs : s.size ≤ 20000) (ht : t.size ≤ 140737488351232) (k : Nat) (hk : 20002 ≤ k) : ∃ r, val_At.f t s = some r ∧ cabinetryref01_At.f k t s = some r := by
  unfold val_At.f cabinetryref01_At.f
  by_cases h : t.toList = []
  · exact ⟨0, by rw [if_pos h], by rw [if_pos h]⟩
  · have h1 : 1 ≤ t.size := by
      have := mt (nil_iff t).2 h
      omega
    refine ⟨Lib.index s.data.toList t.data.toList + 1, ?_, ?_⟩
    · rw [if_neg h]
      unfold strings_Index.f
      rw [if_pos (by omega)]
      simp only [Option.bind_some]
      have a := Lib.index_ge s.data.toList t.data.toList
      have b := Lib.index_le s.data.toList t.data.toList
      rw [ba_len] at b
      rw [w64 (by omega) (by omega)]
    · rw [if_neg h]
      have := refAt_l t s (by omega) ht h1 (s.size + 1) 0 k (by omega) (by omega) (by omega) (Lib.NoOcc.zero _ _)
      simpa using this
end Go.Proofs.YtplbjaandkdhjaaDoor.L1
