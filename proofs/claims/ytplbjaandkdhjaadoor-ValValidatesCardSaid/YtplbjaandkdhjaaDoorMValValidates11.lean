-- Written by a program of this session (wip/merge.py): the texts of this claim, joined.
import Derived.Deep.RegionWith
import Derived.Test.YtplbjaandkdhjaaDoorMValValidates1
import Derived.Test.YtplbjaandkdhjaaDoorMValValidates2
import Derived.Test.YtplbjaandkdhjaaDoorMValValidates3
import Derived.Test.YtplbjaandkdhjaaDoorMValValidates5
import Derived.Test.YtplbjaandkdhjaaDoorMValValidates6
import Derived.Test.YtplbjaandkdhjaaDoorMValValidates7
import Derived.Test.YtplbjaandkdhjaaDoorMValValidates8
import Derived.Test.YtplbjaandkdhjaaDoorMValValidates9
import Derived.Test.YtplbjaandkdhjaaDoorMValValidates10
namespace Go.Proofs.YtplbjaandkdhjaaDoor.PA
end Go.Proofs.YtplbjaandkdhjaaDoor.PA
namespace Go.Proofs.YtplbjaandkdhjaaDoor.PB
end Go.Proofs.YtplbjaandkdhjaaDoor.PB
namespace Go.Proofs.YtplbjaandkdhjaaDoor.PC
end Go.Proofs.YtplbjaandkdhjaaDoor.PC
namespace Go.Proofs.YtplbjaandkdhjaaDoor.H1
end Go.Proofs.YtplbjaandkdhjaaDoor.H1
namespace Go.Proofs.YtplbjaandkdhjaaDoor.L1
end Go.Proofs.YtplbjaandkdhjaaDoor.L1
namespace Go.Proofs.YtplbjaandkdhjaaDoor.H1
open Go.RowKit Go.Proofs.YtplbjaandkdhjaaDoorW.PrintWords Go.Proofs.YtplbjaandkdhjaaDoorW.PrintLast Go.Proofs.YtplbjaandkdhjaaDoorW.PrintMore Go.Proofs.YtplbjaandkdhjaaDoor.PA Go.Proofs.YtplbjaandkdhjaaDoor.PB
set_option linter.unusedVariables false
set_option linter.unusedSimpArgs false
def wholeV63 (a0 a1 : Int) (b0 b1 : Int) : Option (Int × Int × ByteArray × Int) := if a0 = 2 ∧ b0 = 2 then val_mul.f 100 a1 b1 else val_died.f 1
theorem wholeAll63 (a0 a1 : Int) (a2 : ByteArray) (b0 b1 : Int) (b2 : ByteArray) (bx : Nat) (r1 r2 : Int) (r3 : ByteArray) (r4 : Int) (w : World)
    (hc0 : w.cell? ⟨bx, 0, none⟩ = some (.func (.func 63) #[] #[])) (h : wholeV63 a0 a1 b0 b1 = some (r1, r2, r3, r4)) :
    Calls Tryd.prog 107 #[.agg #[.int .i64 a0, .int .i64 a1, .string a2], .agg #[.int .i64 b0, .int .i64 b1, .string b2], .pointer (some ⟨bx, 0, none⟩)] w fun e w' =>
      e = .returned (.agg #[.int .i64 r1, .int .i64 r2, .string r3, .int .i64 r4]) ∧ Below w.heap.size w w' := by
  unfold wholeV63 at h
  split at h
  · rename_i hk
    obtain ⟨rfl, rfl⟩ := hk
    exact whole63 a1 a2 b1 b2 bx 100 r1 r2 r3 r4 w hc0 h
  · rename_i hk
    by_cases ha : a0 = 2
    · subst ha
      exact wholeNo2 a1 a2 b0 b1 b2 bx 63 r1 r2 r3 r4 w hc0 (bne_iff_ne.mpr fun hb => hk ⟨rfl, hb⟩) h
    · exact wholeNo1 a0 a1 a2 b0 b1 b2 bx 63 r1 r2 r3 r4 w hc0 (bne_iff_ne.mpr ha) h
def wholeV64 (a0 a1 : Int) (b0 b1 : Int) : Option (Int × Int × ByteArray × Int) := if a0 = 2 ∧ b0 = 2 then val_div.f a1 b1 else val_died.f 1
theorem wholeAll64 (a0 a1 : Int) (a2 : ByteArray) (b0 b1 : Int) (b2 : ByteArray) (bx : Nat) (r1 r2 : Int) (r3 : ByteArray) (r4 : Int) (w : World)
    (hc0 : w.cell? ⟨bx, 0, none⟩ = some (.func (.func 64) #[] #[])) (h : wholeV64 a0 a1 b0 b1 = some (r1, r2, r3, r4)) :
    Calls Tryd.prog 107 #[.agg #[.int .i64 a0, .int .i64 a1, .string a2], .agg #[.int .i64 b0, .int .i64 b1, .string b2], .pointer (some ⟨bx, 0, none⟩)] w fun e w' =>
      e = .returned (.agg #[.int .i64 r1, .int .i64 r2, .string r3, .int .i64 r4]) ∧ Below w.heap.size w w' := by
  unfold wholeV64 at h
  split at h
  · rename_i hk
    obtain ⟨rfl, rfl⟩ := hk
    exact whole64 a1 a2 b1 b2 bx r1 r2 r3 r4 w hc0 h
  · rename_i hk
    by_cases ha : a0 = 2
    · subst ha
      exact wholeNo2 a1 a2 b0 b1 b2 bx 64 r1 r2 r3 r4 w hc0 (bne_iff_ne.mpr fun hb => hk ⟨rfl, hb⟩) h
    · exact wholeNo1 a0 a1 a2 b0 b1 b2 bx 64 r1 r2 r3 r4 w hc0 (bne_iff_ne.mpr ha) h
def wholeV65 (a0 a1 : Int) (b0 b1 : Int) : Option (Int × Int × ByteArray × Int) := if a0 = 2 ∧ b0 = 2 then val_mod.f a1 b1 else val_died.f 1
theorem wholeAll65 (a0 a1 : Int) (a2 : ByteArray) (b0 b1 : Int) (b2 : ByteArray) (bx : Nat) (r1 r2 : Int) (r3 : ByteArray) (r4 : Int) (w : World)
    (hc0 : w.cell? ⟨bx, 0, none⟩ = some (.func (.func 65) #[] #[])) (h : wholeV65 a0 a1 b0 b1 = some (r1, r2, r3, r4)) :
    Calls Tryd.prog 107 #[.agg #[.int .i64 a0, .int .i64 a1, .string a2], .agg #[.int .i64 b0, .int .i64 b1, .string b2], .pointer (some ⟨bx, 0, none⟩)] w fun e w' =>
      e = .returned (.agg #[.int .i64 r1, .int .i64 r2, .string r3, .int .i64 r4]) ∧ Below w.heap.size w w' := by
  unfold wholeV65 at h
  split at h
  · rename_i hk
    obtain ⟨rfl, rfl⟩ := hk
    exact whole65 a1 a2 b1 b2 bx r1 r2 r3 r4 w hc0 h
  · rename_i hk
    by_cases ha : a0 = 2
    · subst ha
      exact wholeNo2 a1 a2 b0 b1 b2 bx 65 r1 r2 r3 r4 w hc0 (bne_iff_ne.mpr fun hb => hk ⟨rfl, hb⟩) h
    · exact wholeNo1 a0 a1 a2 b0 b1 b2 bx 65 r1 r2 r3 r4 w hc0 (bne_iff_ne.mpr ha) h
def wholeV66 (a0 a1 : Int) (b0 b1 : Int) : Option (Int × Int × ByteArray × Int) := if a0 = 2 ∧ b0 = 2 then val_pow.f 100 a1 b1 else val_died.f 1
theorem wholeAll66 (a0 a1 : Int) (a2 : ByteArray) (b0 b1 : Int) (b2 : ByteArray) (bx : Nat) (r1 r2 : Int) (r3 : ByteArray) (r4 : Int) (w : World)
    (hc0 : w.cell? ⟨bx, 0, none⟩ = some (.func (.func 66) #[] #[])) (h : wholeV66 a0 a1 b0 b1 = some (r1, r2, r3, r4)) :
    Calls Tryd.prog 107 #[.agg #[.int .i64 a0, .int .i64 a1, .string a2], .agg #[.int .i64 b0, .int .i64 b1, .string b2], .pointer (some ⟨bx, 0, none⟩)] w fun e w' =>
      e = .returned (.agg #[.int .i64 r1, .int .i64 r2, .string r3, .int .i64 r4]) ∧ Below w.heap.size w w' := by
  unfold wholeV66 at h
  split at h
  · rename_i hk
    obtain ⟨rfl, rfl⟩ := hk
    exact whole66 a1 a2 b1 b2 bx 100 r1 r2 r3 r4 w hc0 h
  · rename_i hk
    by_cases ha : a0 = 2
    · subst ha
      exact wholeNo2 a1 a2 b0 b1 b2 bx 66 r1 r2 r3 r4 w hc0 (bne_iff_ne.mpr fun hb => hk ⟨rfl, hb⟩) h
    · exact wholeNo1 a0 a1 a2 b0 b1 b2 bx 66 r1 r2 r3 r4 w hc0 (bne_iff_ne.mpr ha) h
theorem bcell {W w1 : World} (hb : Below W.heap.size W w1) : (∀ b o, b < W.heap.size → w1.cell? ⟨b, o, none⟩ = W.cell? ⟨b, o, none⟩) ∧ (∀ b o, b < W.heap.size → w1.frozen? ⟨b, o, none⟩ = W.frozen? ⟨b, o, none⟩) :=
  ⟨fun b o h => hb.cell (p := ⟨b, o, none⟩) h, fun b o h => hb.frozen (p := ⟨b, o, none⟩) h⟩
theorem blk1of3 (w : World) (A B C : Obj) : (((w.alloc A).alloc B).alloc C).heap[w.heap.size]? = some A := blk_alloc (blk_alloc (blk_new w A) B) C
theorem blk2of3 (w : World) (A B C : Obj) : (((w.alloc A).alloc B).alloc C).heap[w.heap.size + 1]? = some B := by
  have h := blk_alloc (blk_new (w.alloc A) B) C
  rwa [show (w.alloc A).heap.size = w.heap.size + 1 by simp] at h
theorem blk1of5 (w : World) (A B C D E : Obj) : (((((w.alloc A).alloc B).alloc C).alloc D).alloc E).heap[w.heap.size]? = some A := blk_alloc (blk_alloc (blk_alloc (blk_alloc (blk_new w A) B) C) D) E
theorem blk2of5 (w : World) (A B C D E : Obj) : (((((w.alloc A).alloc B).alloc C).alloc D).alloc E).heap[w.heap.size + 1]? = some B := by
  have h := blk1of5 (w.alloc A) B C D E E
  have h2 := blk_alloc (blk_alloc (blk_alloc (blk_new (w.alloc A) B) C) D) E
  rwa [show (w.alloc A).heap.size = w.heap.size + 1 by simp] at h2
theorem blk3of5 (w : World) (A B C D E : Obj) : (((((w.alloc A).alloc B).alloc C).alloc D).alloc E).heap[w.heap.size + 1 + 1]? = some C := by
  have h2 := blk_alloc (blk_alloc (blk_new ((w.alloc A).alloc B) C) D) E
  rwa [show ((w.alloc A).alloc B).heap.size = w.heap.size + 1 + 1 by simp] at h2
theorem blk4of5 (w : World) (A B C D E : Obj) : (((((w.alloc A).alloc B).alloc C).alloc D).alloc E).heap[w.heap.size + 1 + 1 + 1]? = some D := by
  have h2 := blk_alloc (blk_new (((w.alloc A).alloc B).alloc C) D) E
  rwa [show (((w.alloc A).alloc B).alloc C).heap.size = w.heap.size + 1 + 1 + 1 by simp] at h2
theorem blk5of5 (w : World) (A B C D E : Obj) : (((((w.alloc A).alloc B).alloc C).alloc D).alloc E).heap[w.heap.size + 1 + 1 + 1 + 1]? = some E := by
  have h := blk_new ((((w.alloc A).alloc B).alloc C).alloc D) E
  rwa [show ((((w.alloc A).alloc B).alloc C).alloc D).heap.size = w.heap.size + 1 + 1 + 1 + 1 by simp] at h
theorem five (w1 : World) (g : Nat) (cs : Array Value) (t : TypeId) (h : w1.heap[g]? = some (.cells cs t (0, 0))) (i : Nat) :
    ∀ A B C D E, (((((w1.alloc A).alloc B).alloc C).alloc D).alloc E).cell? ⟨g, i, none⟩ = cs[i]? := fun A B C D E =>
  blk_cell (blk_alloc (blk_alloc (blk_alloc (blk_alloc (blk_alloc h A) B) C) D) E) i
structure DoInv (a0 a1 : Int) (a2 : ByteArray) (b0 b1 : Int) (b2 : ByteArray) (w : World) (g1 i : Nat) (v : Value) (bx : Nat) (u : Value) (w' : World) : Prop where
  a : w'.heap[w.heap.size]? = some (.cells #[.int .i64 a0, .int .i64 a1, .string a2] 23 (0, 0))
  b : w'.heap[w.heap.size + 1]? = some (.cells #[.int .i64 b0, .int .i64 b1, .string b2] 23 (0, 0))
  r : w'.heap[w.heap.size + 1 + 1]? = some (.cells #[.int .i64 0, .int .i64 0, .string (⟨#[]⟩ : ByteArray)] 23 (0, 0))
  f : ∃ cs : Array Value, w'.heap[g1 + 1 + 1 + 1 + 1]? = some (.cells cs 68 (0, 0)) ∧ cs[i]? = some v
  k : w'.heap[bx]? = some (.cells #[u] 67 (0, 0))
  w : Below w.heap.size w w'
section
variable {a0 a1 : Int} {a2 : ByteArray} {b0 b1 : Int} {b2 : ByteArray} {w : World} {g1 i : Nat} {v : Value} {bx : Nat} {u : Value} {W : World}
theorem DoInv.below {w2 : World} (h : DoInv a0 a1 a2 b0 b1 b2 w g1 i v bx u W) (hb : Below W.heap.size W w2) : DoInv a0 a1 a2 b0 b1 b2 w g1 i v bx u w2 := by
  obtain ⟨cs, h1, h2⟩ := h.f
  exact ⟨blk_below h.a hb, blk_below h.b hb, blk_below h.r hb, ⟨cs, blk_below h1 hb, h2⟩, blk_below h.k hb, below_step h.w hb⟩
theorem DoInv.alloc (h : DoInv a0 a1 a2 b0 b1 b2 w g1 i v bx u W) (o : Obj) : DoInv a0 a1 a2 b0 b1 b2 w g1 i v bx u (W.alloc o) := h.below (below_alloc (Below.refl _ _) o)
theorem DoInv.drew (h : DoInv a0 a1 a2 b0 b1 b2 w g1 i v bx u W) : DoInv a0 a1 a2 b0 b1 b2 w g1 i v bx u W.drew := h.below (below_drew (Below.refl _ _))
theorem DoInv.set {w2 : World} (h0 : DoInv a0 a1 a2 b0 b1 b2 w g1 i v bx u W) (h : DoInv a0 a1 a2 b0 b1 b2 w g1 i v bx u w2) (j : Nat) (y : Value) : DoInv a0 a1 a2 b0 b1 b2 w g1 i v bx u (w2.setCell ⟨W.heap.size, j, none⟩ y) := by
  obtain ⟨cs, h1, h2⟩ := h.f
  obtain ⟨cs0, k1, k2⟩ := h0.f
  exact ⟨blk_far h.a (p := ⟨W.heap.size, j, none⟩) (Nat.ne_of_lt (blk_lt h0.a)) y, blk_far h.b (p := ⟨W.heap.size, j, none⟩) (Nat.ne_of_lt (blk_lt h0.b)) y, blk_far h.r (p := ⟨W.heap.size, j, none⟩) (Nat.ne_of_lt (blk_lt h0.r)) y, ⟨cs, blk_far h1 (p := ⟨W.heap.size, j, none⟩) (Nat.ne_of_lt (blk_lt k1)) y, h2⟩, blk_far h.k (p := ⟨W.heap.size, j, none⟩) (Nat.ne_of_lt (blk_lt h0.k)) y, below_set h.w h0.w.size⟩
theorem DoInv.cells (h : DoInv a0 a1 a2 b0 b1 b2 w g1 i v bx u W) : W.cell? ⟨w.heap.size, 0, none⟩ = some (.int .i64 a0) ∧ W.cell? ⟨w.heap.size, 1, none⟩ = some (.int .i64 a1) ∧ W.cell? ⟨w.heap.size, 2, none⟩ = some (.string a2) ∧ W.cell? ⟨w.heap.size + 1, 0, none⟩ = some (.int .i64 b0) ∧ W.cell? ⟨w.heap.size + 1, 1, none⟩ = some (.int .i64 b1) ∧ W.cell? ⟨w.heap.size + 1, 2, none⟩ = some (.string b2) ∧ W.cell? ⟨g1 + 1 + 1 + 1 + 1, i, none⟩ = some v ∧ Aside0 (DoInv a0 a1 a2 b0 b1 b2 w g1 i v bx u W) := by
  obtain ⟨cs, h1, h2⟩ := h.f
  exact ⟨blk_cell h.a 0, blk_cell h.a 1, blk_cell h.a 2, blk_cell h.b 0, blk_cell h.b 1, blk_cell h.b 2, (blk_cell h1 i).trans h2, ⟨h⟩⟩
end
set_option maxHeartbeats 4000000 in
set_option maxRecDepth 100000 in
theorem do0 (a0 a1 : Int) (a2 : ByteArray) (b0 b1 : Int) (b2 : ByteArray) (r1 r2 : Int) (r3 : ByteArray) (r4 : Int) (w : World)
    (hb0 : val_both.f 100 a0 a1 a2 b0 b1 b2 = some 0) (ha : (a0 == 0) = false) (hb : (b0 == 0) = false) (h : val_add.f a0 a1 a2 b0 b1 b2 = some (r1, r2, r3, r4)) :
    Calls Tryd.prog 17 #[.int .i64 0, .agg #[.int .i64 a0, .int .i64 a1, .string a2], .agg #[.int .i64 b0, .int .i64 b1, .string b2]] w fun e w' =>
      e = .returned (.tuple #[.agg #[.int .i64 r1, .int .i64 r2, .string r3], .int .i64 r4, .int .i64 0]) ∧ Below w.heap.size w w' := by
  have hu23 := Tryd.underlying23
  have hu70 := Tryd.underlying70
  have hu68 := Tryd.underlying68
  have H := Aside0.mk h
  have HB0 := Aside0.mk hb0
  clear h hb0
  go_enter Tryd.func17, Tryd.ntmps17
  go_wp2_with (first
    | (go_at_call 59; refine (val_both.calls 100 a0 a1 a2 b0 b1 b2 0 _ HB0.out).mono ?_; rintro e w1 ⟨rfl, hb⟩; have HBK := Aside0.mk (blk_below (blk3 _ _ _ _) hb); have HBA := Aside0.mk (blk_below (blk1of3 _ _ _ _) hb); have HBC := Aside0.mk (blk_below (blk2of3 _ _ _ _) hb); have HBB := Aside0.mk hb; clear hb; have hA0 := five _ _ _ _ HBA.out 0; have hA1 := five _ _ _ _ HBA.out 1; have hA2 := five _ _ _ _ HBA.out 2; have hC0 := five _ _ _ _ HBC.out 0; have hC1 := five _ _ _ _ HBC.out 1; have hC2 := five _ _ _ _ HBC.out 2)
    | (go_at_call 62; refine (whole_any _ _).mono ?_; rintro e w2 ⟨rfl, rfl⟩))
  obtain ⟨W, hW⟩ : ∃ W, (((((w1.alloc (.cells #[.func (.func 63) #[] #[]] 67 (0, 0))).alloc (.cells #[.func (.func 64) #[] #[]] 67 (0, 0))).alloc (.cells #[.func (.func 65) #[] #[]] 67 (0, 0))).alloc (.cells #[.func (.func 66) #[] #[]] 67 (0, 0))).alloc (.cells #[.func (.func 60) #[] #[], .func (.func 61) #[] #[], .func (.func 107) #[] #[.pointer (some ⟨w1.heap.size, 0, none⟩)], .func (.func 107) #[] #[.pointer (some ⟨w1.heap.size + 1, 0, none⟩)], .func (.func 107) #[] #[.pointer (some ⟨w1.heap.size + 1 + 1, 0, none⟩)], .func (.func 107) #[] #[.pointer (some ⟨w1.heap.size + 1 + 1 + 1, 0, none⟩)]] 68 (0, 0))) = W := ⟨_, rfl⟩
  rw [hW]
  have I0 : Aside0 (DoInv a0 a1 a2 b0 b1 b2 w w1.heap.size 0 (.func (.func 60) #[] #[]) (w1.heap.size) (.func (.func 63) #[] #[]) W) := ⟨by
    rw [← hW]
    exact ⟨blk_alloc (blk_alloc (blk_alloc (blk_alloc (blk_alloc HBA.out _) _) _) _) _, blk_alloc (blk_alloc (blk_alloc (blk_alloc (blk_alloc HBC.out _) _) _) _) _, blk_alloc (blk_alloc (blk_alloc (blk_alloc (blk_alloc HBK.out _) _) _) _) _, ⟨_, blk5of5 _ _ _ _ _ _, rfl⟩, blk1of5 _ _ _ _ _ _, below_alloc (below_alloc (below_alloc (below_alloc (below_alloc (below_step (below_alloc (below_alloc (below_alloc (Below.refl _ _) _) _) _) HBB.out) _) _) _) _) _⟩⟩
  clear hA0 hA1 hA2 hC0 hC1 hC2 HBA HBC HBK HBB
  clear hW
  generalize w1.heap.size = g1 at *
  go_region_held3 (fun w' => w'.cell? ⟨w.heap.size, 0, none⟩ = some (.int .i64 a0) ∧ w'.cell? ⟨w.heap.size, 1, none⟩ = some (.int .i64 a1) ∧ w'.cell? ⟨w.heap.size, 2, none⟩ = some (.string a2) ∧ w'.cell? ⟨w.heap.size + 1, 0, none⟩ = some (.int .i64 b0) ∧ w'.cell? ⟨w.heap.size + 1, 1, none⟩ = some (.int .i64 b1) ∧ w'.cell? ⟨w.heap.size + 1, 2, none⟩ = some (.string b2) ∧ w'.cell? ⟨g1 + 1 + 1 + 1 + 1, 0, none⟩ = some (.func (.func 60) #[] #[]) ∧ Aside0 (DoInv a0 a1 a2 b0 b1 b2 w g1 0 (.func (.func 60) #[] #[]) (g1) (.func (.func 63) #[] #[]) w')) ((refine DoInv.cells ?_; first | exact I0.out | exact I0.out.drew | exact I0.out.drew.alloc _ | exact (I0.out.alloc _).drew | (refine DoInv.below ?_ (by assumption); first | exact I0.out.drew | exact I0.out.drew.alloc _ | exact (I0.out.alloc _).drew | exact I0.out) | (refine DoInv.alloc ?_ _; refine DoInv.below ?_ (by assumption); first | exact I0.out.drew | exact I0.out.drew.alloc _ | exact (I0.out.alloc _).drew | exact I0.out) | (refine DoInv.set I0.out (DoInv.set I0.out (DoInv.set I0.out (DoInv.set I0.out ?_ _ _) _ _) _ _) _ _; refine DoInv.below ?_ (by assumption); first | exact I0.out.drew | exact I0.out.drew.alloc _ | exact (I0.out.alloc _).drew | exact I0.out)))
    (first | (go_at_call 60; refine (val_add.calls a0 a1 a2 b0 b1 b2 r1 r2 r3 r4 _ H.out).mono ?_; rintro e w2 ⟨rfl, hb⟩; obtain ⟨hc, hf⟩ := bcell hb; have hz := hb.size; simp at hc hf hz))
  · have J : Aside0 (DoInv a0 a1 a2 b0 b1 b2 w g1 0 (.func (.func 60) #[] #[]) (g1) (.func (.func 63) #[] #[]) (w2.alloc (.cells #[.int .i64 r1, .int .i64 r2, .string r3, .int .i64 r4] 70 (0, 0)))) := ⟨by
      refine DoInv.alloc (DoInv.below ?_ hb) _
      first | exact I0.out.drew | exact I0.out⟩
    have F1 := Aside0.mk (blk_new w2 (.cells #[.int .i64 r1, .int .i64 r2, .string r3, .int .i64 r4] 70 (0, 0)))
    have hne : w2.heap.size ≠ w.heap.size + 1 + 1 := fun h => Nat.lt_irrefl _ (h ▸ Nat.lt_of_lt_of_le (blk_lt I0.out.r) (show W.heap.size ≤ w2.heap.size from hb.size))
    generalize w2.heap.size = T at *
    generalize (w2.alloc (.cells #[.int .i64 r1, .int .i64 r2, .string r3, .int .i64 r4] 70 (0, 0))) = W3 at *
    clear hc hf hz hb I0
    have hc0 := blk_cell F1.out 0
    have hc1 := blk_cell F1.out 1
    have hc2 := blk_cell F1.out 2
    have hc3 := blk_cell F1.out 3
    have hr0 := blk_cell J.out.r 0
    have hr1 := blk_cell J.out.r 1
    have hr2 := blk_cell J.out.r 2
    have hf0 := blk_frozen J.out.r 0
    have hf1 := blk_frozen J.out.r 1
    have hf2 := blk_frozen J.out.r 2
    go_wp2
    go_region
    go_wp2
    refine bodyPost_ret (results_ctt rfl _ _ (w.heap.size + 1 + 1) 23 #[.int .i64 r1, .int .i64 r2, .string r3] (0, 0) _ rfl (by
      refine blk_put (cs := #[.int .i64 r1, .int .i64 r2, .string ⟨#[]⟩]) ?_ 2 _ rfl
      refine blk_put (cs := #[.int .i64 r1, .int .i64 0, .string ⟨#[]⟩]) ?_ 1 _ rfl
      refine blk_put (cs := #[.int .i64 0, .int .i64 0, .string ⟨#[]⟩]) ?_ 0 _ rfl
      first | exact J.out.r | exact blk_drew J.out.r) Tryd.underlying23 rfl (by kernel_rfl)) rfl ?_
    exact ⟨rfl, below_set (below_set (below_set (below_drew J.out.w) (by omega)) (by omega)) (by omega)⟩
  · have J : Aside0 (DoInv a0 a1 a2 b0 b1 b2 w g1 0 (.func (.func 60) #[] #[]) (g1) (.func (.func 63) #[] #[]) ((((w2.setCell ⟨W.heap.size, 0, none⟩ (.int .i64 r1)).setCell ⟨W.heap.size, 1, none⟩ (.int .i64 r2)).setCell ⟨W.heap.size, 2, none⟩ (.string r3)).setCell ⟨W.heap.size, 3, none⟩ (.int .i64 r4))) := ⟨by
      refine DoInv.set I0.out (DoInv.set I0.out (DoInv.set I0.out (DoInv.set I0.out ?_ _ _) _ _) _ _) _ _
      refine DoInv.below ?_ hb
      first | exact I0.out.drew.alloc _ | exact (I0.out.alloc _).drew⟩
    have F1 := Aside0.mk (put70 w2 W.heap.size r1 r2 r3 r4 (blk_below (by first | exact blk_drew (blk_new W _) | exact blk_new W _ | exact blk_new W.drew _) hb))
    have hne : W.heap.size ≠ w.heap.size + 1 + 1 := fun h => Nat.lt_irrefl _ (h ▸ blk_lt I0.out.r)
    generalize W.heap.size = T at *
    generalize ((((w2.setCell ⟨T, 0, none⟩ (.int .i64 r1)).setCell ⟨T, 1, none⟩ (.int .i64 r2)).setCell ⟨T, 2, none⟩ (.string r3)).setCell ⟨T, 3, none⟩ (.int .i64 r4)) = W3 at *
    clear hc hf hz hb I0
    have hc0 := blk_cell F1.out 0
    have hc1 := blk_cell F1.out 1
    have hc2 := blk_cell F1.out 2
    have hc3 := blk_cell F1.out 3
    have hr0 := blk_cell J.out.r 0
    have hr1 := blk_cell J.out.r 1
    have hr2 := blk_cell J.out.r 2
    have hf0 := blk_frozen J.out.r 0
    have hf1 := blk_frozen J.out.r 1
    have hf2 := blk_frozen J.out.r 2
    go_wp2
    go_region
    go_wp2
    refine bodyPost_ret (results_ctt rfl _ _ (w.heap.size + 1 + 1) 23 #[.int .i64 r1, .int .i64 r2, .string r3] (0, 0) _ rfl (by
      refine blk_put (cs := #[.int .i64 r1, .int .i64 r2, .string ⟨#[]⟩]) ?_ 2 _ rfl
      refine blk_put (cs := #[.int .i64 r1, .int .i64 0, .string ⟨#[]⟩]) ?_ 1 _ rfl
      refine blk_put (cs := #[.int .i64 0, .int .i64 0, .string ⟨#[]⟩]) ?_ 0 _ rfl
      first | exact J.out.r | exact blk_drew J.out.r) Tryd.underlying23 rfl (by kernel_rfl)) rfl ?_
    exact ⟨rfl, below_set (below_set (below_set (below_drew J.out.w) (by omega)) (by omega)) (by omega)⟩
set_option maxHeartbeats 4000000 in
set_option maxRecDepth 100000 in
theorem do1 (a0 a1 : Int) (a2 : ByteArray) (b0 b1 : Int) (b2 : ByteArray) (r1 r2 : Int) (r3 : ByteArray) (r4 : Int) (w : World)
    (hb0 : val_both.f 100 a0 a1 a2 b0 b1 b2 = some 0) (ha : (a0 == 0) = false) (hb : (b0 == 0) = false) (h : val_sub.f 100 a0 a1 a2 b0 b1 b2 = some (r1, r2, r3, r4)) :
    Calls Tryd.prog 17 #[.int .i64 1, .agg #[.int .i64 a0, .int .i64 a1, .string a2], .agg #[.int .i64 b0, .int .i64 b1, .string b2]] w fun e w' =>
      e = .returned (.tuple #[.agg #[.int .i64 r1, .int .i64 r2, .string r3], .int .i64 r4, .int .i64 0]) ∧ Below w.heap.size w w' := by
  have hu23 := Tryd.underlying23
  have hu70 := Tryd.underlying70
  have hu68 := Tryd.underlying68
  have H := Aside0.mk h
  have HB0 := Aside0.mk hb0
  clear h hb0
  go_enter Tryd.func17, Tryd.ntmps17
  go_wp2_with (first
    | (go_at_call 59; refine (val_both.calls 100 a0 a1 a2 b0 b1 b2 0 _ HB0.out).mono ?_; rintro e w1 ⟨rfl, hb⟩; have HBK := Aside0.mk (blk_below (blk3 _ _ _ _) hb); have HBA := Aside0.mk (blk_below (blk1of3 _ _ _ _) hb); have HBC := Aside0.mk (blk_below (blk2of3 _ _ _ _) hb); have HBB := Aside0.mk hb; clear hb; have hA0 := five _ _ _ _ HBA.out 0; have hA1 := five _ _ _ _ HBA.out 1; have hA2 := five _ _ _ _ HBA.out 2; have hC0 := five _ _ _ _ HBC.out 0; have hC1 := five _ _ _ _ HBC.out 1; have hC2 := five _ _ _ _ HBC.out 2)
    | (go_at_call 62; refine (whole_any _ _).mono ?_; rintro e w2 ⟨rfl, rfl⟩))
  obtain ⟨W, hW⟩ : ∃ W, (((((w1.alloc (.cells #[.func (.func 63) #[] #[]] 67 (0, 0))).alloc (.cells #[.func (.func 64) #[] #[]] 67 (0, 0))).alloc (.cells #[.func (.func 65) #[] #[]] 67 (0, 0))).alloc (.cells #[.func (.func 66) #[] #[]] 67 (0, 0))).alloc (.cells #[.func (.func 60) #[] #[], .func (.func 61) #[] #[], .func (.func 107) #[] #[.pointer (some ⟨w1.heap.size, 0, none⟩)], .func (.func 107) #[] #[.pointer (some ⟨w1.heap.size + 1, 0, none⟩)], .func (.func 107) #[] #[.pointer (some ⟨w1.heap.size + 1 + 1, 0, none⟩)], .func (.func 107) #[] #[.pointer (some ⟨w1.heap.size + 1 + 1 + 1, 0, none⟩)]] 68 (0, 0))) = W := ⟨_, rfl⟩
  rw [hW]
  have I0 : Aside0 (DoInv a0 a1 a2 b0 b1 b2 w w1.heap.size 1 (.func (.func 61) #[] #[]) (w1.heap.size) (.func (.func 63) #[] #[]) W) := ⟨by
    rw [← hW]
    exact ⟨blk_alloc (blk_alloc (blk_alloc (blk_alloc (blk_alloc HBA.out _) _) _) _) _, blk_alloc (blk_alloc (blk_alloc (blk_alloc (blk_alloc HBC.out _) _) _) _) _, blk_alloc (blk_alloc (blk_alloc (blk_alloc (blk_alloc HBK.out _) _) _) _) _, ⟨_, blk5of5 _ _ _ _ _ _, rfl⟩, blk1of5 _ _ _ _ _ _, below_alloc (below_alloc (below_alloc (below_alloc (below_alloc (below_step (below_alloc (below_alloc (below_alloc (Below.refl _ _) _) _) _) HBB.out) _) _) _) _) _⟩⟩
  clear hA0 hA1 hA2 hC0 hC1 hC2 HBA HBC HBK HBB
  clear hW
  generalize w1.heap.size = g1 at *
  go_region_held3 (fun w' => w'.cell? ⟨w.heap.size, 0, none⟩ = some (.int .i64 a0) ∧ w'.cell? ⟨w.heap.size, 1, none⟩ = some (.int .i64 a1) ∧ w'.cell? ⟨w.heap.size, 2, none⟩ = some (.string a2) ∧ w'.cell? ⟨w.heap.size + 1, 0, none⟩ = some (.int .i64 b0) ∧ w'.cell? ⟨w.heap.size + 1, 1, none⟩ = some (.int .i64 b1) ∧ w'.cell? ⟨w.heap.size + 1, 2, none⟩ = some (.string b2) ∧ w'.cell? ⟨g1 + 1 + 1 + 1 + 1, 1, none⟩ = some (.func (.func 61) #[] #[]) ∧ Aside0 (DoInv a0 a1 a2 b0 b1 b2 w g1 1 (.func (.func 61) #[] #[]) (g1) (.func (.func 63) #[] #[]) w')) ((refine DoInv.cells ?_; first | exact I0.out | exact I0.out.drew | exact I0.out.drew.alloc _ | exact (I0.out.alloc _).drew | (refine DoInv.below ?_ (by assumption); first | exact I0.out.drew | exact I0.out.drew.alloc _ | exact (I0.out.alloc _).drew | exact I0.out) | (refine DoInv.alloc ?_ _; refine DoInv.below ?_ (by assumption); first | exact I0.out.drew | exact I0.out.drew.alloc _ | exact (I0.out.alloc _).drew | exact I0.out) | (refine DoInv.set I0.out (DoInv.set I0.out (DoInv.set I0.out (DoInv.set I0.out ?_ _ _) _ _) _ _) _ _; refine DoInv.below ?_ (by assumption); first | exact I0.out.drew | exact I0.out.drew.alloc _ | exact (I0.out.alloc _).drew | exact I0.out)))
    (first | (go_at_call 61; refine (val_sub.calls 100 a0 a1 a2 b0 b1 b2 r1 r2 r3 r4 _ H.out).mono ?_; rintro e w2 ⟨rfl, hb⟩; obtain ⟨hc, hf⟩ := bcell hb; have hz := hb.size; simp at hc hf hz))
  · have J : Aside0 (DoInv a0 a1 a2 b0 b1 b2 w g1 1 (.func (.func 61) #[] #[]) (g1) (.func (.func 63) #[] #[]) (w2.alloc (.cells #[.int .i64 r1, .int .i64 r2, .string r3, .int .i64 r4] 70 (0, 0)))) := ⟨by
      refine DoInv.alloc (DoInv.below ?_ hb) _
      first | exact I0.out.drew | exact I0.out⟩
    have F1 := Aside0.mk (blk_new w2 (.cells #[.int .i64 r1, .int .i64 r2, .string r3, .int .i64 r4] 70 (0, 0)))
    have hne : w2.heap.size ≠ w.heap.size + 1 + 1 := fun h => Nat.lt_irrefl _ (h ▸ Nat.lt_of_lt_of_le (blk_lt I0.out.r) (show W.heap.size ≤ w2.heap.size from hb.size))
    generalize w2.heap.size = T at *
    generalize (w2.alloc (.cells #[.int .i64 r1, .int .i64 r2, .string r3, .int .i64 r4] 70 (0, 0))) = W3 at *
    clear hc hf hz hb I0
    have hc0 := blk_cell F1.out 0
    have hc1 := blk_cell F1.out 1
    have hc2 := blk_cell F1.out 2
    have hc3 := blk_cell F1.out 3
    have hr0 := blk_cell J.out.r 0
    have hr1 := blk_cell J.out.r 1
    have hr2 := blk_cell J.out.r 2
    have hf0 := blk_frozen J.out.r 0
    have hf1 := blk_frozen J.out.r 1
    have hf2 := blk_frozen J.out.r 2
    go_wp2
    go_region
    go_wp2
    refine bodyPost_ret (results_ctt rfl _ _ (w.heap.size + 1 + 1) 23 #[.int .i64 r1, .int .i64 r2, .string r3] (0, 0) _ rfl (by
      refine blk_put (cs := #[.int .i64 r1, .int .i64 r2, .string ⟨#[]⟩]) ?_ 2 _ rfl
      refine blk_put (cs := #[.int .i64 r1, .int .i64 0, .string ⟨#[]⟩]) ?_ 1 _ rfl
      refine blk_put (cs := #[.int .i64 0, .int .i64 0, .string ⟨#[]⟩]) ?_ 0 _ rfl
      first | exact J.out.r | exact blk_drew J.out.r) Tryd.underlying23 rfl (by kernel_rfl)) rfl ?_
    exact ⟨rfl, below_set (below_set (below_set (below_drew J.out.w) (by omega)) (by omega)) (by omega)⟩
  · have J : Aside0 (DoInv a0 a1 a2 b0 b1 b2 w g1 1 (.func (.func 61) #[] #[]) (g1) (.func (.func 63) #[] #[]) ((((w2.setCell ⟨W.heap.size, 0, none⟩ (.int .i64 r1)).setCell ⟨W.heap.size, 1, none⟩ (.int .i64 r2)).setCell ⟨W.heap.size, 2, none⟩ (.string r3)).setCell ⟨W.heap.size, 3, none⟩ (.int .i64 r4))) := ⟨by
      refine DoInv.set I0.out (DoInv.set I0.out (DoInv.set I0.out (DoInv.set I0.out ?_ _ _) _ _) _ _) _ _
      refine DoInv.below ?_ hb
      first | exact I0.out.drew.alloc _ | exact (I0.out.alloc _).drew⟩
    have F1 := Aside0.mk (put70 w2 W.heap.size r1 r2 r3 r4 (blk_below (by first | exact blk_drew (blk_new W _) | exact blk_new W _ | exact blk_new W.drew _) hb))
    have hne : W.heap.size ≠ w.heap.size + 1 + 1 := fun h => Nat.lt_irrefl _ (h ▸ blk_lt I0.out.r)
    generalize W.heap.size = T at *
    generalize ((((w2.setCell ⟨T, 0, none⟩ (.int .i64 r1)).setCell ⟨T, 1, none⟩ (.int .i64 r2)).setCell ⟨T, 2, none⟩ (.string r3)).setCell ⟨T, 3, none⟩ (.int .i64 r4)) = W3 at *
    clear hc hf hz hb I0
    have hc0 := blk_cell F1.out 0
    have hc1 := blk_cell F1.out 1
    have hc2 := blk_cell F1.out 2
    have hc3 := blk_cell F1.out 3
    have hr0 := blk_cell J.out.r 0
    have hr1 := blk_cell J.out.r 1
    have hr2 := blk_cell J.out.r 2
    have hf0 := blk_frozen J.out.r 0
    have hf1 := blk_frozen J.out.r 1
    have hf2 := blk_frozen J.out.r 2
    go_wp2
    go_region
    go_wp2
    refine bodyPost_ret (results_ctt rfl _ _ (w.heap.size + 1 + 1) 23 #[.int .i64 r1, .int .i64 r2, .string r3] (0, 0) _ rfl (by
      refine blk_put (cs := #[.int .i64 r1, .int .i64 r2, .string ⟨#[]⟩]) ?_ 2 _ rfl
      refine blk_put (cs := #[.int .i64 r1, .int .i64 0, .string ⟨#[]⟩]) ?_ 1 _ rfl
      refine blk_put (cs := #[.int .i64 0, .int .i64 0, .string ⟨#[]⟩]) ?_ 0 _ rfl
      first | exact J.out.r | exact blk_drew J.out.r) Tryd.underlying23 rfl (by kernel_rfl)) rfl ?_
    exact ⟨rfl, below_set (below_set (below_set (below_drew J.out.w) (by omega)) (by omega)) (by omega)⟩
set_option maxHeartbeats 4000000 in
set_option maxRecDepth 100000 in
theorem do2 (a0 a1 : Int) (a2 : ByteArray) (b0 b1 : Int) (b2 : ByteArray) (r1 r2 : Int) (r3 : ByteArray) (r4 : Int) (w : World)
    (hb0 : val_both.f 100 a0 a1 a2 b0 b1 b2 = some 0) (ha : (a0 == 0) = false) (hb : (b0 == 0) = false) (h : wholeV63 a0 a1 b0 b1 = some (r1, r2, r3, r4)) :
    Calls Tryd.prog 17 #[.int .i64 2, .agg #[.int .i64 a0, .int .i64 a1, .string a2], .agg #[.int .i64 b0, .int .i64 b1, .string b2]] w fun e w' =>
      e = .returned (.tuple #[.agg #[.int .i64 r1, .int .i64 r2, .string r3], .int .i64 r4, .int .i64 0]) ∧ Below w.heap.size w w' := by
  have hu23 := Tryd.underlying23
  have hu70 := Tryd.underlying70
  have hu68 := Tryd.underlying68
  have H := Aside0.mk h
  have HB0 := Aside0.mk hb0
  clear h hb0
  go_enter Tryd.func17, Tryd.ntmps17
  go_wp2_with (first
    | (go_at_call 59; refine (val_both.calls 100 a0 a1 a2 b0 b1 b2 0 _ HB0.out).mono ?_; rintro e w1 ⟨rfl, hb⟩; have HBK := Aside0.mk (blk_below (blk3 _ _ _ _) hb); have HBA := Aside0.mk (blk_below (blk1of3 _ _ _ _) hb); have HBC := Aside0.mk (blk_below (blk2of3 _ _ _ _) hb); have HBB := Aside0.mk hb; clear hb; have hA0 := five _ _ _ _ HBA.out 0; have hA1 := five _ _ _ _ HBA.out 1; have hA2 := five _ _ _ _ HBA.out 2; have hC0 := five _ _ _ _ HBC.out 0; have hC1 := five _ _ _ _ HBC.out 1; have hC2 := five _ _ _ _ HBC.out 2)
    | (go_at_call 62; refine (whole_any _ _).mono ?_; rintro e w2 ⟨rfl, rfl⟩))
  obtain ⟨W, hW⟩ : ∃ W, (((((w1.alloc (.cells #[.func (.func 63) #[] #[]] 67 (0, 0))).alloc (.cells #[.func (.func 64) #[] #[]] 67 (0, 0))).alloc (.cells #[.func (.func 65) #[] #[]] 67 (0, 0))).alloc (.cells #[.func (.func 66) #[] #[]] 67 (0, 0))).alloc (.cells #[.func (.func 60) #[] #[], .func (.func 61) #[] #[], .func (.func 107) #[] #[.pointer (some ⟨w1.heap.size, 0, none⟩)], .func (.func 107) #[] #[.pointer (some ⟨w1.heap.size + 1, 0, none⟩)], .func (.func 107) #[] #[.pointer (some ⟨w1.heap.size + 1 + 1, 0, none⟩)], .func (.func 107) #[] #[.pointer (some ⟨w1.heap.size + 1 + 1 + 1, 0, none⟩)]] 68 (0, 0))) = W := ⟨_, rfl⟩
  rw [hW]
  have I0 : Aside0 (DoInv a0 a1 a2 b0 b1 b2 w w1.heap.size 2 (.func (.func 107) #[] #[.pointer (some ⟨w1.heap.size, 0, none⟩)]) (w1.heap.size) (.func (.func 63) #[] #[]) W) := ⟨by
    rw [← hW]
    exact ⟨blk_alloc (blk_alloc (blk_alloc (blk_alloc (blk_alloc HBA.out _) _) _) _) _, blk_alloc (blk_alloc (blk_alloc (blk_alloc (blk_alloc HBC.out _) _) _) _) _, blk_alloc (blk_alloc (blk_alloc (blk_alloc (blk_alloc HBK.out _) _) _) _) _, ⟨_, blk5of5 _ _ _ _ _ _, rfl⟩, blk1of5 _ _ _ _ _ _, below_alloc (below_alloc (below_alloc (below_alloc (below_alloc (below_step (below_alloc (below_alloc (below_alloc (Below.refl _ _) _) _) _) HBB.out) _) _) _) _) _⟩⟩
  clear hA0 hA1 hA2 hC0 hC1 hC2 HBA HBC HBK HBB
  clear hW
  generalize w1.heap.size = g1 at *
  go_region_held3 (fun w' => w'.cell? ⟨w.heap.size, 0, none⟩ = some (.int .i64 a0) ∧ w'.cell? ⟨w.heap.size, 1, none⟩ = some (.int .i64 a1) ∧ w'.cell? ⟨w.heap.size, 2, none⟩ = some (.string a2) ∧ w'.cell? ⟨w.heap.size + 1, 0, none⟩ = some (.int .i64 b0) ∧ w'.cell? ⟨w.heap.size + 1, 1, none⟩ = some (.int .i64 b1) ∧ w'.cell? ⟨w.heap.size + 1, 2, none⟩ = some (.string b2) ∧ w'.cell? ⟨g1 + 1 + 1 + 1 + 1, 2, none⟩ = some (.func (.func 107) #[] #[.pointer (some ⟨g1, 0, none⟩)]) ∧ Aside0 (DoInv a0 a1 a2 b0 b1 b2 w g1 2 (.func (.func 107) #[] #[.pointer (some ⟨g1, 0, none⟩)]) (g1) (.func (.func 63) #[] #[]) w')) ((refine DoInv.cells ?_; first | exact I0.out | exact I0.out.drew | exact I0.out.drew.alloc _ | exact (I0.out.alloc _).drew | (refine DoInv.below ?_ (by assumption); first | exact I0.out.drew | exact I0.out.drew.alloc _ | exact (I0.out.alloc _).drew | exact I0.out) | (refine DoInv.alloc ?_ _; refine DoInv.below ?_ (by assumption); first | exact I0.out.drew | exact I0.out.drew.alloc _ | exact (I0.out.alloc _).drew | exact I0.out) | (refine DoInv.set I0.out (DoInv.set I0.out (DoInv.set I0.out (DoInv.set I0.out ?_ _ _) _ _) _ _) _ _; refine DoInv.below ?_ (by assumption); first | exact I0.out.drew | exact I0.out.drew.alloc _ | exact (I0.out.alloc _).drew | exact I0.out)))
    (first | (go_at_call 107; refine (wholeAll63 a0 a1 a2 b0 b1 b2 (g1) r1 r2 r3 r4 _ (by first | exact blk_cell I0.out.drew.k 0 | exact blk_cell (I0.out.drew.alloc _).k 0 | exact blk_cell (I0.out.alloc _).drew.k 0) H.out).mono ?_; rintro e w2 ⟨rfl, hb⟩; obtain ⟨hc, hf⟩ := bcell hb; have hz := hb.size; simp at hc hf hz))
  · have J : Aside0 (DoInv a0 a1 a2 b0 b1 b2 w g1 2 (.func (.func 107) #[] #[.pointer (some ⟨g1, 0, none⟩)]) (g1) (.func (.func 63) #[] #[]) (w2.alloc (.cells #[.int .i64 r1, .int .i64 r2, .string r3, .int .i64 r4] 70 (0, 0)))) := ⟨by
      refine DoInv.alloc (DoInv.below ?_ hb) _
      first | exact I0.out.drew | exact I0.out⟩
    have F1 := Aside0.mk (blk_new w2 (.cells #[.int .i64 r1, .int .i64 r2, .string r3, .int .i64 r4] 70 (0, 0)))
    have hne : w2.heap.size ≠ w.heap.size + 1 + 1 := fun h => Nat.lt_irrefl _ (h ▸ Nat.lt_of_lt_of_le (blk_lt I0.out.r) (show W.heap.size ≤ w2.heap.size from hb.size))
    generalize w2.heap.size = T at *
    generalize (w2.alloc (.cells #[.int .i64 r1, .int .i64 r2, .string r3, .int .i64 r4] 70 (0, 0))) = W3 at *
    clear hc hf hz hb I0
    have hc0 := blk_cell F1.out 0
    have hc1 := blk_cell F1.out 1
    have hc2 := blk_cell F1.out 2
    have hc3 := blk_cell F1.out 3
    have hr0 := blk_cell J.out.r 0
    have hr1 := blk_cell J.out.r 1
    have hr2 := blk_cell J.out.r 2
    have hf0 := blk_frozen J.out.r 0
    have hf1 := blk_frozen J.out.r 1
    have hf2 := blk_frozen J.out.r 2
    go_wp2
    go_region
    go_wp2
    refine bodyPost_ret (results_ctt rfl _ _ (w.heap.size + 1 + 1) 23 #[.int .i64 r1, .int .i64 r2, .string r3] (0, 0) _ rfl (by
      refine blk_put (cs := #[.int .i64 r1, .int .i64 r2, .string ⟨#[]⟩]) ?_ 2 _ rfl
      refine blk_put (cs := #[.int .i64 r1, .int .i64 0, .string ⟨#[]⟩]) ?_ 1 _ rfl
      refine blk_put (cs := #[.int .i64 0, .int .i64 0, .string ⟨#[]⟩]) ?_ 0 _ rfl
      first | exact J.out.r | exact blk_drew J.out.r) Tryd.underlying23 rfl (by kernel_rfl)) rfl ?_
    exact ⟨rfl, below_set (below_set (below_set (below_drew J.out.w) (by omega)) (by omega)) (by omega)⟩
  · have J : Aside0 (DoInv a0 a1 a2 b0 b1 b2 w g1 2 (.func (.func 107) #[] #[.pointer (some ⟨g1, 0, none⟩)]) (g1) (.func (.func 63) #[] #[]) ((((w2.setCell ⟨W.heap.size, 0, none⟩ (.int .i64 r1)).setCell ⟨W.heap.size, 1, none⟩ (.int .i64 r2)).setCell ⟨W.heap.size, 2, none⟩ (.string r3)).setCell ⟨W.heap.size, 3, none⟩ (.int .i64 r4))) := ⟨by
      refine DoInv.set I0.out (DoInv.set I0.out (DoInv.set I0.out (DoInv.set I0.out ?_ _ _) _ _) _ _) _ _
      refine DoInv.below ?_ hb
      first | exact I0.out.drew.alloc _ | exact (I0.out.alloc _).drew⟩
    have F1 := Aside0.mk (put70 w2 W.heap.size r1 r2 r3 r4 (blk_below (by first | exact blk_drew (blk_new W _) | exact blk_new W _ | exact blk_new W.drew _) hb))
    have hne : W.heap.size ≠ w.heap.size + 1 + 1 := fun h => Nat.lt_irrefl _ (h ▸ blk_lt I0.out.r)
    generalize W.heap.size = T at *
    generalize ((((w2.setCell ⟨T, 0, none⟩ (.int .i64 r1)).setCell ⟨T, 1, none⟩ (.int .i64 r2)).setCell ⟨T, 2, none⟩ (.string r3)).setCell ⟨T, 3, none⟩ (.int .i64 r4)) = W3 at *
    clear hc hf hz hb I0
    have hc0 := blk_cell F1.out 0
    have hc1 := blk_cell F1.out 1
    have hc2 := blk_cell F1.out 2
    have hc3 := blk_cell F1.out 3
    have hr0 := blk_cell J.out.r 0
    have hr1 := blk_cell J.out.r 1
    have hr2 := blk_cell J.out.r 2
    have hf0 := blk_frozen J.out.r 0
    have hf1 := blk_frozen J.out.r 1
    have hf2 := blk_frozen J.out.r 2
    go_wp2
    go_region
    go_wp2
    refine bodyPost_ret (results_ctt rfl _ _ (w.heap.size + 1 + 1) 23 #[.int .i64 r1, .int .i64 r2, .string r3] (0, 0) _ rfl (by
      refine blk_put (cs := #[.int .i64 r1, .int .i64 r2, .string ⟨#[]⟩]) ?_ 2 _ rfl
      refine blk_put (cs := #[.int .i64 r1, .int .i64 0, .string ⟨#[]⟩]) ?_ 1 _ rfl
      refine blk_put (cs := #[.int .i64 0, .int .i64 0, .string ⟨#[]⟩]) ?_ 0 _ rfl
      first | exact J.out.r | exact blk_drew J.out.r) Tryd.underlying23 rfl (by kernel_rfl)) rfl ?_
    exact ⟨rfl, below_set (below_set (below_set (below_drew J.out.w) (by omega)) (by omega)) (by omega)⟩
set_option maxHeartbeats 4000000 in
set_option maxRecDepth 100000 in
theorem do3 (a0 a1 : Int) (a2 : ByteArray) (b0 b1 : Int) (b2 : ByteArray) (r1 r2 : Int) (r3 : ByteArray) (r4 : Int) (w : World)
    (hb0 : val_both.f 100 a0 a1 a2 b0 b1 b2 = some 0) (ha : (a0 == 0) = false) (hb : (b0 == 0) = false) (h : wholeV64 a0 a1 b0 b1 = some (r1, r2, r3, r4)) :
    Calls Tryd.prog 17 #[.int .i64 3, .agg #[.int .i64 a0, .int .i64 a1, .string a2], .agg #[.int .i64 b0, .int .i64 b1, .string b2]] w fun e w' =>
      e = .returned (.tuple #[.agg #[.int .i64 r1, .int .i64 r2, .string r3], .int .i64 r4, .int .i64 0]) ∧ Below w.heap.size w w' := by
  have hu23 := Tryd.underlying23
  have hu70 := Tryd.underlying70
  have hu68 := Tryd.underlying68
  have H := Aside0.mk h
  have HB0 := Aside0.mk hb0
  clear h hb0
  go_enter Tryd.func17, Tryd.ntmps17
  go_wp2_with (first
    | (go_at_call 59; refine (val_both.calls 100 a0 a1 a2 b0 b1 b2 0 _ HB0.out).mono ?_; rintro e w1 ⟨rfl, hb⟩; have HBK := Aside0.mk (blk_below (blk3 _ _ _ _) hb); have HBA := Aside0.mk (blk_below (blk1of3 _ _ _ _) hb); have HBC := Aside0.mk (blk_below (blk2of3 _ _ _ _) hb); have HBB := Aside0.mk hb; clear hb; have hA0 := five _ _ _ _ HBA.out 0; have hA1 := five _ _ _ _ HBA.out 1; have hA2 := five _ _ _ _ HBA.out 2; have hC0 := five _ _ _ _ HBC.out 0; have hC1 := five _ _ _ _ HBC.out 1; have hC2 := five _ _ _ _ HBC.out 2)
    | (go_at_call 62; refine (whole_any _ _).mono ?_; rintro e w2 ⟨rfl, rfl⟩))
  obtain ⟨W, hW⟩ : ∃ W, (((((w1.alloc (.cells #[.func (.func 63) #[] #[]] 67 (0, 0))).alloc (.cells #[.func (.func 64) #[] #[]] 67 (0, 0))).alloc (.cells #[.func (.func 65) #[] #[]] 67 (0, 0))).alloc (.cells #[.func (.func 66) #[] #[]] 67 (0, 0))).alloc (.cells #[.func (.func 60) #[] #[], .func (.func 61) #[] #[], .func (.func 107) #[] #[.pointer (some ⟨w1.heap.size, 0, none⟩)], .func (.func 107) #[] #[.pointer (some ⟨w1.heap.size + 1, 0, none⟩)], .func (.func 107) #[] #[.pointer (some ⟨w1.heap.size + 1 + 1, 0, none⟩)], .func (.func 107) #[] #[.pointer (some ⟨w1.heap.size + 1 + 1 + 1, 0, none⟩)]] 68 (0, 0))) = W := ⟨_, rfl⟩
  rw [hW]
  have I0 : Aside0 (DoInv a0 a1 a2 b0 b1 b2 w w1.heap.size 3 (.func (.func 107) #[] #[.pointer (some ⟨w1.heap.size + 1, 0, none⟩)]) (w1.heap.size + 1) (.func (.func 64) #[] #[]) W) := ⟨by
    rw [← hW]
    exact ⟨blk_alloc (blk_alloc (blk_alloc (blk_alloc (blk_alloc HBA.out _) _) _) _) _, blk_alloc (blk_alloc (blk_alloc (blk_alloc (blk_alloc HBC.out _) _) _) _) _, blk_alloc (blk_alloc (blk_alloc (blk_alloc (blk_alloc HBK.out _) _) _) _) _, ⟨_, blk5of5 _ _ _ _ _ _, rfl⟩, blk2of5 _ _ _ _ _ _, below_alloc (below_alloc (below_alloc (below_alloc (below_alloc (below_step (below_alloc (below_alloc (below_alloc (Below.refl _ _) _) _) _) HBB.out) _) _) _) _) _⟩⟩
  clear hA0 hA1 hA2 hC0 hC1 hC2 HBA HBC HBK HBB
  clear hW
  generalize w1.heap.size = g1 at *
  go_region_held3 (fun w' => w'.cell? ⟨w.heap.size, 0, none⟩ = some (.int .i64 a0) ∧ w'.cell? ⟨w.heap.size, 1, none⟩ = some (.int .i64 a1) ∧ w'.cell? ⟨w.heap.size, 2, none⟩ = some (.string a2) ∧ w'.cell? ⟨w.heap.size + 1, 0, none⟩ = some (.int .i64 b0) ∧ w'.cell? ⟨w.heap.size + 1, 1, none⟩ = some (.int .i64 b1) ∧ w'.cell? ⟨w.heap.size + 1, 2, none⟩ = some (.string b2) ∧ w'.cell? ⟨g1 + 1 + 1 + 1 + 1, 3, none⟩ = some (.func (.func 107) #[] #[.pointer (some ⟨g1 + 1, 0, none⟩)]) ∧ Aside0 (DoInv a0 a1 a2 b0 b1 b2 w g1 3 (.func (.func 107) #[] #[.pointer (some ⟨g1 + 1, 0, none⟩)]) (g1 + 1) (.func (.func 64) #[] #[]) w')) ((refine DoInv.cells ?_; first | exact I0.out | exact I0.out.drew | exact I0.out.drew.alloc _ | exact (I0.out.alloc _).drew | (refine DoInv.below ?_ (by assumption); first | exact I0.out.drew | exact I0.out.drew.alloc _ | exact (I0.out.alloc _).drew | exact I0.out) | (refine DoInv.alloc ?_ _; refine DoInv.below ?_ (by assumption); first | exact I0.out.drew | exact I0.out.drew.alloc _ | exact (I0.out.alloc _).drew | exact I0.out) | (refine DoInv.set I0.out (DoInv.set I0.out (DoInv.set I0.out (DoInv.set I0.out ?_ _ _) _ _) _ _) _ _; refine DoInv.below ?_ (by assumption); first | exact I0.out.drew | exact I0.out.drew.alloc _ | exact (I0.out.alloc _).drew | exact I0.out)))
    (first | (go_at_call 107; refine (wholeAll64 a0 a1 a2 b0 b1 b2 (g1 + 1) r1 r2 r3 r4 _ (by first | exact blk_cell I0.out.drew.k 0 | exact blk_cell (I0.out.drew.alloc _).k 0 | exact blk_cell (I0.out.alloc _).drew.k 0) H.out).mono ?_; rintro e w2 ⟨rfl, hb⟩; obtain ⟨hc, hf⟩ := bcell hb; have hz := hb.size; simp at hc hf hz))
  · have J : Aside0 (DoInv a0 a1 a2 b0 b1 b2 w g1 3 (.func (.func 107) #[] #[.pointer (some ⟨g1 + 1, 0, none⟩)]) (g1 + 1) (.func (.func 64) #[] #[]) (w2.alloc (.cells #[.int .i64 r1, .int .i64 r2, .string r3, .int .i64 r4] 70 (0, 0)))) := ⟨by
      refine DoInv.alloc (DoInv.below ?_ hb) _
      first | exact I0.out.drew | exact I0.out⟩
    have F1 := Aside0.mk (blk_new w2 (.cells #[.int .i64 r1, .int .i64 r2, .string r3, .int .i64 r4] 70 (0, 0)))
    have hne : w2.heap.size ≠ w.heap.size + 1 + 1 := fun h => Nat.lt_irrefl _ (h ▸ Nat.lt_of_lt_of_le (blk_lt I0.out.r) (show W.heap.size ≤ w2.heap.size from hb.size))
    generalize w2.heap.size = T at *
    generalize (w2.alloc (.cells #[.int .i64 r1, .int .i64 r2, .string r3, .int .i64 r4] 70 (0, 0))) = W3 at *
    clear hc hf hz hb I0
    have hc0 := blk_cell F1.out 0
    have hc1 := blk_cell F1.out 1
    have hc2 := blk_cell F1.out 2
    have hc3 := blk_cell F1.out 3
    have hr0 := blk_cell J.out.r 0
    have hr1 := blk_cell J.out.r 1
    have hr2 := blk_cell J.out.r 2
    have hf0 := blk_frozen J.out.r 0
    have hf1 := blk_frozen J.out.r 1
    have hf2 := blk_frozen J.out.r 2
    go_wp2
    go_region
    go_wp2
    refine bodyPost_ret (results_ctt rfl _ _ (w.heap.size + 1 + 1) 23 #[.int .i64 r1, .int .i64 r2, .string r3] (0, 0) _ rfl (by
      refine blk_put (cs := #[.int .i64 r1, .int .i64 r2, .string ⟨#[]⟩]) ?_ 2 _ rfl
      refine blk_put (cs := #[.int .i64 r1, .int .i64 0, .string ⟨#[]⟩]) ?_ 1 _ rfl
      refine blk_put (cs := #[.int .i64 0, .int .i64 0, .string ⟨#[]⟩]) ?_ 0 _ rfl
      first | exact J.out.r | exact blk_drew J.out.r) Tryd.underlying23 rfl (by kernel_rfl)) rfl ?_
    exact ⟨rfl, below_set (below_set (below_set (below_drew J.out.w) (by omega)) (by omega)) (by omega)⟩
  · have J : Aside0 (DoInv a0 a1 a2 b0 b1 b2 w g1 3 (.func (.func 107) #[] #[.pointer (some ⟨g1 + 1, 0, none⟩)]) (g1 + 1) (.func (.func 64) #[] #[]) ((((w2.setCell ⟨W.heap.size, 0, none⟩ (.int .i64 r1)).setCell ⟨W.heap.size, 1, none⟩ (.int .i64 r2)).setCell ⟨W.heap.size, 2, none⟩ (.string r3)).setCell ⟨W.heap.size, 3, none⟩ (.int .i64 r4))) := ⟨by
      refine DoInv.set I0.out (DoInv.set I0.out (DoInv.set I0.out (DoInv.set I0.out ?_ _ _) _ _) _ _) _ _
      refine DoInv.below ?_ hb
      first | exact I0.out.drew.alloc _ | exact (I0.out.alloc _).drew⟩
    have F1 := Aside0.mk (put70 w2 W.heap.size r1 r2 r3 r4 (blk_below (by first | exact blk_drew (blk_new W _) | exact blk_new W _ | exact blk_new W.drew _) hb))
    have hne : W.heap.size ≠ w.heap.size + 1 + 1 := fun h => Nat.lt_irrefl _ (h ▸ blk_lt I0.out.r)
    generalize W.heap.size = T at *
    generalize ((((w2.setCell ⟨T, 0, none⟩ (.int .i64 r1)).setCell ⟨T, 1, none⟩ (.int .i64 r2)).setCell ⟨T, 2, none⟩ (.string r3)).setCell ⟨T, 3, none⟩ (.int .i64 r4)) = W3 at *
    clear hc hf hz hb I0
    have hc0 := blk_cell F1.out 0
    have hc1 := blk_cell F1.out 1
    have hc2 := blk_cell F1.out 2
    have hc3 := blk_cell F1.out 3
    have hr0 := blk_cell J.out.r 0
    have hr1 := blk_cell J.out.r 1
    have hr2 := blk_cell J.out.r 2
    have hf0 := blk_frozen J.out.r 0
    have hf1 := blk_frozen J.out.r 1
    have hf2 := blk_frozen J.out.r 2
    go_wp2
    go_region
    go_wp2
    refine bodyPost_ret (results_ctt rfl _ _ (w.heap.size + 1 + 1) 23 #[.int .i64 r1, .int .i64 r2, .string r3] (0, 0) _ rfl (by
      refine blk_put (cs := #[.int .i64 r1, .int .i64 r2, .string ⟨#[]⟩]) ?_ 2 _ rfl
      refine blk_put (cs := #[.int .i64 r1, .int .i64 0, .string ⟨#[]⟩]) ?_ 1 _ rfl
      refine blk_put (cs := #[.int .i64 0, .int .i64 0, .string ⟨#[]⟩]) ?_ 0 _ rfl
      first | exact J.out.r | exact blk_drew J.out.r) Tryd.underlying23 rfl (by kernel_rfl)) rfl ?_
    exact ⟨rfl, below_set (below_set (below_set (below_drew J.out.w) (by omega)) (by omega)) (by omega)⟩
set_option maxHeartbeats 4000000 in
set_option maxRecDepth 100000 in
theorem do4 (a0 a1 : Int) (a2 : ByteArray) (b0 b1 : Int) (b2 : ByteArray) (r1 r2 : Int) (r3 : ByteArray) (r4 : Int) (w : World)
    (hb0 : val_both.f 100 a0 a1 a2 b0 b1 b2 = some 0) (ha : (a0 == 0) = false) (hb : (b0 == 0) = false) (h : wholeV65 a0 a1 b0 b1 = some (r1, r2, r3, r4)) :
    Calls Tryd.prog 17 #[.int .i64 4, .agg #[.int .i64 a0, .int .i64 a1, .string a2], .agg #[.int .i64 b0, .int .i64 b1, .string b2]] w fun e w' =>
      e = .returned (.tuple #[.agg #[.int .i64 r1, .int .i64 r2, .string r3], .int .i64 r4, .int .i64 0]) ∧ Below w.heap.size w w' := by
  have hu23 := Tryd.underlying23
  have hu70 := Tryd.underlying70
  have hu68 := Tryd.underlying68
  have H := Aside0.mk h
  have HB0 := Aside0.mk hb0
  clear h hb0
  go_enter Tryd.func17, Tryd.ntmps17
  go_wp2_with (first
    | (go_at_call 59; refine (val_both.calls 100 a0 a1 a2 b0 b1 b2 0 _ HB0.out).mono ?_; rintro e w1 ⟨rfl, hb⟩; have HBK := Aside0.mk (blk_below (blk3 _ _ _ _) hb); have HBA := Aside0.mk (blk_below (blk1of3 _ _ _ _) hb); have HBC := Aside0.mk (blk_below (blk2of3 _ _ _ _) hb); have HBB := Aside0.mk hb; clear hb; have hA0 := five _ _ _ _ HBA.out 0; have hA1 := five _ _ _ _ HBA.out 1; have hA2 := five _ _ _ _ HBA.out 2; have hC0 := five _ _ _ _ HBC.out 0; have hC1 := five _ _ _ _ HBC.out 1; have hC2 := five _ _ _ _ HBC.out 2)
    | (go_at_call 62; refine (whole_any _ _).mono ?_; rintro e w2 ⟨rfl, rfl⟩))
  obtain ⟨W, hW⟩ : ∃ W, (((((w1.alloc (.cells #[.func (.func 63) #[] #[]] 67 (0, 0))).alloc (.cells #[.func (.func 64) #[] #[]] 67 (0, 0))).alloc (.cells #[.func (.func 65) #[] #[]] 67 (0, 0))).alloc (.cells #[.func (.func 66) #[] #[]] 67 (0, 0))).alloc (.cells #[.func (.func 60) #[] #[], .func (.func 61) #[] #[], .func (.func 107) #[] #[.pointer (some ⟨w1.heap.size, 0, none⟩)], .func (.func 107) #[] #[.pointer (some ⟨w1.heap.size + 1, 0, none⟩)], .func (.func 107) #[] #[.pointer (some ⟨w1.heap.size + 1 + 1, 0, none⟩)], .func (.func 107) #[] #[.pointer (some ⟨w1.heap.size + 1 + 1 + 1, 0, none⟩)]] 68 (0, 0))) = W := ⟨_, rfl⟩
  rw [hW]
  have I0 : Aside0 (DoInv a0 a1 a2 b0 b1 b2 w w1.heap.size 4 (.func (.func 107) #[] #[.pointer (some ⟨w1.heap.size + 1 + 1, 0, none⟩)]) (w1.heap.size + 1 + 1) (.func (.func 65) #[] #[]) W) := ⟨by
    rw [← hW]
    exact ⟨blk_alloc (blk_alloc (blk_alloc (blk_alloc (blk_alloc HBA.out _) _) _) _) _, blk_alloc (blk_alloc (blk_alloc (blk_alloc (blk_alloc HBC.out _) _) _) _) _, blk_alloc (blk_alloc (blk_alloc (blk_alloc (blk_alloc HBK.out _) _) _) _) _, ⟨_, blk5of5 _ _ _ _ _ _, rfl⟩, blk3of5 _ _ _ _ _ _, below_alloc (below_alloc (below_alloc (below_alloc (below_alloc (below_step (below_alloc (below_alloc (below_alloc (Below.refl _ _) _) _) _) HBB.out) _) _) _) _) _⟩⟩
  clear hA0 hA1 hA2 hC0 hC1 hC2 HBA HBC HBK HBB
  clear hW
  generalize w1.heap.size = g1 at *
  go_region_held3 (fun w' => w'.cell? ⟨w.heap.size, 0, none⟩ = some (.int .i64 a0) ∧ w'.cell? ⟨w.heap.size, 1, none⟩ = some (.int .i64 a1) ∧ w'.cell? ⟨w.heap.size, 2, none⟩ = some (.string a2) ∧ w'.cell? ⟨w.heap.size + 1, 0, none⟩ = some (.int .i64 b0) ∧ w'.cell? ⟨w.heap.size + 1, 1, none⟩ = some (.int .i64 b1) ∧ w'.cell? ⟨w.heap.size + 1, 2, none⟩ = some (.string b2) ∧ w'.cell? ⟨g1 + 1 + 1 + 1 + 1, 4, none⟩ = some (.func (.func 107) #[] #[.pointer (some ⟨g1 + 1 + 1, 0, none⟩)]) ∧ Aside0 (DoInv a0 a1 a2 b0 b1 b2 w g1 4 (.func (.func 107) #[] #[.pointer (some ⟨g1 + 1 + 1, 0, none⟩)]) (g1 + 1 + 1) (.func (.func 65) #[] #[]) w')) ((refine DoInv.cells ?_; first | exact I0.out | exact I0.out.drew | exact I0.out.drew.alloc _ | exact (I0.out.alloc _).drew | (refine DoInv.below ?_ (by assumption); first | exact I0.out.drew | exact I0.out.drew.alloc _ | exact (I0.out.alloc _).drew | exact I0.out) | (refine DoInv.alloc ?_ _; refine DoInv.below ?_ (by assumption); first | exact I0.out.drew | exact I0.out.drew.alloc _ | exact (I0.out.alloc _).drew | exact I0.out) | (refine DoInv.set I0.out (DoInv.set I0.out (DoInv.set I0.out (DoInv.set I0.out ?_ _ _) _ _) _ _) _ _; refine DoInv.below ?_ (by assumption); first | exact I0.out.drew | exact I0.out.drew.alloc _ | exact (I0.out.alloc _).drew | exact I0.out)))
    (first | (go_at_call 107; refine (wholeAll65 a0 a1 a2 b0 b1 b2 (g1 + 1 + 1) r1 r2 r3 r4 _ (by first | exact blk_cell I0.out.drew.k 0 | exact blk_cell (I0.out.drew.alloc _).k 0 | exact blk_cell (I0.out.alloc _).drew.k 0) H.out).mono ?_; rintro e w2 ⟨rfl, hb⟩; obtain ⟨hc, hf⟩ := bcell hb; have hz := hb.size; simp at hc hf hz))
  · have J : Aside0 (DoInv a0 a1 a2 b0 b1 b2 w g1 4 (.func (.func 107) #[] #[.pointer (some ⟨g1 + 1 + 1, 0, none⟩)]) (g1 + 1 + 1) (.func (.func 65) #[] #[]) (w2.alloc (.cells #[.int .i64 r1, .int .i64 r2, .string r3, .int .i64 r4] 70 (0, 0)))) := ⟨by
      refine DoInv.alloc (DoInv.below ?_ hb) _
      first | exact I0.out.drew | exact I0.out⟩
    have F1 := Aside0.mk (blk_new w2 (.cells #[.int .i64 r1, .int .i64 r2, .string r3, .int .i64 r4] 70 (0, 0)))
    have hne : w2.heap.size ≠ w.heap.size + 1 + 1 := fun h => Nat.lt_irrefl _ (h ▸ Nat.lt_of_lt_of_le (blk_lt I0.out.r) (show W.heap.size ≤ w2.heap.size from hb.size))
    generalize w2.heap.size = T at *
    generalize (w2.alloc (.cells #[.int .i64 r1, .int .i64 r2, .string r3, .int .i64 r4] 70 (0, 0))) = W3 at *
    clear hc hf hz hb I0
    have hc0 := blk_cell F1.out 0
    have hc1 := blk_cell F1.out 1
    have hc2 := blk_cell F1.out 2
    have hc3 := blk_cell F1.out 3
    have hr0 := blk_cell J.out.r 0
    have hr1 := blk_cell J.out.r 1
    have hr2 := blk_cell J.out.r 2
    have hf0 := blk_frozen J.out.r 0
    have hf1 := blk_frozen J.out.r 1
    have hf2 := blk_frozen J.out.r 2
    go_wp2
    go_region
    go_wp2
    refine bodyPost_ret (results_ctt rfl _ _ (w.heap.size + 1 + 1) 23 #[.int .i64 r1, .int .i64 r2, .string r3] (0, 0) _ rfl (by
      refine blk_put (cs := #[.int .i64 r1, .int .i64 r2, .string ⟨#[]⟩]) ?_ 2 _ rfl
      refine blk_put (cs := #[.int .i64 r1, .int .i64 0, .string ⟨#[]⟩]) ?_ 1 _ rfl
      refine blk_put (cs := #[.int .i64 0, .int .i64 0, .string ⟨#[]⟩]) ?_ 0 _ rfl
      first | exact J.out.r | exact blk_drew J.out.r) Tryd.underlying23 rfl (by kernel_rfl)) rfl ?_
    exact ⟨rfl, below_set (below_set (below_set (below_drew J.out.w) (by omega)) (by omega)) (by omega)⟩
  · have J : Aside0 (DoInv a0 a1 a2 b0 b1 b2 w g1 4 (.func (.func 107) #[] #[.pointer (some ⟨g1 + 1 + 1, 0, none⟩)]) (g1 + 1 + 1) (.func (.func 65) #[] #[]) ((((w2.setCell ⟨W.heap.size, 0, none⟩ (.int .i64 r1)).setCell ⟨W.heap.size, 1, none⟩ (.int .i64 r2)).setCell ⟨W.heap.size, 2, none⟩ (.string r3)).setCell ⟨W.heap.size, 3, none⟩ (.int .i64 r4))) := ⟨by
      refine DoInv.set I0.out (DoInv.set I0.out (DoInv.set I0.out (DoInv.set I0.out ?_ _ _) _ _) _ _) _ _
      refine DoInv.below ?_ hb
      first | exact I0.out.drew.alloc _ | exact (I0.out.alloc _).drew⟩
    have F1 := Aside0.mk (put70 w2 W.heap.size r1 r2 r3 r4 (blk_below (by first | exact blk_drew (blk_new W _) | exact blk_new W _ | exact blk_new W.drew _) hb))
    have hne : W.heap.size ≠ w.heap.size + 1 + 1 := fun h => Nat.lt_irrefl _ (h ▸ blk_lt I0.out.r)
    generalize W.heap.size = T at *
    generalize ((((w2.setCell ⟨T, 0, none⟩ (.int .i64 r1)).setCell ⟨T, 1, none⟩ (.int .i64 r2)).setCell ⟨T, 2, none⟩ (.string r3)).setCell ⟨T, 3, none⟩ (.int .i64 r4)) = W3 at *
    clear hc hf hz hb I0
    have hc0 := blk_cell F1.out 0
    have hc1 := blk_cell F1.out 1
    have hc2 := blk_cell F1.out 2
    have hc3 := blk_cell F1.out 3
    have hr0 := blk_cell J.out.r 0
    have hr1 := blk_cell J.out.r 1
    have hr2 := blk_cell J.out.r 2
    have hf0 := blk_frozen J.out.r 0
    have hf1 := blk_frozen J.out.r 1
    have hf2 := blk_frozen J.out.r 2
    go_wp2
    go_region
    go_wp2
    refine bodyPost_ret (results_ctt rfl _ _ (w.heap.size + 1 + 1) 23 #[.int .i64 r1, .int .i64 r2, .string r3] (0, 0) _ rfl (by
      refine blk_put (cs := #[.int .i64 r1, .int .i64 r2, .string ⟨#[]⟩]) ?_ 2 _ rfl
      refine blk_put (cs := #[.int .i64 r1, .int .i64 0, .string ⟨#[]⟩]) ?_ 1 _ rfl
      refine blk_put (cs := #[.int .i64 0, .int .i64 0, .string ⟨#[]⟩]) ?_ 0 _ rfl
      first | exact J.out.r | exact blk_drew J.out.r) Tryd.underlying23 rfl (by kernel_rfl)) rfl ?_
    exact ⟨rfl, below_set (below_set (below_set (below_drew J.out.w) (by omega)) (by omega)) (by omega)⟩
set_option maxHeartbeats 4000000 in
set_option maxRecDepth 100000 in
theorem do5 (a0 a1 : Int) (a2 : ByteArray) (b0 b1 : Int) (b2 : ByteArray) (r1 r2 : Int) (r3 : ByteArray) (r4 : Int) (w : World)
    (hb0 : val_both.f 100 a0 a1 a2 b0 b1 b2 = some 0) (ha : (a0 == 0) = false) (hb : (b0 == 0) = false) (h : wholeV66 a0 a1 b0 b1 = some (r1, r2, r3, r4)) :
    Calls Tryd.prog 17 #[.int .i64 5, .agg #[.int .i64 a0, .int .i64 a1, .string a2], .agg #[.int .i64 b0, .int .i64 b1, .string b2]] w fun e w' =>
      e = .returned (.tuple #[.agg #[.int .i64 r1, .int .i64 r2, .string r3], .int .i64 r4, .int .i64 0]) ∧ Below w.heap.size w w' := by
  have hu23 := Tryd.underlying23
  have hu70 := Tryd.underlying70
  have hu68 := Tryd.underlying68
  have H := Aside0.mk h
  have HB0 := Aside0.mk hb0
  clear h hb0
  go_enter Tryd.func17, Tryd.ntmps17
  go_wp2_with (first
    | (go_at_call 59; refine (val_both.calls 100 a0 a1 a2 b0 b1 b2 0 _ HB0.out).mono ?_; rintro e w1 ⟨rfl, hb⟩; have HBK := Aside0.mk (blk_below (blk3 _ _ _ _) hb); have HBA := Aside0.mk (blk_below (blk1of3 _ _ _ _) hb); have HBC := Aside0.mk (blk_below (blk2of3 _ _ _ _) hb); have HBB := Aside0.mk hb; clear hb; have hA0 := five _ _ _ _ HBA.out 0; have hA1 := five _ _ _ _ HBA.out 1; have hA2 := five _ _ _ _ HBA.out 2; have hC0 := five _ _ _ _ HBC.out 0; have hC1 := five _ _ _ _ HBC.out 1; have hC2 := five _ _ _ _ HBC.out 2)
    | (go_at_call 62; refine (whole_any _ _).mono ?_; rintro e w2 ⟨rfl, rfl⟩))
  obtain ⟨W, hW⟩ : ∃ W, (((((w1.alloc (.cells #[.func (.func 63) #[] #[]] 67 (0, 0))).alloc (.cells #[.func (.func 64) #[] #[]] 67 (0, 0))).alloc (.cells #[.func (.func 65) #[] #[]] 67 (0, 0))).alloc (.cells #[.func (.func 66) #[] #[]] 67 (0, 0))).alloc (.cells #[.func (.func 60) #[] #[], .func (.func 61) #[] #[], .func (.func 107) #[] #[.pointer (some ⟨w1.heap.size, 0, none⟩)], .func (.func 107) #[] #[.pointer (some ⟨w1.heap.size + 1, 0, none⟩)], .func (.func 107) #[] #[.pointer (some ⟨w1.heap.size + 1 + 1, 0, none⟩)], .func (.func 107) #[] #[.pointer (some ⟨w1.heap.size + 1 + 1 + 1, 0, none⟩)]] 68 (0, 0))) = W := ⟨_, rfl⟩
  rw [hW]
  have I0 : Aside0 (DoInv a0 a1 a2 b0 b1 b2 w w1.heap.size 5 (.func (.func 107) #[] #[.pointer (some ⟨w1.heap.size + 1 + 1 + 1, 0, none⟩)]) (w1.heap.size + 1 + 1 + 1) (.func (.func 66) #[] #[]) W) := ⟨by
    rw [← hW]
    exact ⟨blk_alloc (blk_alloc (blk_alloc (blk_alloc (blk_alloc HBA.out _) _) _) _) _, blk_alloc (blk_alloc (blk_alloc (blk_alloc (blk_alloc HBC.out _) _) _) _) _, blk_alloc (blk_alloc (blk_alloc (blk_alloc (blk_alloc HBK.out _) _) _) _) _, ⟨_, blk5of5 _ _ _ _ _ _, rfl⟩, blk4of5 _ _ _ _ _ _, below_alloc (below_alloc (below_alloc (below_alloc (below_alloc (below_step (below_alloc (below_alloc (below_alloc (Below.refl _ _) _) _) _) HBB.out) _) _) _) _) _⟩⟩
  clear hA0 hA1 hA2 hC0 hC1 hC2 HBA HBC HBK HBB
  clear hW
  generalize w1.heap.size = g1 at *
  go_region_held3 (fun w' => w'.cell? ⟨w.heap.size, 0, none⟩ = some (.int .i64 a0) ∧ w'.cell? ⟨w.heap.size, 1, none⟩ = some (.int .i64 a1) ∧ w'.cell? ⟨w.heap.size, 2, none⟩ = some (.string a2) ∧ w'.cell? ⟨w.heap.size + 1, 0, none⟩ = some (.int .i64 b0) ∧ w'.cell? ⟨w.heap.size + 1, 1, none⟩ = some (.int .i64 b1) ∧ w'.cell? ⟨w.heap.size + 1, 2, none⟩ = some (.string b2) ∧ w'.cell? ⟨g1 + 1 + 1 + 1 + 1, 5, none⟩ = some (.func (.func 107) #[] #[.pointer (some ⟨g1 + 1 + 1 + 1, 0, none⟩)]) ∧ Aside0 (DoInv a0 a1 a2 b0 b1 b2 w g1 5 (.func (.func 107) #[] #[.pointer (some ⟨g1 + 1 + 1 + 1, 0, none⟩)]) (g1 + 1 + 1 + 1) (.func (.func 66) #[] #[]) w')) ((refine DoInv.cells ?_; first | exact I0.out | exact I0.out.drew | exact I0.out.drew.alloc _ | exact (I0.out.alloc _).drew | (refine DoInv.below ?_ (by assumption); first | exact I0.out.drew | exact I0.out.drew.alloc _ | exact (I0.out.alloc _).drew | exact I0.out) | (refine DoInv.alloc ?_ _; refine DoInv.below ?_ (by assumption); first | exact I0.out.drew | exact I0.out.drew.alloc _ | exact (I0.out.alloc _).drew | exact I0.out) | (refine DoInv.set I0.out (DoInv.set I0.out (DoInv.set I0.out (DoInv.set I0.out ?_ _ _) _ _) _ _) _ _; refine DoInv.below ?_ (by assumption); first | exact I0.out.drew | exact I0.out.drew.alloc _ | exact (I0.out.alloc _).drew | exact I0.out)))
    (first | (go_at_call 107; refine (wholeAll66 a0 a1 a2 b0 b1 b2 (g1 + 1 + 1 + 1) r1 r2 r3 r4 _ (by first | exact blk_cell I0.out.drew.k 0 | exact blk_cell (I0.out.drew.alloc _).k 0 | exact blk_cell (I0.out.alloc _).drew.k 0) H.out).mono ?_; rintro e w2 ⟨rfl, hb⟩; obtain ⟨hc, hf⟩ := bcell hb; have hz := hb.size; simp at hc hf hz))
  · have J : Aside0 (DoInv a0 a1 a2 b0 b1 b2 w g1 5 (.func (.func 107) #[] #[.pointer (some ⟨g1 + 1 + 1 + 1, 0, none⟩)]) (g1 + 1 + 1 + 1) (.func (.func 66) #[] #[]) (w2.alloc (.cells #[.int .i64 r1, .int .i64 r2, .string r3, .int .i64 r4] 70 (0, 0)))) := ⟨by
      refine DoInv.alloc (DoInv.below ?_ hb) _
      first | exact I0.out.drew | exact I0.out⟩
    have F1 := Aside0.mk (blk_new w2 (.cells #[.int .i64 r1, .int .i64 r2, .string r3, .int .i64 r4] 70 (0, 0)))
    have hne : w2.heap.size ≠ w.heap.size + 1 + 1 := fun h => Nat.lt_irrefl _ (h ▸ Nat.lt_of_lt_of_le (blk_lt I0.out.r) (show W.heap.size ≤ w2.heap.size from hb.size))
    generalize w2.heap.size = T at *
    generalize (w2.alloc (.cells #[.int .i64 r1, .int .i64 r2, .string r3, .int .i64 r4] 70 (0, 0))) = W3 at *
    clear hc hf hz hb I0
    have hc0 := blk_cell F1.out 0
    have hc1 := blk_cell F1.out 1
    have hc2 := blk_cell F1.out 2
    have hc3 := blk_cell F1.out 3
    have hr0 := blk_cell J.out.r 0
    have hr1 := blk_cell J.out.r 1
    have hr2 := blk_cell J.out.r 2
    have hf0 := blk_frozen J.out.r 0
    have hf1 := blk_frozen J.out.r 1
    have hf2 := blk_frozen J.out.r 2
    go_wp2
    go_region
    go_wp2
    refine bodyPost_ret (results_ctt rfl _ _ (w.heap.size + 1 + 1) 23 #[.int .i64 r1, .int .i64 r2, .string r3] (0, 0) _ rfl (by
      refine blk_put (cs := #[.int .i64 r1, .int .i64 r2, .string ⟨#[]⟩]) ?_ 2 _ rfl
      refine blk_put (cs := #[.int .i64 r1, .int .i64 0, .string ⟨#[]⟩]) ?_ 1 _ rfl
      refine blk_put (cs := #[.int .i64 0, .int .i64 0, .string ⟨#[]⟩]) ?_ 0 _ rfl
      first | exact J.out.r | exact blk_drew J.out.r) Tryd.underlying23 rfl (by kernel_rfl)) rfl ?_
    exact ⟨rfl, below_set (below_set (below_set (below_drew J.out.w) (by omega)) (by omega)) (by omega)⟩
  · have J : Aside0 (DoInv a0 a1 a2 b0 b1 b2 w g1 5 (.func (.func 107) #[] #[.pointer (some ⟨g1 + 1 + 1 + 1, 0, none⟩)]) (g1 + 1 + 1 + 1) (.func (.func 66) #[] #[]) ((((w2.setCell ⟨W.heap.size, 0, none⟩ (.int .i64 r1)).setCell ⟨W.heap.size, 1, none⟩ (.int .i64 r2)).setCell ⟨W.heap.size, 2, none⟩ (.string r3)).setCell ⟨W.heap.size, 3, none⟩ (.int .i64 r4))) := ⟨by
      refine DoInv.set I0.out (DoInv.set I0.out (DoInv.set I0.out (DoInv.set I0.out ?_ _ _) _ _) _ _) _ _
      refine DoInv.below ?_ hb
      first | exact I0.out.drew.alloc _ | exact (I0.out.alloc _).drew⟩
    have F1 := Aside0.mk (put70 w2 W.heap.size r1 r2 r3 r4 (blk_below (by first | exact blk_drew (blk_new W _) | exact blk_new W _ | exact blk_new W.drew _) hb))
    have hne : W.heap.size ≠ w.heap.size + 1 + 1 := fun h => Nat.lt_irrefl _ (h ▸ blk_lt I0.out.r)
    generalize W.heap.size = T at *
    generalize ((((w2.setCell ⟨T, 0, none⟩ (.int .i64 r1)).setCell ⟨T, 1, none⟩ (.int .i64 r2)).setCell ⟨T, 2, none⟩ (.string r3)).setCell ⟨T, 3, none⟩ (.int .i64 r4)) = W3 at *
    clear hc hf hz hb I0
    have hc0 := blk_cell F1.out 0
    have hc1 := blk_cell F1.out 1
    have hc2 := blk_cell F1.out 2
    have hc3 := blk_cell F1.out 3
    have hr0 := blk_cell J.out.r 0
    have hr1 := blk_cell J.out.r 1
    have hr2 := blk_cell J.out.r 2
    have hf0 := blk_frozen J.out.r 0
    have hf1 := blk_frozen J.out.r 1
    have hf2 := blk_frozen J.out.r 2
    go_wp2
    go_region
    go_wp2
    refine bodyPost_ret (results_ctt rfl _ _ (w.heap.size + 1 + 1) 23 #[.int .i64 r1, .int .i64 r2, .string r3] (0, 0) _ rfl (by
      refine blk_put (cs := #[.int .i64 r1, .int .i64 r2, .string ⟨#[]⟩]) ?_ 2 _ rfl
      refine blk_put (cs := #[.int .i64 r1, .int .i64 0, .string ⟨#[]⟩]) ?_ 1 _ rfl
      refine blk_put (cs := #[.int .i64 0, .int .i64 0, .string ⟨#[]⟩]) ?_ 0 _ rfl
      first | exact J.out.r | exact blk_drew J.out.r) Tryd.underlying23 rfl (by kernel_rfl)) rfl ?_
    exact ⟨rfl, below_set (below_set (below_set (below_drew J.out.w) (by omega)) (by omega)) (by omega)⟩
set_option maxHeartbeats 4000000 in
set_option maxRecDepth 100000 in
theorem doErr (op er : Int) (a0 a1 : Int) (a2 : ByteArray) (b0 b1 : Int) (b2 : ByteArray) (w : World)
    (hb0 : val_both.f 100 a0 a1 a2 b0 b1 b2 = some er) (he : (er != 0) = true) :
    Calls Tryd.prog 17 #[.int .i64 op, .agg #[.int .i64 a0, .int .i64 a1, .string a2], .agg #[.int .i64 b0, .int .i64 b1, .string b2]] w fun e w' =>
      e = .returned (.tuple #[.agg #[.int .i64 0, .int .i64 0, .string (⟨#[]⟩ : ByteArray)], .int .i64 0, .int .i64 er]) ∧ Below w.heap.size w w' := by
  have hu23 := Tryd.underlying23
  have hu68 := Tryd.underlying68
  have HB0 := Aside0.mk hb0
  clear hb0
  go_enter Tryd.func17, Tryd.ntmps17
  go_wp2_with (first
    | (go_at_call 59; refine (val_both.calls 100 a0 a1 a2 b0 b1 b2 er _ HB0.out).mono ?_; rintro e w1 ⟨rfl, hb⟩; have HBK := Aside0.mk (blk_below (blk3 _ _ _ _) hb); have HBB := Aside0.mk hb; clear hb; have hr0 := blk_cell HBK.out 0; have hr1 := blk_cell HBK.out 1; have hr2 := blk_cell HBK.out 2; have hf0 := blk_frozen HBK.out 0; have hf1 := blk_frozen HBK.out 1; have hf2 := blk_frozen HBK.out 2))
  refine bodyPost_ret (results_ctt rfl _ _ (w.heap.size + 1 + 1) 23 #[.int .i64 0, .int .i64 0, .string (⟨#[]⟩ : ByteArray)] (0, 0) _ rfl (by
    refine blk_put (cs := #[.int .i64 0, .int .i64 0, .string ⟨#[]⟩]) ?_ 2 _ rfl
    refine blk_put (cs := #[.int .i64 0, .int .i64 0, .string ⟨#[]⟩]) ?_ 1 _ rfl
    refine blk_put (cs := #[.int .i64 0, .int .i64 0, .string ⟨#[]⟩]) ?_ 0 _ rfl
    exact HBK.out) Tryd.underlying23 rfl (by kernel_rfl)) rfl ?_
  exact ⟨rfl, below_set (below_set (below_set (below_step (below_alloc (below_alloc (below_alloc (Below.refl _ _) _) _) _) HBB.out) (by omega)) (by omega)) (by omega)⟩
set_option maxHeartbeats 4000000 in
set_option maxRecDepth 100000 in
theorem doArg1 (op : Int) (a0 a1 : Int) (a2 : ByteArray) (b0 b1 : Int) (b2 : ByteArray) (w : World)
    (hb0 : val_both.f 100 a0 a1 a2 b0 b1 b2 = some 0) (ho : decide (op < 0) = true) :
    Calls Tryd.prog 17 #[.int .i64 op, .agg #[.int .i64 a0, .int .i64 a1, .string a2], .agg #[.int .i64 b0, .int .i64 b1, .string b2]] w fun e w' =>
      e = .returned (.tuple #[.agg #[.int .i64 0, .int .i64 0, .string (⟨#[]⟩ : ByteArray)], .int .i64 0, .int .i64 1]) ∧ Below w.heap.size w w' := by
  have hu23 := Tryd.underlying23
  have hu68 := Tryd.underlying68
  have HB0 := Aside0.mk hb0
  clear hb0
  go_enter Tryd.func17, Tryd.ntmps17
  go_wp2_with (first
    | (go_at_call 59; refine (val_both.calls 100 a0 a1 a2 b0 b1 b2 0 _ HB0.out).mono ?_; rintro e w1 ⟨rfl, hb⟩; have HBK := Aside0.mk (blk_below (blk3 _ _ _ _) hb); have HBA := Aside0.mk (blk_below (blk1of3 _ _ _ _) hb); have HBC := Aside0.mk (blk_below (blk2of3 _ _ _ _) hb); have HBB := Aside0.mk hb; clear hb; have hA0 := five _ _ _ _ HBA.out 0; have hA1 := five _ _ _ _ HBA.out 1; have hA2 := five _ _ _ _ HBA.out 2; have hC0 := five _ _ _ _ HBC.out 0; have hC1 := five _ _ _ _ HBC.out 1; have hC2 := five _ _ _ _ HBC.out 2; have hR0 := five _ _ _ _ HBK.out 0; have hR1 := five _ _ _ _ HBK.out 1; have hR2 := five _ _ _ _ HBK.out 2; have hRf : ∀ A B C D E i, (((((w1.alloc A).alloc B).alloc C).alloc D).alloc E).frozen? ⟨w.heap.size + 1 + 1, i, none⟩ = false := fun A B C D E i => blk_frozen (blk_alloc (blk_alloc (blk_alloc (blk_alloc (blk_alloc HBK.out A) B) C) D) E) i)
    | (go_at_call 62; refine (whole_any _ _).mono ?_; rintro e w2 ⟨rfl, rfl⟩))
  refine bodyPost_ret (results_ctt rfl _ _ (w.heap.size + 1 + 1) 23 #[.int .i64 0, .int .i64 0, .string (⟨#[]⟩ : ByteArray)] (0, 0) _ rfl (by
    refine blk_put (cs := #[.int .i64 0, .int .i64 0, .string ⟨#[]⟩]) ?_ 2 _ rfl
    refine blk_put (cs := #[.int .i64 0, .int .i64 0, .string ⟨#[]⟩]) ?_ 1 _ rfl
    refine blk_put (cs := #[.int .i64 0, .int .i64 0, .string ⟨#[]⟩]) ?_ 0 _ rfl
    exact blk_alloc (blk_alloc (blk_alloc (blk_alloc (blk_alloc HBK.out _) _) _) _) _) Tryd.underlying23 rfl (by kernel_rfl)) rfl ?_
  exact ⟨rfl, below_set (below_set (below_set (below_alloc (below_alloc (below_alloc (below_alloc (below_alloc (below_step (below_alloc (below_alloc (below_alloc (Below.refl _ _) _) _) _) HBB.out) _) _) _) _) _) (by omega)) (by omega)) (by omega)⟩
set_option maxHeartbeats 4000000 in
set_option maxRecDepth 100000 in
theorem doArg2 (op : Int) (a0 a1 : Int) (a2 : ByteArray) (b0 b1 : Int) (b2 : ByteArray) (w : World)
    (hb0 : val_both.f 100 a0 a1 a2 b0 b1 b2 = some 0) (ho : decide (op < 0) = false) (ho2 : decide (6 ≤ op) = true) :
    Calls Tryd.prog 17 #[.int .i64 op, .agg #[.int .i64 a0, .int .i64 a1, .string a2], .agg #[.int .i64 b0, .int .i64 b1, .string b2]] w fun e w' =>
      e = .returned (.tuple #[.agg #[.int .i64 0, .int .i64 0, .string (⟨#[]⟩ : ByteArray)], .int .i64 0, .int .i64 1]) ∧ Below w.heap.size w w' := by
  have hu23 := Tryd.underlying23
  have hu68 := Tryd.underlying68
  have HB0 := Aside0.mk hb0
  clear hb0
  go_enter Tryd.func17, Tryd.ntmps17
  go_wp2_with (first
    | (go_at_call 59; refine (val_both.calls 100 a0 a1 a2 b0 b1 b2 0 _ HB0.out).mono ?_; rintro e w1 ⟨rfl, hb⟩; have HBK := Aside0.mk (blk_below (blk3 _ _ _ _) hb); have HBA := Aside0.mk (blk_below (blk1of3 _ _ _ _) hb); have HBC := Aside0.mk (blk_below (blk2of3 _ _ _ _) hb); have HBB := Aside0.mk hb; clear hb; have hA0 := five _ _ _ _ HBA.out 0; have hA1 := five _ _ _ _ HBA.out 1; have hA2 := five _ _ _ _ HBA.out 2; have hC0 := five _ _ _ _ HBC.out 0; have hC1 := five _ _ _ _ HBC.out 1; have hC2 := five _ _ _ _ HBC.out 2; have hR0 := five _ _ _ _ HBK.out 0; have hR1 := five _ _ _ _ HBK.out 1; have hR2 := five _ _ _ _ HBK.out 2; have hRf : ∀ A B C D E i, (((((w1.alloc A).alloc B).alloc C).alloc D).alloc E).frozen? ⟨w.heap.size + 1 + 1, i, none⟩ = false := fun A B C D E i => blk_frozen (blk_alloc (blk_alloc (blk_alloc (blk_alloc (blk_alloc HBK.out A) B) C) D) E) i)
    | (go_at_call 62; refine (whole_any _ _).mono ?_; rintro e w2 ⟨rfl, rfl⟩))
  refine bodyPost_ret (results_ctt rfl _ _ (w.heap.size + 1 + 1) 23 #[.int .i64 0, .int .i64 0, .string (⟨#[]⟩ : ByteArray)] (0, 0) _ rfl (by
    refine blk_put (cs := #[.int .i64 0, .int .i64 0, .string ⟨#[]⟩]) ?_ 2 _ rfl
    refine blk_put (cs := #[.int .i64 0, .int .i64 0, .string ⟨#[]⟩]) ?_ 1 _ rfl
    refine blk_put (cs := #[.int .i64 0, .int .i64 0, .string ⟨#[]⟩]) ?_ 0 _ rfl
    exact blk_alloc (blk_alloc (blk_alloc (blk_alloc (blk_alloc HBK.out _) _) _) _) _) Tryd.underlying23 rfl (by kernel_rfl)) rfl ?_
  exact ⟨rfl, below_set (below_set (below_set (below_alloc (below_alloc (below_alloc (below_alloc (below_alloc (below_step (below_alloc (below_alloc (below_alloc (Below.refl _ _) _) _) _) HBB.out) _) _) _) _) _) (by omega)) (by omega)) (by omega)⟩
set_option maxHeartbeats 4000000 in
set_option maxRecDepth 100000 in
theorem doNil1 (op : Int) (a0 a1 : Int) (a2 : ByteArray) (b0 b1 : Int) (b2 : ByteArray) (w : World)
    (hb0 : val_both.f 100 a0 a1 a2 b0 b1 b2 = some 0) (ho : decide (op < 0) = false) (ho2 : decide (6 ≤ op) = false) (ha : (a0 == 0) = true) :
    Calls Tryd.prog 17 #[.int .i64 op, .agg #[.int .i64 a0, .int .i64 a1, .string a2], .agg #[.int .i64 b0, .int .i64 b1, .string b2]] w fun e w' =>
      e = .returned (.tuple #[.agg #[.int .i64 0, .int .i64 0, .string (⟨#[]⟩ : ByteArray)], .int .i64 0, .int .i64 0]) ∧ Below w.heap.size w w' := by
  have hu23 := Tryd.underlying23
  have hu68 := Tryd.underlying68
  have HB0 := Aside0.mk hb0
  clear hb0
  go_enter Tryd.func17, Tryd.ntmps17
  go_wp2_with (first
    | (go_at_call 59; refine (val_both.calls 100 a0 a1 a2 b0 b1 b2 0 _ HB0.out).mono ?_; rintro e w1 ⟨rfl, hb⟩; have HBK := Aside0.mk (blk_below (blk3 _ _ _ _) hb); have HBA := Aside0.mk (blk_below (blk1of3 _ _ _ _) hb); have HBC := Aside0.mk (blk_below (blk2of3 _ _ _ _) hb); have HBB := Aside0.mk hb; clear hb; have hA0 := five _ _ _ _ HBA.out 0; have hA1 := five _ _ _ _ HBA.out 1; have hA2 := five _ _ _ _ HBA.out 2; have hC0 := five _ _ _ _ HBC.out 0; have hC1 := five _ _ _ _ HBC.out 1; have hC2 := five _ _ _ _ HBC.out 2; have hR0 := five _ _ _ _ HBK.out 0; have hR1 := five _ _ _ _ HBK.out 1; have hR2 := five _ _ _ _ HBK.out 2; have hRf : ∀ A B C D E i, (((((w1.alloc A).alloc B).alloc C).alloc D).alloc E).frozen? ⟨w.heap.size + 1 + 1, i, none⟩ = false := fun A B C D E i => blk_frozen (blk_alloc (blk_alloc (blk_alloc (blk_alloc (blk_alloc HBK.out A) B) C) D) E) i)
    | (go_at_call 62; refine (whole_any _ _).mono ?_; rintro e w2 ⟨rfl, rfl⟩))
  refine bodyPost_ret (results_ctt rfl _ _ (w.heap.size + 1 + 1) 23 #[.int .i64 0, .int .i64 0, .string (⟨#[]⟩ : ByteArray)] (0, 0) _ rfl (by
    refine blk_put (cs := #[.int .i64 0, .int .i64 0, .string ⟨#[]⟩]) ?_ 2 _ rfl
    refine blk_put (cs := #[.int .i64 0, .int .i64 0, .string ⟨#[]⟩]) ?_ 1 _ rfl
    refine blk_put (cs := #[.int .i64 0, .int .i64 0, .string ⟨#[]⟩]) ?_ 0 _ rfl
    exact blk_alloc (blk_alloc (blk_alloc (blk_alloc (blk_alloc HBK.out _) _) _) _) _) Tryd.underlying23 rfl (by kernel_rfl)) rfl ?_
  exact ⟨rfl, below_set (below_set (below_set (below_alloc (below_alloc (below_alloc (below_alloc (below_alloc (below_step (below_alloc (below_alloc (below_alloc (Below.refl _ _) _) _) _) HBB.out) _) _) _) _) _) (by omega)) (by omega)) (by omega)⟩
set_option maxHeartbeats 4000000 in
set_option maxRecDepth 100000 in
theorem doNil2 (op : Int) (a0 a1 : Int) (a2 : ByteArray) (b0 b1 : Int) (b2 : ByteArray) (w : World)
    (hb0 : val_both.f 100 a0 a1 a2 b0 b1 b2 = some 0) (ho : decide (op < 0) = false) (ho2 : decide (6 ≤ op) = false) (ha : (a0 == 0) = false) (hb : (b0 == 0) = true) :
    Calls Tryd.prog 17 #[.int .i64 op, .agg #[.int .i64 a0, .int .i64 a1, .string a2], .agg #[.int .i64 b0, .int .i64 b1, .string b2]] w fun e w' =>
      e = .returned (.tuple #[.agg #[.int .i64 0, .int .i64 0, .string (⟨#[]⟩ : ByteArray)], .int .i64 0, .int .i64 0]) ∧ Below w.heap.size w w' := by
  have hu23 := Tryd.underlying23
  have hu68 := Tryd.underlying68
  have HB0 := Aside0.mk hb0
  clear hb0
  go_enter Tryd.func17, Tryd.ntmps17
  go_wp2_with (first
    | (go_at_call 59; refine (val_both.calls 100 a0 a1 a2 b0 b1 b2 0 _ HB0.out).mono ?_; rintro e w1 ⟨rfl, hb⟩; have HBK := Aside0.mk (blk_below (blk3 _ _ _ _) hb); have HBA := Aside0.mk (blk_below (blk1of3 _ _ _ _) hb); have HBC := Aside0.mk (blk_below (blk2of3 _ _ _ _) hb); have HBB := Aside0.mk hb; clear hb; have hA0 := five _ _ _ _ HBA.out 0; have hA1 := five _ _ _ _ HBA.out 1; have hA2 := five _ _ _ _ HBA.out 2; have hC0 := five _ _ _ _ HBC.out 0; have hC1 := five _ _ _ _ HBC.out 1; have hC2 := five _ _ _ _ HBC.out 2; have hR0 := five _ _ _ _ HBK.out 0; have hR1 := five _ _ _ _ HBK.out 1; have hR2 := five _ _ _ _ HBK.out 2; have hRf : ∀ A B C D E i, (((((w1.alloc A).alloc B).alloc C).alloc D).alloc E).frozen? ⟨w.heap.size + 1 + 1, i, none⟩ = false := fun A B C D E i => blk_frozen (blk_alloc (blk_alloc (blk_alloc (blk_alloc (blk_alloc HBK.out A) B) C) D) E) i)
    | (go_at_call 62; refine (whole_any _ _).mono ?_; rintro e w2 ⟨rfl, rfl⟩))
  refine bodyPost_ret (results_ctt rfl _ _ (w.heap.size + 1 + 1) 23 #[.int .i64 0, .int .i64 0, .string (⟨#[]⟩ : ByteArray)] (0, 0) _ rfl (by
    refine blk_put (cs := #[.int .i64 0, .int .i64 0, .string ⟨#[]⟩]) ?_ 2 _ rfl
    refine blk_put (cs := #[.int .i64 0, .int .i64 0, .string ⟨#[]⟩]) ?_ 1 _ rfl
    refine blk_put (cs := #[.int .i64 0, .int .i64 0, .string ⟨#[]⟩]) ?_ 0 _ rfl
    exact blk_alloc (blk_alloc (blk_alloc (blk_alloc (blk_alloc HBK.out _) _) _) _) _) Tryd.underlying23 rfl (by kernel_rfl)) rfl ?_
  exact ⟨rfl, below_set (below_set (below_set (below_alloc (below_alloc (below_alloc (below_alloc (below_alloc (below_step (below_alloc (below_alloc (below_alloc (Below.refl _ _) _) _) _) HBB.out) _) _) _) _) _) (by omega)) (by omega)) (by omega)⟩
def opV (op a0 a1 : Int) (a2 : ByteArray) (b0 b1 : Int) (b2 : ByteArray) : Option (Int × Int × ByteArray × Int) :=
  if op = 0 then val_add.f a0 a1 a2 b0 b1 b2 else if op = 1 then val_sub.f 100 a0 a1 a2 b0 b1 b2 else if op = 2 then wholeV63 a0 a1 b0 b1 else if op = 3 then wholeV64 a0 a1 b0 b1 else if op = 4 then wholeV65 a0 a1 b0 b1 else wholeV66 a0 a1 b0 b1
def val_Do.f (op a0 a1 : Int) (a2 : ByteArray) (b0 b1 : Int) (b2 : ByteArray) : Option (Int × Int × ByteArray × Int × Int) :=
  (val_both.f 100 a0 a1 a2 b0 b1 b2).bind fun e =>
    if e = 0 then
      if op < 0 ∨ 6 ≤ op then some (0, 0, ⟨#[]⟩, 0, 1)
      else if a0 = 0 ∨ b0 = 0 then some (0, 0, ⟨#[]⟩, 0, 0)
      else (opV op a0 a1 a2 b0 b1 b2).bind fun r => some (r.1, r.2.1, r.2.2.1, r.2.2.2, 0)
    else some (0, 0, ⟨#[]⟩, 0, e)
theorem val_Do.calls (op a0 a1 : Int) (a2 : ByteArray) (b0 b1 : Int) (b2 : ByteArray) (r1 r2 : Int) (r3 : ByteArray) (r4 r5 : Int) (w : World) (h : val_Do.f op a0 a1 a2 b0 b1 b2 = some (r1, r2, r3, r4, r5)) :
    Calls Tryd.prog 17 #[.int .i64 op, .agg #[.int .i64 a0, .int .i64 a1, .string a2], .agg #[.int .i64 b0, .int .i64 b1, .string b2]] w fun e w' =>
      e = .returned (.tuple #[.agg #[.int .i64 r1, .int .i64 r2, .string r3], .int .i64 r4, .int .i64 r5]) ∧ Below w.heap.size w w' := by
  unfold val_Do.f at h
  obtain ⟨er, he, h⟩ := Option.bind_eq_some_iff.mp h
  by_cases h0 : er = 0
  · subst h0
    rw [if_pos rfl] at h
    by_cases ho : op < 0 ∨ 6 ≤ op
    · rw [if_pos ho] at h
      simp only [Option.some.injEq, Prod.mk.injEq] at h
      obtain ⟨rfl, rfl, rfl, rfl, rfl⟩ := h
      by_cases h1 : op < 0
      · exact doArg1 op a0 a1 a2 b0 b1 b2 w he (decide_eq_true h1)
      · exact doArg2 op a0 a1 a2 b0 b1 b2 w he (decide_eq_false h1) (decide_eq_true (by omega))
    · rw [if_neg ho] at h
      have p1 : decide (op < 0) = false := decide_eq_false (by omega)
      have p2 : decide (6 ≤ op) = false := decide_eq_false (by omega)
      by_cases hn : a0 = 0 ∨ b0 = 0
      · rw [if_pos hn] at h
        simp only [Option.some.injEq, Prod.mk.injEq] at h
        obtain ⟨rfl, rfl, rfl, rfl, rfl⟩ := h
        by_cases ha : a0 = 0
        · exact doNil1 op a0 a1 a2 b0 b1 b2 w he p1 p2 (beq_iff_eq.mpr ha)
        · exact doNil2 op a0 a1 a2 b0 b1 b2 w he p1 p2 (beq_eq_false_iff_ne.mpr ha) (beq_iff_eq.mpr (by omega))
      · rw [if_neg hn] at h
        have q1 : (a0 == 0) = false := beq_eq_false_iff_ne.mpr (by omega)
        have q2 : (b0 == 0) = false := beq_eq_false_iff_ne.mpr (by omega)
        obtain ⟨⟨x1, x2, x3, x4⟩, hx, h⟩ := Option.bind_eq_some_iff.mp h
        simp only [Option.some.injEq, Prod.mk.injEq] at h
        obtain ⟨rfl, rfl, rfl, rfl, rfl⟩ := h
        have : op = 0 ∨ op = 1 ∨ op = 2 ∨ op = 3 ∨ op = 4 ∨ op = 5 := by omega
        rcases this with rfl | rfl | rfl | rfl | rfl | rfl
        · exact do0 a0 a1 a2 b0 b1 b2 _ _ _ _ w he q1 q2 hx
        · exact do1 a0 a1 a2 b0 b1 b2 _ _ _ _ w he q1 q2 hx
        · exact do2 a0 a1 a2 b0 b1 b2 _ _ _ _ w he q1 q2 hx
        · exact do3 a0 a1 a2 b0 b1 b2 _ _ _ _ w he q1 q2 hx
        · exact do4 a0 a1 a2 b0 b1 b2 _ _ _ _ w he q1 q2 hx
        · exact do5 a0 a1 a2 b0 b1 b2 _ _ _ _ w he q1 q2 hx
  · rw [if_neg h0] at h
    simp only [Option.some.injEq, Prod.mk.injEq] at h
    obtain ⟨rfl, rfl, rfl, rfl, rfl⟩ := h
    exact doErr op er a0 a1 a2 b0 b1 b2 w he (bne_iff_ne.mpr h0)
end Go.Proofs.YtplbjaandkdhjaaDoor.H1
