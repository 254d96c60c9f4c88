/- The walks of val.whole's closures: a function of two whole numbers made one of two values. -/
import Derived.Test.YtplbjaandkdhjaaDoorPAx4
import Derived.Test.YtplbjaandkdhjaaDoorPAx7
import Derived.Test.YtplbjaandkdhjaaDoorPAx8
import Derived.Test.YtplbjaandkdhjaaDoorPAx9
import Derived.Laws.EntriesVeiled
namespace Go.Proofs.YtplbjaandkdhjaaDoor.H1
open Go.RowKit Go.Proofs.YtplbjaandkdhjaaDoorW.PrintWords Go.Proofs.YtplbjaandkdhjaaDoorW.PrintLast Go.Proofs.YtplbjaandkdhjaaDoorW.PrintMore Go.Proofs.YtplbjaandkdhjaaDoor.PA
set_option linter.unusedVariables false
set_option linter.unusedSimpArgs false

/-- The block of the result, three blocks on. -/
theorem blk3 (w : World) (A B C : Obj) : (((w.alloc A).alloc B).alloc C).heap[w.heap.size + 1 + 1]? = some C := by
  have h := blk_new ((w.alloc A).alloc B) C
  rwa [show ((w.alloc A).alloc B).heap.size = w.heap.size + 1 + 1 by simp] at h
theorem below3 (w w1 : World) (A B C : Obj) (hb : Below (((w.alloc A).alloc B).alloc C).heap.size (((w.alloc A).alloc B).alloc C) w1) (a b c d : Value) :
    Below w.heap.size w ((((w1.setCell ⟨w.heap.size + 1 + 1, 0, none⟩ a).setCell ⟨w.heap.size + 1 + 1, 1, none⟩ b).setCell ⟨w.heap.size + 1 + 1, 2, none⟩ c).setCell ⟨w.heap.size + 1 + 1, 3, none⟩ d) := by
  have h : Below w.heap.size w w1 := below_step (below_alloc (below_alloc (below_alloc (Below.refl _ _) _) _) _) hb
  exact below_set (below_set (below_set (below_set h (by omega)) (by omega)) (by omega)) (by omega)
theorem cell_old3 (w : World) (bx : Nat) (v : Value) (hc0 : w.cell? ⟨bx, 0, none⟩ = some v) : ∀ A B C, (((w.alloc A).alloc B).alloc C).cell? ⟨bx, 0, none⟩ = some v := fun A B C => by
  have hbx := World.block_lt_of_cell? w _ hc0
  exact (Below.cell (B := w.heap.size) ((((Below.refl _ _).alloc (Nat.le_refl _) A).alloc (by simp) B).alloc (by simp; omega) C) (p := ⟨bx, 0, none⟩) hbx).trans hc0
theorem put70 (w1 : World) (g : Nat) (r1 r2 : Int) (r3 : ByteArray) (r4 : Int) (h : w1.heap[g]? = some (.cells #[.int .i64 0, .int .i64 0, .string (⟨#[]⟩ : ByteArray), .int .i64 0] 70 (0, 0))) :
    ((((w1.setCell ⟨g, 0, none⟩ (.int .i64 r1)).setCell ⟨g, 1, none⟩ (.int .i64 r2)).setCell ⟨g, 2, none⟩ (.string r3)).setCell ⟨g, 3, none⟩ (.int .i64 r4)).heap[g]? = some (.cells #[.int .i64 r1, .int .i64 r2, .string r3, .int .i64 r4] 70 (0, 0)) := by
  refine blk_put (cs := #[.int .i64 r1, .int .i64 r2, .string r3, .int .i64 0]) ?_ 3 _ rfl
  refine blk_put (cs := #[.int .i64 r1, .int .i64 r2, .string ⟨#[]⟩, .int .i64 0]) ?_ 2 _ rfl
  refine blk_put (cs := #[.int .i64 r1, .int .i64 0, .string ⟨#[]⟩, .int .i64 0]) ?_ 1 _ rfl
  exact blk_put (cs := #[.int .i64 0, .int .i64 0, .string ⟨#[]⟩, .int .i64 0]) h 0 _ rfl
set_option maxHeartbeats 4000000 in
set_option maxRecDepth 100000 in
theorem whole63 (a1 : Int) (a2 : ByteArray) (b1 : Int) (b2 : ByteArray) (bx : Nat) (k : Nat) (r1 r2 : Int) (r3 : ByteArray) (r4 : Int) (w : World)
    (hc0 : w.cell? ⟨bx, 0, none⟩ = some (.func (.func 63) #[] #[])) (h : val_mul.f k a1 b1 = some (r1, r2, r3, r4)) :
    Calls Tryd.prog 107 #[.agg #[.int .i64 2, .int .i64 a1, .string a2], .agg #[.int .i64 2, .int .i64 b1, .string b2], .pointer (some ⟨bx, 0, none⟩)] w fun e w' =>
      e = .returned (.agg #[.int .i64 r1, .int .i64 r2, .string r3, .int .i64 r4]) ∧ Below w.heap.size w w' := by
  have hu23 := Tryd.underlying23
  have hu70 := Tryd.underlying70
  have hc3 := cell_old3 w bx _ hc0
  clear hc0
  have H := Aside0.mk h
  clear h
  go_enter Tryd.func107, Tryd.ntmps107
  go_wp2_with (first
    | (go_at_call 63; refine (val_mul.calls k a1 b1 r1 r2 r3 r4 _ H.out).mono ?_; rintro e w1 ⟨rfl, hb⟩; have HBK := Aside0.mk (blk_below (blk3 _ _ _ _) hb); have HB := Aside0.mk hb; clear hb; have hcz0 := blk_cell HBK.out 0; have hcz1 := blk_cell HBK.out 1; have hcz2 := blk_cell HBK.out 2; have hcz3 := blk_cell HBK.out 3; have hf0 := blk_frozen HBK.out 0; have hf1 := blk_frozen HBK.out 1; have hf2 := blk_frozen HBK.out 2; have hf3 := blk_frozen HBK.out 3))
  refine bodyPost_ret (results_cell_row rfl _ _ (w.heap.size + 1 + 1) 70 #[.int .i64 r1, .int .i64 r2, .string r3, .int .i64 r4] (0, 0) _ rfl (put70 _ _ _ _ _ _ HBK.out) Tryd.underlying70 rfl (by kernel_rfl)) rfl ?_
  exact ⟨rfl, below3 _ _ _ _ _ HB.out _ _ _ _⟩
set_option maxHeartbeats 4000000 in
set_option maxRecDepth 100000 in
theorem whole64 (a1 : Int) (a2 : ByteArray) (b1 : Int) (b2 : ByteArray) (bx : Nat) (r1 r2 : Int) (r3 : ByteArray) (r4 : Int) (w : World)
    (hc0 : w.cell? ⟨bx, 0, none⟩ = some (.func (.func 64) #[] #[])) (h : val_div.f a1 b1 = some (r1, r2, r3, r4)) :
    Calls Tryd.prog 107 #[.agg #[.int .i64 2, .int .i64 a1, .string a2], .agg #[.int .i64 2, .int .i64 b1, .string b2], .pointer (some ⟨bx, 0, none⟩)] w fun e w' =>
      e = .returned (.agg #[.int .i64 r1, .int .i64 r2, .string r3, .int .i64 r4]) ∧ Below w.heap.size w w' := by
  have hu23 := Tryd.underlying23
  have hu70 := Tryd.underlying70
  have hc3 := cell_old3 w bx _ hc0
  clear hc0
  have H := Aside0.mk h
  clear h
  go_enter Tryd.func107, Tryd.ntmps107
  go_wp2_with (first
    | (go_at_call 64; refine (val_div.calls a1 b1 r1 r2 r3 r4 _ H.out).mono ?_; rintro e w1 ⟨rfl, hb⟩; have HBK := Aside0.mk (blk_below (blk3 _ _ _ _) hb); have HB := Aside0.mk hb; clear hb; have hcz0 := blk_cell HBK.out 0; have hcz1 := blk_cell HBK.out 1; have hcz2 := blk_cell HBK.out 2; have hcz3 := blk_cell HBK.out 3; have hf0 := blk_frozen HBK.out 0; have hf1 := blk_frozen HBK.out 1; have hf2 := blk_frozen HBK.out 2; have hf3 := blk_frozen HBK.out 3))
  refine bodyPost_ret (results_cell_row rfl _ _ (w.heap.size + 1 + 1) 70 #[.int .i64 r1, .int .i64 r2, .string r3, .int .i64 r4] (0, 0) _ rfl (put70 _ _ _ _ _ _ HBK.out) Tryd.underlying70 rfl (by kernel_rfl)) rfl ?_
  exact ⟨rfl, below3 _ _ _ _ _ HB.out _ _ _ _⟩
set_option maxHeartbeats 4000000 in
set_option maxRecDepth 100000 in
theorem whole65 (a1 : Int) (a2 : ByteArray) (b1 : Int) (b2 : ByteArray) (bx : Nat) (r1 r2 : Int) (r3 : ByteArray) (r4 : Int) (w : World)
    (hc0 : w.cell? ⟨bx, 0, none⟩ = some (.func (.func 65) #[] #[])) (h : val_mod.f a1 b1 = some (r1, r2, r3, r4)) :
    Calls Tryd.prog 107 #[.agg #[.int .i64 2, .int .i64 a1, .string a2], .agg #[.int .i64 2, .int .i64 b1, .string b2], .pointer (some ⟨bx, 0, none⟩)] w fun e w' =>
      e = .returned (.agg #[.int .i64 r1, .int .i64 r2, .string r3, .int .i64 r4]) ∧ Below w.heap.size w w' := by
  have hu23 := Tryd.underlying23
  have hu70 := Tryd.underlying70
  have hc3 := cell_old3 w bx _ hc0
  clear hc0
  have H := Aside0.mk h
  clear h
  go_enter Tryd.func107, Tryd.ntmps107
  go_wp2_with (first
    | (go_at_call 65; refine (val_mod.calls a1 b1 r1 r2 r3 r4 _ H.out).mono ?_; rintro e w1 ⟨rfl, hb⟩; have HBK := Aside0.mk (blk_below (blk3 _ _ _ _) hb); have HB := Aside0.mk hb; clear hb; have hcz0 := blk_cell HBK.out 0; have hcz1 := blk_cell HBK.out 1; have hcz2 := blk_cell HBK.out 2; have hcz3 := blk_cell HBK.out 3; have hf0 := blk_frozen HBK.out 0; have hf1 := blk_frozen HBK.out 1; have hf2 := blk_frozen HBK.out 2; have hf3 := blk_frozen HBK.out 3))
  refine bodyPost_ret (results_cell_row rfl _ _ (w.heap.size + 1 + 1) 70 #[.int .i64 r1, .int .i64 r2, .string r3, .int .i64 r4] (0, 0) _ rfl (put70 _ _ _ _ _ _ HBK.out) Tryd.underlying70 rfl (by kernel_rfl)) rfl ?_
  exact ⟨rfl, below3 _ _ _ _ _ HB.out _ _ _ _⟩
set_option maxHeartbeats 4000000 in
set_option maxRecDepth 100000 in
theorem whole66 (a1 : Int) (a2 : ByteArray) (b1 : Int) (b2 : ByteArray) (bx : Nat) (k : Nat) (r1 r2 : Int) (r3 : ByteArray) (r4 : Int) (w : World)
    (hc0 : w.cell? ⟨bx, 0, none⟩ = some (.func (.func 66) #[] #[])) (h : val_pow.f k a1 b1 = some (r1, r2, r3, r4)) :
    Calls Tryd.prog 107 #[.agg #[.int .i64 2, .int .i64 a1, .string a2], .agg #[.int .i64 2, .int .i64 b1, .string b2], .pointer (some ⟨bx, 0, none⟩)] w fun e w' =>
      e = .returned (.agg #[.int .i64 r1, .int .i64 r2, .string r3, .int .i64 r4]) ∧ Below w.heap.size w w' := by
  have hu23 := Tryd.underlying23
  have hu70 := Tryd.underlying70
  have hc3 := cell_old3 w bx _ hc0
  clear hc0
  have H := Aside0.mk h
  clear h
  go_enter Tryd.func107, Tryd.ntmps107
  go_wp2_with (first
    | (go_at_call 66; refine (val_pow.calls k a1 b1 r1 r2 r3 r4 _ H.out).mono ?_; rintro e w1 ⟨rfl, hb⟩; have HBK := Aside0.mk (blk_below (blk3 _ _ _ _) hb); have HB := Aside0.mk hb; clear hb; have hcz0 := blk_cell HBK.out 0; have hcz1 := blk_cell HBK.out 1; have hcz2 := blk_cell HBK.out 2; have hcz3 := blk_cell HBK.out 3; have hf0 := blk_frozen HBK.out 0; have hf1 := blk_frozen HBK.out 1; have hf2 := blk_frozen HBK.out 2; have hf3 := blk_frozen HBK.out 3))
  refine bodyPost_ret (results_cell_row rfl _ _ (w.heap.size + 1 + 1) 70 #[.int .i64 r1, .int .i64 r2, .string r3, .int .i64 r4] (0, 0) _ rfl (put70 _ _ _ _ _ _ HBK.out) Tryd.underlying70 rfl (by kernel_rfl)) rfl ?_
  exact ⟨rfl, below3 _ _ _ _ _ HB.out _ _ _ _⟩
set_option maxHeartbeats 4000000 in
set_option maxRecDepth 100000 in
theorem wholeNo1 (a0 : Int) (a1 : Int) (a2 : ByteArray) (b0 : Int) (b1 : Int) (b2 : ByteArray) (bx : Nat) (F : FuncId) (r1 r2 : Int) (r3 : ByteArray) (r4 : Int) (w : World)
    (hc0 : w.cell? ⟨bx, 0, none⟩ = some (.func (.func F) #[] #[])) (ha : (a0 != 2) = true) (h : val_died.f 1 = some (r1, r2, r3, r4)) :
    Calls Tryd.prog 107 #[.agg #[.int .i64 a0, .int .i64 a1, .string a2], .agg #[.int .i64 b0, .int .i64 b1, .string b2], .pointer (some ⟨bx, 0, none⟩)] w fun e w' =>
      e = .returned (.agg #[.int .i64 r1, .int .i64 r2, .string r3, .int .i64 r4]) ∧ Below w.heap.size w w' := by
  have hu23 := Tryd.underlying23
  have hu70 := Tryd.underlying70
  have hc3 := cell_old3 w bx _ hc0
  clear hc0
  have H := Aside0.mk h
  clear h
  go_enter Tryd.func107, Tryd.ntmps107
  go_wp2_with (first
    | (go_at_call 106; refine (val_died.calls 1 r1 r2 r3 r4 _ H.out).mono ?_; rintro e w1 ⟨rfl, hb⟩; have HBK := Aside0.mk (blk_below (blk3 _ _ _ _) hb); have HB := Aside0.mk hb; clear hb; have hcz0 := blk_cell HBK.out 0; have hcz1 := blk_cell HBK.out 1; have hcz2 := blk_cell HBK.out 2; have hcz3 := blk_cell HBK.out 3; have hf0 := blk_frozen HBK.out 0; have hf1 := blk_frozen HBK.out 1; have hf2 := blk_frozen HBK.out 2; have hf3 := blk_frozen HBK.out 3))
  refine bodyPost_ret (results_cell_row rfl _ _ (w.heap.size + 1 + 1) 70 #[.int .i64 r1, .int .i64 r2, .string r3, .int .i64 r4] (0, 0) _ rfl (put70 _ _ _ _ _ _ HBK.out) Tryd.underlying70 rfl (by kernel_rfl)) rfl ?_
  exact ⟨rfl, below3 _ _ _ _ _ HB.out _ _ _ _⟩
set_option maxHeartbeats 4000000 in
set_option maxRecDepth 100000 in
theorem wholeNo2 (a1 : Int) (a2 : ByteArray) (b0 : Int) (b1 : Int) (b2 : ByteArray) (bx : Nat) (F : FuncId) (r1 r2 : Int) (r3 : ByteArray) (r4 : Int) (w : World)
    (hc0 : w.cell? ⟨bx, 0, none⟩ = some (.func (.func F) #[] #[])) (hb : (b0 != 2) = true) (h : val_died.f 1 = some (r1, r2, r3, r4)) :
    Calls Tryd.prog 107 #[.agg #[.int .i64 2, .int .i64 a1, .string a2], .agg #[.int .i64 b0, .int .i64 b1, .string b2], .pointer (some ⟨bx, 0, none⟩)] w fun e w' =>
      e = .returned (.agg #[.int .i64 r1, .int .i64 r2, .string r3, .int .i64 r4]) ∧ Below w.heap.size w w' := by
  have hu23 := Tryd.underlying23
  have hu70 := Tryd.underlying70
  have hc3 := cell_old3 w bx _ hc0
  clear hc0
  have H := Aside0.mk h
  clear h
  go_enter Tryd.func107, Tryd.ntmps107
  go_wp2_with (first
    | (go_at_call 106; refine (val_died.calls 1 r1 r2 r3 r4 _ H.out).mono ?_; rintro e w1 ⟨rfl, hb⟩; have HBK := Aside0.mk (blk_below (blk3 _ _ _ _) hb); have HB := Aside0.mk hb; clear hb; have hcz0 := blk_cell HBK.out 0; have hcz1 := blk_cell HBK.out 1; have hcz2 := blk_cell HBK.out 2; have hcz3 := blk_cell HBK.out 3; have hf0 := blk_frozen HBK.out 0; have hf1 := blk_frozen HBK.out 1; have hf2 := blk_frozen HBK.out 2; have hf3 := blk_frozen HBK.out 3))
  refine bodyPost_ret (results_cell_row rfl _ _ (w.heap.size + 1 + 1) 70 #[.int .i64 r1, .int .i64 r2, .string r3, .int .i64 r4] (0, 0) _ rfl (put70 _ _ _ _ _ _ HBK.out) Tryd.underlying70 rfl (by kernel_rfl)) rfl ?_
  exact ⟨rfl, below3 _ _ _ _ _ HB.out _ _ _ _⟩
set_option maxHeartbeats 4000000 in
set_option maxRecDepth 100000 in
theorem whole_any (F : FuncId) (w : World) :
    Calls Tryd.prog 62 #[.func (.func F) #[] #[]] w fun e w' =>
      e = .returned (.func (.func 107) #[] #[.pointer (some ⟨w.heap.size, 0, none⟩)]) ∧ w' = w.alloc (.cells #[.func (.func F) #[] #[]] 67 (0, 0)) := by
  have hu67 := Tryd.underlying67
  have hmf : ∀ (fn : Fn) (first cap : Array Value) (w : World), (Instr.makeFunc fn first cap).run Tryd.prog w = .ok (.func fn first cap) w := fun _ _ _ _ => rfl
  go_enter Tryd.func62, Tryd.ntmps62
  go_wp2
  go_ret
  exact ⟨rfl, rfl⟩
end Go.Proofs.YtplbjaandkdhjaaDoor.H1
