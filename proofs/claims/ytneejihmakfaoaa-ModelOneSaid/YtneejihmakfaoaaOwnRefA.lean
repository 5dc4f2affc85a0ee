/- Walks of the reference's functions by hand: its small functions. Conditions: the reference's model is empty. Printed by gen_ref.py. -/
import Derived.Test.YtneejihmakfaoaaOwnModelO
import Derived.Deep.RegionLaw
import Derived.ArgAppend
namespace Go.Proofs.Ytneejihmakfaoaa.OwnModel
open Go.RowKit Go.Proofs.Ytneejihmakfaoaa.OwnMask Go.Proofs.Ytneejihmakfaoaa.QModelOne Go.Proofs.YtneejihmakfaoaaW.PrintWords Go.Proofs.YtneejihmakfaoaaW.PrintLast Go.Proofs.YtneejihmakfaoaaW.PrintMore
set_option linter.unusedVariables false
set_option linter.unusedSimpArgs false
theorem cellsR {w : World} {p : Nat} {a0 a1 a2 a3 a4 a5 a6 a7 a8 a9 a10 a11 a12 : Value} {t : TypeId} (h : w.heap[p]? = some (.cells #[a0, a1, a2, a3, a4, a5, a6, a7, a8, a9, a10, a11, a12] t (0, 0))) :
    w.cell? ⟨p, 0, none⟩ = some a0 ∧ w.cell? ⟨p, 1, none⟩ = some a1 ∧ w.cell? ⟨p, 2, none⟩ = some a2 ∧ w.cell? ⟨p, 3, none⟩ = some a3 ∧ w.cell? ⟨p, 4, none⟩ = some a4 ∧ w.cell? ⟨p, 5, none⟩ = some a5 ∧ w.cell? ⟨p, 6, none⟩ = some a6 ∧ w.cell? ⟨p, 7, none⟩ = some a7 ∧ w.cell? ⟨p, 8, none⟩ = some a8 ∧ w.cell? ⟨p, 9, none⟩ = some a9 ∧ w.cell? ⟨p, 10, none⟩ = some a10 ∧ w.cell? ⟨p, 11, none⟩ = some a11 ∧ w.cell? ⟨p, 12, none⟩ = some a12 :=
  ⟨(blk_cell h 0).trans rfl, (blk_cell h 1).trans rfl, (blk_cell h 2).trans rfl, (blk_cell h 3).trans rfl, (blk_cell h 4).trans rfl, (blk_cell h 5).trans rfl, (blk_cell h 6).trans rfl, (blk_cell h 7).trans rfl, (blk_cell h 8).trans rfl, (blk_cell h 9).trans rfl, (blk_cell h 10).trans rfl, (blk_cell h 11).trans rfl, (blk_cell h 12).trans rfl⟩
theorem frozR {w : World} {p : Nat} {a0 a1 a2 a3 a4 a5 a6 a7 a8 a9 a10 a11 a12 : Value} {t : TypeId} (h : w.heap[p]? = some (.cells #[a0, a1, a2, a3, a4, a5, a6, a7, a8, a9, a10, a11, a12] t (0, 0))) :
    w.frozen? ⟨p, 0, none⟩ = false ∧ w.frozen? ⟨p, 1, none⟩ = false ∧ w.frozen? ⟨p, 2, none⟩ = false ∧ w.frozen? ⟨p, 3, none⟩ = false ∧ w.frozen? ⟨p, 4, none⟩ = false ∧ w.frozen? ⟨p, 5, none⟩ = false ∧ w.frozen? ⟨p, 6, none⟩ = false ∧ w.frozen? ⟨p, 7, none⟩ = false ∧ w.frozen? ⟨p, 8, none⟩ = false ∧ w.frozen? ⟨p, 9, none⟩ = false ∧ w.frozen? ⟨p, 10, none⟩ = false ∧ w.frozen? ⟨p, 11, none⟩ = false ∧ w.frozen? ⟨p, 12, none⟩ = false :=
  ⟨blk_frozen h 0, blk_frozen h 1, blk_frozen h 2, blk_frozen h 3, blk_frozen h 4, blk_frozen h 5, blk_frozen h 6, blk_frozen h 7, blk_frozen h 8, blk_frozen h 9, blk_frozen h 10, blk_frozen h 11, blk_frozen h 12⟩
theorem put13 {W : World} {g : Nat} {t : TypeId} {a0 a1 a2 a3 a4 a5 a6 a7 a8 a9 a10 a11 a12 : Value} (b0 b1 b2 b3 b4 b5 b6 b7 b8 b9 b10 b11 b12 : Value) (h : W.heap[g]? = some (.cells #[a0, a1, a2, a3, a4, a5, a6, a7, a8, a9, a10, a11, a12] t (0, 0))) :
    (((((((((((((W.setCell ⟨g, 0, none⟩ b0).setCell ⟨g, 1, none⟩ b1).setCell ⟨g, 2, none⟩ b2).setCell ⟨g, 3, none⟩ b3).setCell ⟨g, 4, none⟩ b4).setCell ⟨g, 5, none⟩ b5).setCell ⟨g, 6, none⟩ b6).setCell ⟨g, 7, none⟩ b7).setCell ⟨g, 8, none⟩ b8).setCell ⟨g, 9, none⟩ b9).setCell ⟨g, 10, none⟩ b10).setCell ⟨g, 11, none⟩ b11).setCell ⟨g, 12, none⟩ b12).heap[g]? = some (.cells #[b0, b1, b2, b3, b4, b5, b6, b7, b8, b9, b10, b11, b12] t (0, 0)) := by
  refine blk_put (cs := #[b0, b1, b2, b3, b4, b5, b6, b7, b8, b9, b10, b11, a12]) ?_ 12 _ rfl
  refine blk_put (cs := #[b0, b1, b2, b3, b4, b5, b6, b7, b8, b9, b10, a11, a12]) ?_ 11 _ rfl
  refine blk_put (cs := #[b0, b1, b2, b3, b4, b5, b6, b7, b8, b9, a10, a11, a12]) ?_ 10 _ rfl
  refine blk_put (cs := #[b0, b1, b2, b3, b4, b5, b6, b7, b8, a9, a10, a11, a12]) ?_ 9 _ rfl
  refine blk_put (cs := #[b0, b1, b2, b3, b4, b5, b6, b7, a8, a9, a10, a11, a12]) ?_ 8 _ rfl
  refine blk_put (cs := #[b0, b1, b2, b3, b4, b5, b6, a7, a8, a9, a10, a11, a12]) ?_ 7 _ rfl
  refine blk_put (cs := #[b0, b1, b2, b3, b4, b5, a6, a7, a8, a9, a10, a11, a12]) ?_ 6 _ rfl
  refine blk_put (cs := #[b0, b1, b2, b3, b4, a5, a6, a7, a8, a9, a10, a11, a12]) ?_ 5 _ rfl
  refine blk_put (cs := #[b0, b1, b2, b3, a4, a5, a6, a7, a8, a9, a10, a11, a12]) ?_ 4 _ rfl
  refine blk_put (cs := #[b0, b1, b2, a3, a4, a5, a6, a7, a8, a9, a10, a11, a12]) ?_ 3 _ rfl
  refine blk_put (cs := #[b0, b1, a2, a3, a4, a5, a6, a7, a8, a9, a10, a11, a12]) ?_ 2 _ rfl
  refine blk_put (cs := #[b0, a1, a2, a3, a4, a5, a6, a7, a8, a9, a10, a11, a12]) ?_ 1 _ rfl
  exact blk_put h 0 _ rfl
theorem blk_put13 {W : World} {g k : Nat} {o : Obj} {b0 b1 b2 b3 b4 b5 b6 b7 b8 b9 b10 b11 b12 : Value} (h : W.heap[k]? = some o) (hn : k ≠ g) :
    (((((((((((((W.setCell ⟨g, 0, none⟩ b0).setCell ⟨g, 1, none⟩ b1).setCell ⟨g, 2, none⟩ b2).setCell ⟨g, 3, none⟩ b3).setCell ⟨g, 4, none⟩ b4).setCell ⟨g, 5, none⟩ b5).setCell ⟨g, 6, none⟩ b6).setCell ⟨g, 7, none⟩ b7).setCell ⟨g, 8, none⟩ b8).setCell ⟨g, 9, none⟩ b9).setCell ⟨g, 10, none⟩ b10).setCell ⟨g, 11, none⟩ b11).setCell ⟨g, 12, none⟩ b12).heap[k]? = some o :=
  set_other (set_other (set_other (set_other (set_other (set_other (set_other (set_other (set_other (set_other (set_other (set_other (set_other h hn) hn) hn) hn) hn) hn) hn) hn) hn) hn) hn) hn) hn
theorem cell_put13 {W : World} {g k j : Nat} {v : Value} {b0 b1 b2 b3 b4 b5 b6 b7 b8 b9 b10 b11 b12 : Value} (h : W.cell? ⟨k, j, none⟩ = some v) (hn : k ≠ g) :
    (((((((((((((W.setCell ⟨g, 0, none⟩ b0).setCell ⟨g, 1, none⟩ b1).setCell ⟨g, 2, none⟩ b2).setCell ⟨g, 3, none⟩ b3).setCell ⟨g, 4, none⟩ b4).setCell ⟨g, 5, none⟩ b5).setCell ⟨g, 6, none⟩ b6).setCell ⟨g, 7, none⟩ b7).setCell ⟨g, 8, none⟩ b8).setCell ⟨g, 9, none⟩ b9).setCell ⟨g, 10, none⟩ b10).setCell ⟨g, 11, none⟩ b11).setCell ⟨g, 12, none⟩ b12).cell? ⟨k, j, none⟩ = some v := by
  have e : ∀ (W : World) (i : Nat) (u : Value), (W.setCell ⟨g, i, none⟩ u).cell? ⟨k, j, none⟩ = W.cell? ⟨k, j, none⟩ := fun W i u => World.cell?_of_block (Below.heap_setCell _ _ _ _ hn)
  rw [e, e, e, e, e, e, e, e, e, e, e, e, e]
  exact h

theorem size40 : (Try.prog.info? 40).map (·.size) = some 13 := by kernel_rfl
theorem retR {fn : Func} {p : Tmp} (h : fn.results = #[.cell p 40]) (tmps : Array Value) (W : World) (g : Nat) (cs : Array Value) (hs : cs.size = 13) (hp : tmps.getD p undef = .pointer (some ⟨g, 0, none⟩)) (hW : W.heap[g]? = some (.cells cs 40 (0, 0))) :
    (results fn tmps).run Try.prog W = .ok (.agg cs) W :=
  results_cell_row h tmps _ g 40 cs (0, 0) _ hp hW Try.underlying40 rfl (by rw [hs]; exact size40)
theorem retRe {fn : Func} {p u : Tmp} (h : fn.results = #[.cell p 40, .tmp u]) (tmps : Array Value) (W : World) (g : Nat) (cs : Array Value) (hs : cs.size = 13) (hp : tmps.getD p undef = .pointer (some ⟨g, 0, none⟩)) (hW : W.heap[g]? = some (.cells cs 40 (0, 0))) :
    (results fn tmps).run Try.prog W = .ok (.tuple #[.agg cs, tmps.getD u undef]) W :=
  results_ct h tmps _ g 40 cs (0, 0) _ hp hW Try.underlying40 rfl (by rw [hs]; exact size40)
theorem ret51 {fn : Func} {p : Tmp} (h : fn.results = #[.cell p 51]) (tmps : Array Value) (W : World) (g : Nat) (b0 b1 b2 b3 b4 : Value) (hp : tmps.getD p undef = .pointer (some ⟨g, 0, none⟩)) (hW : W.heap[g]? = some (.cells #[b0, b1, b2, b3, b4] 51 (0, 0))) :
    (results fn tmps).run Try.prog W = .ok (.agg #[b0, b1, b2, b3, b4]) W :=
  results_cell_row h tmps _ g 51 #[b0, b1, b2, b3, b4] (0, 0) _ hp hW Try.underlying51 rfl (by kernel_rfl)

set_option maxHeartbeats 8000000 in
set_option maxRecDepth 100000 in
theorem rAccess0 (n p : Int) (w : World) : Calls Try.prog 51 #[.agg #[.int .i64 0, .int .i64 0, .int .i64 0, .int .i64 0, .int .i64 0], .int .i64 n, .int .i64 p] w fun e w' => e = .returned (.int .i64 7) ∧ Below w.heap.size w w' := by
  have hu51 := Try.underlying51
  have z0 : ∀ w : World, (w.alloc (.cells #[.int .i64 0, .int .i64 0, .int .i64 0, .int .i64 0, .int .i64 0] 51)).cell? ⟨w.heap.size, 0, none⟩ = some (.int .i64 0) := fun w => (blk_cell (blk_new w _) 0).trans rfl
  go_enter Try.func51, Try.ntmps51
  go_wp2
  go_ret
  exact ⟨rfl, below_alloc (Below.refl _ _) _⟩

set_option maxHeartbeats 8000000 in
set_option maxRecDepth 100000 in
theorem rSlot0 (p : Int) (w : World) : Calls Try.prog 50 #[.agg #[.int .i64 0, .int .i64 0, .int .i64 0, .int .i64 0, .int .i64 0], .int .i64 p] w fun e w' => e = .returned (.int .i64 7) ∧ Below w.heap.size w w' := by
  have hu51 := Try.underlying51
  obtain ⟨w1, hw1, hx, HB⟩ : ∃ w1, w.alloc (.cells #[.int .i64 0, .int .i64 0, .int .i64 0, .int .i64 0, .int .i64 0] 51) = w1 ∧ w1.heap[w.heap.size]? = some (.cells #[.int .i64 0, .int .i64 0, .int .i64 0, .int .i64 0, .int .i64 0] 51 (0, 0)) ∧ Aside0 (Below w.heap.size w w1) := ⟨_, rfl, blk_new _ _, ⟨below_alloc (Below.refl _ _) _⟩⟩
  obtain ⟨x0, x1, x2, x3, x4, _⟩ := cells5 hx
  clear hx
  go_enter Try.func50, Try.ntmps50
  go_wp2_with fail
  refine (rAccess0 16 p _).mono ?_
  rintro e w2 ⟨rfl, hb⟩
  have HE := Aside0.mk (below_step HB.out hb)
  clear hb
  go_wp2
  go_ret
  exact ⟨rfl, HE.out⟩

set_option maxHeartbeats 8000000 in
set_option maxRecDepth 100000 in
theorem rWhole0 (k0 k1 k2 k3 k4 k5 k6 k7 k8 k9 k10 : Int) (lv rv : Value) (w : World) : Calls Try.prog 47 #[.agg #[.int .i64 k0, .int .i64 k1, .int .i64 k2, .int .i64 k3, .int .i64 k4, .int .i64 k5, .int .i64 k6, .int .i64 k7, .int .i64 k8, .int .i64 k9, .int .u64 k10, lv, rv], .agg #[.int .i64 0, .int .i64 0, .int .i64 0, .int .i64 0, .int .i64 0]] w fun e w' => e = .returned (.int .i64 7) ∧ Below w.heap.size w w' := by
  have hu51 := Try.underlying51
  have hu40 := Try.underlying40
  have z0 : ∀ (w : World) (o : Obj), ((w.alloc o).alloc (.cells #[.int .i64 0, .int .i64 0, .int .i64 0, .int .i64 0, .int .i64 0] 51)).cell? ⟨w.heap.size + 1, 0, none⟩ = some (.int .i64 0) := fun w o => (blk_cell (blk_new1 w o _) 0).trans rfl
  go_enter Try.func47, Try.ntmps47
  go_wp2
  go_ret
  exact ⟨rfl, below_alloc (below_alloc (Below.refl _ _) _) _⟩

set_option maxHeartbeats 8000000 in
set_option maxRecDepth 100000 in
theorem rGood0 (k0 k1 k2 k3 k4 k5 k6 k7 k8 k9 k10 : Int) (lv rv : Value) (w : World) : Calls Try.prog 32 #[.agg #[.int .i64 k0, .int .i64 k1, .int .i64 k2, .int .i64 k3, .int .i64 k4, .int .i64 k5, .int .i64 k6, .int .i64 k7, .int .i64 k8, .int .i64 k9, .int .u64 k10, lv, rv], .agg #[.int .i64 0, .int .i64 0, .int .i64 0, .int .i64 0, .int .i64 0]] w fun e w' => e = .returned (.agg #[.int .i64 0, .int .i64 0, .int .i64 0, .int .i64 0, .int .i64 0]) ∧ Below w.heap.size w w' := by
  have hu51 := Try.underlying51
  have hu40 := Try.underlying40
  obtain ⟨w1, hw1, hx, HR, HB⟩ : ∃ w1, ((w.alloc (.cells #[.int .i64 k0, .int .i64 k1, .int .i64 k2, .int .i64 k3, .int .i64 k4, .int .i64 k5, .int .i64 k6, .int .i64 k7, .int .i64 k8, .int .i64 k9, .int .u64 k10, lv, rv] 40)).alloc (.cells #[.int .i64 0, .int .i64 0, .int .i64 0, .int .i64 0, .int .i64 0] 51)).alloc (.cells #[.int .i64 0, .int .i64 0, .int .i64 0, .int .i64 0, .int .i64 0] 51) = w1 ∧ w1.heap[w.heap.size + 1]? = some (.cells #[.int .i64 0, .int .i64 0, .int .i64 0, .int .i64 0, .int .i64 0] 51 (0, 0)) ∧ Aside0 (w1.heap[w.heap.size + 1 + 1]? = some (.cells #[.int .i64 0, .int .i64 0, .int .i64 0, .int .i64 0, .int .i64 0] 51 (0, 0))) ∧ Aside0 (Below w.heap.size w w1) := ⟨_, rfl, blk_alloc (blk_new1 _ _ _) _, ⟨blk_newb _ _ _ _⟩, ⟨below_alloc (below_alloc (below_alloc (Below.refl _ _) _) _) _⟩⟩
  obtain ⟨x0, x1, x2, x3, x4, _⟩ := cells5 hx
  obtain ⟨r0, r1, r2, r3, r4, s0, s1, s2, s3, s4⟩ := cells5 HR.out
  clear hx
  go_enter Try.func32, Try.ntmps32
  go_wp2
  refine bodyPost_ret (ret51 rfl _ _ (w.heap.size + 1 + 1) _ _ _ _ _ rfl (put5 _ _ _ _ _ HR.out)) rfl ?_
  exact ⟨rfl, below_set (below_set (below_set (below_set (below_set HB.out (by omega)) (by omega)) (by omega)) (by omega)) (by omega)⟩

set_option maxHeartbeats 8000000 in
set_option maxRecDepth 100000 in
theorem rGood1 (k0 k1 k2 k3 k4 k5 k6 k7 k8 k9 k10 : Int) (gl cap : Nat) (rv : Value) (y1 y2 y3 y4 : Int) (w : World) (hl : w.cell? ⟨gl, 3, none⟩ = some (.bool true)) : Calls Try.prog 32 #[.agg #[.int .i64 k0, .int .i64 k1, .int .i64 k2, .int .i64 k3, .int .i64 k4, .int .i64 k5, .int .i64 k6, .int .i64 k7, .int .i64 k8, .int .i64 k9, .int .u64 k10, .slice (some ⟨gl, 0, none⟩) 1 cap, rv], .agg #[.int .i64 1, .int .i64 y1, .int .i64 y2, .int .i64 y3, .int .i64 y4]] w fun e w' => e = .returned (.agg #[.int .i64 1, .int .i64 y1, .int .i64 y2, .int .i64 y3, .int .i64 y4]) ∧ Below w.heap.size w w' := by
  have hu51 := Try.underlying51
  have hu40 := Try.underlying40
  have hu37 := Try.underlying37
  have hu82 := Try.underlying82
  have hw0 : IntKind.i64.wrap 0 = 0 := by decide
  obtain ⟨w1, hw1, hm, hx, HR, HB, hl1⟩ : ∃ w1, ((w.alloc (.cells #[.int .i64 k0, .int .i64 k1, .int .i64 k2, .int .i64 k3, .int .i64 k4, .int .i64 k5, .int .i64 k6, .int .i64 k7, .int .i64 k8, .int .i64 k9, .int .u64 k10, .slice (some ⟨gl, 0, none⟩) 1 cap, rv] 40)).alloc (.cells #[.int .i64 1, .int .i64 y1, .int .i64 y2, .int .i64 y3, .int .i64 y4] 51)).alloc (.cells #[.int .i64 0, .int .i64 0, .int .i64 0, .int .i64 0, .int .i64 0] 51) = w1 ∧ w1.heap[w.heap.size]? = some (.cells #[.int .i64 k0, .int .i64 k1, .int .i64 k2, .int .i64 k3, .int .i64 k4, .int .i64 k5, .int .i64 k6, .int .i64 k7, .int .i64 k8, .int .i64 k9, .int .u64 k10, .slice (some ⟨gl, 0, none⟩) 1 cap, rv] 40 (0, 0)) ∧ w1.heap[w.heap.size + 1]? = some (.cells #[.int .i64 1, .int .i64 y1, .int .i64 y2, .int .i64 y3, .int .i64 y4] 51 (0, 0)) ∧ Aside0 (w1.heap[w.heap.size + 1 + 1]? = some (.cells #[.int .i64 0, .int .i64 0, .int .i64 0, .int .i64 0, .int .i64 0] 51 (0, 0))) ∧ Aside0 (Below w.heap.size w w1) ∧ w1.cell? ⟨gl, 3, none⟩ = some (.bool true) := ⟨_, rfl, blk_alloc (blk_alloc (blk_new _ _) _) _, blk_alloc (blk_new1 _ _ _) _, ⟨blk_newb _ _ _ _⟩, ⟨below_alloc (below_alloc (below_alloc (Below.refl _ _) _) _) _⟩, cell_alloc1 (cell_alloc2 hl _ _) _⟩
  obtain ⟨x0, x1, x2, x3, x4, _⟩ := cells5 hx
  obtain ⟨r0, r1, r2, r3, r4, s0, s1, s2, s3, s4⟩ := cells5 HR.out
  obtain ⟨hc0, hc1, hc2, hc3, hc4, hc5, hc6, hc7, hc8, hc9, hc10, hc11, hc12⟩ := cellsR hm
  clear hx hm
  go_enter Try.func32, Try.ntmps32
  go_wp2
  refine bodyPost_ret (ret51 rfl _ _ (w.heap.size + 1 + 1) _ _ _ _ _ rfl (put5 _ _ _ _ _ HR.out)) rfl ?_
  exact ⟨rfl, below_set (below_set (below_set (below_set (below_set HB.out (by omega)) (by omega)) (by omega)) (by omega)) (by omega)⟩

set_option maxHeartbeats 8000000 in
set_option maxRecDepth 100000 in
theorem rGetOut (k0 k1 k2 k3 k4 k5 k6 k7 k8 k9 k10 : Int) (lv : Value) (AR : Option Addr) (n cr : Nat) (a : Int) (hout : a < 0 ∨ (n : Int) ≤ a) (w : World) : Calls Try.prog 16 #[.agg #[.int .i64 k0, .int .i64 k1, .int .i64 k2, .int .i64 k3, .int .i64 k4, .int .i64 k5, .int .i64 k6, .int .i64 k7, .int .i64 k8, .int .i64 k9, .int .u64 k10, lv, .slice AR n cr], .int .i64 a] w fun e w' => e = .returned (.agg #[.int .i64 0, .int .i64 0, .int .i64 0, .int .i64 0, .int .i64 0]) ∧ Below w.heap.size w w' := by
  have hu51 := Try.underlying51
  have hu40 := Try.underlying40
  have hu38 := Try.underlying38
  obtain ⟨w1, hw1, hm, HR, HB⟩ : ∃ w1, (w.alloc (.cells #[.int .i64 k0, .int .i64 k1, .int .i64 k2, .int .i64 k3, .int .i64 k4, .int .i64 k5, .int .i64 k6, .int .i64 k7, .int .i64 k8, .int .i64 k9, .int .u64 k10, lv, .slice AR n cr] 40)).alloc (.cells #[.int .i64 0, .int .i64 0, .int .i64 0, .int .i64 0, .int .i64 0] 51) = w1 ∧ w1.heap[w.heap.size]? = some (.cells #[.int .i64 k0, .int .i64 k1, .int .i64 k2, .int .i64 k3, .int .i64 k4, .int .i64 k5, .int .i64 k6, .int .i64 k7, .int .i64 k8, .int .i64 k9, .int .u64 k10, lv, .slice AR n cr] 40 (0, 0)) ∧ Aside0 (w1.heap[w.heap.size + 1]? = some (.cells #[.int .i64 0, .int .i64 0, .int .i64 0, .int .i64 0, .int .i64 0] 51 (0, 0))) ∧ Aside0 (Below w.heap.size w w1) := ⟨_, rfl, blk_alloc (blk_new _ _) _, ⟨blk_new1 _ _ _⟩, ⟨below_alloc (below_alloc (Below.refl _ _) _) _⟩⟩
  obtain ⟨hc0, hc1, hc2, hc3, hc4, hc5, hc6, hc7, hc8, hc9, hc10, hc11, hc12⟩ := cellsR hm
  obtain ⟨r0, r1, r2, r3, r4, s0, s1, s2, s3, s4⟩ := cells5 HR.out
  clear hm
  by_cases c : a < 0
  · have d1 : decide (a < 0) = true := decide_eq_true c
    go_enter Try.func16, Try.ntmps16
    go_wp2
    refine bodyPost_ret (ret51 rfl _ _ (w.heap.size + 1) _ _ _ _ _ rfl (put5 _ _ _ _ _ HR.out)) rfl ?_
    exact ⟨rfl, below_set (below_set (below_set (below_set (below_set HB.out (by omega)) (by omega)) (by omega)) (by omega)) (by omega)⟩
  · have d1 : decide (a < 0) = false := decide_eq_false c
    have d2 : decide ((n : Int) ≤ a) = true := decide_eq_true (hout.resolve_left c)
    go_enter Try.func16, Try.ntmps16
    go_wp2
    refine bodyPost_ret (ret51 rfl _ _ (w.heap.size + 1) _ _ _ _ _ rfl (put5 _ _ _ _ _ HR.out)) rfl ?_
    exact ⟨rfl, below_set (below_set (below_set (below_set (below_set HB.out (by omega)) (by omega)) (by omega)) (by omega)) (by omega)⟩

set_option maxHeartbeats 8000000 in
set_option maxRecDepth 100000 in
theorem rGet0 (k0 k1 k2 k3 k4 k5 k6 k7 k8 k9 k10 : Int) (lv : Value) (gR n cr : Nat) (a : Int) (w : World) (h0 : 0 ≤ a) (h1 : a < (n : Int)) (hy : w.cell? ⟨gR, a.toNat * 5, none⟩ = some (.int .i64 0) ∧ w.cell? ⟨gR, a.toNat * 5 + 1, none⟩ = some (.int .i64 0) ∧ w.cell? ⟨gR, a.toNat * 5 + 2, none⟩ = some (.int .i64 0) ∧ w.cell? ⟨gR, a.toNat * 5 + 3, none⟩ = some (.int .i64 0) ∧ w.cell? ⟨gR, a.toNat * 5 + 4, none⟩ = some (.int .i64 0)) : Calls Try.prog 16 #[.agg #[.int .i64 k0, .int .i64 k1, .int .i64 k2, .int .i64 k3, .int .i64 k4, .int .i64 k5, .int .i64 k6, .int .i64 k7, .int .i64 k8, .int .i64 k9, .int .u64 k10, lv, .slice (some ⟨gR, 0, none⟩) n cr], .int .i64 a] w fun e w' => e = .returned (.agg #[.int .i64 0, .int .i64 0, .int .i64 0, .int .i64 0, .int .i64 0]) ∧ Below w.heap.size w w' := by
  have hu51 := Try.underlying51
  have hu40 := Try.underlying40
  have hu38 := Try.underlying38
  obtain ⟨w1, hw1, hm, HR, HB⟩ : ∃ w1, (w.alloc (.cells #[.int .i64 k0, .int .i64 k1, .int .i64 k2, .int .i64 k3, .int .i64 k4, .int .i64 k5, .int .i64 k6, .int .i64 k7, .int .i64 k8, .int .i64 k9, .int .u64 k10, lv, .slice (some ⟨gR, 0, none⟩) n cr] 40)).alloc (.cells #[.int .i64 0, .int .i64 0, .int .i64 0, .int .i64 0, .int .i64 0] 51) = w1 ∧ w1.heap[w.heap.size]? = some (.cells #[.int .i64 k0, .int .i64 k1, .int .i64 k2, .int .i64 k3, .int .i64 k4, .int .i64 k5, .int .i64 k6, .int .i64 k7, .int .i64 k8, .int .i64 k9, .int .u64 k10, lv, .slice (some ⟨gR, 0, none⟩) n cr] 40 (0, 0)) ∧ Aside0 (w1.heap[w.heap.size + 1]? = some (.cells #[.int .i64 0, .int .i64 0, .int .i64 0, .int .i64 0, .int .i64 0] 51 (0, 0))) ∧ Aside0 (Below w.heap.size w w1) := ⟨_, rfl, blk_alloc (blk_new _ _) _, ⟨blk_new1 _ _ _⟩, ⟨below_alloc (below_alloc (Below.refl _ _) _) _⟩⟩
  obtain ⟨hc0, hc1, hc2, hc3, hc4, hc5, hc6, hc7, hc8, hc9, hc10, hc11, hc12⟩ := cellsR hm
  have d1 : decide (a < 0) = false := decide_eq_false (by omega)
  have d2 : decide ((n : Int) ≤ a) = false := decide_eq_false (by omega)
  have p4 : (0 ≤ a) = True := eq_true h0
  have q4 : (a < (n : Int)) = True := eq_true h1
  obtain ⟨e0, e1, e2, e3, e4⟩ := hy
  have hbb : Below w.heap.size w w1 := HB.out
  have g0 := (hbb.cell (World.block_lt_of_cell? _ _ e0)).trans e0
  have g1 := (hbb.cell (World.block_lt_of_cell? _ _ e1)).trans e1
  have g2 := (hbb.cell (World.block_lt_of_cell? _ _ e2)).trans e2
  have g3 := (hbb.cell (World.block_lt_of_cell? _ _ e3)).trans e3
  have g4 := (hbb.cell (World.block_lt_of_cell? _ _ e4)).trans e4
  clear hm hbb
  go_enter Try.func16, Try.ntmps16
  go_upto_region 3 with fail
  go_region_law (go_simp; go_at_call 32; refine (rGood0 k0 k1 k2 k3 k4 k5 k6 k7 k8 k9 k10 _ _ _).mono ?_; rintro e w4 ⟨rfl, hb4⟩; have HK4 := Aside0.mk (show Below w1.heap.size w1 w4 from (by first | exact hb4 | exact below_step (below_drew1 (Below.refl _ _)) hb4)); obtain ⟨r0, r1, r2, r3, r4, s0, s1, s2, s3, s4⟩ := cells5 (blk_below HR.out HK4.out); clear hb4)
  all_goals
    go_wp2
    refine bodyPost_ret (ret51 rfl _ _ (w.heap.size + 1) _ _ _ _ _ rfl (by first | (with_reducible exact put5 _ _ _ _ _ (blk_below HR.out HK4.out)) | exact blk_drew (put5 _ _ _ _ _ (blk_below HR.out HK4.out)))) rfl ?_
    exact ⟨rfl, by repeat (first | (with_reducible exact below_step HB.out HK4.out) | (with_reducible apply below_drew1) | (with_reducible refine below_set ?_ (by omega)))⟩

set_option maxHeartbeats 8000000 in
set_option maxRecDepth 100000 in
theorem rGet1 (k0 k1 k2 k3 k4 k5 k6 k7 k8 k9 k10 : Int) (gl cap : Nat) (y1 y2 y3 y4 : Int) (gR n cr : Nat) (a : Int) (w : World) (hl : w.cell? ⟨gl, 3, none⟩ = some (.bool true)) (h0 : 0 ≤ a) (h1 : a < (n : Int)) (hy : w.cell? ⟨gR, a.toNat * 5, none⟩ = some (.int .i64 1) ∧ w.cell? ⟨gR, a.toNat * 5 + 1, none⟩ = some (.int .i64 y1) ∧ w.cell? ⟨gR, a.toNat * 5 + 2, none⟩ = some (.int .i64 y2) ∧ w.cell? ⟨gR, a.toNat * 5 + 3, none⟩ = some (.int .i64 y3) ∧ w.cell? ⟨gR, a.toNat * 5 + 4, none⟩ = some (.int .i64 y4)) : Calls Try.prog 16 #[.agg #[.int .i64 k0, .int .i64 k1, .int .i64 k2, .int .i64 k3, .int .i64 k4, .int .i64 k5, .int .i64 k6, .int .i64 k7, .int .i64 k8, .int .i64 k9, .int .u64 k10, .slice (some ⟨gl, 0, none⟩) 1 cap, .slice (some ⟨gR, 0, none⟩) n cr], .int .i64 a] w fun e w' => e = .returned (.agg #[.int .i64 1, .int .i64 y1, .int .i64 y2, .int .i64 y3, .int .i64 y4]) ∧ Below w.heap.size w w' := by
  have hu51 := Try.underlying51
  have hu40 := Try.underlying40
  have hu38 := Try.underlying38
  obtain ⟨w1, hw1, hm, HR, HB⟩ : ∃ w1, (w.alloc (.cells #[.int .i64 k0, .int .i64 k1, .int .i64 k2, .int .i64 k3, .int .i64 k4, .int .i64 k5, .int .i64 k6, .int .i64 k7, .int .i64 k8, .int .i64 k9, .int .u64 k10, .slice (some ⟨gl, 0, none⟩) 1 cap, .slice (some ⟨gR, 0, none⟩) n cr] 40)).alloc (.cells #[.int .i64 0, .int .i64 0, .int .i64 0, .int .i64 0, .int .i64 0] 51) = w1 ∧ w1.heap[w.heap.size]? = some (.cells #[.int .i64 k0, .int .i64 k1, .int .i64 k2, .int .i64 k3, .int .i64 k4, .int .i64 k5, .int .i64 k6, .int .i64 k7, .int .i64 k8, .int .i64 k9, .int .u64 k10, .slice (some ⟨gl, 0, none⟩) 1 cap, .slice (some ⟨gR, 0, none⟩) n cr] 40 (0, 0)) ∧ Aside0 (w1.heap[w.heap.size + 1]? = some (.cells #[.int .i64 0, .int .i64 0, .int .i64 0, .int .i64 0, .int .i64 0] 51 (0, 0))) ∧ Aside0 (Below w.heap.size w w1) := ⟨_, rfl, blk_alloc (blk_new _ _) _, ⟨blk_new1 _ _ _⟩, ⟨below_alloc (below_alloc (Below.refl _ _) _) _⟩⟩
  obtain ⟨hc0, hc1, hc2, hc3, hc4, hc5, hc6, hc7, hc8, hc9, hc10, hc11, hc12⟩ := cellsR hm
  have d1 : decide (a < 0) = false := decide_eq_false (by omega)
  have d2 : decide ((n : Int) ≤ a) = false := decide_eq_false (by omega)
  have p4 : (0 ≤ a) = True := eq_true h0
  have q4 : (a < (n : Int)) = True := eq_true h1
  obtain ⟨e0, e1, e2, e3, e4⟩ := hy
  have hbb : Below w.heap.size w w1 := HB.out
  have g0 := (hbb.cell (World.block_lt_of_cell? _ _ e0)).trans e0
  have g1 := (hbb.cell (World.block_lt_of_cell? _ _ e1)).trans e1
  have g2 := (hbb.cell (World.block_lt_of_cell? _ _ e2)).trans e2
  have g3 := (hbb.cell (World.block_lt_of_cell? _ _ e3)).trans e3
  have g4 := (hbb.cell (World.block_lt_of_cell? _ _ e4)).trans e4
  have HL := Aside0.mk ((hbb.cell (World.block_lt_of_cell? _ _ hl)).trans hl)
  clear hm hbb hl
  go_enter Try.func16, Try.ntmps16
  go_upto_region 3 with fail
  go_region_law (go_simp; go_at_call 32; refine (rGood1 k0 k1 k2 k3 k4 k5 k6 k7 k8 k9 k10 gl cap _ y1 y2 y3 y4 _ (by first | exact HL.out | exact HL.out)).mono ?_; rintro e w4 ⟨rfl, hb4⟩; have HK4 := Aside0.mk (show Below w1.heap.size w1 w4 from (by first | exact hb4 | exact below_step (below_drew1 (Below.refl _ _)) hb4)); obtain ⟨r0, r1, r2, r3, r4, s0, s1, s2, s3, s4⟩ := cells5 (blk_below HR.out HK4.out); clear hb4)
  all_goals
    go_wp2
    refine bodyPost_ret (ret51 rfl _ _ (w.heap.size + 1) _ _ _ _ _ rfl (by first | (with_reducible exact put5 _ _ _ _ _ (blk_below HR.out HK4.out)) | exact blk_drew (put5 _ _ _ _ _ (blk_below HR.out HK4.out)))) rfl ?_
    exact ⟨rfl, by repeat (first | (with_reducible exact below_step HB.out HK4.out) | (with_reducible apply below_drew1) | (with_reducible refine below_set ?_ (by omega)))⟩

/-- What a new chunk is refused for, by the reference. -/
def askFull (t m a n : Int) (fu : Bool) : Int := if askOf t m a n ≠ 0 then askOf t m a n else if fu = true then 13 else 0
set_option maxHeartbeats 8000000 in
set_option maxRecDepth 100000 in
theorem rAsk (k0 k1 k2 k3 k4 k5 k6 k7 k8 k9 k10 : Int) (lv rv : Value) (a n : Int) (fu : Bool) (x : Int) (w : World) (hx : askFull k3 k8 a n fu = x) : Calls Try.prog 45 #[.agg #[.int .i64 k0, .int .i64 k1, .int .i64 k2, .int .i64 k3, .int .i64 k4, .int .i64 k5, .int .i64 k6, .int .i64 k7, .int .i64 k8, .int .i64 k9, .int .u64 k10, lv, rv], .int .i64 a, .int .i64 n, .bool fu] w fun e w' => e = .returned (.int .i64 x) ∧ Below w.heap.size w w' := by
  subst hx
  have hu40 := Try.underlying40
  have hu29 := Try.underlying29
  obtain ⟨w1, hw1, hm, HB⟩ : ∃ w1, w.alloc (.cells #[.int .i64 k0, .int .i64 k1, .int .i64 k2, .int .i64 k3, .int .i64 k4, .int .i64 k5, .int .i64 k6, .int .i64 k7, .int .i64 k8, .int .i64 k9, .int .u64 k10, lv, rv] 40) = w1 ∧ w1.heap[w.heap.size]? = some (.cells #[.int .i64 k0, .int .i64 k1, .int .i64 k2, .int .i64 k3, .int .i64 k4, .int .i64 k5, .int .i64 k6, .int .i64 k7, .int .i64 k8, .int .i64 k9, .int .u64 k10, lv, rv] 40 (0, 0)) ∧ Aside0 (Below w.heap.size w w1) := ⟨_, rfl, blk_new _ _, ⟨below_alloc (Below.refl _ _) _⟩⟩
  obtain ⟨hc0, hc1, hc2, hc3, hc4, hc5, hc6, hc7, hc8, hc9, hc10, hc11, hc12⟩ := cellsR hm
  clear hm
  cases fu with
  | true =>
    go_enter Try.func45, Try.ntmps45
    go_wp2
    all_goals
      go_ret
      exact ⟨by first | (rw [askFull, askOf_one (by omega)]; rfl) | (rw [askFull, askOf_four (by omega) (by omega)]; rfl) | (rw [askFull, askOf_nil (by omega) (by omega)]; rfl), HB.out⟩
  | false =>
    go_enter Try.func45, Try.ntmps45
    go_wp2
    all_goals
      go_ret
      exact ⟨by first | (rw [askFull, askOf_one (by omega)]; rfl) | (rw [askFull, askOf_four (by omega) (by omega)]; rfl) | (rw [askFull, askOf_nil (by omega) (by omega)]; rfl), HB.out⟩

end Go.Proofs.Ytneejihmakfaoaa.OwnModel
