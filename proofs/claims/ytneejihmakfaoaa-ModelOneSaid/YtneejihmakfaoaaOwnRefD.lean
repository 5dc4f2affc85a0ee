/- Walks of the reference's functions by hand: makes. Conditions: the reference's model is empty. Printed by gen_ref.py. -/
import Derived.Test.YtneejihmakfaoaaOwnRefC
import Derived.BigQuiet
import Derived.Deep.RegionLaw
import Derived.ArgAppend
namespace Go.Proofs.Ytneejihmakfaoaa.OwnModel
open Go.RowKit Go.Proofs.Ytneejihmakfaoaa.OwnMask Go.Proofs.Ytneejihmakfaoaa.QModelOne Go.Proofs.YtneejihmakfaoaaW.PrintWords Go.Proofs.YtneejihmakfaoaaW.PrintLast Go.Proofs.YtneejihmakfaoaaW.PrintMore
set_option linter.unusedVariables false
set_option linter.unusedSimpArgs false
def oddEnd (n : Nat) : Nat := if h : 1 < n ∧ n % 2 = 0 then oddEnd (n / 2) else n
termination_by n
decreasing_by omega
/-- Halved as long as it is even and more than 1. -/
def refEnd (c : Int) : Int := if c ≤ 1 then c else (oddEnd c.toNat : Int)
theorem refEnd_step (c : Int) (h1 : 1 < c) (h2 : c % 2 = 0) : refEnd (c / 2) = refEnd c := by
  have e : oddEnd c.toNat = oddEnd (c.toNat / 2) := by
    rw [oddEnd, dif_pos (by omega)]
  have e2 : (c / 2).toNat = c.toNat / 2 := by omega
  unfold refEnd
  rw [if_neg (by omega : ¬ c ≤ 1), e]
  by_cases h : c / 2 ≤ 1
  · rw [if_pos h]
    have : c.toNat / 2 = 1 := by omega
    rw [this, oddEnd, dif_neg (by omega)]
    omega
  · rw [if_neg h, e2]
theorem refEnd_stop (c : Int) (h : ¬ (1 < c ∧ c % 2 = 0)) : refEnd c = c := by
  unfold refEnd
  by_cases h1 : c ≤ 1
  · rw [if_pos h1]
  · rw [if_neg h1, oddEnd, dif_neg (by omega)]
    omega
/-- What makes knows of memory while it works. -/
structure MkF (w W : World) (k0 k1 k2 k3 k4 k5 k6 k7 k8 k9 k10 : Int) (lv rv : Value) (ov : Array Value) : Prop where
  m : W.heap[w.heap.size]? = some (.cells #[.int .i64 k0, .int .i64 k1, .int .i64 k2, .int .i64 k3, .int .i64 k4, .int .i64 k5, .int .i64 k6, .int .i64 k7, .int .i64 k8, .int .i64 k9, .int .u64 k10, lv, rv] 40 (0, 0))
  op : W.heap[w.heap.size + 1]? = some (.cells ov 25 (0, 0))
  r : W.heap[w.heap.size + 1 + 1]? = some (.cells #[.int .i64 0, .int .i64 0, .int .i64 0, .int .i64 0, .int .i64 0, .int .i64 0, .int .i64 0, .int .i64 0, .int .i64 0, .int .i64 0, .int .u64 0, .slice none 0 0, .slice none 0 0] 40 (0, 0))
  b : Below w.heap.size w W
theorem MkF.below {w W W2 : World} {k0 k1 k2 k3 k4 k5 k6 k7 k8 k9 k10 : Int} {lv rv : Value} {ov : Array Value} (h : MkF w W k0 k1 k2 k3 k4 k5 k6 k7 k8 k9 k10 lv rv ov) (hb : Below W.heap.size W W2) : MkF w W2 k0 k1 k2 k3 k4 k5 k6 k7 k8 k9 k10 lv rv ov := ⟨blk_below h.m hb, blk_below h.op hb, blk_below h.r hb, below_step h.b hb⟩
theorem MkF.drewN {w W : World} {k0 k1 k2 k3 k4 k5 k6 k7 k8 k9 k10 : Int} {lv rv : Value} {ov : Array Value} (h : MkF w W k0 k1 k2 k3 k4 k5 k6 k7 k8 k9 k10 lv rv ov) (n : Nat) : MkF w (W.drewN n) k0 k1 k2 k3 k4 k5 k6 k7 k8 k9 k10 lv rv ov := h.below (pw_below_drewN (Below.refl _ _) n)

theorem mk_store {w w6 : World} {k0 k1 k2 k3 k4 k5 k6 k7 k8 k9 k10 : Int} {lv rv : Value} {ov : Array Value} {gl cap x gr : Nat} {n : Int} {t0 : TypeId} {xs : List S51} (HF : Aside0 (MkF w w6 k0 k1 k2 k3 k4 k5 k6 k7 k8 k9 k10 lv rv ov)) (HX : Aside0 (w6.heap[gr]? = some (.cells (cells51 xs) t0 (0, 0)))) (HL : Aside0 (w6.cell? ⟨gl, 3, none⟩ = some (.bool true) ∧ gl < x ∧ w.heap.size + 1 + 1 < x)) (HY : Aside0 (w6.heap[x]? = some (.cells #[.int .i64 0, .int .i64 0, .int .i64 0, .int .i64 0, .int .i64 0] 51 (0, 0)))) (hgr : gr < w.heap.size) :
    ∃ w7, ((((((((((((((((((w6.setCell ⟨w.heap.size, 0, none⟩ (.int .i64 k0)).setCell ⟨w.heap.size, 1, none⟩ (.int .i64 k1)).setCell ⟨w.heap.size, 2, none⟩ (.int .i64 k2)).setCell ⟨w.heap.size, 3, none⟩ (.int .i64 k3)).setCell ⟨w.heap.size, 4, none⟩ (.int .i64 k4)).setCell ⟨w.heap.size, 5, none⟩ (.int .i64 k5)).setCell ⟨w.heap.size, 6, none⟩ (.int .i64 k6)).setCell ⟨w.heap.size, 7, none⟩ (.int .i64 k7)).setCell ⟨w.heap.size, 8, none⟩ (.int .i64 k8)).setCell ⟨w.heap.size, 9, none⟩ (.int .i64 k9)).setCell ⟨w.heap.size, 10, none⟩ (.int .u64 k10)).setCell ⟨w.heap.size, 11, none⟩ (.slice (some ⟨gl, 0, none⟩) 1 cap)).setCell ⟨w.heap.size, 12, none⟩ rv).setCell ⟨x, 0, none⟩ (.int .i64 1)).setCell ⟨x, 1, none⟩ (.int .i64 0)).setCell ⟨x, 2, none⟩ (.int .i64 n)).setCell ⟨x, 3, none⟩ (.int .i64 0)).setCell ⟨x, 4, none⟩ (.int .i64 31)) = w7 ∧ Aside0 (MkF w w7 k0 k1 k2 k3 k4 k5 k6 k7 k8 k9 k10 (.slice (some ⟨gl, 0, none⟩) 1 cap) rv ov) ∧ Aside0 (w7.heap[gr]? = some (.cells (cells51 xs) t0 (0, 0))) ∧ Aside0 (w7.cell? ⟨gl, 3, none⟩ = some (.bool true)) ∧ Aside0 (w7.heap[x]? = some (.cells #[.int .i64 1, .int .i64 0, .int .i64 n, .int .i64 0, .int .i64 31] 51 (0, 0))) := by
  obtain ⟨hl, h1, h2⟩ := HL.out
  have hm := HF.out.m
  have e : gl ≠ w.heap.size := by
    intro e
    have hq := (blk_cell hm 3).trans rfl
    rw [e] at hl
    rw [hl] at hq
    cases hq
  exact ⟨_, rfl, ⟨⟨blk_put5 _ _ _ _ _ (put13 _ _ _ _ _ _ _ _ _ _ _ _ _  hm) (by omega), blk_put5 _ _ _ _ _ (blk_put13 HF.out.op (by omega)) (by omega), blk_put5 _ _ _ _ _ (blk_put13 HF.out.r (by omega)) (by omega), by repeat (first | (with_reducible exact HF.out.b) | (with_reducible refine below_set ?_ (by omega)))⟩⟩, ⟨blk_put5 _ _ _ _ _ (blk_put13 HX.out (by omega)) (by omega)⟩, ⟨cell_put5 _ _ _ _ _ (cell_put13 hl e) (by omega)⟩, ⟨put5 _ _ _ _ _ (blk_put13 HY.out (by omega))⟩⟩

set_option maxHeartbeats 8000000 in
set_option maxRecDepth 100000 in
theorem rm1a (k0 k1 k2 k3 k4 k5 k6 k7 k8 k9 k10 : Int) (gr cr : Nat) (xs : List S51) (th a b v nn mm : Int) (A : Option Addr) (dl dc : Nat) (fu : Bool) (w : World) (x : Int) (he : askFull k3 k8 th nn fu = x) (hx0 : x = 1 ∨ x = 4 ∨ x = 13) :
    Calls Try.prog 26 #[.agg #[.int .i64 k0, .int .i64 k1, .int .i64 k2, .int .i64 k3, .int .i64 k4, .int .i64 k5, .int .i64 k6, .int .i64 k7, .int .i64 k8, .int .i64 k9, .int .u64 k10, .slice none 0 0, .slice (some ⟨gr, 0, none⟩) xs.length cr], .agg #[.int .i64 1, .int .i64 th, .int .i64 a, .int .i64 b, .int .i64 v, .int .i64 nn, .int .i64 mm, .slice A dl dc], .bool fu] w fun e w' => e = .returned (.tuple #[.agg #[.int .i64 k0, .int .i64 k1, .int .i64 k2, .int .i64 k3, .int .i64 k4, .int .i64 k5, .int .i64 k6, .int .i64 k7, .int .i64 k8, .int .i64 k9, .int .u64 k10, .slice none 0 0, .slice (some ⟨gr, 0, none⟩) xs.length cr], .int .i64 x]) ∧ Below w.heap.size w w' := by
  have hu25 := Try.underlying25
  have hu40 := Try.underlying40
  have hu51 := Try.underlying51
  have hu29 := Try.underlying29
  obtain ⟨w1, hw1, HF⟩ : ∃ w1, ((w.alloc (.cells #[.int .i64 k0, .int .i64 k1, .int .i64 k2, .int .i64 k3, .int .i64 k4, .int .i64 k5, .int .i64 k6, .int .i64 k7, .int .i64 k8, .int .i64 k9, .int .u64 k10, .slice none 0 0, .slice (some ⟨gr, 0, none⟩) xs.length cr] 40)).alloc (.cells #[.int .i64 1, .int .i64 th, .int .i64 a, .int .i64 b, .int .i64 v, .int .i64 nn, .int .i64 mm, .slice A dl dc] 25)).alloc (.cells #[.int .i64 0, .int .i64 0, .int .i64 0, .int .i64 0, .int .i64 0, .int .i64 0, .int .i64 0, .int .i64 0, .int .i64 0, .int .i64 0, .int .u64 0, .slice none 0 0, .slice none 0 0] 40) = w1 ∧ Aside0 (MkF w w1 k0 k1 k2 k3 k4 k5 k6 k7 k8 k9 k10 (.slice none 0 0) (.slice (some ⟨gr, 0, none⟩) xs.length cr) #[.int .i64 1, .int .i64 th, .int .i64 a, .int .i64 b, .int .i64 v, .int .i64 nn, .int .i64 mm, .slice A dl dc]) := ⟨_, rfl, ⟨⟨blk_alloc (blk_alloc (blk_new _ _) _) _, blk_alloc (blk_new1 _ _ _) _, blk_newb _ _ _ _, below_alloc (below_alloc (below_alloc (Below.refl _ _) _) _) _⟩⟩⟩
  obtain ⟨ca0, ca1, ca2, ca3, ca4, ca5, ca6, ca7, ca8, ca9, ca10, ca11, ca12⟩ := cellsR HF.out.m
  obtain ⟨z0, z1, z2, z3, z4, z5, z6, z7⟩ := cells8 HF.out.op
  obtain ⟨cb0, cb1, cb2, cb3, cb4, cb5, cb6, cb7, cb8, cb9, cb10, cb11, cb12⟩ := cellsR HF.out.r
  obtain ⟨cg0, cg1, cg2, cg3, cg4, cg5, cg6, cg7, cg8, cg9, cg10, cg11, cg12⟩ := frozR HF.out.r
  go_enter Try.func26, Try.ntmps26
  go_wp2_with fail
  go_quiet (fail)
  go_wp2_with fail
  refine (rAsk k0 k1 k2 k3 k4 k5 k6 k7 k8 k9 k10 (.slice none 0 0) (.slice (some ⟨gr, 0, none⟩) xs.length cr) th (nn) _ (x) _ he).mono ?_
  rintro e w2 ⟨rfl, hb⟩
  have HF2 := Aside0.mk (MkF.below (by first | exact HF.out | exact HF.out.drewN _ | exact (HF.out.drewN _).drewN _) hb)
  clear hb
  obtain ⟨ha0, ha1, ha2, ha3, ha4, ha5, ha6, ha7, ha8, ha9, ha10, ha11, ha12⟩ := cellsR HF2.out.m
  obtain ⟨v0, v1, v2, v3, v4, v5, v6, v7⟩ := cells8 HF2.out.op
  obtain ⟨hb0, hb1, hb2, hb3, hb4, hb5, hb6, hb7, hb8, hb9, hb10, hb11, hb12⟩ := cellsR HF2.out.r
  obtain ⟨hg0, hg1, hg2, hg3, hg4, hg5, hg6, hg7, hg8, hg9, hg10, hg11, hg12⟩ := frozR HF2.out.r
  rcases hx0 with rfl | rfl | rfl
  all_goals
    go_wp2
    refine bodyPost_ret (retRe rfl _ _ (w.heap.size + 1 + 1) #[.int .i64 k0, .int .i64 k1, .int .i64 k2, .int .i64 k3, .int .i64 k4, .int .i64 k5, .int .i64 k6, .int .i64 k7, .int .i64 k8, .int .i64 k9, .int .u64 k10, .slice none 0 0, .slice (some ⟨gr, 0, none⟩) xs.length cr] rfl rfl (by first | (with_reducible exact put13 _ _ _ _ _ _ _ _ _ _ _ _ _  HF2.out.r) | exact put13 _ _ _ _ _ _ _ _ _ _ _ _ _  (HF2.out.drewN _).r | exact put13 _ _ _ _ _ _ _ _ _ _ _ _ _  ((HF2.out.drewN _).drewN _).r)) rfl ?_
    exact ⟨rfl, by repeat (first | (with_reducible exact HF2.out.b) | (with_reducible apply below_drew1) | (with_reducible apply pw_below_drewN) | (with_reducible refine below_set ?_ (by omega)))⟩

set_option maxHeartbeats 8000000 in
set_option maxRecDepth 100000 in
theorem rm1m (k0 k1 k2 k3 k4 k5 k6 k7 k8 k9 k10 : Int) (gr cr : Nat) (xs : List S51) (th a b v nn mm : Int) (A : Option Addr) (dl dc : Nat) (fu : Bool) (w : World) (t0 : TypeId) (hx : w.heap[gr]? = some (.cells (cells51 xs) t0 (0, 0))) (hia0 : 0 ≤ a) (hia1 : a < (xs.length : Int)) (hn : xs.length ≤ 64) (kk r : Nat) (hr : cubbyholeref44_room.f kk (nn) (1) = some (r : Int)) (h1 : 1 ≤ r) (h2 : r ≤ 1000000) (he : askFull k3 k8 th nn fu = 0) :
    Calls Try.prog 26 #[.agg #[.int .i64 k0, .int .i64 k1, .int .i64 k2, .int .i64 k3, .int .i64 k4, .int .i64 k5, .int .i64 k6, .int .i64 k7, .int .i64 k8, .int .i64 k9, .int .u64 k10, .slice none 0 0, .slice (some ⟨gr, 0, none⟩) xs.length cr], .agg #[.int .i64 1, .int .i64 th, .int .i64 a, .int .i64 b, .int .i64 v, .int .i64 nn, .int .i64 mm, .slice A dl dc], .bool fu] w fun e w' => ∃ gl cap gR cR, e = .returned (.tuple #[.agg #[.int .i64 k0, .int .i64 k1, .int .i64 k2, .int .i64 k3, .int .i64 k4, .int .i64 k5, .int .i64 k6, .int .i64 k7, .int .i64 k8, .int .i64 k9, .int .u64 k10, .slice (some ⟨gl, 0, none⟩) 1 cap, .slice (some ⟨gR, 0, none⟩) xs.length cR], .int .i64 0]) ∧ w'.cell? ⟨gl, 3, none⟩ = some (.bool true) ∧ w'.cell? ⟨gR, a.toNat * 5, none⟩ = some (.int .i64 1) ∧ w'.cell? ⟨gR, a.toNat * 5 + 1, none⟩ = some (.int .i64 0) ∧ w'.cell? ⟨gR, a.toNat * 5 + 2, none⟩ = some (.int .i64 (nn)) ∧ w'.cell? ⟨gR, a.toNat * 5 + 3, none⟩ = some (.int .i64 0) ∧ w'.cell? ⟨gR, a.toNat * 5 + 4, none⟩ = some (.int .i64 31) ∧ w.heap.size ≤ gR ∧ Below w.heap.size w w' := by
  have hu25 := Try.underlying25
  have hu40 := Try.underlying40
  have hu51 := Try.underlying51
  have hu29 := Try.underlying29
  obtain ⟨w1, hw1, HF⟩ : ∃ w1, ((w.alloc (.cells #[.int .i64 k0, .int .i64 k1, .int .i64 k2, .int .i64 k3, .int .i64 k4, .int .i64 k5, .int .i64 k6, .int .i64 k7, .int .i64 k8, .int .i64 k9, .int .u64 k10, .slice none 0 0, .slice (some ⟨gr, 0, none⟩) xs.length cr] 40)).alloc (.cells #[.int .i64 1, .int .i64 th, .int .i64 a, .int .i64 b, .int .i64 v, .int .i64 nn, .int .i64 mm, .slice A dl dc] 25)).alloc (.cells #[.int .i64 0, .int .i64 0, .int .i64 0, .int .i64 0, .int .i64 0, .int .i64 0, .int .i64 0, .int .i64 0, .int .i64 0, .int .i64 0, .int .u64 0, .slice none 0 0, .slice none 0 0] 40) = w1 ∧ Aside0 (MkF w w1 k0 k1 k2 k3 k4 k5 k6 k7 k8 k9 k10 (.slice none 0 0) (.slice (some ⟨gr, 0, none⟩) xs.length cr) #[.int .i64 1, .int .i64 th, .int .i64 a, .int .i64 b, .int .i64 v, .int .i64 nn, .int .i64 mm, .slice A dl dc]) := ⟨_, rfl, ⟨⟨blk_alloc (blk_alloc (blk_new _ _) _) _, blk_alloc (blk_new1 _ _ _) _, blk_newb _ _ _ _, below_alloc (below_alloc (below_alloc (Below.refl _ _) _) _) _⟩⟩⟩
  obtain ⟨ca0, ca1, ca2, ca3, ca4, ca5, ca6, ca7, ca8, ca9, ca10, ca11, ca12⟩ := cellsR HF.out.m
  obtain ⟨z0, z1, z2, z3, z4, z5, z6, z7⟩ := cells8 HF.out.op
  obtain ⟨cb0, cb1, cb2, cb3, cb4, cb5, cb6, cb7, cb8, cb9, cb10, cb11, cb12⟩ := cellsR HF.out.r
  obtain ⟨cg0, cg1, cg2, cg3, cg4, cg5, cg6, cg7, cg8, cg9, cg10, cg11, cg12⟩ := frozR HF.out.r
  have HX := Aside0.mk hx
  clear hx
  go_enter Try.func26, Try.ntmps26
  go_wp2_with fail
  go_quiet (fail)
  go_wp2_with fail
  refine (rAsk k0 k1 k2 k3 k4 k5 k6 k7 k8 k9 k10 (.slice none 0 0) (.slice (some ⟨gr, 0, none⟩) xs.length cr) th (nn) _ (0) _ he).mono ?_
  rintro e w2 ⟨rfl, hb⟩
  have HF2 := Aside0.mk (MkF.below (by first | exact HF.out | exact HF.out.drewN _ | exact (HF.out.drewN _).drewN _) hb)
  clear hb
  obtain ⟨ha0, ha1, ha2, ha3, ha4, ha5, ha6, ha7, ha8, ha9, ha10, ha11, ha12⟩ := cellsR HF2.out.m
  obtain ⟨v0, v1, v2, v3, v4, v5, v6, v7⟩ := cells8 HF2.out.op
  obtain ⟨hb0, hb1, hb2, hb3, hb4, hb5, hb6, hb7, hb8, hb9, hb10, hb11, hb12⟩ := cellsR HF2.out.r
  obtain ⟨hg0, hg1, hg2, hg3, hg4, hg5, hg6, hg7, hg8, hg9, hg10, hg11, hg12⟩ := frozR HF2.out.r
  go_wp2_with fail
  refine (rMade kk k0 k1 k2 k3 k4 k5 k6 k7 k8 k9 k10 (some ⟨gr, 0, none⟩) xs.length cr (nn) (1) _ r _ hr h1 h2).mono ?_
  rintro e w5 ⟨gl, cap, rfl, hl, hbw⟩
  have HF5 := Aside0.mk (MkF.below (show MkF w w2 k0 k1 k2 k3 k4 k5 k6 k7 k8 k9 k10 (.slice none 0 0) (.slice (some ⟨gr, 0, none⟩) xs.length cr) _ from HF2.out) hbw)
  have HX5 := Aside0.mk (show w5.heap[gr]? = some (.cells (cells51 xs) t0 (0, 0)) from blk_below (blk_below HX.out HF2.out.b) hbw)
  have HL5 := Aside0.mk hl
  clear hl hbw ha0 ha1 ha2 ha3 ha4 ha5 ha6 ha7 ha8 ha9 ha10 ha11 ha12 hb0 hb1 hb2 hb3 hb4 hb5 hb6 hb7 hb8 hb9 hb10 hb11 hb12 hg0 hg1 hg2 hg3 hg4 hg5 hg6 hg7 hg8 hg9 hg10 hg11 hg12 v0 v1 v2 v3 v4 v5 v6 v7
  obtain ⟨w6, hw6, HF6, HX6, HL6, HY6⟩ : ∃ w6, w5.alloc (.cells #[.int .i64 0, .int .i64 0, .int .i64 0, .int .i64 0, .int .i64 0] 51) = w6 ∧ Aside0 (MkF w w6 k0 k1 k2 k3 k4 k5 k6 k7 k8 k9 k10 (.slice none 0 0) (.slice (some ⟨gr, 0, none⟩) xs.length cr) _) ∧ Aside0 (w6.heap[gr]? = some (.cells (cells51 xs) t0 (0, 0))) ∧ Aside0 (w6.cell? ⟨gl, 3, none⟩ = some (.bool true) ∧ gl < w5.heap.size ∧ w.heap.size + 1 + 1 < w5.heap.size) ∧ Aside0 (w6.heap[w5.heap.size]? = some (.cells #[.int .i64 0, .int .i64 0, .int .i64 0, .int .i64 0, .int .i64 0] 51 (0, 0))) := ⟨_, rfl, ⟨MkF.below HF5.out (below_alloc (Below.refl _ _) _)⟩, ⟨blk_alloc HX5.out _⟩, ⟨cell_alloc1 HL5.out _, World.block_lt_of_cell? _ _ HL5.out, blk_lt HF5.out.r⟩, ⟨blk_new _ _⟩⟩
  obtain ⟨w7, hw7, HF7, HX7, HL7, HY7⟩ := mk_store (gl := gl) (cap := cap) (n := nn) HF6 HX6 HL6 HY6 (blk_lt HX.out)
  obtain ⟨ha0, ha1, ha2, ha3, ha4, ha5, ha6, ha7, ha8, ha9, ha10, ha11, ha12⟩ := cellsR HF6.out.m
  obtain ⟨v0, v1, v2, v3, v4, v5, v6, v7⟩ := cells8 HF6.out.op
  obtain ⟨hb0, hb1, hb2, hb3, hb4, hb5, hb6, hb7, hb8, hb9, hb10, hb11, hb12⟩ := cellsR HF6.out.r
  obtain ⟨hg0, hg1, hg2, hg3, hg4, hg5, hg6, hg7, hg8, hg9, hg10, hg11, hg12⟩ := frozR HF6.out.r
  obtain ⟨hm0, hm1, hm2, hm3, hm4, hm5, hm6, hm7, hm8, hm9, hm10, hm11, hm12⟩ := frozR HF6.out.m
  obtain ⟨x0, x1, x2, x3, x4, y0, y1, y2, y3, y4⟩ := cells5 HY6.out
  obtain ⟨hn0, hn1, hn2, hn3, hn4, hn5, hn6, hn7, hn8, hn9, hn10, hn11, hn12⟩ := cellsR HF7.out.m
  obtain ⟨u0, u1, u2, u3, u4, u5, u6, u7⟩ := cells8 HF7.out.op
  obtain ⟨xa0, xa1, xa2, xa3, xa4, _⟩ := cells5 HY7.out
  have n1 : ¬ (w5.heap.size = w.heap.size) := by have hq := HL6.out.2.2; omega
  have n2 : ¬ (w.heap.size = w5.heap.size) := by have hq := HL6.out.2.2; omega
  go_wp2_with fail
  refine (rSet k0 k1 k2 k3 k4 k5 k6 k7 k8 k9 k10 (some ⟨gl, 0, none⟩) 1 cap gr cr t0 xs a 1 0 (nn) 0 31 _ HX7.out hia0 hia1 hn).mono ?_
  rintro e w8 ⟨gR, cR, rfl, g0, g1, g2, g3, g4, hgR, hbv⟩
  have HR8 := Aside0.mk (blk_below HF7.out.r hbv)
  have HB8 := Aside0.mk (below_step HF7.out.b hbv)
  have HG8 := Aside0.mk (And.intro g0 (And.intro g1 (And.intro g2 (And.intro g3 (And.intro g4 (And.intro hgR ((hbv.cell (World.block_lt_of_cell? _ _ HL7.out)).trans HL7.out)))))))
  clear g0 g1 g2 g3 g4 hgR hbv x0 x1 x2 x3 x4 y0 y1 y2 y3 y4 ha0 ha1 ha2 ha3 ha4 ha5 ha6 ha7 ha8 ha9 ha10 ha11 ha12 hb0 hb1 hb2 hb3 hb4 hb5 hb6 hb7 hb8 hb9 hb10 hb11 hb12 hg0 hg1 hg2 hg3 hg4 hg5 hg6 hg7 hg8 hg9 hg10 hg11 hg12 v0 v1 v2 v3 v4 v5 v6 v7
  obtain ⟨rc0, rc1, rc2, rc3, rc4, rc5, rc6, rc7, rc8, rc9, rc10, rc11, rc12⟩ := cellsR HR8.out
  obtain ⟨rf0, rf1, rf2, rf3, rf4, rf5, rf6, rf7, rf8, rf9, rf10, rf11, rf12⟩ := frozR HR8.out
  go_wp2
  obtain ⟨g0, g1, g2, g3, g4, hgR, hgl⟩ := HG8.out
  have hr7 := blk_lt HF7.out.r
  have e1 : gR ≠ w.heap.size + 1 + 1 := by omega
  have e2 : gl ≠ w.heap.size + 1 + 1 := by
    intro e
    have hq := (blk_cell HR8.out 3).trans rfl
    rw [e] at hgl
    rw [hgl] at hq
    cases hq
  refine bodyPost_ret (retRe rfl _ _ (w.heap.size + 1 + 1) #[.int .i64 k0, .int .i64 k1, .int .i64 k2, .int .i64 k3, .int .i64 k4, .int .i64 k5, .int .i64 k6, .int .i64 k7, .int .i64 k8, .int .i64 k9, .int .u64 k10, .slice (some ⟨gl, 0, none⟩) 1 cap, .slice (some ⟨gR, 0, none⟩) xs.length cR] rfl rfl (put13 _ _ _ _ _ _ _ _ _ _ _ _ _  HR8.out)) rfl ?_
  exact ⟨gl, cap, gR, cR, rfl, cell_put13 hgl e2, cell_put13 g0 e1, cell_put13 g1 e1, cell_put13 g2 e1, cell_put13 g3 e1, cell_put13 g4 e1, Nat.le_trans HF7.out.b.size hgR, by repeat (first | (with_reducible exact HB8.out) | (with_reducible refine below_set ?_ (by omega)))⟩

set_option maxHeartbeats 8000000 in
set_option maxRecDepth 100000 in
theorem rm2b (k0 k1 k2 k3 k4 k5 k6 k7 k8 k9 k10 : Int) (gr cr : Nat) (xs : List S51) (th a b v nn mm : Int) (A : Option Addr) (dl dc : Nat) (fu : Bool) (w : World) (hbad : nn < 1 ∨ mm < 1 ∨ th < 0 ∨ k3 ≤ th) :
    Calls Try.prog 26 #[.agg #[.int .i64 k0, .int .i64 k1, .int .i64 k2, .int .i64 k3, .int .i64 k4, .int .i64 k5, .int .i64 k6, .int .i64 k7, .int .i64 k8, .int .i64 k9, .int .u64 k10, .slice none 0 0, .slice (some ⟨gr, 0, none⟩) xs.length cr], .agg #[.int .i64 2, .int .i64 th, .int .i64 a, .int .i64 b, .int .i64 v, .int .i64 nn, .int .i64 mm, .slice A dl dc], .bool fu] w fun e w' => e = .returned (.tuple #[.agg #[.int .i64 k0, .int .i64 k1, .int .i64 k2, .int .i64 k3, .int .i64 k4, .int .i64 k5, .int .i64 k6, .int .i64 k7, .int .i64 k8, .int .i64 k9, .int .u64 k10, .slice none 0 0, .slice (some ⟨gr, 0, none⟩) xs.length cr], .int .i64 1]) ∧ Below w.heap.size w w' := by
  have hu25 := Try.underlying25
  have hu40 := Try.underlying40
  have hu51 := Try.underlying51
  have hu29 := Try.underlying29
  obtain ⟨w1, hw1, HF⟩ : ∃ w1, ((w.alloc (.cells #[.int .i64 k0, .int .i64 k1, .int .i64 k2, .int .i64 k3, .int .i64 k4, .int .i64 k5, .int .i64 k6, .int .i64 k7, .int .i64 k8, .int .i64 k9, .int .u64 k10, .slice none 0 0, .slice (some ⟨gr, 0, none⟩) xs.length cr] 40)).alloc (.cells #[.int .i64 2, .int .i64 th, .int .i64 a, .int .i64 b, .int .i64 v, .int .i64 nn, .int .i64 mm, .slice A dl dc] 25)).alloc (.cells #[.int .i64 0, .int .i64 0, .int .i64 0, .int .i64 0, .int .i64 0, .int .i64 0, .int .i64 0, .int .i64 0, .int .i64 0, .int .i64 0, .int .u64 0, .slice none 0 0, .slice none 0 0] 40) = w1 ∧ Aside0 (MkF w w1 k0 k1 k2 k3 k4 k5 k6 k7 k8 k9 k10 (.slice none 0 0) (.slice (some ⟨gr, 0, none⟩) xs.length cr) #[.int .i64 2, .int .i64 th, .int .i64 a, .int .i64 b, .int .i64 v, .int .i64 nn, .int .i64 mm, .slice A dl dc]) := ⟨_, rfl, ⟨⟨blk_alloc (blk_alloc (blk_new _ _) _) _, blk_alloc (blk_new1 _ _ _) _, blk_newb _ _ _ _, below_alloc (below_alloc (below_alloc (Below.refl _ _) _) _) _⟩⟩⟩
  obtain ⟨ca0, ca1, ca2, ca3, ca4, ca5, ca6, ca7, ca8, ca9, ca10, ca11, ca12⟩ := cellsR HF.out.m
  obtain ⟨z0, z1, z2, z3, z4, z5, z6, z7⟩ := cells8 HF.out.op
  obtain ⟨cb0, cb1, cb2, cb3, cb4, cb5, cb6, cb7, cb8, cb9, cb10, cb11, cb12⟩ := cellsR HF.out.r
  obtain ⟨cg0, cg1, cg2, cg3, cg4, cg5, cg6, cg7, cg8, cg9, cg10, cg11, cg12⟩ := frozR HF.out.r
  by_cases c1 : nn < 1
  · have dc1 : decide (nn < 1) = true := decide_eq_true c1
    go_enter Try.func26, Try.ntmps26
    go_wp2_with fail
    go_quiet (fail)
    go_wp2
    refine bodyPost_ret (retRe rfl _ _ (w.heap.size + 1 + 1) #[.int .i64 k0, .int .i64 k1, .int .i64 k2, .int .i64 k3, .int .i64 k4, .int .i64 k5, .int .i64 k6, .int .i64 k7, .int .i64 k8, .int .i64 k9, .int .u64 k10, .slice none 0 0, .slice (some ⟨gr, 0, none⟩) xs.length cr] rfl rfl (by first | (with_reducible exact put13 _ _ _ _ _ _ _ _ _ _ _ _ _  HF.out.r) | exact put13 _ _ _ _ _ _ _ _ _ _ _ _ _  (HF.out.drewN _).r | exact put13 _ _ _ _ _ _ _ _ _ _ _ _ _  ((HF.out.drewN _).drewN _).r)) rfl ?_
    exact ⟨rfl, by repeat (first | (with_reducible exact HF.out.b) | (with_reducible apply below_drew1) | (with_reducible apply pw_below_drewN) | (with_reducible refine below_set ?_ (by omega)))⟩
  have dc1 : decide (nn < 1) = false := decide_eq_false c1
  by_cases c2 : mm < 1
  · have dc2 : decide (mm < 1) = true := decide_eq_true c2
    go_enter Try.func26, Try.ntmps26
    go_wp2_with fail
    go_quiet (fail)
    go_wp2
    refine bodyPost_ret (retRe rfl _ _ (w.heap.size + 1 + 1) #[.int .i64 k0, .int .i64 k1, .int .i64 k2, .int .i64 k3, .int .i64 k4, .int .i64 k5, .int .i64 k6, .int .i64 k7, .int .i64 k8, .int .i64 k9, .int .u64 k10, .slice none 0 0, .slice (some ⟨gr, 0, none⟩) xs.length cr] rfl rfl (by first | (with_reducible exact put13 _ _ _ _ _ _ _ _ _ _ _ _ _  HF.out.r) | exact put13 _ _ _ _ _ _ _ _ _ _ _ _ _  (HF.out.drewN _).r | exact put13 _ _ _ _ _ _ _ _ _ _ _ _ _  ((HF.out.drewN _).drewN _).r)) rfl ?_
    exact ⟨rfl, by repeat (first | (with_reducible exact HF.out.b) | (with_reducible apply below_drew1) | (with_reducible apply pw_below_drewN) | (with_reducible refine below_set ?_ (by omega)))⟩
  have dc2 : decide (mm < 1) = false := decide_eq_false c2
  by_cases c3 : th < 0
  · have dc3 : decide (th < 0) = true := decide_eq_true c3
    go_enter Try.func26, Try.ntmps26
    go_wp2_with fail
    go_quiet (fail)
    go_wp2
    refine bodyPost_ret (retRe rfl _ _ (w.heap.size + 1 + 1) #[.int .i64 k0, .int .i64 k1, .int .i64 k2, .int .i64 k3, .int .i64 k4, .int .i64 k5, .int .i64 k6, .int .i64 k7, .int .i64 k8, .int .i64 k9, .int .u64 k10, .slice none 0 0, .slice (some ⟨gr, 0, none⟩) xs.length cr] rfl rfl (by first | (with_reducible exact put13 _ _ _ _ _ _ _ _ _ _ _ _ _  HF.out.r) | exact put13 _ _ _ _ _ _ _ _ _ _ _ _ _  (HF.out.drewN _).r | exact put13 _ _ _ _ _ _ _ _ _ _ _ _ _  ((HF.out.drewN _).drewN _).r)) rfl ?_
    exact ⟨rfl, by repeat (first | (with_reducible exact HF.out.b) | (with_reducible apply below_drew1) | (with_reducible apply pw_below_drewN) | (with_reducible refine below_set ?_ (by omega)))⟩
  have dc3 : decide (th < 0) = false := decide_eq_false c3
  have d4 : decide (k3 ≤ th) = true := decide_eq_true (by omega)
  go_enter Try.func26, Try.ntmps26
  go_wp2_with fail
  go_quiet (fail)
  go_wp2
  refine bodyPost_ret (retRe rfl _ _ (w.heap.size + 1 + 1) #[.int .i64 k0, .int .i64 k1, .int .i64 k2, .int .i64 k3, .int .i64 k4, .int .i64 k5, .int .i64 k6, .int .i64 k7, .int .i64 k8, .int .i64 k9, .int .u64 k10, .slice none 0 0, .slice (some ⟨gr, 0, none⟩) xs.length cr] rfl rfl (by first | (with_reducible exact put13 _ _ _ _ _ _ _ _ _ _ _ _ _  HF.out.r) | exact put13 _ _ _ _ _ _ _ _ _ _ _ _ _  (HF.out.drewN _).r | exact put13 _ _ _ _ _ _ _ _ _ _ _ _ _  ((HF.out.drewN _).drewN _).r)) rfl ?_
  exact ⟨rfl, by repeat (first | (with_reducible exact HF.out.b) | (with_reducible apply below_drew1) | (with_reducible apply pw_below_drewN) | (with_reducible refine below_set ?_ (by omega)))⟩

set_option maxHeartbeats 8000000 in
set_option maxRecDepth 100000 in
theorem rm2q (k0 k1 k2 k3 k4 k5 k6 k7 k8 k9 k10 : Int) (gr cr : Nat) (xs : List S51) (th a b v nn mm : Int) (A : Option Addr) (dl dc : Nat) (fu : Bool) (w : World) (hk8 : 1 ≤ k8) (hk8b : k8 ≤ 1000000000) (hn1 : 1 ≤ nn) (hm1 : 1 ≤ mm) (ht0 : 0 ≤ th) (ht1 : th < k3) (hlt : k8.tdiv mm < nn) :
    Calls Try.prog 26 #[.agg #[.int .i64 k0, .int .i64 k1, .int .i64 k2, .int .i64 k3, .int .i64 k4, .int .i64 k5, .int .i64 k6, .int .i64 k7, .int .i64 k8, .int .i64 k9, .int .u64 k10, .slice none 0 0, .slice (some ⟨gr, 0, none⟩) xs.length cr], .agg #[.int .i64 2, .int .i64 th, .int .i64 a, .int .i64 b, .int .i64 v, .int .i64 nn, .int .i64 mm, .slice A dl dc], .bool fu] w fun e w' => e = .returned (.tuple #[.agg #[.int .i64 k0, .int .i64 k1, .int .i64 k2, .int .i64 k3, .int .i64 k4, .int .i64 k5, .int .i64 k6, .int .i64 k7, .int .i64 k8, .int .i64 k9, .int .u64 k10, .slice none 0 0, .slice (some ⟨gr, 0, none⟩) xs.length cr], .int .i64 4]) ∧ Below w.heap.size w w' := by
  have hu25 := Try.underlying25
  have hu40 := Try.underlying40
  have hu51 := Try.underlying51
  have hu29 := Try.underlying29
  obtain ⟨w1, hw1, HF⟩ : ∃ w1, ((w.alloc (.cells #[.int .i64 k0, .int .i64 k1, .int .i64 k2, .int .i64 k3, .int .i64 k4, .int .i64 k5, .int .i64 k6, .int .i64 k7, .int .i64 k8, .int .i64 k9, .int .u64 k10, .slice none 0 0, .slice (some ⟨gr, 0, none⟩) xs.length cr] 40)).alloc (.cells #[.int .i64 2, .int .i64 th, .int .i64 a, .int .i64 b, .int .i64 v, .int .i64 nn, .int .i64 mm, .slice A dl dc] 25)).alloc (.cells #[.int .i64 0, .int .i64 0, .int .i64 0, .int .i64 0, .int .i64 0, .int .i64 0, .int .i64 0, .int .i64 0, .int .i64 0, .int .i64 0, .int .u64 0, .slice none 0 0, .slice none 0 0] 40) = w1 ∧ Aside0 (MkF w w1 k0 k1 k2 k3 k4 k5 k6 k7 k8 k9 k10 (.slice none 0 0) (.slice (some ⟨gr, 0, none⟩) xs.length cr) #[.int .i64 2, .int .i64 th, .int .i64 a, .int .i64 b, .int .i64 v, .int .i64 nn, .int .i64 mm, .slice A dl dc]) := ⟨_, rfl, ⟨⟨blk_alloc (blk_alloc (blk_new _ _) _) _, blk_alloc (blk_new1 _ _ _) _, blk_newb _ _ _ _, below_alloc (below_alloc (below_alloc (Below.refl _ _) _) _) _⟩⟩⟩
  obtain ⟨ca0, ca1, ca2, ca3, ca4, ca5, ca6, ca7, ca8, ca9, ca10, ca11, ca12⟩ := cellsR HF.out.m
  obtain ⟨z0, z1, z2, z3, z4, z5, z6, z7⟩ := cells8 HF.out.op
  obtain ⟨cb0, cb1, cb2, cb3, cb4, cb5, cb6, cb7, cb8, cb9, cb10, cb11, cb12⟩ := cellsR HF.out.r
  obtain ⟨cg0, cg1, cg2, cg3, cg4, cg5, cg6, cg7, cg8, cg9, cg10, cg11, cg12⟩ := frozR HF.out.r
  have d1 : decide (nn < 1) = false := decide_eq_false (by omega)
  have d2 : decide (mm < 1) = false := decide_eq_false (by omega)
  have d3 : decide (th < 0) = false := decide_eq_false (by omega)
  have d4 : decide (k3 ≤ th) = false := decide_eq_false (by omega)
  have e0 : (mm = 0) = False := eq_false (by omega)
  have e1 : (mm == 0) = false := beq_eq_false_iff_ne.2 (by omega)
  have hqb : k8.tdiv mm ≤ k8 := by rw [Int.tdiv_eq_ediv_of_nonneg (by omega)]; exact Int.ediv_le_self _ (by omega)
  have hqc : 0 ≤ k8.tdiv mm := Int.tdiv_nonneg (by omega) (by omega)
  obtain ⟨q, hq⟩ : ∃ q, k8.tdiv mm = q := ⟨_, rfl⟩
  rw [hq] at hqb hqc
  have hqw : IntKind.i64.wrap (k8.tdiv mm) = q := by rw [hq]; exact (i64_w _).trans (by unfold wrap64; omega)
  have d5 : decide (q < nn) = true := decide_eq_true (by omega)
  go_enter Try.func26, Try.ntmps26
  go_wp2_with fail
  go_quiet (fail)
  go_wp2_with fail
  go_quiet (fail)
  go_wp2
  refine bodyPost_ret (retRe rfl _ _ (w.heap.size + 1 + 1) #[.int .i64 k0, .int .i64 k1, .int .i64 k2, .int .i64 k3, .int .i64 k4, .int .i64 k5, .int .i64 k6, .int .i64 k7, .int .i64 k8, .int .i64 k9, .int .u64 k10, .slice none 0 0, .slice (some ⟨gr, 0, none⟩) xs.length cr] rfl rfl (by first | (with_reducible exact put13 _ _ _ _ _ _ _ _ _ _ _ _ _  HF.out.r) | exact put13 _ _ _ _ _ _ _ _ _ _ _ _ _  (HF.out.drewN _).r | exact put13 _ _ _ _ _ _ _ _ _ _ _ _ _  ((HF.out.drewN _).drewN _).r)) rfl ?_
  exact ⟨rfl, by repeat (first | (with_reducible exact HF.out.b) | (with_reducible apply below_drew1) | (with_reducible apply pw_below_drewN) | (with_reducible refine below_set ?_ (by omega)))⟩

set_option maxHeartbeats 8000000 in
set_option maxRecDepth 100000 in
theorem rm2f (k0 k1 k2 k3 k4 k5 k6 k7 k8 k9 k10 : Int) (gr cr : Nat) (xs : List S51) (th a b v nn mm : Int) (A : Option Addr) (dl dc : Nat) (fu : Bool) (w : World) (hk8 : 1 ≤ k8) (hk8b : k8 ≤ 1000000000) (hn1 : 1 ≤ nn) (hm1 : 1 ≤ mm) (ht0 : 0 ≤ th) (ht1 : th < k3) (hle : nn ≤ k8.tdiv mm) (hfu : fu = true) :
    Calls Try.prog 26 #[.agg #[.int .i64 k0, .int .i64 k1, .int .i64 k2, .int .i64 k3, .int .i64 k4, .int .i64 k5, .int .i64 k6, .int .i64 k7, .int .i64 k8, .int .i64 k9, .int .u64 k10, .slice none 0 0, .slice (some ⟨gr, 0, none⟩) xs.length cr], .agg #[.int .i64 2, .int .i64 th, .int .i64 a, .int .i64 b, .int .i64 v, .int .i64 nn, .int .i64 mm, .slice A dl dc], .bool fu] w fun e w' => e = .returned (.tuple #[.agg #[.int .i64 k0, .int .i64 k1, .int .i64 k2, .int .i64 k3, .int .i64 k4, .int .i64 k5, .int .i64 k6, .int .i64 k7, .int .i64 k8, .int .i64 k9, .int .u64 k10, .slice none 0 0, .slice (some ⟨gr, 0, none⟩) xs.length cr], .int .i64 13]) ∧ Below w.heap.size w w' := by
  have hu25 := Try.underlying25
  have hu40 := Try.underlying40
  have hu51 := Try.underlying51
  have hu29 := Try.underlying29
  obtain ⟨w1, hw1, HF⟩ : ∃ w1, ((w.alloc (.cells #[.int .i64 k0, .int .i64 k1, .int .i64 k2, .int .i64 k3, .int .i64 k4, .int .i64 k5, .int .i64 k6, .int .i64 k7, .int .i64 k8, .int .i64 k9, .int .u64 k10, .slice none 0 0, .slice (some ⟨gr, 0, none⟩) xs.length cr] 40)).alloc (.cells #[.int .i64 2, .int .i64 th, .int .i64 a, .int .i64 b, .int .i64 v, .int .i64 nn, .int .i64 mm, .slice A dl dc] 25)).alloc (.cells #[.int .i64 0, .int .i64 0, .int .i64 0, .int .i64 0, .int .i64 0, .int .i64 0, .int .i64 0, .int .i64 0, .int .i64 0, .int .i64 0, .int .u64 0, .slice none 0 0, .slice none 0 0] 40) = w1 ∧ Aside0 (MkF w w1 k0 k1 k2 k3 k4 k5 k6 k7 k8 k9 k10 (.slice none 0 0) (.slice (some ⟨gr, 0, none⟩) xs.length cr) #[.int .i64 2, .int .i64 th, .int .i64 a, .int .i64 b, .int .i64 v, .int .i64 nn, .int .i64 mm, .slice A dl dc]) := ⟨_, rfl, ⟨⟨blk_alloc (blk_alloc (blk_new _ _) _) _, blk_alloc (blk_new1 _ _ _) _, blk_newb _ _ _ _, below_alloc (below_alloc (below_alloc (Below.refl _ _) _) _) _⟩⟩⟩
  obtain ⟨ca0, ca1, ca2, ca3, ca4, ca5, ca6, ca7, ca8, ca9, ca10, ca11, ca12⟩ := cellsR HF.out.m
  obtain ⟨z0, z1, z2, z3, z4, z5, z6, z7⟩ := cells8 HF.out.op
  obtain ⟨cb0, cb1, cb2, cb3, cb4, cb5, cb6, cb7, cb8, cb9, cb10, cb11, cb12⟩ := cellsR HF.out.r
  obtain ⟨cg0, cg1, cg2, cg3, cg4, cg5, cg6, cg7, cg8, cg9, cg10, cg11, cg12⟩ := frozR HF.out.r
  have d1 : decide (nn < 1) = false := decide_eq_false (by omega)
  have d2 : decide (mm < 1) = false := decide_eq_false (by omega)
  have d3 : decide (th < 0) = false := decide_eq_false (by omega)
  have d4 : decide (k3 ≤ th) = false := decide_eq_false (by omega)
  have e0 : (mm = 0) = False := eq_false (by omega)
  have e1 : (mm == 0) = false := beq_eq_false_iff_ne.2 (by omega)
  have hqb : k8.tdiv mm ≤ k8 := by rw [Int.tdiv_eq_ediv_of_nonneg (by omega)]; exact Int.ediv_le_self _ (by omega)
  have hqc : 0 ≤ k8.tdiv mm := Int.tdiv_nonneg (by omega) (by omega)
  obtain ⟨q, hq⟩ : ∃ q, k8.tdiv mm = q := ⟨_, rfl⟩
  rw [hq] at hqb hqc
  have hqw : IntKind.i64.wrap (k8.tdiv mm) = q := by rw [hq]; exact (i64_w _).trans (by unfold wrap64; omega)
  have d5 : decide (q < nn) = false := decide_eq_false (by omega)
  obtain ⟨hp1, hp2⟩ := quo_mul hm1 hn1 hk8 hle
  obtain ⟨p, hp⟩ : ∃ p, nn * mm = p := ⟨_, rfl⟩
  rw [hp] at hp1 hp2
  have hpw2 : IntKind.i64.wrap (nn * mm) = p := by rw [hp]; exact (i64_w _).trans (by unfold wrap64; omega)
  have he2 : askFull k3 k8 th p fu = 13 := by rw [askFull, askOf_nil (by omega) (by omega), hfu]; rfl
  subst hfu
  go_enter Try.func26, Try.ntmps26
  go_wp2_with fail
  go_quiet (fail)
  go_wp2_with fail
  go_quiet (fail)
  go_wp2_with fail
  refine (rAsk k0 k1 k2 k3 k4 k5 k6 k7 k8 k9 k10 (.slice none 0 0) (.slice (some ⟨gr, 0, none⟩) xs.length cr) th (p) _ (13) _ he2).mono ?_
  rintro e w2 ⟨rfl, hb⟩
  have HF2 := Aside0.mk (MkF.below (by first | exact HF.out | exact HF.out.drewN _ | exact (HF.out.drewN _).drewN _) hb)
  clear hb
  obtain ⟨ha0, ha1, ha2, ha3, ha4, ha5, ha6, ha7, ha8, ha9, ha10, ha11, ha12⟩ := cellsR HF2.out.m
  obtain ⟨v0, v1, v2, v3, v4, v5, v6, v7⟩ := cells8 HF2.out.op
  obtain ⟨hb0, hb1, hb2, hb3, hb4, hb5, hb6, hb7, hb8, hb9, hb10, hb11, hb12⟩ := cellsR HF2.out.r
  obtain ⟨hg0, hg1, hg2, hg3, hg4, hg5, hg6, hg7, hg8, hg9, hg10, hg11, hg12⟩ := frozR HF2.out.r
  go_wp2
  refine bodyPost_ret (retRe rfl _ _ (w.heap.size + 1 + 1) #[.int .i64 k0, .int .i64 k1, .int .i64 k2, .int .i64 k3, .int .i64 k4, .int .i64 k5, .int .i64 k6, .int .i64 k7, .int .i64 k8, .int .i64 k9, .int .u64 k10, .slice none 0 0, .slice (some ⟨gr, 0, none⟩) xs.length cr] rfl rfl (by first | (with_reducible exact put13 _ _ _ _ _ _ _ _ _ _ _ _ _  HF2.out.r) | exact put13 _ _ _ _ _ _ _ _ _ _ _ _ _  (HF2.out.drewN _).r | exact put13 _ _ _ _ _ _ _ _ _ _ _ _ _  ((HF2.out.drewN _).drewN _).r)) rfl ?_
  exact ⟨rfl, by repeat (first | (with_reducible exact HF2.out.b) | (with_reducible apply below_drew1) | (with_reducible apply pw_below_drewN) | (with_reducible refine below_set ?_ (by omega)))⟩

set_option maxHeartbeats 8000000 in
set_option maxRecDepth 100000 in
theorem rm2m (k0 k1 k2 k3 k4 k5 k6 k7 k8 k9 k10 : Int) (gr cr : Nat) (xs : List S51) (th a b v nn mm : Int) (A : Option Addr) (dl dc : Nat) (fu : Bool) (w : World) (t0 : TypeId) (hx : w.heap[gr]? = some (.cells (cells51 xs) t0 (0, 0))) (hia0 : 0 ≤ a) (hia1 : a < (xs.length : Int)) (hn : xs.length ≤ 64) (kk r : Nat) (hr : cubbyholeref44_room.f kk (nn * mm) (1) = some (r : Int)) (h1 : 1 ≤ r) (h2 : r ≤ 1000000) (hk8 : 1 ≤ k8) (hk8b : k8 ≤ 1000000000) (hn1 : 1 ≤ nn) (hm1 : 1 ≤ mm) (ht0 : 0 ≤ th) (ht1 : th < k3) (hle : nn ≤ k8.tdiv mm) (hfu : fu = false) :
    Calls Try.prog 26 #[.agg #[.int .i64 k0, .int .i64 k1, .int .i64 k2, .int .i64 k3, .int .i64 k4, .int .i64 k5, .int .i64 k6, .int .i64 k7, .int .i64 k8, .int .i64 k9, .int .u64 k10, .slice none 0 0, .slice (some ⟨gr, 0, none⟩) xs.length cr], .agg #[.int .i64 2, .int .i64 th, .int .i64 a, .int .i64 b, .int .i64 v, .int .i64 nn, .int .i64 mm, .slice A dl dc], .bool fu] w fun e w' => ∃ gl cap gR cR, e = .returned (.tuple #[.agg #[.int .i64 k0, .int .i64 k1, .int .i64 k2, .int .i64 k3, .int .i64 k4, .int .i64 k5, .int .i64 k6, .int .i64 k7, .int .i64 k8, .int .i64 k9, .int .u64 k10, .slice (some ⟨gl, 0, none⟩) 1 cap, .slice (some ⟨gR, 0, none⟩) xs.length cR], .int .i64 0]) ∧ w'.cell? ⟨gl, 3, none⟩ = some (.bool true) ∧ w'.cell? ⟨gR, a.toNat * 5, none⟩ = some (.int .i64 1) ∧ w'.cell? ⟨gR, a.toNat * 5 + 1, none⟩ = some (.int .i64 0) ∧ w'.cell? ⟨gR, a.toNat * 5 + 2, none⟩ = some (.int .i64 (nn * mm)) ∧ w'.cell? ⟨gR, a.toNat * 5 + 3, none⟩ = some (.int .i64 0) ∧ w'.cell? ⟨gR, a.toNat * 5 + 4, none⟩ = some (.int .i64 31) ∧ w.heap.size ≤ gR ∧ Below w.heap.size w w' := by
  have hu25 := Try.underlying25
  have hu40 := Try.underlying40
  have hu51 := Try.underlying51
  have hu29 := Try.underlying29
  obtain ⟨w1, hw1, HF⟩ : ∃ w1, ((w.alloc (.cells #[.int .i64 k0, .int .i64 k1, .int .i64 k2, .int .i64 k3, .int .i64 k4, .int .i64 k5, .int .i64 k6, .int .i64 k7, .int .i64 k8, .int .i64 k9, .int .u64 k10, .slice none 0 0, .slice (some ⟨gr, 0, none⟩) xs.length cr] 40)).alloc (.cells #[.int .i64 2, .int .i64 th, .int .i64 a, .int .i64 b, .int .i64 v, .int .i64 nn, .int .i64 mm, .slice A dl dc] 25)).alloc (.cells #[.int .i64 0, .int .i64 0, .int .i64 0, .int .i64 0, .int .i64 0, .int .i64 0, .int .i64 0, .int .i64 0, .int .i64 0, .int .i64 0, .int .u64 0, .slice none 0 0, .slice none 0 0] 40) = w1 ∧ Aside0 (MkF w w1 k0 k1 k2 k3 k4 k5 k6 k7 k8 k9 k10 (.slice none 0 0) (.slice (some ⟨gr, 0, none⟩) xs.length cr) #[.int .i64 2, .int .i64 th, .int .i64 a, .int .i64 b, .int .i64 v, .int .i64 nn, .int .i64 mm, .slice A dl dc]) := ⟨_, rfl, ⟨⟨blk_alloc (blk_alloc (blk_new _ _) _) _, blk_alloc (blk_new1 _ _ _) _, blk_newb _ _ _ _, below_alloc (below_alloc (below_alloc (Below.refl _ _) _) _) _⟩⟩⟩
  obtain ⟨ca0, ca1, ca2, ca3, ca4, ca5, ca6, ca7, ca8, ca9, ca10, ca11, ca12⟩ := cellsR HF.out.m
  obtain ⟨z0, z1, z2, z3, z4, z5, z6, z7⟩ := cells8 HF.out.op
  obtain ⟨cb0, cb1, cb2, cb3, cb4, cb5, cb6, cb7, cb8, cb9, cb10, cb11, cb12⟩ := cellsR HF.out.r
  obtain ⟨cg0, cg1, cg2, cg3, cg4, cg5, cg6, cg7, cg8, cg9, cg10, cg11, cg12⟩ := frozR HF.out.r
  have HX := Aside0.mk hx
  clear hx
  have d1 : decide (nn < 1) = false := decide_eq_false (by omega)
  have d2 : decide (mm < 1) = false := decide_eq_false (by omega)
  have d3 : decide (th < 0) = false := decide_eq_false (by omega)
  have d4 : decide (k3 ≤ th) = false := decide_eq_false (by omega)
  have e0 : (mm = 0) = False := eq_false (by omega)
  have e1 : (mm == 0) = false := beq_eq_false_iff_ne.2 (by omega)
  have hqb : k8.tdiv mm ≤ k8 := by rw [Int.tdiv_eq_ediv_of_nonneg (by omega)]; exact Int.ediv_le_self _ (by omega)
  have hqc : 0 ≤ k8.tdiv mm := Int.tdiv_nonneg (by omega) (by omega)
  obtain ⟨q, hq⟩ : ∃ q, k8.tdiv mm = q := ⟨_, rfl⟩
  rw [hq] at hqb hqc
  have hqw : IntKind.i64.wrap (k8.tdiv mm) = q := by rw [hq]; exact (i64_w _).trans (by unfold wrap64; omega)
  have d5 : decide (q < nn) = false := decide_eq_false (by omega)
  obtain ⟨hp1, hp2⟩ := quo_mul hm1 hn1 hk8 hle
  obtain ⟨p, hp⟩ : ∃ p, nn * mm = p := ⟨_, rfl⟩
  rw [hp] at hp1 hp2
  have hpw2 : IntKind.i64.wrap (nn * mm) = p := by rw [hp]; exact (i64_w _).trans (by unfold wrap64; omega)
  rw [hp] at hr
  rw [hp]
  have he2 : askFull k3 k8 th p fu = 0 := by rw [askFull, askOf_nil (by omega) (by omega), hfu]; rfl
  subst hfu
  go_enter Try.func26, Try.ntmps26
  go_wp2_with fail
  go_quiet (fail)
  go_wp2_with fail
  go_quiet (fail)
  go_wp2_with fail
  refine (rAsk k0 k1 k2 k3 k4 k5 k6 k7 k8 k9 k10 (.slice none 0 0) (.slice (some ⟨gr, 0, none⟩) xs.length cr) th (p) _ (0) _ he2).mono ?_
  rintro e w2 ⟨rfl, hb⟩
  have HF2 := Aside0.mk (MkF.below (by first | exact HF.out | exact HF.out.drewN _ | exact (HF.out.drewN _).drewN _) hb)
  clear hb
  obtain ⟨ha0, ha1, ha2, ha3, ha4, ha5, ha6, ha7, ha8, ha9, ha10, ha11, ha12⟩ := cellsR HF2.out.m
  obtain ⟨v0, v1, v2, v3, v4, v5, v6, v7⟩ := cells8 HF2.out.op
  obtain ⟨hb0, hb1, hb2, hb3, hb4, hb5, hb6, hb7, hb8, hb9, hb10, hb11, hb12⟩ := cellsR HF2.out.r
  obtain ⟨hg0, hg1, hg2, hg3, hg4, hg5, hg6, hg7, hg8, hg9, hg10, hg11, hg12⟩ := frozR HF2.out.r
  go_wp2_with fail
  refine (rMade kk k0 k1 k2 k3 k4 k5 k6 k7 k8 k9 k10 (some ⟨gr, 0, none⟩) xs.length cr (p) (1) _ r _ hr h1 h2).mono ?_
  rintro e w5 ⟨gl, cap, rfl, hl, hbw⟩
  have HF5 := Aside0.mk (MkF.below (show MkF w w2 k0 k1 k2 k3 k4 k5 k6 k7 k8 k9 k10 (.slice none 0 0) (.slice (some ⟨gr, 0, none⟩) xs.length cr) _ from HF2.out) hbw)
  have HX5 := Aside0.mk (show w5.heap[gr]? = some (.cells (cells51 xs) t0 (0, 0)) from blk_below (blk_below HX.out HF2.out.b) hbw)
  have HL5 := Aside0.mk hl
  clear hl hbw ha0 ha1 ha2 ha3 ha4 ha5 ha6 ha7 ha8 ha9 ha10 ha11 ha12 hb0 hb1 hb2 hb3 hb4 hb5 hb6 hb7 hb8 hb9 hb10 hb11 hb12 hg0 hg1 hg2 hg3 hg4 hg5 hg6 hg7 hg8 hg9 hg10 hg11 hg12 v0 v1 v2 v3 v4 v5 v6 v7
  obtain ⟨w6, hw6, HF6, HX6, HL6, HY6⟩ : ∃ w6, w5.alloc (.cells #[.int .i64 0, .int .i64 0, .int .i64 0, .int .i64 0, .int .i64 0] 51) = w6 ∧ Aside0 (MkF w w6 k0 k1 k2 k3 k4 k5 k6 k7 k8 k9 k10 (.slice none 0 0) (.slice (some ⟨gr, 0, none⟩) xs.length cr) _) ∧ Aside0 (w6.heap[gr]? = some (.cells (cells51 xs) t0 (0, 0))) ∧ Aside0 (w6.cell? ⟨gl, 3, none⟩ = some (.bool true) ∧ gl < w5.heap.size ∧ w.heap.size + 1 + 1 < w5.heap.size) ∧ Aside0 (w6.heap[w5.heap.size]? = some (.cells #[.int .i64 0, .int .i64 0, .int .i64 0, .int .i64 0, .int .i64 0] 51 (0, 0))) := ⟨_, rfl, ⟨MkF.below HF5.out (below_alloc (Below.refl _ _) _)⟩, ⟨blk_alloc HX5.out _⟩, ⟨cell_alloc1 HL5.out _, World.block_lt_of_cell? _ _ HL5.out, blk_lt HF5.out.r⟩, ⟨blk_new _ _⟩⟩
  obtain ⟨w7, hw7, HF7, HX7, HL7, HY7⟩ := mk_store (gl := gl) (cap := cap) (n := p) HF6 HX6 HL6 HY6 (blk_lt HX.out)
  obtain ⟨ha0, ha1, ha2, ha3, ha4, ha5, ha6, ha7, ha8, ha9, ha10, ha11, ha12⟩ := cellsR HF6.out.m
  obtain ⟨v0, v1, v2, v3, v4, v5, v6, v7⟩ := cells8 HF6.out.op
  obtain ⟨hb0, hb1, hb2, hb3, hb4, hb5, hb6, hb7, hb8, hb9, hb10, hb11, hb12⟩ := cellsR HF6.out.r
  obtain ⟨hg0, hg1, hg2, hg3, hg4, hg5, hg6, hg7, hg8, hg9, hg10, hg11, hg12⟩ := frozR HF6.out.r
  obtain ⟨hm0, hm1, hm2, hm3, hm4, hm5, hm6, hm7, hm8, hm9, hm10, hm11, hm12⟩ := frozR HF6.out.m
  obtain ⟨x0, x1, x2, x3, x4, y0, y1, y2, y3, y4⟩ := cells5 HY6.out
  obtain ⟨hn0, hn1, hn2, hn3, hn4, hn5, hn6, hn7, hn8, hn9, hn10, hn11, hn12⟩ := cellsR HF7.out.m
  obtain ⟨u0, u1, u2, u3, u4, u5, u6, u7⟩ := cells8 HF7.out.op
  obtain ⟨xa0, xa1, xa2, xa3, xa4, _⟩ := cells5 HY7.out
  have n1 : ¬ (w5.heap.size = w.heap.size) := by have hq := HL6.out.2.2; omega
  have n2 : ¬ (w.heap.size = w5.heap.size) := by have hq := HL6.out.2.2; omega
  go_wp2_with fail
  refine (rSet k0 k1 k2 k3 k4 k5 k6 k7 k8 k9 k10 (some ⟨gl, 0, none⟩) 1 cap gr cr t0 xs a 1 0 (p) 0 31 _ HX7.out hia0 hia1 hn).mono ?_
  rintro e w8 ⟨gR, cR, rfl, g0, g1, g2, g3, g4, hgR, hbv⟩
  have HR8 := Aside0.mk (blk_below HF7.out.r hbv)
  have HB8 := Aside0.mk (below_step HF7.out.b hbv)
  have HG8 := Aside0.mk (And.intro g0 (And.intro g1 (And.intro g2 (And.intro g3 (And.intro g4 (And.intro hgR ((hbv.cell (World.block_lt_of_cell? _ _ HL7.out)).trans HL7.out)))))))
  clear g0 g1 g2 g3 g4 hgR hbv x0 x1 x2 x3 x4 y0 y1 y2 y3 y4 ha0 ha1 ha2 ha3 ha4 ha5 ha6 ha7 ha8 ha9 ha10 ha11 ha12 hb0 hb1 hb2 hb3 hb4 hb5 hb6 hb7 hb8 hb9 hb10 hb11 hb12 hg0 hg1 hg2 hg3 hg4 hg5 hg6 hg7 hg8 hg9 hg10 hg11 hg12 v0 v1 v2 v3 v4 v5 v6 v7
  obtain ⟨rc0, rc1, rc2, rc3, rc4, rc5, rc6, rc7, rc8, rc9, rc10, rc11, rc12⟩ := cellsR HR8.out
  obtain ⟨rf0, rf1, rf2, rf3, rf4, rf5, rf6, rf7, rf8, rf9, rf10, rf11, rf12⟩ := frozR HR8.out
  go_wp2
  obtain ⟨g0, g1, g2, g3, g4, hgR, hgl⟩ := HG8.out
  have hr7 := blk_lt HF7.out.r
  have e1 : gR ≠ w.heap.size + 1 + 1 := by omega
  have e2 : gl ≠ w.heap.size + 1 + 1 := by
    intro e
    have hq := (blk_cell HR8.out 3).trans rfl
    rw [e] at hgl
    rw [hgl] at hq
    cases hq
  refine bodyPost_ret (retRe rfl _ _ (w.heap.size + 1 + 1) #[.int .i64 k0, .int .i64 k1, .int .i64 k2, .int .i64 k3, .int .i64 k4, .int .i64 k5, .int .i64 k6, .int .i64 k7, .int .i64 k8, .int .i64 k9, .int .u64 k10, .slice (some ⟨gl, 0, none⟩) 1 cap, .slice (some ⟨gR, 0, none⟩) xs.length cR] rfl rfl (put13 _ _ _ _ _ _ _ _ _ _ _ _ _  HR8.out)) rfl ?_
  exact ⟨gl, cap, gR, cR, rfl, cell_put13 hgl e2, cell_put13 g0 e1, cell_put13 g1 e1, cell_put13 g2 e1, cell_put13 g3 e1, cell_put13 g4 e1, Nat.le_trans HF7.out.b.size hgR, by repeat (first | (with_reducible exact HB8.out) | (with_reducible refine below_set ?_ (by omega)))⟩

set_option maxHeartbeats 8000000 in
set_option maxRecDepth 100000 in
theorem rm3b (k0 k1 k2 k3 k4 k5 k6 k7 k8 k9 k10 : Int) (gr cr : Nat) (xs : List S51) (th a b v nn mm : Int) (A : Option Addr) (dl dc : Nat) (fu : Bool) (w : World) (hmlo : -9223372036854775808 ≤ mm) (hmhi : mm < 9223372036854775808) (hbad : refEnd mm ≠ 1 ∨ 256 < mm) :
    Calls Try.prog 26 #[.agg #[.int .i64 k0, .int .i64 k1, .int .i64 k2, .int .i64 k3, .int .i64 k4, .int .i64 k5, .int .i64 k6, .int .i64 k7, .int .i64 k8, .int .i64 k9, .int .u64 k10, .slice none 0 0, .slice (some ⟨gr, 0, none⟩) xs.length cr], .agg #[.int .i64 3, .int .i64 th, .int .i64 a, .int .i64 b, .int .i64 v, .int .i64 nn, .int .i64 mm, .slice A dl dc], .bool fu] w fun e w' => e = .returned (.tuple #[.agg #[.int .i64 k0, .int .i64 k1, .int .i64 k2, .int .i64 k3, .int .i64 k4, .int .i64 k5, .int .i64 k6, .int .i64 k7, .int .i64 k8, .int .i64 k9, .int .u64 k10, .slice none 0 0, .slice (some ⟨gr, 0, none⟩) xs.length cr], .int .i64 1]) ∧ Below w.heap.size w w' := by
  have hu25 := Try.underlying25
  have hu40 := Try.underlying40
  have hu51 := Try.underlying51
  have hu29 := Try.underlying29
  obtain ⟨w1, hw1, HF⟩ : ∃ w1, ((w.alloc (.cells #[.int .i64 k0, .int .i64 k1, .int .i64 k2, .int .i64 k3, .int .i64 k4, .int .i64 k5, .int .i64 k6, .int .i64 k7, .int .i64 k8, .int .i64 k9, .int .u64 k10, .slice none 0 0, .slice (some ⟨gr, 0, none⟩) xs.length cr] 40)).alloc (.cells #[.int .i64 3, .int .i64 th, .int .i64 a, .int .i64 b, .int .i64 v, .int .i64 nn, .int .i64 mm, .slice A dl dc] 25)).alloc (.cells #[.int .i64 0, .int .i64 0, .int .i64 0, .int .i64 0, .int .i64 0, .int .i64 0, .int .i64 0, .int .i64 0, .int .i64 0, .int .i64 0, .int .u64 0, .slice none 0 0, .slice none 0 0] 40) = w1 ∧ Aside0 (MkF w w1 k0 k1 k2 k3 k4 k5 k6 k7 k8 k9 k10 (.slice none 0 0) (.slice (some ⟨gr, 0, none⟩) xs.length cr) #[.int .i64 3, .int .i64 th, .int .i64 a, .int .i64 b, .int .i64 v, .int .i64 nn, .int .i64 mm, .slice A dl dc]) := ⟨_, rfl, ⟨⟨blk_alloc (blk_alloc (blk_new _ _) _) _, blk_alloc (blk_new1 _ _ _) _, blk_newb _ _ _ _, below_alloc (below_alloc (below_alloc (Below.refl _ _) _) _) _⟩⟩⟩
  obtain ⟨ca0, ca1, ca2, ca3, ca4, ca5, ca6, ca7, ca8, ca9, ca10, ca11, ca12⟩ := cellsR HF.out.m
  obtain ⟨z0, z1, z2, z3, z4, z5, z6, z7⟩ := cells8 HF.out.op
  obtain ⟨cb0, cb1, cb2, cb3, cb4, cb5, cb6, cb7, cb8, cb9, cb10, cb11, cb12⟩ := cellsR HF.out.r
  obtain ⟨cg0, cg1, cg2, cg3, cg4, cg5, cg6, cg7, cg8, cg9, cg10, cg11, cg12⟩ := frozR HF.out.r
  go_enter Try.func26, Try.ntmps26
  go_wp2_with fail
  go_quiet (fail)
  go_wp2_with fail
  go_loopw [11] (fun v11 wr => ∃ c : Int, v11 = .int .i64 c ∧ refEnd c = refEnd mm ∧ -9223372036854775808 ≤ c ∧ c < 9223372036854775808 ∧ Aside0 (MkF w wr k0 k1 k2 k3 k4 k5 k6 k7 k8 k9 k10 (.slice none 0 0) (.slice (some ⟨gr, 0, none⟩) xs.length cr) #[.int .i64 3, .int .i64 th, .int .i64 a, .int .i64 b, .int .i64 v, .int .i64 nn, .int .i64 mm, .slice A dl dc])) (fun v11 _ => (intOf v11).toNat)
  case atStart => exact ⟨mm, rfl, rfl, hmlo, hmhi, ⟨by first | exact HF.out.drewN _ | exact HF.out⟩⟩
  case round =>
    obtain ⟨c, rfl, hce, hclo, hchi, HW⟩ := hrel
    obtain ⟨w0, w1_, w2_, w3_, w4_, w5_, w6_, w7_⟩ := cells8 HW.out.op
    by_cases c1 : 1 < c
    · have d1 : decide (1 < c) = true := decide_eq_true c1
      by_cases c2 : c % 2 = 0
      · have t1 : c.tmod 2 = 0 := by rw [Int.tmod_eq_emod_of_nonneg (by omega)]; exact c2
        obtain ⟨c3, hc3⟩ : ∃ c3, c / 2 = c3 := ⟨_, rfl⟩
        have t2 : c.tdiv 2 = c3 := by rw [Int.tdiv_eq_ediv_of_nonneg (by omega)]; exact hc3
        have t3 : IntKind.i64.wrap c3 = c3 := (i64_w _).trans (by unfold wrap64; omega)
        have t4 : refEnd c3 = refEnd mm := by rw [← hce, ← refEnd_step c c1 c2, hc3]
        have HT := Aside0.mk (And.intro t4 hc3)
        clear t4 hce
        go_wp2
        exact ⟨⟨c3, rfl, HT.out.1, by omega, by omega, HW⟩, by simp only [intOf]; omega⟩
      · have t1 : c.tmod 2 = 1 := by rw [Int.tmod_eq_emod_of_nonneg (by omega)]; omega
        have t2 : c % 2 = 1 := by omega
        have hend : refEnd mm = c := by rw [← hce, refEnd_stop c (by omega)]
        clear hce c2
        obtain ⟨ha0, ha1, ha2, ha3, ha4, ha5, ha6, ha7, ha8, ha9, ha10, ha11, ha12⟩ := cellsR HW.out.m
        obtain ⟨hb0, hb1, hb2, hb3, hb4, hb5, hb6, hb7, hb8, hb9, hb10, hb11, hb12⟩ := cellsR HW.out.r
        obtain ⟨hg0, hg1, hg2, hg3, hg4, hg5, hg6, hg7, hg8, hg9, hg10, hg11, hg12⟩ := frozR HW.out.r
        have c5 : ¬ c = 1 := by omega
        have d7 : (c == 1) = false := beq_eq_false_iff_ne.2 c5
        have d8 : (c != 1) = true := by simp [bne, d7]
        have d9 : (c = 1) = False := eq_false c5
        go_wp2
        refine bodyPost_ret (retRe rfl _ _ (w.heap.size + 1 + 1) #[.int .i64 k0, .int .i64 k1, .int .i64 k2, .int .i64 k3, .int .i64 k4, .int .i64 k5, .int .i64 k6, .int .i64 k7, .int .i64 k8, .int .i64 k9, .int .u64 k10, .slice none 0 0, .slice (some ⟨gr, 0, none⟩) xs.length cr] rfl rfl (by first | (with_reducible exact put13 _ _ _ _ _ _ _ _ _ _ _ _ _  HW.out.r) | exact put13 _ _ _ _ _ _ _ _ _ _ _ _ _  (HW.out.drewN _).r | exact put13 _ _ _ _ _ _ _ _ _ _ _ _ _  ((HW.out.drewN _).drewN _).r)) rfl ?_
        exact ⟨rfl, by repeat (first | (with_reducible exact HW.out.b) | (with_reducible apply below_drew1) | (with_reducible apply pw_below_drewN) | (with_reducible refine below_set ?_ (by omega)))⟩
    · have d1 : decide (1 < c) = false := decide_eq_false c1
      have hend : refEnd mm = c := by rw [← hce, refEnd_stop c (by omega)]
      clear hce
      obtain ⟨ha0, ha1, ha2, ha3, ha4, ha5, ha6, ha7, ha8, ha9, ha10, ha11, ha12⟩ := cellsR HW.out.m
      obtain ⟨hb0, hb1, hb2, hb3, hb4, hb5, hb6, hb7, hb8, hb9, hb10, hb11, hb12⟩ := cellsR HW.out.r
      obtain ⟨hg0, hg1, hg2, hg3, hg4, hg5, hg6, hg7, hg8, hg9, hg10, hg11, hg12⟩ := frozR HW.out.r
      rw [hend] at hbad
      clear hend
      by_cases c5 : c = 1
      · subst c5
        have d6 : decide (256 < mm) = true := decide_eq_true (hbad.resolve_left (by decide))
        go_wp2
        refine bodyPost_ret (retRe rfl _ _ (w.heap.size + 1 + 1) #[.int .i64 k0, .int .i64 k1, .int .i64 k2, .int .i64 k3, .int .i64 k4, .int .i64 k5, .int .i64 k6, .int .i64 k7, .int .i64 k8, .int .i64 k9, .int .u64 k10, .slice none 0 0, .slice (some ⟨gr, 0, none⟩) xs.length cr] rfl rfl (by first | (with_reducible exact put13 _ _ _ _ _ _ _ _ _ _ _ _ _  HW.out.r) | exact put13 _ _ _ _ _ _ _ _ _ _ _ _ _  (HW.out.drewN _).r | exact put13 _ _ _ _ _ _ _ _ _ _ _ _ _  ((HW.out.drewN _).drewN _).r)) rfl ?_
        exact ⟨rfl, by repeat (first | (with_reducible exact HW.out.b) | (with_reducible apply below_drew1) | (with_reducible apply pw_below_drewN) | (with_reducible refine below_set ?_ (by omega)))⟩
      · have d7 : (c == 1) = false := beq_eq_false_iff_ne.2 c5
        have d8 : (c != 1) = true := by simp [bne, d7]
        have d9 : (c = 1) = False := eq_false c5
        go_wp2
        refine bodyPost_ret (retRe rfl _ _ (w.heap.size + 1 + 1) #[.int .i64 k0, .int .i64 k1, .int .i64 k2, .int .i64 k3, .int .i64 k4, .int .i64 k5, .int .i64 k6, .int .i64 k7, .int .i64 k8, .int .i64 k9, .int .u64 k10, .slice none 0 0, .slice (some ⟨gr, 0, none⟩) xs.length cr] rfl rfl (by first | (with_reducible exact put13 _ _ _ _ _ _ _ _ _ _ _ _ _  HW.out.r) | exact put13 _ _ _ _ _ _ _ _ _ _ _ _ _  (HW.out.drewN _).r | exact put13 _ _ _ _ _ _ _ _ _ _ _ _ _  ((HW.out.drewN _).drewN _).r)) rfl ?_
        exact ⟨rfl, by repeat (first | (with_reducible exact HW.out.b) | (with_reducible apply below_drew1) | (with_reducible apply pw_below_drewN) | (with_reducible refine below_set ?_ (by omega)))⟩

set_option maxHeartbeats 8000000 in
set_option maxRecDepth 100000 in
theorem rm3a (k0 k1 k2 k3 k4 k5 k6 k7 k8 k9 k10 : Int) (gr cr : Nat) (xs : List S51) (th a b v nn mm : Int) (A : Option Addr) (dl dc : Nat) (fu : Bool) (w : World) (hmlo : -9223372036854775808 ≤ mm) (hmhi : mm < 9223372036854775808) (hp0 : refEnd mm = 1) (hmm : mm ≤ 256) (x : Int) (he : askFull k3 k8 th nn fu = x) (hx0 : x = 1 ∨ x = 4 ∨ x = 13) :
    Calls Try.prog 26 #[.agg #[.int .i64 k0, .int .i64 k1, .int .i64 k2, .int .i64 k3, .int .i64 k4, .int .i64 k5, .int .i64 k6, .int .i64 k7, .int .i64 k8, .int .i64 k9, .int .u64 k10, .slice none 0 0, .slice (some ⟨gr, 0, none⟩) xs.length cr], .agg #[.int .i64 3, .int .i64 th, .int .i64 a, .int .i64 b, .int .i64 v, .int .i64 nn, .int .i64 mm, .slice A dl dc], .bool fu] w fun e w' => e = .returned (.tuple #[.agg #[.int .i64 k0, .int .i64 k1, .int .i64 k2, .int .i64 k3, .int .i64 k4, .int .i64 k5, .int .i64 k6, .int .i64 k7, .int .i64 k8, .int .i64 k9, .int .u64 k10, .slice none 0 0, .slice (some ⟨gr, 0, none⟩) xs.length cr], .int .i64 x]) ∧ Below w.heap.size w w' := by
  have hu25 := Try.underlying25
  have hu40 := Try.underlying40
  have hu51 := Try.underlying51
  have hu29 := Try.underlying29
  obtain ⟨w1, hw1, HF⟩ : ∃ w1, ((w.alloc (.cells #[.int .i64 k0, .int .i64 k1, .int .i64 k2, .int .i64 k3, .int .i64 k4, .int .i64 k5, .int .i64 k6, .int .i64 k7, .int .i64 k8, .int .i64 k9, .int .u64 k10, .slice none 0 0, .slice (some ⟨gr, 0, none⟩) xs.length cr] 40)).alloc (.cells #[.int .i64 3, .int .i64 th, .int .i64 a, .int .i64 b, .int .i64 v, .int .i64 nn, .int .i64 mm, .slice A dl dc] 25)).alloc (.cells #[.int .i64 0, .int .i64 0, .int .i64 0, .int .i64 0, .int .i64 0, .int .i64 0, .int .i64 0, .int .i64 0, .int .i64 0, .int .i64 0, .int .u64 0, .slice none 0 0, .slice none 0 0] 40) = w1 ∧ Aside0 (MkF w w1 k0 k1 k2 k3 k4 k5 k6 k7 k8 k9 k10 (.slice none 0 0) (.slice (some ⟨gr, 0, none⟩) xs.length cr) #[.int .i64 3, .int .i64 th, .int .i64 a, .int .i64 b, .int .i64 v, .int .i64 nn, .int .i64 mm, .slice A dl dc]) := ⟨_, rfl, ⟨⟨blk_alloc (blk_alloc (blk_new _ _) _) _, blk_alloc (blk_new1 _ _ _) _, blk_newb _ _ _ _, below_alloc (below_alloc (below_alloc (Below.refl _ _) _) _) _⟩⟩⟩
  obtain ⟨ca0, ca1, ca2, ca3, ca4, ca5, ca6, ca7, ca8, ca9, ca10, ca11, ca12⟩ := cellsR HF.out.m
  obtain ⟨z0, z1, z2, z3, z4, z5, z6, z7⟩ := cells8 HF.out.op
  obtain ⟨cb0, cb1, cb2, cb3, cb4, cb5, cb6, cb7, cb8, cb9, cb10, cb11, cb12⟩ := cellsR HF.out.r
  obtain ⟨cg0, cg1, cg2, cg3, cg4, cg5, cg6, cg7, cg8, cg9, cg10, cg11, cg12⟩ := frozR HF.out.r
  go_enter Try.func26, Try.ntmps26
  go_wp2_with fail
  go_quiet (fail)
  go_wp2_with fail
  go_loopw [11] (fun v11 wr => ∃ c : Int, v11 = .int .i64 c ∧ refEnd c = refEnd mm ∧ -9223372036854775808 ≤ c ∧ c < 9223372036854775808 ∧ Aside0 (MkF w wr k0 k1 k2 k3 k4 k5 k6 k7 k8 k9 k10 (.slice none 0 0) (.slice (some ⟨gr, 0, none⟩) xs.length cr) #[.int .i64 3, .int .i64 th, .int .i64 a, .int .i64 b, .int .i64 v, .int .i64 nn, .int .i64 mm, .slice A dl dc])) (fun v11 _ => (intOf v11).toNat)
  case atStart => exact ⟨mm, rfl, rfl, hmlo, hmhi, ⟨by first | exact HF.out.drewN _ | exact HF.out⟩⟩
  case round =>
    obtain ⟨c, rfl, hce, hclo, hchi, HW⟩ := hrel
    obtain ⟨w0, w1_, w2_, w3_, w4_, w5_, w6_, w7_⟩ := cells8 HW.out.op
    by_cases c1 : 1 < c
    · have d1 : decide (1 < c) = true := decide_eq_true c1
      by_cases c2 : c % 2 = 0
      · have t1 : c.tmod 2 = 0 := by rw [Int.tmod_eq_emod_of_nonneg (by omega)]; exact c2
        obtain ⟨c3, hc3⟩ : ∃ c3, c / 2 = c3 := ⟨_, rfl⟩
        have t2 : c.tdiv 2 = c3 := by rw [Int.tdiv_eq_ediv_of_nonneg (by omega)]; exact hc3
        have t3 : IntKind.i64.wrap c3 = c3 := (i64_w _).trans (by unfold wrap64; omega)
        have t4 : refEnd c3 = refEnd mm := by rw [← hce, ← refEnd_step c c1 c2, hc3]
        have HT := Aside0.mk (And.intro t4 hc3)
        clear t4 hce
        go_wp2
        exact ⟨⟨c3, rfl, HT.out.1, by omega, by omega, HW⟩, by simp only [intOf]; omega⟩
      · have t1 : c.tmod 2 = 1 := by rw [Int.tmod_eq_emod_of_nonneg (by omega)]; omega
        have t2 : c % 2 = 1 := by omega
        have hend : refEnd mm = c := by rw [← hce, refEnd_stop c (by omega)]
        clear hce c2
        exfalso
        rw [hp0] at hend
        omega
    · have d1 : decide (1 < c) = false := decide_eq_false c1
      have hend : refEnd mm = c := by rw [← hce, refEnd_stop c (by omega)]
      clear hce
      rw [hp0] at hend
      obtain rfl := hend
      have d6 : decide (256 < mm) = false := decide_eq_false (by omega)
      obtain ⟨he0, he1, he2, he3, he4, he5, he6, he7, he8, he9, he10, he11, he12⟩ := cellsR HW.out.m
      go_wp2_with fail
      refine (rAsk k0 k1 k2 k3 k4 k5 k6 k7 k8 k9 k10 (.slice none 0 0) (.slice (some ⟨gr, 0, none⟩) xs.length cr) th (nn) _ (x) _ he).mono ?_
      rintro e w2 ⟨rfl, hb⟩
      have HF2 := Aside0.mk (MkF.below HW.out hb)
      clear hb
      obtain ⟨ha0, ha1, ha2, ha3, ha4, ha5, ha6, ha7, ha8, ha9, ha10, ha11, ha12⟩ := cellsR HF2.out.m
      obtain ⟨v0, v1, v2, v3, v4, v5, v6, v7⟩ := cells8 HF2.out.op
      obtain ⟨hb0, hb1, hb2, hb3, hb4, hb5, hb6, hb7, hb8, hb9, hb10, hb11, hb12⟩ := cellsR HF2.out.r
      obtain ⟨hg0, hg1, hg2, hg3, hg4, hg5, hg6, hg7, hg8, hg9, hg10, hg11, hg12⟩ := frozR HF2.out.r
      rcases hx0 with rfl | rfl | rfl
      all_goals
        go_wp2
        refine bodyPost_ret (retRe rfl _ _ (w.heap.size + 1 + 1) #[.int .i64 k0, .int .i64 k1, .int .i64 k2, .int .i64 k3, .int .i64 k4, .int .i64 k5, .int .i64 k6, .int .i64 k7, .int .i64 k8, .int .i64 k9, .int .u64 k10, .slice none 0 0, .slice (some ⟨gr, 0, none⟩) xs.length cr] rfl rfl (by first | (with_reducible exact put13 _ _ _ _ _ _ _ _ _ _ _ _ _  HF2.out.r) | exact put13 _ _ _ _ _ _ _ _ _ _ _ _ _  (HF2.out.drewN _).r | exact put13 _ _ _ _ _ _ _ _ _ _ _ _ _  ((HF2.out.drewN _).drewN _).r)) rfl ?_
        exact ⟨rfl, by repeat (first | (with_reducible exact HF2.out.b) | (with_reducible apply below_drew1) | (with_reducible apply pw_below_drewN) | (with_reducible refine below_set ?_ (by omega)))⟩

set_option maxHeartbeats 8000000 in
set_option maxRecDepth 100000 in
theorem rm3m (k0 k1 k2 k3 k4 k5 k6 k7 k8 k9 k10 : Int) (gr cr : Nat) (xs : List S51) (th a b v nn mm : Int) (A : Option Addr) (dl dc : Nat) (fu : Bool) (w : World) (t0 : TypeId) (hx : w.heap[gr]? = some (.cells (cells51 xs) t0 (0, 0))) (hia0 : 0 ≤ a) (hia1 : a < (xs.length : Int)) (hn : xs.length ≤ 64) (kk r : Nat) (hr : cubbyholeref44_room.f kk (nn) (mm) = some (r : Int)) (h1 : 1 ≤ r) (h2 : r ≤ 1000000) (hmlo : -9223372036854775808 ≤ mm) (hmhi : mm < 9223372036854775808) (hp0 : refEnd mm = 1) (hmm : mm ≤ 256) (he : askFull k3 k8 th nn fu = 0) :
    Calls Try.prog 26 #[.agg #[.int .i64 k0, .int .i64 k1, .int .i64 k2, .int .i64 k3, .int .i64 k4, .int .i64 k5, .int .i64 k6, .int .i64 k7, .int .i64 k8, .int .i64 k9, .int .u64 k10, .slice none 0 0, .slice (some ⟨gr, 0, none⟩) xs.length cr], .agg #[.int .i64 3, .int .i64 th, .int .i64 a, .int .i64 b, .int .i64 v, .int .i64 nn, .int .i64 mm, .slice A dl dc], .bool fu] w fun e w' => ∃ gl cap gR cR, e = .returned (.tuple #[.agg #[.int .i64 k0, .int .i64 k1, .int .i64 k2, .int .i64 k3, .int .i64 k4, .int .i64 k5, .int .i64 k6, .int .i64 k7, .int .i64 k8, .int .i64 k9, .int .u64 k10, .slice (some ⟨gl, 0, none⟩) 1 cap, .slice (some ⟨gR, 0, none⟩) xs.length cR], .int .i64 0]) ∧ w'.cell? ⟨gl, 3, none⟩ = some (.bool true) ∧ w'.cell? ⟨gR, a.toNat * 5, none⟩ = some (.int .i64 1) ∧ w'.cell? ⟨gR, a.toNat * 5 + 1, none⟩ = some (.int .i64 0) ∧ w'.cell? ⟨gR, a.toNat * 5 + 2, none⟩ = some (.int .i64 (nn)) ∧ w'.cell? ⟨gR, a.toNat * 5 + 3, none⟩ = some (.int .i64 0) ∧ w'.cell? ⟨gR, a.toNat * 5 + 4, none⟩ = some (.int .i64 31) ∧ w.heap.size ≤ gR ∧ Below w.heap.size w w' := by
  have hu25 := Try.underlying25
  have hu40 := Try.underlying40
  have hu51 := Try.underlying51
  have hu29 := Try.underlying29
  obtain ⟨w1, hw1, HF⟩ : ∃ w1, ((w.alloc (.cells #[.int .i64 k0, .int .i64 k1, .int .i64 k2, .int .i64 k3, .int .i64 k4, .int .i64 k5, .int .i64 k6, .int .i64 k7, .int .i64 k8, .int .i64 k9, .int .u64 k10, .slice none 0 0, .slice (some ⟨gr, 0, none⟩) xs.length cr] 40)).alloc (.cells #[.int .i64 3, .int .i64 th, .int .i64 a, .int .i64 b, .int .i64 v, .int .i64 nn, .int .i64 mm, .slice A dl dc] 25)).alloc (.cells #[.int .i64 0, .int .i64 0, .int .i64 0, .int .i64 0, .int .i64 0, .int .i64 0, .int .i64 0, .int .i64 0, .int .i64 0, .int .i64 0, .int .u64 0, .slice none 0 0, .slice none 0 0] 40) = w1 ∧ Aside0 (MkF w w1 k0 k1 k2 k3 k4 k5 k6 k7 k8 k9 k10 (.slice none 0 0) (.slice (some ⟨gr, 0, none⟩) xs.length cr) #[.int .i64 3, .int .i64 th, .int .i64 a, .int .i64 b, .int .i64 v, .int .i64 nn, .int .i64 mm, .slice A dl dc]) := ⟨_, rfl, ⟨⟨blk_alloc (blk_alloc (blk_new _ _) _) _, blk_alloc (blk_new1 _ _ _) _, blk_newb _ _ _ _, below_alloc (below_alloc (below_alloc (Below.refl _ _) _) _) _⟩⟩⟩
  obtain ⟨ca0, ca1, ca2, ca3, ca4, ca5, ca6, ca7, ca8, ca9, ca10, ca11, ca12⟩ := cellsR HF.out.m
  obtain ⟨z0, z1, z2, z3, z4, z5, z6, z7⟩ := cells8 HF.out.op
  obtain ⟨cb0, cb1, cb2, cb3, cb4, cb5, cb6, cb7, cb8, cb9, cb10, cb11, cb12⟩ := cellsR HF.out.r
  obtain ⟨cg0, cg1, cg2, cg3, cg4, cg5, cg6, cg7, cg8, cg9, cg10, cg11, cg12⟩ := frozR HF.out.r
  have HX := Aside0.mk hx
  clear hx
  go_enter Try.func26, Try.ntmps26
  go_wp2_with fail
  go_quiet (fail)
  go_wp2_with fail
  go_loopw [11] (fun v11 wr => ∃ c : Int, v11 = .int .i64 c ∧ refEnd c = refEnd mm ∧ -9223372036854775808 ≤ c ∧ c < 9223372036854775808 ∧ Aside0 (MkF w wr k0 k1 k2 k3 k4 k5 k6 k7 k8 k9 k10 (.slice none 0 0) (.slice (some ⟨gr, 0, none⟩) xs.length cr) #[.int .i64 3, .int .i64 th, .int .i64 a, .int .i64 b, .int .i64 v, .int .i64 nn, .int .i64 mm, .slice A dl dc])) (fun v11 _ => (intOf v11).toNat)
  case atStart => exact ⟨mm, rfl, rfl, hmlo, hmhi, ⟨by first | exact HF.out.drewN _ | exact HF.out⟩⟩
  case round =>
    obtain ⟨c, rfl, hce, hclo, hchi, HW⟩ := hrel
    obtain ⟨w0, w1_, w2_, w3_, w4_, w5_, w6_, w7_⟩ := cells8 HW.out.op
    by_cases c1 : 1 < c
    · have d1 : decide (1 < c) = true := decide_eq_true c1
      by_cases c2 : c % 2 = 0
      · have t1 : c.tmod 2 = 0 := by rw [Int.tmod_eq_emod_of_nonneg (by omega)]; exact c2
        obtain ⟨c3, hc3⟩ : ∃ c3, c / 2 = c3 := ⟨_, rfl⟩
        have t2 : c.tdiv 2 = c3 := by rw [Int.tdiv_eq_ediv_of_nonneg (by omega)]; exact hc3
        have t3 : IntKind.i64.wrap c3 = c3 := (i64_w _).trans (by unfold wrap64; omega)
        have t4 : refEnd c3 = refEnd mm := by rw [← hce, ← refEnd_step c c1 c2, hc3]
        have HT := Aside0.mk (And.intro t4 hc3)
        clear t4 hce
        go_wp2
        exact ⟨⟨c3, rfl, HT.out.1, by omega, by omega, HW⟩, by simp only [intOf]; omega⟩
      · have t1 : c.tmod 2 = 1 := by rw [Int.tmod_eq_emod_of_nonneg (by omega)]; omega
        have t2 : c % 2 = 1 := by omega
        have hend : refEnd mm = c := by rw [← hce, refEnd_stop c (by omega)]
        clear hce c2
        exfalso
        rw [hp0] at hend
        omega
    · have d1 : decide (1 < c) = false := decide_eq_false c1
      have hend : refEnd mm = c := by rw [← hce, refEnd_stop c (by omega)]
      clear hce
      rw [hp0] at hend
      obtain rfl := hend
      have d6 : decide (256 < mm) = false := decide_eq_false (by omega)
      obtain ⟨he0, he1, he2, he3, he4, he5, he6, he7, he8, he9, he10, he11, he12⟩ := cellsR HW.out.m
      go_wp2_with fail
      refine (rAsk k0 k1 k2 k3 k4 k5 k6 k7 k8 k9 k10 (.slice none 0 0) (.slice (some ⟨gr, 0, none⟩) xs.length cr) th (nn) _ (0) _ he).mono ?_
      rintro e w2 ⟨rfl, hb⟩
      have HF2 := Aside0.mk (MkF.below HW.out hb)
      clear hb
      obtain ⟨ha0, ha1, ha2, ha3, ha4, ha5, ha6, ha7, ha8, ha9, ha10, ha11, ha12⟩ := cellsR HF2.out.m
      obtain ⟨v0, v1, v2, v3, v4, v5, v6, v7⟩ := cells8 HF2.out.op
      obtain ⟨hb0, hb1, hb2, hb3, hb4, hb5, hb6, hb7, hb8, hb9, hb10, hb11, hb12⟩ := cellsR HF2.out.r
      obtain ⟨hg0, hg1, hg2, hg3, hg4, hg5, hg6, hg7, hg8, hg9, hg10, hg11, hg12⟩ := frozR HF2.out.r
      go_wp2_with fail
      refine (rMade kk k0 k1 k2 k3 k4 k5 k6 k7 k8 k9 k10 (some ⟨gr, 0, none⟩) xs.length cr (nn) (mm) _ r _ hr h1 h2).mono ?_
      rintro e w5 ⟨gl, cap, rfl, hl, hbw⟩
      have HF5 := Aside0.mk (MkF.below (show MkF w w2 k0 k1 k2 k3 k4 k5 k6 k7 k8 k9 k10 (.slice none 0 0) (.slice (some ⟨gr, 0, none⟩) xs.length cr) _ from HF2.out) hbw)
      have HX5 := Aside0.mk (show w5.heap[gr]? = some (.cells (cells51 xs) t0 (0, 0)) from blk_below (blk_below HX.out HF2.out.b) hbw)
      have HL5 := Aside0.mk hl
      clear hl hbw ha0 ha1 ha2 ha3 ha4 ha5 ha6 ha7 ha8 ha9 ha10 ha11 ha12 hb0 hb1 hb2 hb3 hb4 hb5 hb6 hb7 hb8 hb9 hb10 hb11 hb12 hg0 hg1 hg2 hg3 hg4 hg5 hg6 hg7 hg8 hg9 hg10 hg11 hg12 v0 v1 v2 v3 v4 v5 v6 v7
      obtain ⟨w6, hw6, HF6, HX6, HL6, HY6⟩ : ∃ w6, w5.alloc (.cells #[.int .i64 0, .int .i64 0, .int .i64 0, .int .i64 0, .int .i64 0] 51) = w6 ∧ Aside0 (MkF w w6 k0 k1 k2 k3 k4 k5 k6 k7 k8 k9 k10 (.slice none 0 0) (.slice (some ⟨gr, 0, none⟩) xs.length cr) _) ∧ Aside0 (w6.heap[gr]? = some (.cells (cells51 xs) t0 (0, 0))) ∧ Aside0 (w6.cell? ⟨gl, 3, none⟩ = some (.bool true) ∧ gl < w5.heap.size ∧ w.heap.size + 1 + 1 < w5.heap.size) ∧ Aside0 (w6.heap[w5.heap.size]? = some (.cells #[.int .i64 0, .int .i64 0, .int .i64 0, .int .i64 0, .int .i64 0] 51 (0, 0))) := ⟨_, rfl, ⟨MkF.below HF5.out (below_alloc (Below.refl _ _) _)⟩, ⟨blk_alloc HX5.out _⟩, ⟨cell_alloc1 HL5.out _, World.block_lt_of_cell? _ _ HL5.out, blk_lt HF5.out.r⟩, ⟨blk_new _ _⟩⟩
      obtain ⟨w7, hw7, HF7, HX7, HL7, HY7⟩ := mk_store (gl := gl) (cap := cap) (n := nn) HF6 HX6 HL6 HY6 (blk_lt HX.out)
      obtain ⟨ha0, ha1, ha2, ha3, ha4, ha5, ha6, ha7, ha8, ha9, ha10, ha11, ha12⟩ := cellsR HF6.out.m
      obtain ⟨v0, v1, v2, v3, v4, v5, v6, v7⟩ := cells8 HF6.out.op
      obtain ⟨hb0, hb1, hb2, hb3, hb4, hb5, hb6, hb7, hb8, hb9, hb10, hb11, hb12⟩ := cellsR HF6.out.r
      obtain ⟨hg0, hg1, hg2, hg3, hg4, hg5, hg6, hg7, hg8, hg9, hg10, hg11, hg12⟩ := frozR HF6.out.r
      obtain ⟨hm0, hm1, hm2, hm3, hm4, hm5, hm6, hm7, hm8, hm9, hm10, hm11, hm12⟩ := frozR HF6.out.m
      obtain ⟨x0, x1, x2, x3, x4, y0, y1, y2, y3, y4⟩ := cells5 HY6.out
      obtain ⟨hn0, hn1, hn2, hn3, hn4, hn5, hn6, hn7, hn8, hn9, hn10, hn11, hn12⟩ := cellsR HF7.out.m
      obtain ⟨u0, u1, u2, u3, u4, u5, u6, u7⟩ := cells8 HF7.out.op
      obtain ⟨xa0, xa1, xa2, xa3, xa4, _⟩ := cells5 HY7.out
      have n1 : ¬ (w5.heap.size = w.heap.size) := by have hq := HL6.out.2.2; omega
      have n2 : ¬ (w.heap.size = w5.heap.size) := by have hq := HL6.out.2.2; omega
      go_wp2_with fail
      refine (rSet k0 k1 k2 k3 k4 k5 k6 k7 k8 k9 k10 (some ⟨gl, 0, none⟩) 1 cap gr cr t0 xs a 1 0 (nn) 0 31 _ HX7.out hia0 hia1 hn).mono ?_
      rintro e w8 ⟨gR, cR, rfl, g0, g1, g2, g3, g4, hgR, hbv⟩
      have HR8 := Aside0.mk (blk_below HF7.out.r hbv)
      have HB8 := Aside0.mk (below_step HF7.out.b hbv)
      have HG8 := Aside0.mk (And.intro g0 (And.intro g1 (And.intro g2 (And.intro g3 (And.intro g4 (And.intro hgR ((hbv.cell (World.block_lt_of_cell? _ _ HL7.out)).trans HL7.out)))))))
      clear g0 g1 g2 g3 g4 hgR hbv x0 x1 x2 x3 x4 y0 y1 y2 y3 y4 ha0 ha1 ha2 ha3 ha4 ha5 ha6 ha7 ha8 ha9 ha10 ha11 ha12 hb0 hb1 hb2 hb3 hb4 hb5 hb6 hb7 hb8 hb9 hb10 hb11 hb12 hg0 hg1 hg2 hg3 hg4 hg5 hg6 hg7 hg8 hg9 hg10 hg11 hg12 v0 v1 v2 v3 v4 v5 v6 v7
      obtain ⟨rc0, rc1, rc2, rc3, rc4, rc5, rc6, rc7, rc8, rc9, rc10, rc11, rc12⟩ := cellsR HR8.out
      obtain ⟨rf0, rf1, rf2, rf3, rf4, rf5, rf6, rf7, rf8, rf9, rf10, rf11, rf12⟩ := frozR HR8.out
      go_wp2
      obtain ⟨g0, g1, g2, g3, g4, hgR, hgl⟩ := HG8.out
      have hr7 := blk_lt HF7.out.r
      have e1 : gR ≠ w.heap.size + 1 + 1 := by omega
      have e2 : gl ≠ w.heap.size + 1 + 1 := by
        intro e
        have hq := (blk_cell HR8.out 3).trans rfl
        rw [e] at hgl
        rw [hgl] at hq
        cases hq
      refine bodyPost_ret (retRe rfl _ _ (w.heap.size + 1 + 1) #[.int .i64 k0, .int .i64 k1, .int .i64 k2, .int .i64 k3, .int .i64 k4, .int .i64 k5, .int .i64 k6, .int .i64 k7, .int .i64 k8, .int .i64 k9, .int .u64 k10, .slice (some ⟨gl, 0, none⟩) 1 cap, .slice (some ⟨gR, 0, none⟩) xs.length cR] rfl rfl (put13 _ _ _ _ _ _ _ _ _ _ _ _ _  HR8.out)) rfl ?_
      exact ⟨gl, cap, gR, cR, rfl, cell_put13 hgl e2, cell_put13 g0 e1, cell_put13 g1 e1, cell_put13 g2 e1, cell_put13 g3 e1, cell_put13 g4 e1, Nat.le_trans HF7.out.b.size hgR, by repeat (first | (with_reducible exact HB8.out) | (with_reducible refine below_set ?_ (by omega)))⟩

end Go.Proofs.Ytneejihmakfaoaa.OwnModel
