/- Walks of the model's functions by hand: Get. Conditions: the model lies in a block. -/
import Derived.Test.YtneejihmakfaoaaOwnModelA
namespace Go.Proofs.Ytneejihmakfaoaa.OwnModel
open Go.RowKit Go.Proofs.Ytneejihmakfaoaa.QModelOne Go.Proofs.YtneejihmakfaoaaW.PrintWords Go.Proofs.YtneejihmakfaoaaW.PrintLast Go.Proofs.YtneejihmakfaoaaW.PrintMore
set_option linter.unusedVariables false
set_option linter.unusedSimpArgs false
theorem Lives.below {w w' : World} {A : Option Addr} {lives : List Bool} (h : Lives w A lives) (hb : Below w.heap.size w w') : Lives w' A lives := by
  intro i hi
  obtain ⟨ad, g, e, h1, h2⟩ := h i hi
  exact ⟨ad, g, e, (hb.cell (World.block_lt_of_cell? w _ h1)).trans h1, (hb.cell (World.block_lt_of_cell? w _ h2)).trans h2⟩

def getOf (lives : List Bool) (xs : List S51) (a : Int) : S51 := if a < 0 ∨ a ≥ xs.length then z51 else goodOf lives (rd_T51 xs a)

set_option maxHeartbeats 2000000 in
set_option maxRecDepth 100000 in
theorem get (g : Nat) (k0 k1 k2 k3 k4 k5 k6 k7 k8 k9 k10 : Int) (A AR : Option Addr) (cc cr : Nat) (lives : List Bool) (xs : List S51) (a : Int) (w : World) (h : IsM w g k0 k1 k2 k3 k4 k5 k6 k7 k8 k9 k10 (.slice A lives.length cc) (.slice AR xs.length cr))
    (hl : Lives w A lives) (hn : lives.length ≤ 1000000000) (hlc : lives.length ≤ cc) (hx : Kd.C k51 w AR xs.length xs) :
    Calls Try.prog 15 #[.pointer (some ⟨g, 0, none⟩), .int .i64 a] w fun e w' => e = .returned (refV (getOf lives xs a)) ∧ Below w.heap.size w w' := by
  have h12 : w.cell? ⟨g, 12, none⟩ = some (.slice AR xs.length cr) := (blk_cell h 12).trans rfl
  have hu63 := Try.underlying63
  have hu49 := Try.underlying49
  have hu59 := Try.underlying59
  have hlt := blk_lt h
  have ret0 : ∀ tmps : Array Value, tmps.getD 4 undef = .pointer (some ⟨w.heap.size, 0, none⟩) → (results Try.f15 tmps).run Try.prog (w.alloc (.cells #[.int .i64 0, .int .i64 0, .int .i64 0, .int .i64 0, .int .i64 0] 49)) = .ok (.agg #[.int .i64 0, .int .i64 0, .int .i64 0, .int .i64 0, .int .i64 0]) (w.alloc (.cells #[.int .i64 0, .int .i64 0, .int .i64 0, .int .i64 0, .int .i64 0] 49)) :=
    fun tmps hp => results_cell_row rfl _ _ w.heap.size 49 #[.int .i64 0, .int .i64 0, .int .i64 0, .int .i64 0, .int .i64 0] (0, 0) _ hp (blk_new _ _) Try.underlying49 rfl (by kernel_rfl)
  by_cases c1 : a < 0
  · have d1 : decide (a < 0) = true := decide_eq_true c1
    go_enter Try.func15, Try.ntmps15
    go_wp2
    refine bodyPost_ret (ret0 _ rfl) rfl ?_
    have e : getOf lives xs a = z51 := by unfold getOf; rw [if_pos (Or.inl c1)]
    rw [e]
    exact ⟨rfl, by (repeat (first | (with_reducible exact Below.refl _ _) | (with_reducible apply below_alloc) | (with_reducible apply pw_below_drewN) | (with_reducible apply below_drew1) | (with_reducible refine below_set ?_ (by omega))))⟩
  · have d1 : decide (a < 0) = false := decide_eq_false c1
    by_cases c2 : a ≥ (xs.length : Int)
    · have d2 : decide ((xs.length : Int) ≤ a) = true := decide_eq_true c2
      go_enter Try.func15, Try.ntmps15
      go_wp2
      refine bodyPost_ret (ret0 _ rfl) rfl ?_
      have e : getOf lives xs a = z51 := by unfold getOf; rw [if_pos (Or.inr c2)]
      rw [e]
      exact ⟨rfl, by (repeat (first | (with_reducible exact Below.refl _ _) | (with_reducible apply below_alloc) | (with_reducible apply pw_below_drewN) | (with_reducible apply below_drew1) | (with_reducible refine below_set ?_ (by omega))))⟩
    · have d2 : decide ((xs.length : Int) ≤ a) = false := decide_eq_false c2
      have p4 : (0 ≤ a) = True := eq_true (by omega)
      have q4 : (a < (xs.length : Int)) = True := eq_true (by omega)
      obtain ⟨ad, rfl, e0, e1, e2, e3, e4⟩ := at_T51 hx a (by omega) (by omega)
      have e : getOf lives xs a = goodOf lives (rd_T51 xs a) := by unfold getOf; rw [if_neg (by omega)]
      rw [e]
      clear e
      have f0 := cell_alloc1 e0
      have f1 := cell_alloc1 e1
      have f2 := cell_alloc1 e2
      have f3 := cell_alloc1 e3
      have f4 := cell_alloc1 e4
      have hM : ∀ o, IsM (w.alloc o) g k0 k1 k2 k3 k4 k5 k6 k7 k8 k9 k10 (.slice A lives.length cc) (.slice (some ad) xs.length cr) := fun o => blk_alloc h o
      go_enter Try.func15, Try.ntmps15
      go_wp2_with fail
      refine (good g k0 k1 k2 k3 k4 k5 k6 k7 k8 k9 k10 A cc (.slice (some ad) xs.length cr) lives (rd_T51 xs a) _ (hM _) (hl.below (below_alloc (Below.refl _ _) _)) hn hlc).mono ?_
      rintro e w2 ⟨rfl, hb⟩
      have hbx := blk_below (blk_new w (.cells #[.int .i64 0, .int .i64 0, .int .i64 0, .int .i64 0, .int .i64 0] 49)) hb
      have hB : Below w.heap.size w w2 := below_step (below_alloc (Below.refl _ _) _) hb
      obtain ⟨y, hy⟩ : ∃ y, goodOf lives (rd_T51 xs a) = y := ⟨_, rfl⟩
      rw [hy]
      have HY := Aside0.mk hy
      clear hy
      unfold refV
      have z0 : w2.cell? ⟨w.heap.size, 0, none⟩ = some (.int .i64 0) := (blk_cell hbx 0).trans rfl
      have z1 : w2.cell? ⟨w.heap.size, 1, none⟩ = some (.int .i64 0) := (blk_cell hbx 1).trans rfl
      have z2 : w2.cell? ⟨w.heap.size, 2, none⟩ = some (.int .i64 0) := (blk_cell hbx 2).trans rfl
      have z3 : w2.cell? ⟨w.heap.size, 3, none⟩ = some (.int .i64 0) := (blk_cell hbx 3).trans rfl
      have z4 : w2.cell? ⟨w.heap.size, 4, none⟩ = some (.int .i64 0) := (blk_cell hbx 4).trans rfl
      have y0 := blk_frozen hbx 0
      have y1 := blk_frozen hbx 1
      have y2 := blk_frozen hbx 2
      have y3 := blk_frozen hbx 3
      have y4 := blk_frozen hbx 4
      have HBX := Aside0.mk hbx
      clear hbx
      go_wp2
      refine bodyPost_ret (ret5 rfl _ _ w.heap.size (.int .i64 0) (.int .i64 0) (.int .i64 0) (.int .i64 0) (.int .i64 0) _ _ _ _ _ rfl HBX.out) rfl ?_
      refine ⟨by rw [HY.out]; rfl, ?_⟩
      repeat (first | (with_reducible exact hB) | (with_reducible refine below_set ?_ (Nat.le_refl _)))

end Go.Proofs.Ytneejihmakfaoaa.OwnModel
