/- Walks of the model's functions by hand: registers with its closure. Conditions: the model lies in a block. -/
import Derived.Test.YtneejihmakfaoaaOwnModelE
namespace Go.Proofs.Ytneejihmakfaoaa.OwnModel
open Go.RowKit Go.Proofs.Ytneejihmakfaoaa.OwnMask Go.Proofs.Ytneejihmakfaoaa.QModelOne Go.Proofs.YtneejihmakfaoaaW.PrintWords Go.Proofs.YtneejihmakfaoaaW.PrintLast Go.Proofs.YtneejihmakfaoaaW.PrintMore
set_option linter.unusedVariables false
set_option linter.unusedSimpArgs false
/-- A register's number may be. -/
def inRegs (n : Nat) (a : Int) : Bool := decide (0 ≤ a) && decide (a < (n : Int))

set_option maxHeartbeats 2000000 in
set_option maxRecDepth 100000 in
theorem regIn (g bx : Nat) (k0 k1 k2 k3 k4 k5 k6 k7 k8 k9 k10 : Int) (lv : Value) (AR : Option Addr) (n cr : Nat) (a : Int) (w : World) (h : IsM w g k0 k1 k2 k3 k4 k5 k6 k7 k8 k9 k10 lv (.slice AR n cr))
    (hb : w.cell? ⟨bx, 0, none⟩ = some (.pointer (some ⟨g, 0, none⟩))) :
    Calls Try.prog 33 #[.int .i64 a, .pointer (some ⟨bx, 0, none⟩)] w fun e w' => e = .returned (.bool (inRegs n a)) ∧ w' = w := by
  have h12 : w.cell? ⟨g, 12, none⟩ = some (.slice AR n cr) := (blk_cell h 12).trans rfl
  have hu63 := Try.underlying63
  have hu59 := Try.underlying59
  have hu31 := Try.underlying31
  clear h
  by_cases c : 0 ≤ a
  · have d1 : decide (0 ≤ a) = true := decide_eq_true c
    go_enter Try.func33, Try.ntmps33
    go_wp2
    go_ret
    exact ⟨by unfold inRegs; rw [d1]; rfl, rfl⟩
  · have d1 : decide (0 ≤ a) = false := decide_eq_false c
    go_enter Try.func33, Try.ntmps33
    go_wp2
    go_ret
    exact ⟨by unfold inRegs; rw [d1]; rfl, rfl⟩

/-- The registers that something is done with are there. -/
def regsOk (n : Nat) (kd a b v : Int) : Bool :=
  if kd = 1 ∨ kd = 2 ∨ kd = 3 ∨ kd = 18 then inRegs n a
  else if kd = 4 ∨ kd = 6 ∨ kd = 11 ∨ kd = 12 then inRegs n b
  else if kd = 14 then inRegs n b && inRegs n v
  else if kd = 15 ∨ kd = 16 ∨ kd = 17 then true
  else inRegs n a && inRegs n b

set_option maxHeartbeats 4000000 in
set_option maxRecDepth 100000 in
theorem registers (g : Nat) (k0 k1 k2 k3 k4 k5 k6 k7 k8 k9 k10 : Int) (lv : Value) (AR : Option Addr) (n cr : Nat) (kd th a b v nn mm : Int) (dv : Value) (w : World) (h : IsM w g k0 k1 k2 k3 k4 k5 k6 k7 k8 k9 k10 lv (.slice AR n cr))
    (h1 : 1 ≤ kd) (h18 : kd ≤ 18) :
    Calls Try.prog 20 #[.pointer (some ⟨g, 0, none⟩), .agg #[.int .i64 kd, .int .i64 th, .int .i64 a, .int .i64 b, .int .i64 v, .int .i64 nn, .int .i64 mm, dv]] w fun e w' => e = .returned (.bool (regsOk n kd a b v)) ∧ Below w.heap.size w w' := by
  have hu25 := Try.underlying25
  have hmf : ∀ (fn : Fn) (first cap : Array Value) (w : World), (Instr.makeFunc fn first cap).run Try.prog w = .ok (.func fn first cap) w := fun _ _ _ _ => rfl
  obtain ⟨w1, hw1, hb1, hq1, hk1, hM⟩ : ∃ w1, (w.alloc (.cells #[.pointer (some ⟨g, 0, none⟩)] 31)).alloc (.cells #[.int .i64 kd, .int .i64 th, .int .i64 a, .int .i64 b, .int .i64 v, .int .i64 nn, .int .i64 mm, dv] 25) = w1 ∧ w1.cell? ⟨w.heap.size, 0, none⟩ = some (.pointer (some ⟨g, 0, none⟩)) ∧ w1.heap[w.heap.size + 1]? = some (.cells #[.int .i64 kd, .int .i64 th, .int .i64 a, .int .i64 b, .int .i64 v, .int .i64 nn, .int .i64 mm, dv] 25 (0, 0)) ∧ Below w.heap.size w w1 ∧ IsM w1 g k0 k1 k2 k3 k4 k5 k6 k7 k8 k9 k10 lv (.slice AR n cr) :=
    ⟨_, rfl, (blk_cell (blk_alloc (blk_new _ _) _) 0).trans rfl, blk_new1 _ _ _, below_alloc (below_alloc (Below.refl _ _) _) _, blk_alloc (blk_alloc h _) _⟩
  have z0 : w1.cell? ⟨w.heap.size + 1, 0, none⟩ = some (.int .i64 kd) := (blk_cell hq1 0).trans rfl
  have z2 : w1.cell? ⟨w.heap.size + 1, 2, none⟩ = some (.int .i64 a) := (blk_cell hq1 2).trans rfl
  have z3 : w1.cell? ⟨w.heap.size + 1, 3, none⟩ = some (.int .i64 b) := (blk_cell hq1 3).trans rfl
  have z4 : w1.cell? ⟨w.heap.size + 1, 4, none⟩ = some (.int .i64 v) := (blk_cell hq1 4).trans rfl
  have HB := Aside0.mk hk1
  have HM := Aside0.mk hM
  clear hq1 hk1 hM h
  rcases (show kd = 1 ∨ kd = 2 ∨ kd = 3 ∨ kd = 18 ∨ kd = 4 ∨ kd = 6 ∨ kd = 11 ∨ kd = 12 ∨ kd = 15 ∨ kd = 16 ∨ kd = 17 ∨ kd = 14 ∨ kd = 5 ∨ kd = 7 ∨ kd = 8 ∨ kd = 9 ∨ kd = 10 ∨ kd = 13 by omega) with rfl | rfl | rfl | rfl | rfl | rfl | rfl | rfl | rfl | rfl | rfl | rfl | rfl | rfl | rfl | rfl | rfl | rfl
  iterate 8
    · go_enter Try.func20, Try.ntmps20
      go_wp2_with fail
      refine (regIn g w.heap.size k0 k1 k2 k3 k4 k5 k6 k7 k8 k9 k10 lv AR n cr _ _ HM.out hb1).mono ?_
      rintro e w2 ⟨rfl, rfl⟩
      go_wp2
      go_ret
      exact ⟨rfl, HB.out⟩
  iterate 3
    · go_enter Try.func20, Try.ntmps20
      go_wp2
      go_ret
      exact ⟨rfl, HB.out⟩
  · cases hq : inRegs n b with
    | true =>
      go_enter Try.func20, Try.ntmps20
      go_wp2_with fail
      refine (regIn g w.heap.size k0 k1 k2 k3 k4 k5 k6 k7 k8 k9 k10 lv AR n cr _ _ HM.out hb1).mono ?_
      rintro e w2 ⟨rfl, rfl⟩
      go_wp2_with fail
      refine (regIn g w.heap.size k0 k1 k2 k3 k4 k5 k6 k7 k8 k9 k10 lv AR n cr _ _ HM.out hb1).mono ?_
      rintro e w2 ⟨rfl, rfl⟩
      go_wp2
      go_ret
      exact ⟨by unfold regsOk; rw [hq]; rfl, HB.out⟩
    | false =>
      go_enter Try.func20, Try.ntmps20
      go_wp2_with fail
      refine (regIn g w.heap.size k0 k1 k2 k3 k4 k5 k6 k7 k8 k9 k10 lv AR n cr _ _ HM.out hb1).mono ?_
      rintro e w2 ⟨rfl, rfl⟩
      go_wp2
      go_ret
      exact ⟨by unfold regsOk; rw [hq]; rfl, HB.out⟩
  all_goals
    cases hq : inRegs n a with
    | true =>
      go_enter Try.func20, Try.ntmps20
      go_wp2_with fail
      refine (regIn g w.heap.size k0 k1 k2 k3 k4 k5 k6 k7 k8 k9 k10 lv AR n cr _ _ HM.out hb1).mono ?_
      rintro e w2 ⟨rfl, rfl⟩
      go_wp2_with fail
      refine (regIn g w.heap.size k0 k1 k2 k3 k4 k5 k6 k7 k8 k9 k10 lv AR n cr _ _ HM.out hb1).mono ?_
      rintro e w2 ⟨rfl, rfl⟩
      go_wp2
      go_ret
      exact ⟨by unfold regsOk; rw [hq]; rfl, HB.out⟩
    | false =>
      go_enter Try.func20, Try.ntmps20
      go_wp2_with fail
      refine (regIn g w.heap.size k0 k1 k2 k3 k4 k5 k6 k7 k8 k9 k10 lv AR n cr _ _ HM.out hb1).mono ?_
      rintro e w2 ⟨rfl, rfl⟩
      go_wp2
      go_ret
      exact ⟨by unfold regsOk; rw [hq]; rfl, HB.out⟩

end Go.Proofs.Ytneejihmakfaoaa.OwnModel
