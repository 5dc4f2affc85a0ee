/- Walks of the model's functions by hand: used, of a reference that is none. Conditions: the model lies in a block. -/
import Derived.Test.YtneejihmakfaoaaOwnModelH
namespace Go.Proofs.Ytneejihmakfaoaa.OwnModel
open Go.RowKit Go.Proofs.Ytneejihmakfaoaa.OwnMask Go.Proofs.Ytneejihmakfaoaa.QModelOne Go.Proofs.YtneejihmakfaoaaW.PrintWords Go.Proofs.YtneejihmakfaoaaW.PrintLast Go.Proofs.YtneejihmakfaoaaW.PrintMore
set_option linter.unusedVariables false
set_option linter.unusedSimpArgs false
/-- What is told where a capability that is none is used. -/
def usedErr (c3 kd th nn : Int) (dl : Nat) : Int :=
  if kd = 4 then (if th < 0 ∨ c3 ≤ th then 1 else 7) else if kd = 11 then (if 4096 < nn then 4 else 7) else if kd = 12 then (if 4096 < (dl : Int) then 4 else 7) else 7

theorem cells3 {w : World} {p : Nat} {a0 a1 a2 : Value} {t : TypeId} (h : w.heap[p]? = some (.cells #[a0, a1, a2] t (0, 0))) :
    w.cell? ⟨p, 0, none⟩ = some a0 ∧ w.cell? ⟨p, 1, none⟩ = some a1 ∧ w.cell? ⟨p, 2, none⟩ = some a2 ∧ w.frozen? ⟨p, 0, none⟩ = false ∧ w.frozen? ⟨p, 1, none⟩ = false ∧ w.frozen? ⟨p, 2, none⟩ = false :=
  ⟨(blk_cell h 0).trans rfl, (blk_cell h 1).trans rfl, (blk_cell h 2).trans rfl, blk_frozen h 0, blk_frozen h 1, blk_frozen h 2⟩
theorem cells5 {w : World} {p : Nat} {a0 a1 a2 a3 a4 : Value} {t : TypeId} (h : w.heap[p]? = some (.cells #[a0, a1, a2, a3, a4] t (0, 0))) :
    w.cell? ⟨p, 0, none⟩ = some a0 ∧ w.cell? ⟨p, 1, none⟩ = some a1 ∧ w.cell? ⟨p, 2, none⟩ = some a2 ∧ w.cell? ⟨p, 3, none⟩ = some a3 ∧ w.cell? ⟨p, 4, none⟩ = some a4 ∧ w.frozen? ⟨p, 0, none⟩ = false ∧ w.frozen? ⟨p, 1, none⟩ = false ∧ w.frozen? ⟨p, 2, none⟩ = false ∧ w.frozen? ⟨p, 3, none⟩ = false ∧ w.frozen? ⟨p, 4, none⟩ = false :=
  ⟨(blk_cell h 0).trans rfl, (blk_cell h 1).trans rfl, (blk_cell h 2).trans rfl, (blk_cell h 3).trans rfl, (blk_cell h 4).trans rfl, blk_frozen h 0, blk_frozen h 1, blk_frozen h 2, blk_frozen h 3, blk_frozen h 4⟩
theorem cells8 {w : World} {p : Nat} {a0 a1 a2 a3 a4 a5 a6 a7 : Value} {t : TypeId} (h : w.heap[p]? = some (.cells #[a0, a1, a2, a3, a4, a5, a6, a7] t (0, 0))) :
    w.cell? ⟨p, 0, none⟩ = some a0 ∧ w.cell? ⟨p, 1, none⟩ = some a1 ∧ w.cell? ⟨p, 2, none⟩ = some a2 ∧ w.cell? ⟨p, 3, none⟩ = some a3 ∧ w.cell? ⟨p, 4, none⟩ = some a4 ∧ w.cell? ⟨p, 5, none⟩ = some a5 ∧ w.cell? ⟨p, 6, none⟩ = some a6 ∧ w.cell? ⟨p, 7, none⟩ = some a7 :=
  ⟨(blk_cell h 0).trans rfl, (blk_cell h 1).trans rfl, (blk_cell h 2).trans rfl, (blk_cell h 3).trans rfl, (blk_cell h 4).trans rfl, (blk_cell h 5).trans rfl, (blk_cell h 6).trans rfl, (blk_cell h 7).trans rfl⟩

set_option maxHeartbeats 8000000 in
set_option maxRecDepth 100000 in
theorem used0 (g : Nat) (k0 k1 k2 k3 k4 k5 k6 k7 k8 k9 k10 : Int) (lv rv : Value) (kd th a b v nn mm : Int) (A : Option Addr) (dl dc : Nat) (w : World) (h : IsM w g k0 k1 k2 k3 k4 k5 k6 k7 k8 k9 k10 lv rv)
    (hk : kd = 4 ∨ kd = 6 ∨ kd = 11 ∨ kd = 12 ∨ kd = 14) :
    Calls Try.prog 24 #[.pointer (some ⟨g, 0, none⟩), opV kd th a b v nn mm (.slice A dl dc), refV z51] w fun e w' => e = .returned (.agg #[.int .i64 (usedErr k3 kd th nn dl), .int .i64 0, .slice none 0 0]) ∧ Below w.heap.size w w' := by
  have hu25 := Try.underlying25
  have hu49 := Try.underlying49
  have hu35 := Try.underlying35
  have hu63 := Try.underlying63
  have hu29 := Try.underlying29
  unfold opV
  rw [show refV z51 = .agg #[.int .i64 0, .int .i64 0, .int .i64 0, .int .i64 0, .int .i64 0] from rfl]
  obtain ⟨w1, hw1, hop, hrf, HM, HB, HR⟩ : ∃ w1, ((w.alloc (.cells #[.int .i64 kd, .int .i64 th, .int .i64 a, .int .i64 b, .int .i64 v, .int .i64 nn, .int .i64 mm, .slice A dl dc] 25)).alloc (.cells #[.int .i64 0, .int .i64 0, .int .i64 0, .int .i64 0, .int .i64 0] 49)).alloc (.cells #[.int .i64 0, .int .i64 0, .slice none 0 0] 35) = w1 ∧
      w1.heap[w.heap.size]? = some (.cells #[.int .i64 kd, .int .i64 th, .int .i64 a, .int .i64 b, .int .i64 v, .int .i64 nn, .int .i64 mm, .slice A dl dc] 25 (0, 0)) ∧
      w1.heap[w.heap.size + 1]? = some (.cells #[.int .i64 0, .int .i64 0, .int .i64 0, .int .i64 0, .int .i64 0] 49 (0, 0)) ∧
      Aside0 (IsM w1 g k0 k1 k2 k3 k4 k5 k6 k7 k8 k9 k10 lv rv) ∧ Aside0 (Below w.heap.size w w1) ∧ Aside0 (w1.heap[w.heap.size + 1 + 1]? = some (.cells #[.int .i64 0, .int .i64 0, .slice none 0 0] 35 (0, 0))) :=
    ⟨_, rfl, blk_alloc (blk_alloc (blk_new _ _) _) _, blk_alloc (blk_new1 _ _ _) _, ⟨blk_alloc (blk_alloc (blk_alloc h _) _) _⟩, ⟨below_alloc (below_alloc (below_alloc (Below.refl _ _) _) _) _⟩, ⟨blk_newb _ _ _ _⟩⟩
  clear h
  obtain ⟨z0, z1, z2, z3, z4, z5, z6, z7⟩ := cells8 hop
  obtain ⟨x0, x1, x2, x3, x4, _⟩ := cells5 hrf
  obtain ⟨r0, r1, r2, s0, s1, s2⟩ := cells3 HR.out
  have HOP := Aside0.mk hop
  have h33 : w1.cell? ⟨g, 3, none⟩ = some (.int .i64 k3) := (blk_cell HM.out 3).trans rfl
  clear hop hrf
  rcases hk with rfl | rfl | rfl | rfl | rfl
  · by_cases c1 : th < 0
    · have d1 : decide (th < 0) = true := decide_eq_true c1
      rw [show usedErr k3 4 th nn dl = 1 from by unfold usedErr; rw [if_pos rfl, if_pos (Or.inl c1)]]
      go_enter Try.func24, Try.ntmps24
      go_wp2_with fail
      go_quiet (fail)
      go_wp2
      refine bodyPost_ret (ret3 rfl _ _ (w.heap.size + 1 + 1) (.int .i64 0) (.int .i64 0) (.slice none 0 0) _ _ _ rfl HR.out) rfl ?_
      exact ⟨rfl, below_set (below_set (below_set (pw_below_drewN HB.out _) (by omega)) (by omega)) (by omega)⟩
    · have d1 : decide (th < 0) = false := decide_eq_false c1
      by_cases c2 : k3 ≤ th
      · have d2 : decide (k3 ≤ th) = true := decide_eq_true c2
        rw [show usedErr k3 4 th nn dl = 1 from by unfold usedErr; rw [if_pos rfl, if_pos (Or.inr c2)]]
        go_enter Try.func24, Try.ntmps24
        go_wp2_with fail
        go_quiet (fail)
        go_wp2
        refine bodyPost_ret (ret3 rfl _ _ (w.heap.size + 1 + 1) (.int .i64 0) (.int .i64 0) (.slice none 0 0) _ _ _ rfl HR.out) rfl ?_
        exact ⟨rfl, below_set (below_set (below_set (pw_below_drewN HB.out _) (by omega)) (by omega)) (by omega)⟩
      · have d2 : decide (k3 ≤ th) = false := decide_eq_false c2
        rw [show usedErr k3 4 th nn dl = 7 from by unfold usedErr; rw [if_pos rfl, if_neg (by omega)]]
        have gx : ∀ n, (w1.drewN n).cell? ⟨w.heap.size + 1, 0, none⟩ = some (.int .i64 0) := fun n => x0
        go_enter Try.func24, Try.ntmps24
        go_wp2_with fail
        go_quiet (fail)
        go_wp2_with fail
        refine (whole0 _ _).mono ?_
        rintro e w3 ⟨rfl, hb⟩
        have HB3 := Aside0.mk (below_step (pw_below_drewN HB.out _) hb)
        have HR3 := Aside0.mk (blk_below (blk_drewN HR.out _) hb)
        obtain ⟨p0, p1, p2, q0, q1, q2⟩ := cells3 HR3.out
        clear hb
        go_wp2
        refine bodyPost_ret (ret3 rfl _ _ (w.heap.size + 1 + 1) (.int .i64 0) (.int .i64 0) (.slice none 0 0) _ _ _ rfl HR3.out) rfl ?_
        exact ⟨rfl, below_set (below_set (below_set HB3.out (by omega)) (by omega)) (by omega)⟩
  · rw [show usedErr k3 6 th nn dl = 7 from rfl]
    go_enter Try.func24, Try.ntmps24
    go_wp2_with fail
    refine (whole0 _ _).mono ?_
    rintro e w3 ⟨rfl, hb⟩
    have HB3 := Aside0.mk (below_step HB.out hb)
    have HR3 := Aside0.mk (blk_below HR.out hb)
    obtain ⟨p0, p1, p2, q0, q1, q2⟩ := cells3 HR3.out
    clear hb
    go_wp2
    refine bodyPost_ret (ret3 rfl _ _ (w.heap.size + 1 + 1) (.int .i64 0) (.int .i64 0) (.slice none 0 0) _ _ _ rfl HR3.out) rfl ?_
    exact ⟨rfl, below_set (below_set (below_set HB3.out (by omega)) (by omega)) (by omega)⟩
  · by_cases c1 : 4096 < nn
    · have d1 : decide (4096 < nn) = true := decide_eq_true c1
      rw [show usedErr k3 11 th nn dl = 4 from by unfold usedErr; rw [if_neg (by decide), if_pos rfl, if_pos c1]]
      go_enter Try.func24, Try.ntmps24
      go_wp2
      refine bodyPost_ret (ret3 rfl _ _ (w.heap.size + 1 + 1) (.int .i64 0) (.int .i64 0) (.slice none 0 0) _ _ _ rfl HR.out) rfl ?_
      exact ⟨rfl, below_set (below_set (below_set HB.out (by omega)) (by omega)) (by omega)⟩
    · have d1 : decide (4096 < nn) = false := decide_eq_false c1
      rw [show usedErr k3 11 th nn dl = 7 from by unfold usedErr; rw [if_neg (by decide), if_pos rfl, if_neg c1]]
      go_enter Try.func24, Try.ntmps24
      go_wp2_with fail
      refine (model_access.calls 0 0 0 0 0 nn 1 7 _ rfl).mono ?_
      rintro e w3 ⟨rfl, hb⟩
      have HB3 := Aside0.mk (below_step HB.out hb)
      have HR3 := Aside0.mk (blk_below HR.out hb)
      obtain ⟨p0, p1, p2, q0, q1, q2⟩ := cells3 HR3.out
      clear hb
      go_wp2
      refine bodyPost_ret (ret3 rfl _ _ (w.heap.size + 1 + 1) (.int .i64 0) (.int .i64 0) (.slice none 0 0) _ _ _ rfl HR3.out) rfl ?_
      exact ⟨rfl, below_set (below_set (below_set HB3.out (by omega)) (by omega)) (by omega)⟩
  · by_cases c1 : 4096 < (dl : Int)
    · have d1 : decide (4096 < (dl : Int)) = true := decide_eq_true c1
      rw [show usedErr k3 12 th nn dl = 4 from by unfold usedErr; rw [if_neg (by decide), if_neg (by decide), if_pos rfl, if_pos c1]]
      go_enter Try.func24, Try.ntmps24
      go_wp2
      refine bodyPost_ret (ret3 rfl _ _ (w.heap.size + 1 + 1) (.int .i64 0) (.int .i64 0) (.slice none 0 0) _ _ _ rfl HR.out) rfl ?_
      exact ⟨rfl, below_set (below_set (below_set HB.out (by omega)) (by omega)) (by omega)⟩
    · have d1 : decide (4096 < (dl : Int)) = false := decide_eq_false c1
      rw [show usedErr k3 12 th nn dl = 7 from by unfold usedErr; rw [if_neg (by decide), if_neg (by decide), if_pos rfl, if_neg c1]]
      go_enter Try.func24, Try.ntmps24
      go_wp2_with fail
      refine (model_access.calls 0 0 0 0 0 dl 2 7 _ rfl).mono ?_
      rintro e w3 ⟨rfl, hb⟩
      have HB3 := Aside0.mk (below_step HB.out hb)
      have HR3 := Aside0.mk (blk_below HR.out hb)
      obtain ⟨p0, p1, p2, q0, q1, q2⟩ := cells3 HR3.out
      clear hb
      go_wp2
      refine bodyPost_ret (ret3 rfl _ _ (w.heap.size + 1 + 1) (.int .i64 0) (.int .i64 0) (.slice none 0 0) _ _ _ rfl HR3.out) rfl ?_
      exact ⟨rfl, below_set (below_set (below_set HB3.out (by omega)) (by omega)) (by omega)⟩
  · rw [show usedErr k3 14 th nn dl = 7 from rfl]
    go_enter Try.func24, Try.ntmps24
    go_wp2_with fail
    refine (model_slot.calls 0 0 0 0 0 8 7 _ rfl).mono ?_
    rintro e w3 ⟨rfl, hb⟩
    have HB3 := Aside0.mk (below_step HB.out hb)
    have HR3 := Aside0.mk (blk_below HR.out hb)
    obtain ⟨p0, p1, p2, q0, q1, q2⟩ := cells3 HR3.out
    clear hb
    go_wp2
    refine bodyPost_ret (ret3 rfl _ _ (w.heap.size + 1 + 1) (.int .i64 0) (.int .i64 0) (.slice none 0 0) _ _ _ rfl HR3.out) rfl ?_
    exact ⟨rfl, below_set (below_set (below_set HB3.out (by omega)) (by omega)) (by omega)⟩

end Go.Proofs.Ytneejihmakfaoaa.OwnModel
