/- Walks of the model's functions by hand: Do, on an empty model (what is refused, what changes nothing). Conditions: the registers lie in a block of their own. -/
import Derived.Test.YtneejihmakfaoaaOwnModelK
namespace Go.Proofs.Ytneejihmakfaoaa.OwnModel
open Go.RowKit Go.Proofs.Ytneejihmakfaoaa.OwnMask Go.Proofs.Ytneejihmakfaoaa.QModelOne Go.Proofs.YtneejihmakfaoaaW.PrintWords Go.Proofs.YtneejihmakfaoaaW.PrintLast Go.Proofs.YtneejihmakfaoaaW.PrintMore
set_option linter.unusedVariables false
set_option linter.unusedSimpArgs false
/-- What Do knows of memory while it works. -/
structure DoF (w W : World) (g : Nat) (k0 k1 k2 k3 k4 k5 k6 k7 k8 k9 k10 : Int) (gr p q r : Nat) (xs : List S51) (ov : Array Value) : Prop where
  m : IsM W g k0 k1 k2 k3 k4 k5 k6 k7 k8 k9 k10 (.slice none 0 0) (.slice (some ⟨gr, 0, none⟩) xs.length xs.length)
  op : W.heap[p]? = some (.cells ov 25 (0, 0))
  x : W.heap[q]? = some (.cells #[.int .i64 0, .int .i64 0, .int .i64 0, .int .i64 0, .int .i64 0] 49 (0, 0))
  res : W.heap[r]? = some (.cells #[.int .i64 0, .int .i64 0, .slice none 0 0] 35 (0, 0))
  rg : W.heap[gr]? = some (.cells (cells51 xs) 49 (0, 0))
  b : Below w.heap.size w W
theorem DoF.below {w W W' : World} {g gr p q r : Nat} {k0 k1 k2 k3 k4 k5 k6 k7 k8 k9 k10 : Int} {xs : List S51} {ov : Array Value} (h : DoF w W g k0 k1 k2 k3 k4 k5 k6 k7 k8 k9 k10 gr p q r xs ov) (hb : Below W.heap.size W W') : DoF w W' g k0 k1 k2 k3 k4 k5 k6 k7 k8 k9 k10 gr p q r xs ov :=
  ⟨blk_below h.m hb, blk_below h.op hb, blk_below h.x hb, blk_below h.res hb, blk_below h.rg hb, below_step h.b hb⟩
theorem DoF.drew {w W : World} {g gr p q r : Nat} {k0 k1 k2 k3 k4 k5 k6 k7 k8 k9 k10 : Int} {xs : List S51} {ov : Array Value} (h : DoF w W g k0 k1 k2 k3 k4 k5 k6 k7 k8 k9 k10 gr p q r xs ov) : DoF w W.drew g k0 k1 k2 k3 k4 k5 k6 k7 k8 k9 k10 gr p q r xs ov :=
  ⟨h.m, h.op, h.x, h.res, h.rg, below_drew1 h.b⟩
theorem getOf_nil (xs : List S51) (a : Int) : getOf [] xs a = z51 := by
  unfold getOf
  split
  · rfl
  · unfold goodOf
    rw [if_pos]
    show _ ∨ _ > ((0 : Nat) : Int) ∨ _
    omega
theorem get0 (g gr : Nat) (k0 k1 k2 k3 k4 k5 k6 k7 k8 k9 k10 : Int) (xs : List S51) (a : Int) (w : World) (h : IsM w g k0 k1 k2 k3 k4 k5 k6 k7 k8 k9 k10 (.slice none 0 0) (.slice (some ⟨gr, 0, none⟩) xs.length xs.length))
    (hr : w.heap[gr]? = some (.cells (cells51 xs) 49 (0, 0))) (hn : xs.length ≤ 64) :
    Calls Try.prog 15 #[.pointer (some ⟨g, 0, none⟩), .int .i64 a] w fun e w' => e = .returned (.agg #[.int .i64 0, .int .i64 0, .int .i64 0, .int .i64 0, .int .i64 0]) ∧ Below w.heap.size w w' := by
  have hh := get g k0 k1 k2 k3 k4 k5 k6 k7 k8 k9 k10 none (some ⟨gr, 0, none⟩) 0 xs.length [] xs a w h (fun i hi => absurd hi (Nat.not_lt_zero _)) (by decide) (Nat.le_refl _) (regs_reads hr (by omega))
  rw [getOf_nil] at hh
  exact hh
theorem renewA (g : Nat) (k0 k1 k2 k3 k4 k5 k6 k7 k8 k9 k10 : Int) (lv rv : Value) (kd th a b v nn mm : Int) (dv : Value) (fu : Bool) (x : Int) (w : World) (h : IsM w g k0 k1 k2 k3 k4 k5 k6 k7 k8 k9 k10 lv rv) (hx : (if askOf k3 k8 th nn = 0 then 7 else askOf k3 k8 th nn) = x) :
    Calls Try.prog 22 #[.pointer (some ⟨g, 0, none⟩), .agg #[.int .i64 kd, .int .i64 th, .int .i64 a, .int .i64 b, .int .i64 v, .int .i64 nn, .int .i64 mm, dv], .agg #[.int .i64 0, .int .i64 0, .int .i64 0, .int .i64 0, .int .i64 0], .bool fu] w fun e w' => e = .returned (.tuple #[.agg #[.int .i64 0, .int .i64 0, .int .i64 0, .int .i64 0, .int .i64 0], .int .i64 x]) ∧ Below w.heap.size w w' := by
  have hh := renew0 g k0 k1 k2 k3 k4 k5 k6 k7 k8 k9 k10 lv rv kd th a b v nn mm dv fu w h
  rw [hx] at hh
  exact hh
theorem derivedA (g : Nat) (kd th a b v nn mm : Int) (dv : Value) (x : Int) (w : World) (hx : (if kd = 10 then 0 else 7) = x) :
    Calls Try.prog 23 #[.pointer (some ⟨g, 0, none⟩), .agg #[.int .i64 kd, .int .i64 th, .int .i64 a, .int .i64 b, .int .i64 v, .int .i64 nn, .int .i64 mm, dv], .agg #[.int .i64 0, .int .i64 0, .int .i64 0, .int .i64 0, .int .i64 0]] w fun e w' => e = .returned (.tuple #[.agg #[.int .i64 0, .int .i64 0, .int .i64 0, .int .i64 0, .int .i64 0], .int .i64 x]) ∧ Below w.heap.size w w' := by
  have hh := derived0 g kd th a b v nn mm dv w
  rw [hx] at hh
  exact hh
theorem usedA (g : Nat) (k0 k1 k2 k3 k4 k5 k6 k7 k8 k9 k10 : Int) (lv rv : Value) (kd th a b v nn mm : Int) (A : Option Addr) (dl dc : Nat) (x : Int) (w : World) (h : IsM w g k0 k1 k2 k3 k4 k5 k6 k7 k8 k9 k10 lv rv)
    (hk : kd = 4 ∨ kd = 6 ∨ kd = 11 ∨ kd = 12 ∨ kd = 14) (hx : usedErr k3 kd th nn dl = x) :
    Calls Try.prog 24 #[.pointer (some ⟨g, 0, none⟩), .agg #[.int .i64 kd, .int .i64 th, .int .i64 a, .int .i64 b, .int .i64 v, .int .i64 nn, .int .i64 mm, .slice A dl dc], .agg #[.int .i64 0, .int .i64 0, .int .i64 0, .int .i64 0, .int .i64 0]] w fun e w' => e = .returned (.agg #[.int .i64 x, .int .i64 0, .slice none 0 0]) ∧ Below w.heap.size w w' := by
  have hh := used0 g k0 k1 k2 k3 k4 k5 k6 k7 k8 k9 k10 lv rv kd th a b v nn mm A dl dc w h hk
  rw [hx] at hh
  exact hh
/-- Do's first steps: the boxes. -/
theorem do_boxes (g : Nat) (k0 k1 k2 k3 k4 k5 k6 k7 k8 k9 k10 : Int) (gr : Nat) (xs : List S51) (ov : Array Value) (w : World) (h : IsM w g k0 k1 k2 k3 k4 k5 k6 k7 k8 k9 k10 (.slice none 0 0) (.slice (some ⟨gr, 0, none⟩) xs.length xs.length)) (hr : w.heap[gr]? = some (.cells (cells51 xs) 49 (0, 0))) :
    ∃ w1, (w.alloc (.cells ov 25)).alloc (.cells #[.int .i64 0, .int .i64 0, .slice none 0 0] 35) = w1 ∧ w1.heap[w.heap.size]? = some (.cells ov 25 (0, 0)) ∧ Aside0 (IsM w1 g k0 k1 k2 k3 k4 k5 k6 k7 k8 k9 k10 (.slice none 0 0) (.slice (some ⟨gr, 0, none⟩) xs.length xs.length)) ∧ Aside0 (w1.heap[gr]? = some (.cells (cells51 xs) 49 (0, 0))) ∧ Aside0 (w1.heap[w.heap.size + 1]? = some (.cells #[.int .i64 0, .int .i64 0, .slice none 0 0] 35 (0, 0))) ∧ Aside0 (Below w.heap.size w w1) :=
  ⟨_, rfl, blk_alloc (blk_new _ _) _, ⟨blk_alloc (blk_alloc h _) _⟩, ⟨blk_alloc (blk_alloc hr _) _⟩, ⟨blk_new1 _ _ _⟩, ⟨below_alloc (below_alloc (Below.refl _ _) _) _⟩⟩
theorem do_x (g : Nat) (k0 k1 k2 k3 k4 k5 k6 k7 k8 k9 k10 : Int) (gr : Nat) (xs : List S51) (ov : Array Value) (w w1 w2 : World) (HM : Aside0 (IsM w1 g k0 k1 k2 k3 k4 k5 k6 k7 k8 k9 k10 (.slice none 0 0) (.slice (some ⟨gr, 0, none⟩) xs.length xs.length))) (hop : w1.heap[w.heap.size]? = some (.cells ov 25 (0, 0))) (HRG : Aside0 (w1.heap[gr]? = some (.cells (cells51 xs) 49 (0, 0)))) (HR : Aside0 (w1.heap[w.heap.size + 1]? = some (.cells #[.int .i64 0, .int .i64 0, .slice none 0 0] 35 (0, 0)))) (HB : Aside0 (Below w.heap.size w w1)) (hb : Below w1.heap.size w1 w2) :
    ∃ w3, w2.alloc (.cells #[.int .i64 0, .int .i64 0, .int .i64 0, .int .i64 0, .int .i64 0] 49) = w3 ∧ Aside0 (DoF w w3 g k0 k1 k2 k3 k4 k5 k6 k7 k8 k9 k10 gr w.heap.size w2.heap.size (w.heap.size + 1) xs ov ∧ w.heap.size + 1 < w2.heap.size) :=
  ⟨_, rfl, ⟨⟨blk_alloc (blk_below HM.out hb) _, blk_alloc (blk_below hop hb) _, blk_new _ _, blk_alloc (blk_below HR.out hb) _, blk_alloc (blk_below HRG.out hb) _, below_alloc (below_step HB.out hb) _⟩, Nat.lt_of_lt_of_le (blk_lt HR.out) hb.size⟩⟩

set_option maxHeartbeats 8000000 in
set_option maxRecDepth 100000 in
theorem doBad (g : Nat) (kd th a b v nn mm : Int) (dv : Value) (fu : Bool) (w : World) (hk : kd < 1 ∨ 18 < kd) :
    Calls Try.prog 8 #[.pointer (some ⟨g, 0, none⟩), .agg #[.int .i64 kd, .int .i64 th, .int .i64 a, .int .i64 b, .int .i64 v, .int .i64 nn, .int .i64 mm, dv], .bool fu] w fun e w' => e = .returned (.agg #[.int .i64 1, .int .i64 0, .slice none 0 0]) ∧ Below w.heap.size w w' := by
  have hu25 := Try.underlying25
  have hu35 := Try.underlying35
  obtain ⟨w1, hw1, hop, hr, HB⟩ : ∃ w1, (w.alloc (.cells #[.int .i64 kd, .int .i64 th, .int .i64 a, .int .i64 b, .int .i64 v, .int .i64 nn, .int .i64 mm, dv] 25)).alloc (.cells #[.int .i64 0, .int .i64 0, .slice none 0 0] 35) = w1 ∧ w1.heap[w.heap.size]? = some (.cells #[.int .i64 kd, .int .i64 th, .int .i64 a, .int .i64 b, .int .i64 v, .int .i64 nn, .int .i64 mm, dv] 25 (0, 0)) ∧ w1.heap[w.heap.size + 1]? = some (.cells #[.int .i64 0, .int .i64 0, .slice none 0 0] 35 (0, 0)) ∧ Aside0 (Below w.heap.size w w1) :=
    ⟨_, rfl, blk_alloc (blk_new _ _) _, blk_new1 _ _ _, ⟨below_alloc (below_alloc (Below.refl _ _) _) _⟩⟩
  obtain ⟨z0, z1, z2, z3, z4, z5, z6, z7⟩ := cells8 hop
  obtain ⟨r0, r1, r2, s0, s1, s2⟩ := cells3 hr
  have HR := Aside0.mk hr
  clear hop hr
  by_cases c : kd < 1
  · have d1 : decide (kd < 1) = true := decide_eq_true c
    go_enter Try.func8, Try.ntmps8
    go_wp2
    refine bodyPost_ret (ret3 rfl _ _ (w.heap.size + 1) (.int .i64 0) (.int .i64 0) (.slice none 0 0) _ _ _ rfl HR.out) rfl ?_
    exact ⟨rfl, below_set (below_set (below_set HB.out (by omega)) (by omega)) (by omega)⟩
  · have d1 : decide (kd < 1) = false := decide_eq_false c
    have d2 : decide (18 < kd) = true := decide_eq_true (by omega)
    go_enter Try.func8, Try.ntmps8
    go_wp2
    refine bodyPost_ret (ret3 rfl _ _ (w.heap.size + 1) (.int .i64 0) (.int .i64 0) (.slice none 0 0) _ _ _ rfl HR.out) rfl ?_
    exact ⟨rfl, below_set (below_set (below_set HB.out (by omega)) (by omega)) (by omega)⟩

set_option maxHeartbeats 8000000 in
set_option maxRecDepth 100000 in
theorem doNoReg (g : Nat) (k0 k1 k2 k3 k4 k5 k6 k7 k8 k9 k10 : Int) (gr : Nat) (xs : List S51) (kd th a b v nn mm : Int) (dv : Value) (fu : Bool) (w : World) (h : IsM w g k0 k1 k2 k3 k4 k5 k6 k7 k8 k9 k10 (.slice none 0 0) (.slice (some ⟨gr, 0, none⟩) xs.length xs.length)) (hr : w.heap[gr]? = some (.cells (cells51 xs) 49 (0, 0)))
    (h1 : 1 ≤ kd) (h18 : kd ≤ 18) (hreg : regsOk xs.length kd a b v = false) :
    Calls Try.prog 8 #[.pointer (some ⟨g, 0, none⟩), .agg #[.int .i64 kd, .int .i64 th, .int .i64 a, .int .i64 b, .int .i64 v, .int .i64 nn, .int .i64 mm, dv], .bool fu] w fun e w' => e = .returned (.agg #[.int .i64 15, .int .i64 0, .slice none 0 0]) ∧ Below w.heap.size w w' := by
  have hu25 := Try.underlying25
  have hu35 := Try.underlying35
  obtain ⟨w1, hw1, hop, HM, HRG, HR, HB⟩ := do_boxes g k0 k1 k2 k3 k4 k5 k6 k7 k8 k9 k10 gr xs #[.int .i64 kd, .int .i64 th, .int .i64 a, .int .i64 b, .int .i64 v, .int .i64 nn, .int .i64 mm, dv] w h hr
  clear h hr
  obtain ⟨z0, z1, z2, z3, z4, z5, z6, z7⟩ := cells8 hop
  obtain ⟨r0, r1, r2, s0, s1, s2⟩ := cells3 HR.out
  clear hop
  have d1 : decide (kd < 1) = false := decide_eq_false (by omega)
  have d2 : decide (18 < kd) = false := decide_eq_false (by omega)
  go_enter Try.func8, Try.ntmps8
  go_wp2_with fail
  have hh := registers g k0 k1 k2 k3 k4 k5 k6 k7 k8 k9 k10 (.slice none 0 0) (some ⟨gr, 0, none⟩) xs.length xs.length kd th a b v nn mm dv _ HM.out h1 h18
  rw [hreg] at hh
  refine hh.mono ?_
  rintro e w2 ⟨rfl, hb⟩
  have HR2 := Aside0.mk (blk_below HR.out hb)
  have HB2 := Aside0.mk (below_step HB.out hb)
  obtain ⟨p0, p1, p2, q0, q1, q2⟩ := cells3 HR2.out
  clear hb hh
  go_wp2
  refine bodyPost_ret (ret3 rfl _ _ (w.heap.size + 1) (.int .i64 0) (.int .i64 0) (.slice none 0 0) _ _ _ rfl HR2.out) rfl ?_
  exact ⟨rfl, below_set (below_set (below_set HB2.out (by omega)) (by omega)) (by omega)⟩

set_option maxHeartbeats 8000000 in
set_option maxRecDepth 100000 in
theorem doNone (g : Nat) (k0 k1 k2 k3 k4 k5 k6 k7 k8 k9 k10 : Int) (gr : Nat) (xs : List S51) (kd th a b v nn mm : Int) (dv : Value) (fu : Bool) (w : World) (h : IsM w g k0 k1 k2 k3 k4 k5 k6 k7 k8 k9 k10 (.slice none 0 0) (.slice (some ⟨gr, 0, none⟩) xs.length xs.length)) (hr : w.heap[gr]? = some (.cells (cells51 xs) 49 (0, 0)))
    (hk : kd = 15 ∨ kd = 16 ∨ kd = 17) :
    Calls Try.prog 8 #[.pointer (some ⟨g, 0, none⟩), .agg #[.int .i64 kd, .int .i64 th, .int .i64 a, .int .i64 b, .int .i64 v, .int .i64 nn, .int .i64 mm, dv], .bool fu] w fun e w' => e = .returned (.agg #[.int .i64 0, .int .i64 0, .slice none 0 0]) ∧ Below w.heap.size w w' := by
  have hu25 := Try.underlying25
  have hu35 := Try.underlying35
  have hu49 := Try.underlying49
  obtain ⟨w1, hw1, hop, HM, HRG, HR, HB⟩ := do_boxes g k0 k1 k2 k3 k4 k5 k6 k7 k8 k9 k10 gr xs #[.int .i64 kd, .int .i64 th, .int .i64 a, .int .i64 b, .int .i64 v, .int .i64 nn, .int .i64 mm, dv] w h hr
  clear h hr
  obtain ⟨z0, z1, z2, z3, z4, z5, z6, z7⟩ := cells8 hop
  have HOP := Aside0.mk hop
  clear hop
  have h1 : 1 ≤ kd := by omega
  have h18 : kd ≤ 18 := by omega
  have hreg : regsOk xs.length kd a b v = true := by rcases hk with rfl | rfl | rfl <;> rfl
  rcases hk with rfl | rfl | rfl
  all_goals
    go_enter Try.func8, Try.ntmps8
    go_wp2_with fail
    have hh := registers g k0 k1 k2 k3 k4 k5 k6 k7 k8 k9 k10 (.slice none 0 0) (some ⟨gr, 0, none⟩) xs.length xs.length _ th a b v nn mm dv _ HM.out h1 h18
    rw [hreg] at hh
    refine hh.mono ?_
    rintro e w2 ⟨rfl, hb⟩
    obtain ⟨w3, hw3, HD⟩ := do_x g k0 k1 k2 k3 k4 k5 k6 k7 k8 k9 k10 gr xs _ w w1 w2 HM HOP.out HRG HR HB hb
    obtain ⟨y0, y1, y2, y3, y4, y5, y6, y7⟩ := cells8 HD.out.1.op
    obtain ⟨p0, p1, p2, q0, q1, q2⟩ := cells3 HD.out.1.res
    clear hb hh
    go_wp2
    refine bodyPost_ret (ret3 rfl _ _ (w.heap.size + 1) (.int .i64 0) (.int .i64 0) (.slice none 0 0) _ _ _ rfl HD.out.1.res) rfl ?_
    exact ⟨rfl, below_set (below_set (below_set HD.out.1.b (by omega)) (by omega)) (by omega)⟩

set_option maxHeartbeats 8000000 in
set_option maxRecDepth 100000 in
theorem doRenew (g : Nat) (k0 k1 k2 k3 k4 k5 k6 k7 k8 k9 k10 : Int) (gr : Nat) (xs : List S51) (th a b v nn mm : Int) (dv : Value) (fu : Bool) (x : Int) (w : World) (h : IsM w g k0 k1 k2 k3 k4 k5 k6 k7 k8 k9 k10 (.slice none 0 0) (.slice (some ⟨gr, 0, none⟩) xs.length xs.length)) (hr : w.heap[gr]? = some (.cells (cells51 xs) 49 (0, 0))) (hn : xs.length ≤ 64)
    (hreg : regsOk xs.length 5 a b v = true) (hx : (if askOf k3 k8 th nn = 0 then 7 else askOf k3 k8 th nn) = x) (hx0 : x = 1 ∨ x = 4 ∨ x = 7) :
    Calls Try.prog 8 #[.pointer (some ⟨g, 0, none⟩), .agg #[.int .i64 5, .int .i64 th, .int .i64 a, .int .i64 b, .int .i64 v, .int .i64 nn, .int .i64 mm, dv], .bool fu] w fun e w' => e = .returned (.agg #[.int .i64 x, .int .i64 0, .slice none 0 0]) ∧ Below w.heap.size w w' := by
  have hu25 := Try.underlying25
  have hu35 := Try.underlying35
  have hu49 := Try.underlying49
  obtain ⟨w1, hw1, hop, HM, HRG, HR, HB⟩ := do_boxes g k0 k1 k2 k3 k4 k5 k6 k7 k8 k9 k10 gr xs #[.int .i64 5, .int .i64 th, .int .i64 a, .int .i64 b, .int .i64 v, .int .i64 nn, .int .i64 mm, dv] w h hr
  clear h hr
  obtain ⟨z0, z1, z2, z3, z4, z5, z6, z7⟩ := cells8 hop
  have HOP := Aside0.mk hop
  have HX := Aside0.mk hx
  clear hop hx
  go_enter Try.func8, Try.ntmps8
  go_wp2_with fail
  have hh := registers g k0 k1 k2 k3 k4 k5 k6 k7 k8 k9 k10 (.slice none 0 0) (some ⟨gr, 0, none⟩) xs.length xs.length 5 th a b v nn mm dv _ HM.out (by decide) (by decide)
  rw [hreg] at hh
  refine hh.mono ?_
  rintro e w2 ⟨rfl, hb⟩
  obtain ⟨w3, hw3, HD⟩ := do_x g k0 k1 k2 k3 k4 k5 k6 k7 k8 k9 k10 gr xs _ w w1 w2 HM HOP.out HRG HR HB hb
  obtain ⟨y0, y1, y2, y3, y4, y5, y6, y7⟩ := cells8 HD.out.1.op
  clear hb hh z0 z1 z2 z3 z4 z5 z6 z7 hreg
  go_upto_region 21 with fail
  go_region_law (first | (go_simp; go_at_call 15; refine (get0 g gr k0 k1 k2 k3 k4 k5 k6 k7 k8 k9 k10 xs b _ (by exact HD.out.1.m) (by exact HD.out.1.rg) hn).mono ?_; rintro e w4 ⟨rfl, hb4⟩; have HD4 := Aside0.mk (show DoF w w4 g k0 k1 k2 k3 k4 k5 k6 k7 k8 k9 k10 gr w.heap.size w2.heap.size (w.heap.size + 1) xs _ from (by first | exact DoF.below HD.out.1 hb4 | exact DoF.below (DoF.drew HD.out.1) hb4)); obtain ⟨v0, v1, v2, v3, v4, v5, v6, v7⟩ := cells8 HD4.out.op; clear hb4) | (go_simp; go_at_call 22; refine (renewA g k0 k1 k2 k3 k4 k5 k6 k7 k8 k9 k10 _ _ 5 th a b v nn mm dv fu x _ (by exact HD4.out.m) HX.out).mono ?_; rintro e w5 ⟨rfl, hb5⟩; have HD5 := Aside0.mk (show DoF w w5 g k0 k1 k2 k3 k4 k5 k6 k7 k8 k9 k10 gr w.heap.size w2.heap.size (w.heap.size + 1) xs _ from (by first | exact DoF.below HD4.out hb5 | exact DoF.below (DoF.drew HD4.out) hb5)); obtain ⟨u0, u1, u2, u3, u4, t0, t1, t2, t3, t4⟩ := cells5 HD5.out.x; obtain ⟨p0, p1, p2, q0, q1, q2⟩ := cells3 HD5.out.res; clear hb5))
  all_goals
    have hlt := HD.out.2
    have hne1 : ¬ (w2.heap.size = w.heap.size + 1) := by omega
    have hne2 : ¬ (w.heap.size + 1 = w2.heap.size) := by omega
    have hle := HD5.out.b.size
    clear hlt hle
    rcases hx0 with rfl | rfl | rfl
    all_goals
      go_wp2
      refine bodyPost_ret (ret3 rfl _ _ (w.heap.size + 1) (.int .i64 0) (.int .i64 0) (.slice none 0 0) _ _ _ rfl (blk_put5 _ _ _ _ _ HD5.out.res hne2)) rfl ?_
      have hlt := HD.out.2
      exact ⟨rfl, below_set (below_set (below_set (below_set (below_set (below_set (below_set (below_set (by first | exact HD5.out.b | exact below_drew1 HD5.out.b) (by omega)) (by omega)) (by omega)) (by omega)) (by omega)) (by omega)) (by omega)) (by omega)⟩

end Go.Proofs.Ytneejihmakfaoaa.OwnModel
