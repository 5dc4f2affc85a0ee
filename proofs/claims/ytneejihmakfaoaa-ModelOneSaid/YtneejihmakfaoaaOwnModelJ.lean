/- Walks of the model's functions by hand: new, in an empty model. Conditions: the most that may be asked for is 1 at least and small. Printed by gen_new.py. -/
import Derived.Test.YtneejihmakfaoaaOwnModelF
import Derived.Test.YtneejihmakfaoaaOwnModelI
namespace Go.Proofs.Ytneejihmakfaoaa.OwnModel
open Go.RowKit Go.Proofs.Ytneejihmakfaoaa.OwnMask Go.Proofs.Ytneejihmakfaoaa.QModelOne Go.Proofs.YtneejihmakfaoaaW.PrintWords Go.Proofs.YtneejihmakfaoaaW.PrintLast Go.Proofs.YtneejihmakfaoaaW.PrintMore
set_option linter.unusedVariables false
set_option linter.unusedSimpArgs false
/-- What a thing is refused for that makes new bytes. -/
def newErr (c3 c8 kd th nn mm : Int) (pw fu : Bool) : Int :=
  if kd = 2 then (if nn < 1 ∨ mm < 1 ∨ th < 0 ∨ c3 ≤ th then 1 else if c8.tdiv mm < nn then 4 else if fu = true then 13 else 0)
  else if kd = 3 ∧ (pw = false ∨ 256 < mm) then 1
  else if askOf c3 c8 th nn ≠ 0 then askOf c3 c8 th nn else if fu = true then 13 else 0
def newN (kd nn mm : Int) : Int := if kd = 2 then nn * mm else nn
def newAl (kd mm : Int) : Int := if kd = 3 then mm else 1
def newFill (kd k9 : Int) : Int := if kd = 2 then 0 else IntKind.u8.wrap k9

theorem askV (g : Nat) (c0 c1 c2 c3 c4 c5 c6 c7 c8 c9 c10 : Int) (lv rv : Value) (a n x : Int) (w : World) (he : askOf c3 c8 a n = x) (h : IsM w g c0 c1 c2 c3 c4 c5 c6 c7 c8 c9 c10 lv rv) :
    Calls Try.prog 34 #[.pointer (some ⟨g, 0, none⟩), .int .i64 a, .int .i64 n] w fun e w' => e = .returned (.int .i64 x) ∧ w' = w := by
  have hh := ask g c0 c1 c2 c3 c4 c5 c6 c7 c8 c9 c10 lv rv a n w h
  rwa [he] at hh
theorem askOf_ok {t m a n : Int} (h : askOf t m a n = 0) : 0 ≤ a ∧ a < t ∧ 1 ≤ n ∧ n ≤ m := by
  unfold askOf at h
  split at h
  · cases h
  · split at h
    · cases h
    · omega
theorem quo_mul {c m n : Int} (hm : 1 ≤ m) (hn : 1 ≤ n) (hc : 1 ≤ c) (h : n ≤ c.tdiv m) : 1 ≤ n * m ∧ n * m ≤ c := by
  rw [Int.tdiv_eq_ediv_of_nonneg (by omega)] at h
  have h2 := Int.mul_le_of_le_ediv (by omega) h
  refine ⟨?_, h2⟩
  have := Int.mul_le_mul hn hm (by omega) (by omega)
  omega

set_option maxHeartbeats 8000000 in
set_option maxRecDepth 100000 in
theorem new1a (g : Nat) (k0 k1 k2 k3 k4 k5 k6 k7 k8 k9 k10 : Int) (rv : Value) (th a b v nn mm : Int) (dv : Value) (pw fu : Bool) (w : World) (h : IsM w g k0 k1 k2 k3 k4 k5 k6 k7 k8 k9 k10 (.slice none 0 0) rv) (hk8 : 1 ≤ k8) (hk8b : k8 ≤ 1000000000) (hpw : num_Power.f mm = some pw) (x : Int) (he : askOf k3 k8 th nn = x) (hx : x = 1 ∨ x = 4) :
    Calls Try.prog 21 #[.pointer (some ⟨g, 0, none⟩), opV 1 th a b v nn mm dv, .bool fu] w fun e w' => e = .returned (.tuple #[refV z51, .int .i64 x]) ∧ Below w.heap.size w w' := by
  have hu25 := Try.underlying25
  have hu49 := Try.underlying49
  have hu63 := Try.underlying63
  have hu29 := Try.underlying29
  unfold opV
  obtain ⟨w1, hw1, hop, HM, HB, HR⟩ : ∃ w1, (w.alloc (.cells #[.int .i64 1, .int .i64 th, .int .i64 a, .int .i64 b, .int .i64 v, .int .i64 nn, .int .i64 mm, dv] 25)).alloc (.cells #[.int .i64 0, .int .i64 0, .int .i64 0, .int .i64 0, .int .i64 0] 49) = w1 ∧
      w1.heap[w.heap.size]? = some (.cells #[.int .i64 1, .int .i64 th, .int .i64 a, .int .i64 b, .int .i64 v, .int .i64 nn, .int .i64 mm, dv] 25 (0, 0)) ∧
      Aside0 (IsM w1 g k0 k1 k2 k3 k4 k5 k6 k7 k8 k9 k10 (.slice none 0 0) rv) ∧ Aside0 (Below w.heap.size w w1) ∧ Aside0 (w1.heap[w.heap.size + 1]? = some (.cells #[.int .i64 0, .int .i64 0, .int .i64 0, .int .i64 0, .int .i64 0] 49 (0, 0))) :=
    ⟨_, rfl, blk_alloc (blk_new _ _) _, ⟨blk_alloc (blk_alloc h _) _⟩, ⟨below_alloc (below_alloc (Below.refl _ _) _) _⟩, ⟨blk_new1 _ _ _⟩⟩
  have HGL := Aside0.mk (blk_lt h)
  clear h
  obtain ⟨z0, z1, z2, z3, z4, z5, z6, z7⟩ := cells8 hop
  obtain ⟨r0, r1, r2, r3, r4, s0, s1, s2, s3, s4⟩ := cells5 HR.out
  have h38 : w1.cell? ⟨g, 8, none⟩ = some (.int .i64 k8) := (blk_cell HM.out 8).trans rfl
  have h39 : w1.cell? ⟨g, 9, none⟩ = some (.int .i64 k9) := (blk_cell HM.out 9).trans rfl
  clear hop
  rw [show refV z51 = .agg #[.int .i64 0, .int .i64 0, .int .i64 0, .int .i64 0, .int .i64 0] from rfl]
  go_enter Try.func21, Try.ntmps21
  go_wp2_with fail
  go_quiet (fail)
  go_wp2_with fail
  refine (askV g k0 k1 k2 k3 k4 k5 k6 k7 k8 k9 k10 (.slice none 0 0) rv th nn _ _ he (by exact HM.out)).mono ?_
  rintro e w2 ⟨rfl, rfl⟩
  rcases hx with rfl | rfl
  · go_wp2
    refine bodyPost_ret (ret5e rfl _ _ (w.heap.size + 1) (.int .i64 0) (.int .i64 0) (.int .i64 0) (.int .i64 0) (.int .i64 0) _ _ _ _ _ rfl HR.out) rfl ?_
    exact ⟨rfl, below_set (below_set (below_set (below_set (below_set (by first | exact HB.out | exact pw_below_drewN HB.out _ | exact pw_below_drewN (pw_below_drewN HB.out _) _ | exact pw_below_drewN (pw_below_drewN (pw_below_drewN HB.out _) _) _) (by omega)) (by omega)) (by omega)) (by omega)) (by omega)⟩
  · go_wp2
    refine bodyPost_ret (ret5e rfl _ _ (w.heap.size + 1) (.int .i64 0) (.int .i64 0) (.int .i64 0) (.int .i64 0) (.int .i64 0) _ _ _ _ _ rfl HR.out) rfl ?_
    exact ⟨rfl, below_set (below_set (below_set (below_set (below_set (by first | exact HB.out | exact pw_below_drewN HB.out _ | exact pw_below_drewN (pw_below_drewN HB.out _) _ | exact pw_below_drewN (pw_below_drewN (pw_below_drewN HB.out _) _) _) (by omega)) (by omega)) (by omega)) (by omega)) (by omega)⟩

set_option maxHeartbeats 8000000 in
set_option maxRecDepth 100000 in
theorem new1f (g : Nat) (k0 k1 k2 k3 k4 k5 k6 k7 k8 k9 k10 : Int) (rv : Value) (th a b v nn mm : Int) (dv : Value) (pw fu : Bool) (w : World) (h : IsM w g k0 k1 k2 k3 k4 k5 k6 k7 k8 k9 k10 (.slice none 0 0) rv) (hk8 : 1 ≤ k8) (hk8b : k8 ≤ 1000000000) (hpw : num_Power.f mm = some pw) (he : askOf k3 k8 th nn = 0) (hfu : fu = true) :
    Calls Try.prog 21 #[.pointer (some ⟨g, 0, none⟩), opV 1 th a b v nn mm dv, .bool fu] w fun e w' => e = .returned (.tuple #[refV z51, .int .i64 13]) ∧ Below w.heap.size w w' := by
  have hu25 := Try.underlying25
  have hu49 := Try.underlying49
  have hu63 := Try.underlying63
  have hu29 := Try.underlying29
  unfold opV
  obtain ⟨w1, hw1, hop, HM, HB, HR⟩ : ∃ w1, (w.alloc (.cells #[.int .i64 1, .int .i64 th, .int .i64 a, .int .i64 b, .int .i64 v, .int .i64 nn, .int .i64 mm, dv] 25)).alloc (.cells #[.int .i64 0, .int .i64 0, .int .i64 0, .int .i64 0, .int .i64 0] 49) = w1 ∧
      w1.heap[w.heap.size]? = some (.cells #[.int .i64 1, .int .i64 th, .int .i64 a, .int .i64 b, .int .i64 v, .int .i64 nn, .int .i64 mm, dv] 25 (0, 0)) ∧
      Aside0 (IsM w1 g k0 k1 k2 k3 k4 k5 k6 k7 k8 k9 k10 (.slice none 0 0) rv) ∧ Aside0 (Below w.heap.size w w1) ∧ Aside0 (w1.heap[w.heap.size + 1]? = some (.cells #[.int .i64 0, .int .i64 0, .int .i64 0, .int .i64 0, .int .i64 0] 49 (0, 0))) :=
    ⟨_, rfl, blk_alloc (blk_new _ _) _, ⟨blk_alloc (blk_alloc h _) _⟩, ⟨below_alloc (below_alloc (Below.refl _ _) _) _⟩, ⟨blk_new1 _ _ _⟩⟩
  have HGL := Aside0.mk (blk_lt h)
  clear h
  obtain ⟨z0, z1, z2, z3, z4, z5, z6, z7⟩ := cells8 hop
  obtain ⟨r0, r1, r2, r3, r4, s0, s1, s2, s3, s4⟩ := cells5 HR.out
  have h38 : w1.cell? ⟨g, 8, none⟩ = some (.int .i64 k8) := (blk_cell HM.out 8).trans rfl
  have h39 : w1.cell? ⟨g, 9, none⟩ = some (.int .i64 k9) := (blk_cell HM.out 9).trans rfl
  clear hop
  rw [show refV z51 = .agg #[.int .i64 0, .int .i64 0, .int .i64 0, .int .i64 0, .int .i64 0] from rfl]
  subst hfu
  go_enter Try.func21, Try.ntmps21
  go_wp2_with fail
  go_quiet (fail)
  go_wp2_with fail
  refine (askV g k0 k1 k2 k3 k4 k5 k6 k7 k8 k9 k10 (.slice none 0 0) rv th nn _ _ he (by exact HM.out)).mono ?_
  rintro e w2 ⟨rfl, rfl⟩
  go_wp2
  refine bodyPost_ret (ret5e rfl _ _ (w.heap.size + 1) (.int .i64 0) (.int .i64 0) (.int .i64 0) (.int .i64 0) (.int .i64 0) _ _ _ _ _ rfl HR.out) rfl ?_
  exact ⟨rfl, below_set (below_set (below_set (below_set (below_set (by first | exact HB.out | exact pw_below_drewN HB.out _ | exact pw_below_drewN (pw_below_drewN HB.out _) _ | exact pw_below_drewN (pw_below_drewN (pw_below_drewN HB.out _) _) _) (by omega)) (by omega)) (by omega)) (by omega)) (by omega)⟩

set_option maxHeartbeats 8000000 in
set_option maxRecDepth 100000 in
theorem new1m (g : Nat) (k0 k1 k2 k3 k4 k5 k6 k7 k8 k9 k10 : Int) (rv : Value) (th a b v nn mm : Int) (dv : Value) (pw fu : Bool) (w : World) (h : IsM w g k0 k1 k2 k3 k4 k5 k6 k7 k8 k9 k10 (.slice none 0 0) rv) (hk8 : 1 ≤ k8) (hk8b : k8 ≤ 1000000000) (hpw : num_Power.f mm = some pw) (kk r : Nat) (hr : model_room.f kk (nn) (1) = some (r : Int)) (h1 : 1 ≤ r) (h2 : r ≤ 1000000) (he : askOf k3 k8 th nn = 0) (hfu : fu = false) :
    Calls Try.prog 21 #[.pointer (some ⟨g, 0, none⟩), opV 1 th a b v nn mm dv, .bool fu] w fun e w' => e = .returned (.tuple #[refV ⟨1, 0, nn, 0, 31⟩, .int .i64 0]) ∧ KB g w w' ∧
      ∃ g5 cap gt gb mp sp, IsM w' g k0 k1 k2 k3 k4 k5 k6 k7 k8 k9 k10 (.slice (some ⟨g5, 0, none⟩) 1 cap) rv ∧ 1 ≤ cap ∧ w'.cell? ⟨g5, 0, none⟩ = some (.pointer (some ⟨gt, 0, none⟩)) ∧
        w'.heap[gt]? = some (.cells #[.slice (some ⟨gb, 0, none⟩) r r, mp, .int .i64 r, sp, .bool true] 80 (0, 0)) ∧ w'.heap[gb]? = some (.cells (fillTo r r (IntKind.u8.wrap k9)) 5 (0, 0)) ∧ w.heap.size ≤ gt ∧ w.heap.size ≤ gb ∧ w.heap.size ≤ g5 := by
  have hu25 := Try.underlying25
  have hu49 := Try.underlying49
  have hu63 := Try.underlying63
  have hu29 := Try.underlying29
  unfold opV
  obtain ⟨w1, hw1, hop, HM, HB, HR⟩ : ∃ w1, (w.alloc (.cells #[.int .i64 1, .int .i64 th, .int .i64 a, .int .i64 b, .int .i64 v, .int .i64 nn, .int .i64 mm, dv] 25)).alloc (.cells #[.int .i64 0, .int .i64 0, .int .i64 0, .int .i64 0, .int .i64 0] 49) = w1 ∧
      w1.heap[w.heap.size]? = some (.cells #[.int .i64 1, .int .i64 th, .int .i64 a, .int .i64 b, .int .i64 v, .int .i64 nn, .int .i64 mm, dv] 25 (0, 0)) ∧
      Aside0 (IsM w1 g k0 k1 k2 k3 k4 k5 k6 k7 k8 k9 k10 (.slice none 0 0) rv) ∧ Aside0 (Below w.heap.size w w1) ∧ Aside0 (w1.heap[w.heap.size + 1]? = some (.cells #[.int .i64 0, .int .i64 0, .int .i64 0, .int .i64 0, .int .i64 0] 49 (0, 0))) :=
    ⟨_, rfl, blk_alloc (blk_new _ _) _, ⟨blk_alloc (blk_alloc h _) _⟩, ⟨below_alloc (below_alloc (Below.refl _ _) _) _⟩, ⟨blk_new1 _ _ _⟩⟩
  have HGL := Aside0.mk (blk_lt h)
  clear h
  obtain ⟨z0, z1, z2, z3, z4, z5, z6, z7⟩ := cells8 hop
  obtain ⟨r0, r1, r2, r3, r4, s0, s1, s2, s3, s4⟩ := cells5 HR.out
  have h38 : w1.cell? ⟨g, 8, none⟩ = some (.int .i64 k8) := (blk_cell HM.out 8).trans rfl
  have h39 : w1.cell? ⟨g, 9, none⟩ = some (.int .i64 k9) := (blk_cell HM.out 9).trans rfl
  clear hop
  subst hfu
  go_enter Try.func21, Try.ntmps21
  go_wp2_with fail
  go_quiet (fail)
  go_wp2_with fail
  refine (askV g k0 k1 k2 k3 k4 k5 k6 k7 k8 k9 k10 (.slice none 0 0) rv th nn _ _ he (by exact HM.out)).mono ?_
  rintro e w2 ⟨rfl, rfl⟩
  go_wp2_with fail
  refine (makeE kk g k0 k1 k2 k3 k4 k5 k6 k7 k8 k9 k10 rv (nn) (1) (IntKind.u8.wrap k9) r _ (by exact HM.out) hr h1 h2).mono ?_
  rintro e w3 ⟨rfl, hkb, g5, cap, gt, gb, mp, sp, hm, hcap, hc, hth, hfl, hgt, hgb, hg5⟩
  have hsz := blk_lt HR.out
  have hgt2 : w1.heap.size ≤ gt := hgt
  have hgb2 : w1.heap.size ≤ gb := hgb
  have hg52 : w1.heap.size ≤ g5 := hg5
  have hres := (hkb.block (w.heap.size + 1) hsz (by have hq := HGL.out; omega)).trans HR.out
  have hkb2 : KB g w w3 := KB.step (KB.of (by first | exact HB.out | exact pw_below_drewN HB.out _ | exact pw_below_drewN (pw_below_drewN HB.out _) _ | exact pw_below_drewN (pw_below_drewN (pw_below_drewN HB.out _) _) _)) hkb
  obtain ⟨p0, p1, p2, p3, p4, q0, q1, q2, q3, q4⟩ := cells5 hres
  have HQ := Aside0.mk (And.intro hres (And.intro hkb2 (And.intro hm (And.intro hcap (And.intro hc (And.intro hth (And.intro hfl (And.intro hgt2 (And.intro hgb2 (And.intro hg52 hsz))))))))))
  clear hres hkb2 hm hcap hc hth hfl hgt2 hgb2 hg52 hsz hkb hgt hgb hg5
  simp only [refV]
  go_wp2
  obtain ⟨hres, hkb2, hm, hcap, hc, hth, hfl, hgt2, hgb2, hg52, hsz⟩ := HQ.out
  refine bodyPost_ret (ret5e rfl _ _ (w.heap.size + 1) (.int .i64 0) (.int .i64 0) (.int .i64 0) (.int .i64 0) (.int .i64 0) _ _ _ _ _ rfl hres) rfl ?_
  have hgl := HGL.out
  exact ⟨rfl, ((((hkb2.high (by omega)).high (by omega)).high (by omega)).high (by omega)).high (by omega), g5, cap, gt, gb, mp, sp, blk_put5 _ _ _ _ _ hm (by omega), hcap, cell_put5 _ _ _ _ _ hc (by omega), blk_put5 _ _ _ _ _ hth (by omega), blk_put5 _ _ _ _ _ hfl (by omega), by omega, by omega, by omega⟩

set_option maxHeartbeats 8000000 in
set_option maxRecDepth 100000 in
theorem new3b (g : Nat) (k0 k1 k2 k3 k4 k5 k6 k7 k8 k9 k10 : Int) (rv : Value) (th a b v nn mm : Int) (dv : Value) (pw fu : Bool) (w : World) (h : IsM w g k0 k1 k2 k3 k4 k5 k6 k7 k8 k9 k10 (.slice none 0 0) rv) (hk8 : 1 ≤ k8) (hk8b : k8 ≤ 1000000000) (hpw : num_Power.f mm = some pw) (hbad : pw = false ∨ 256 < mm) :
    Calls Try.prog 21 #[.pointer (some ⟨g, 0, none⟩), opV 3 th a b v nn mm dv, .bool fu] w fun e w' => e = .returned (.tuple #[refV z51, .int .i64 1]) ∧ Below w.heap.size w w' := by
  have hu25 := Try.underlying25
  have hu49 := Try.underlying49
  have hu63 := Try.underlying63
  have hu29 := Try.underlying29
  unfold opV
  obtain ⟨w1, hw1, hop, HM, HB, HR⟩ : ∃ w1, (w.alloc (.cells #[.int .i64 3, .int .i64 th, .int .i64 a, .int .i64 b, .int .i64 v, .int .i64 nn, .int .i64 mm, dv] 25)).alloc (.cells #[.int .i64 0, .int .i64 0, .int .i64 0, .int .i64 0, .int .i64 0] 49) = w1 ∧
      w1.heap[w.heap.size]? = some (.cells #[.int .i64 3, .int .i64 th, .int .i64 a, .int .i64 b, .int .i64 v, .int .i64 nn, .int .i64 mm, dv] 25 (0, 0)) ∧
      Aside0 (IsM w1 g k0 k1 k2 k3 k4 k5 k6 k7 k8 k9 k10 (.slice none 0 0) rv) ∧ Aside0 (Below w.heap.size w w1) ∧ Aside0 (w1.heap[w.heap.size + 1]? = some (.cells #[.int .i64 0, .int .i64 0, .int .i64 0, .int .i64 0, .int .i64 0] 49 (0, 0))) :=
    ⟨_, rfl, blk_alloc (blk_new _ _) _, ⟨blk_alloc (blk_alloc h _) _⟩, ⟨below_alloc (below_alloc (Below.refl _ _) _) _⟩, ⟨blk_new1 _ _ _⟩⟩
  have HGL := Aside0.mk (blk_lt h)
  clear h
  obtain ⟨z0, z1, z2, z3, z4, z5, z6, z7⟩ := cells8 hop
  obtain ⟨r0, r1, r2, r3, r4, s0, s1, s2, s3, s4⟩ := cells5 HR.out
  have h38 : w1.cell? ⟨g, 8, none⟩ = some (.int .i64 k8) := (blk_cell HM.out 8).trans rfl
  have h39 : w1.cell? ⟨g, 9, none⟩ = some (.int .i64 k9) := (blk_cell HM.out 9).trans rfl
  clear hop
  rw [show refV z51 = .agg #[.int .i64 0, .int .i64 0, .int .i64 0, .int .i64 0, .int .i64 0] from rfl]
  have d0 : decide (256 < mm) = decide (256 < mm) := rfl
  by_cases c : pw = false
  · subst c
    go_enter Try.func21, Try.ntmps21
    go_wp2_with fail
    go_quiet (fail)
    go_wp2_with fail
    refine (num_Power.calls mm _ _ hpw).mono ?_
    rintro e w2 ⟨rfl, ⟨j, rfl⟩⟩
    go_wp2
    refine bodyPost_ret (ret5e rfl _ _ (w.heap.size + 1) (.int .i64 0) (.int .i64 0) (.int .i64 0) (.int .i64 0) (.int .i64 0) _ _ _ _ _ rfl HR.out) rfl ?_
    exact ⟨rfl, below_set (below_set (below_set (below_set (below_set (by first | exact HB.out | exact pw_below_drewN HB.out _ | exact pw_below_drewN (pw_below_drewN HB.out _) _ | exact pw_below_drewN (pw_below_drewN (pw_below_drewN HB.out _) _) _) (by omega)) (by omega)) (by omega)) (by omega)) (by omega)⟩
  · have hp : pw = true := by simpa using c
    subst hp
    have d1 : decide (256 < mm) = true := decide_eq_true (hbad.resolve_left (by decide))
    go_enter Try.func21, Try.ntmps21
    go_wp2_with fail
    go_quiet (fail)
    go_wp2_with fail
    refine (num_Power.calls mm _ _ hpw).mono ?_
    rintro e w2 ⟨rfl, ⟨j, rfl⟩⟩
    go_wp2
    refine bodyPost_ret (ret5e rfl _ _ (w.heap.size + 1) (.int .i64 0) (.int .i64 0) (.int .i64 0) (.int .i64 0) (.int .i64 0) _ _ _ _ _ rfl HR.out) rfl ?_
    exact ⟨rfl, below_set (below_set (below_set (below_set (below_set (by first | exact HB.out | exact pw_below_drewN HB.out _ | exact pw_below_drewN (pw_below_drewN HB.out _) _ | exact pw_below_drewN (pw_below_drewN (pw_below_drewN HB.out _) _) _) (by omega)) (by omega)) (by omega)) (by omega)) (by omega)⟩

set_option maxHeartbeats 8000000 in
set_option maxRecDepth 100000 in
theorem new3a (g : Nat) (k0 k1 k2 k3 k4 k5 k6 k7 k8 k9 k10 : Int) (rv : Value) (th a b v nn mm : Int) (dv : Value) (pw fu : Bool) (w : World) (h : IsM w g k0 k1 k2 k3 k4 k5 k6 k7 k8 k9 k10 (.slice none 0 0) rv) (hk8 : 1 ≤ k8) (hk8b : k8 ≤ 1000000000) (hpw : num_Power.f mm = some pw) (hp : pw = true) (hmm : mm ≤ 256) (x : Int) (he : askOf k3 k8 th nn = x) (hx : x = 1 ∨ x = 4) :
    Calls Try.prog 21 #[.pointer (some ⟨g, 0, none⟩), opV 3 th a b v nn mm dv, .bool fu] w fun e w' => e = .returned (.tuple #[refV z51, .int .i64 x]) ∧ Below w.heap.size w w' := by
  have hu25 := Try.underlying25
  have hu49 := Try.underlying49
  have hu63 := Try.underlying63
  have hu29 := Try.underlying29
  unfold opV
  obtain ⟨w1, hw1, hop, HM, HB, HR⟩ : ∃ w1, (w.alloc (.cells #[.int .i64 3, .int .i64 th, .int .i64 a, .int .i64 b, .int .i64 v, .int .i64 nn, .int .i64 mm, dv] 25)).alloc (.cells #[.int .i64 0, .int .i64 0, .int .i64 0, .int .i64 0, .int .i64 0] 49) = w1 ∧
      w1.heap[w.heap.size]? = some (.cells #[.int .i64 3, .int .i64 th, .int .i64 a, .int .i64 b, .int .i64 v, .int .i64 nn, .int .i64 mm, dv] 25 (0, 0)) ∧
      Aside0 (IsM w1 g k0 k1 k2 k3 k4 k5 k6 k7 k8 k9 k10 (.slice none 0 0) rv) ∧ Aside0 (Below w.heap.size w w1) ∧ Aside0 (w1.heap[w.heap.size + 1]? = some (.cells #[.int .i64 0, .int .i64 0, .int .i64 0, .int .i64 0, .int .i64 0] 49 (0, 0))) :=
    ⟨_, rfl, blk_alloc (blk_new _ _) _, ⟨blk_alloc (blk_alloc h _) _⟩, ⟨below_alloc (below_alloc (Below.refl _ _) _) _⟩, ⟨blk_new1 _ _ _⟩⟩
  have HGL := Aside0.mk (blk_lt h)
  clear h
  obtain ⟨z0, z1, z2, z3, z4, z5, z6, z7⟩ := cells8 hop
  obtain ⟨r0, r1, r2, r3, r4, s0, s1, s2, s3, s4⟩ := cells5 HR.out
  have h38 : w1.cell? ⟨g, 8, none⟩ = some (.int .i64 k8) := (blk_cell HM.out 8).trans rfl
  have h39 : w1.cell? ⟨g, 9, none⟩ = some (.int .i64 k9) := (blk_cell HM.out 9).trans rfl
  clear hop
  rw [show refV z51 = .agg #[.int .i64 0, .int .i64 0, .int .i64 0, .int .i64 0, .int .i64 0] from rfl]
  subst hp
  have d1 : decide (256 < mm) = false := decide_eq_false (by omega)
  go_enter Try.func21, Try.ntmps21
  go_wp2_with fail
  go_quiet (fail)
  go_wp2_with fail
  refine (num_Power.calls mm _ _ hpw).mono ?_
  rintro e w2 ⟨rfl, ⟨j, rfl⟩⟩
  go_wp2_with fail
  refine (askV g k0 k1 k2 k3 k4 k5 k6 k7 k8 k9 k10 (.slice none 0 0) rv th nn _ _ he (by exact HM.out)).mono ?_
  rintro e w2 ⟨rfl, rfl⟩
  rcases hx with rfl | rfl
  · go_wp2
    refine bodyPost_ret (ret5e rfl _ _ (w.heap.size + 1) (.int .i64 0) (.int .i64 0) (.int .i64 0) (.int .i64 0) (.int .i64 0) _ _ _ _ _ rfl HR.out) rfl ?_
    exact ⟨rfl, below_set (below_set (below_set (below_set (below_set (by first | exact HB.out | exact pw_below_drewN HB.out _ | exact pw_below_drewN (pw_below_drewN HB.out _) _ | exact pw_below_drewN (pw_below_drewN (pw_below_drewN HB.out _) _) _) (by omega)) (by omega)) (by omega)) (by omega)) (by omega)⟩
  · go_wp2
    refine bodyPost_ret (ret5e rfl _ _ (w.heap.size + 1) (.int .i64 0) (.int .i64 0) (.int .i64 0) (.int .i64 0) (.int .i64 0) _ _ _ _ _ rfl HR.out) rfl ?_
    exact ⟨rfl, below_set (below_set (below_set (below_set (below_set (by first | exact HB.out | exact pw_below_drewN HB.out _ | exact pw_below_drewN (pw_below_drewN HB.out _) _ | exact pw_below_drewN (pw_below_drewN (pw_below_drewN HB.out _) _) _) (by omega)) (by omega)) (by omega)) (by omega)) (by omega)⟩

set_option maxHeartbeats 8000000 in
set_option maxRecDepth 100000 in
theorem new3f (g : Nat) (k0 k1 k2 k3 k4 k5 k6 k7 k8 k9 k10 : Int) (rv : Value) (th a b v nn mm : Int) (dv : Value) (pw fu : Bool) (w : World) (h : IsM w g k0 k1 k2 k3 k4 k5 k6 k7 k8 k9 k10 (.slice none 0 0) rv) (hk8 : 1 ≤ k8) (hk8b : k8 ≤ 1000000000) (hpw : num_Power.f mm = some pw) (hp : pw = true) (hmm : mm ≤ 256) (he : askOf k3 k8 th nn = 0) (hfu : fu = true) :
    Calls Try.prog 21 #[.pointer (some ⟨g, 0, none⟩), opV 3 th a b v nn mm dv, .bool fu] w fun e w' => e = .returned (.tuple #[refV z51, .int .i64 13]) ∧ Below w.heap.size w w' := by
  have hu25 := Try.underlying25
  have hu49 := Try.underlying49
  have hu63 := Try.underlying63
  have hu29 := Try.underlying29
  unfold opV
  obtain ⟨w1, hw1, hop, HM, HB, HR⟩ : ∃ w1, (w.alloc (.cells #[.int .i64 3, .int .i64 th, .int .i64 a, .int .i64 b, .int .i64 v, .int .i64 nn, .int .i64 mm, dv] 25)).alloc (.cells #[.int .i64 0, .int .i64 0, .int .i64 0, .int .i64 0, .int .i64 0] 49) = w1 ∧
      w1.heap[w.heap.size]? = some (.cells #[.int .i64 3, .int .i64 th, .int .i64 a, .int .i64 b, .int .i64 v, .int .i64 nn, .int .i64 mm, dv] 25 (0, 0)) ∧
      Aside0 (IsM w1 g k0 k1 k2 k3 k4 k5 k6 k7 k8 k9 k10 (.slice none 0 0) rv) ∧ Aside0 (Below w.heap.size w w1) ∧ Aside0 (w1.heap[w.heap.size + 1]? = some (.cells #[.int .i64 0, .int .i64 0, .int .i64 0, .int .i64 0, .int .i64 0] 49 (0, 0))) :=
    ⟨_, rfl, blk_alloc (blk_new _ _) _, ⟨blk_alloc (blk_alloc h _) _⟩, ⟨below_alloc (below_alloc (Below.refl _ _) _) _⟩, ⟨blk_new1 _ _ _⟩⟩
  have HGL := Aside0.mk (blk_lt h)
  clear h
  obtain ⟨z0, z1, z2, z3, z4, z5, z6, z7⟩ := cells8 hop
  obtain ⟨r0, r1, r2, r3, r4, s0, s1, s2, s3, s4⟩ := cells5 HR.out
  have h38 : w1.cell? ⟨g, 8, none⟩ = some (.int .i64 k8) := (blk_cell HM.out 8).trans rfl
  have h39 : w1.cell? ⟨g, 9, none⟩ = some (.int .i64 k9) := (blk_cell HM.out 9).trans rfl
  clear hop
  rw [show refV z51 = .agg #[.int .i64 0, .int .i64 0, .int .i64 0, .int .i64 0, .int .i64 0] from rfl]
  subst hp
  have d1 : decide (256 < mm) = false := decide_eq_false (by omega)
  subst hfu
  go_enter Try.func21, Try.ntmps21
  go_wp2_with fail
  go_quiet (fail)
  go_wp2_with fail
  refine (num_Power.calls mm _ _ hpw).mono ?_
  rintro e w2 ⟨rfl, ⟨j, rfl⟩⟩
  go_wp2_with fail
  refine (askV g k0 k1 k2 k3 k4 k5 k6 k7 k8 k9 k10 (.slice none 0 0) rv th nn _ _ he (by exact HM.out)).mono ?_
  rintro e w2 ⟨rfl, rfl⟩
  go_wp2
  refine bodyPost_ret (ret5e rfl _ _ (w.heap.size + 1) (.int .i64 0) (.int .i64 0) (.int .i64 0) (.int .i64 0) (.int .i64 0) _ _ _ _ _ rfl HR.out) rfl ?_
  exact ⟨rfl, below_set (below_set (below_set (below_set (below_set (by first | exact HB.out | exact pw_below_drewN HB.out _ | exact pw_below_drewN (pw_below_drewN HB.out _) _ | exact pw_below_drewN (pw_below_drewN (pw_below_drewN HB.out _) _) _) (by omega)) (by omega)) (by omega)) (by omega)) (by omega)⟩

set_option maxHeartbeats 8000000 in
set_option maxRecDepth 100000 in
theorem new3m (g : Nat) (k0 k1 k2 k3 k4 k5 k6 k7 k8 k9 k10 : Int) (rv : Value) (th a b v nn mm : Int) (dv : Value) (pw fu : Bool) (w : World) (h : IsM w g k0 k1 k2 k3 k4 k5 k6 k7 k8 k9 k10 (.slice none 0 0) rv) (hk8 : 1 ≤ k8) (hk8b : k8 ≤ 1000000000) (hpw : num_Power.f mm = some pw) (kk r : Nat) (hr : model_room.f kk (nn) (mm) = some (r : Int)) (h1 : 1 ≤ r) (h2 : r ≤ 1000000) (hp : pw = true) (hmm : mm ≤ 256) (he : askOf k3 k8 th nn = 0) (hfu : fu = false) :
    Calls Try.prog 21 #[.pointer (some ⟨g, 0, none⟩), opV 3 th a b v nn mm dv, .bool fu] w fun e w' => e = .returned (.tuple #[refV ⟨1, 0, nn, 0, 31⟩, .int .i64 0]) ∧ KB g w w' ∧
      ∃ g5 cap gt gb mp sp, IsM w' g k0 k1 k2 k3 k4 k5 k6 k7 k8 k9 k10 (.slice (some ⟨g5, 0, none⟩) 1 cap) rv ∧ 1 ≤ cap ∧ w'.cell? ⟨g5, 0, none⟩ = some (.pointer (some ⟨gt, 0, none⟩)) ∧
        w'.heap[gt]? = some (.cells #[.slice (some ⟨gb, 0, none⟩) r r, mp, .int .i64 r, sp, .bool true] 80 (0, 0)) ∧ w'.heap[gb]? = some (.cells (fillTo r r (IntKind.u8.wrap k9)) 5 (0, 0)) ∧ w.heap.size ≤ gt ∧ w.heap.size ≤ gb ∧ w.heap.size ≤ g5 := by
  have hu25 := Try.underlying25
  have hu49 := Try.underlying49
  have hu63 := Try.underlying63
  have hu29 := Try.underlying29
  unfold opV
  obtain ⟨w1, hw1, hop, HM, HB, HR⟩ : ∃ w1, (w.alloc (.cells #[.int .i64 3, .int .i64 th, .int .i64 a, .int .i64 b, .int .i64 v, .int .i64 nn, .int .i64 mm, dv] 25)).alloc (.cells #[.int .i64 0, .int .i64 0, .int .i64 0, .int .i64 0, .int .i64 0] 49) = w1 ∧
      w1.heap[w.heap.size]? = some (.cells #[.int .i64 3, .int .i64 th, .int .i64 a, .int .i64 b, .int .i64 v, .int .i64 nn, .int .i64 mm, dv] 25 (0, 0)) ∧
      Aside0 (IsM w1 g k0 k1 k2 k3 k4 k5 k6 k7 k8 k9 k10 (.slice none 0 0) rv) ∧ Aside0 (Below w.heap.size w w1) ∧ Aside0 (w1.heap[w.heap.size + 1]? = some (.cells #[.int .i64 0, .int .i64 0, .int .i64 0, .int .i64 0, .int .i64 0] 49 (0, 0))) :=
    ⟨_, rfl, blk_alloc (blk_new _ _) _, ⟨blk_alloc (blk_alloc h _) _⟩, ⟨below_alloc (below_alloc (Below.refl _ _) _) _⟩, ⟨blk_new1 _ _ _⟩⟩
  have HGL := Aside0.mk (blk_lt h)
  clear h
  obtain ⟨z0, z1, z2, z3, z4, z5, z6, z7⟩ := cells8 hop
  obtain ⟨r0, r1, r2, r3, r4, s0, s1, s2, s3, s4⟩ := cells5 HR.out
  have h38 : w1.cell? ⟨g, 8, none⟩ = some (.int .i64 k8) := (blk_cell HM.out 8).trans rfl
  have h39 : w1.cell? ⟨g, 9, none⟩ = some (.int .i64 k9) := (blk_cell HM.out 9).trans rfl
  clear hop
  subst hp
  have d1 : decide (256 < mm) = false := decide_eq_false (by omega)
  subst hfu
  go_enter Try.func21, Try.ntmps21
  go_wp2_with fail
  go_quiet (fail)
  go_wp2_with fail
  refine (num_Power.calls mm _ _ hpw).mono ?_
  rintro e w2 ⟨rfl, ⟨j, rfl⟩⟩
  go_wp2_with fail
  refine (askV g k0 k1 k2 k3 k4 k5 k6 k7 k8 k9 k10 (.slice none 0 0) rv th nn _ _ he (by exact HM.out)).mono ?_
  rintro e w2 ⟨rfl, rfl⟩
  go_wp2_with fail
  refine (makeE kk g k0 k1 k2 k3 k4 k5 k6 k7 k8 k9 k10 rv (nn) (mm) (IntKind.u8.wrap k9) r _ (by exact HM.out) hr h1 h2).mono ?_
  rintro e w3 ⟨rfl, hkb, g5, cap, gt, gb, mp, sp, hm, hcap, hc, hth, hfl, hgt, hgb, hg5⟩
  have hsz := blk_lt HR.out
  have hgt2 : w1.heap.size ≤ gt := hgt
  have hgb2 : w1.heap.size ≤ gb := hgb
  have hg52 : w1.heap.size ≤ g5 := hg5
  have hres := (hkb.block (w.heap.size + 1) hsz (by have hq := HGL.out; omega)).trans HR.out
  have hkb2 : KB g w w3 := KB.step (KB.of (by first | exact HB.out | exact pw_below_drewN HB.out _ | exact pw_below_drewN (pw_below_drewN HB.out _) _ | exact pw_below_drewN (pw_below_drewN (pw_below_drewN HB.out _) _) _)) hkb
  obtain ⟨p0, p1, p2, p3, p4, q0, q1, q2, q3, q4⟩ := cells5 hres
  have HQ := Aside0.mk (And.intro hres (And.intro hkb2 (And.intro hm (And.intro hcap (And.intro hc (And.intro hth (And.intro hfl (And.intro hgt2 (And.intro hgb2 (And.intro hg52 hsz))))))))))
  clear hres hkb2 hm hcap hc hth hfl hgt2 hgb2 hg52 hsz hkb hgt hgb hg5
  simp only [refV]
  go_wp2
  obtain ⟨hres, hkb2, hm, hcap, hc, hth, hfl, hgt2, hgb2, hg52, hsz⟩ := HQ.out
  refine bodyPost_ret (ret5e rfl _ _ (w.heap.size + 1) (.int .i64 0) (.int .i64 0) (.int .i64 0) (.int .i64 0) (.int .i64 0) _ _ _ _ _ rfl hres) rfl ?_
  have hgl := HGL.out
  exact ⟨rfl, ((((hkb2.high (by omega)).high (by omega)).high (by omega)).high (by omega)).high (by omega), g5, cap, gt, gb, mp, sp, blk_put5 _ _ _ _ _ hm (by omega), hcap, cell_put5 _ _ _ _ _ hc (by omega), blk_put5 _ _ _ _ _ hth (by omega), blk_put5 _ _ _ _ _ hfl (by omega), by omega, by omega, by omega⟩

set_option maxHeartbeats 8000000 in
set_option maxRecDepth 100000 in
theorem new2b (g : Nat) (k0 k1 k2 k3 k4 k5 k6 k7 k8 k9 k10 : Int) (rv : Value) (th a b v nn mm : Int) (dv : Value) (pw fu : Bool) (w : World) (h : IsM w g k0 k1 k2 k3 k4 k5 k6 k7 k8 k9 k10 (.slice none 0 0) rv) (hk8 : 1 ≤ k8) (hk8b : k8 ≤ 1000000000) (hpw : num_Power.f mm = some pw) (hbad : nn < 1 ∨ mm < 1 ∨ th < 0 ∨ k3 ≤ th) :
    Calls Try.prog 21 #[.pointer (some ⟨g, 0, none⟩), opV 2 th a b v nn mm dv, .bool fu] w fun e w' => e = .returned (.tuple #[refV z51, .int .i64 1]) ∧ Below w.heap.size w w' := by
  have hu25 := Try.underlying25
  have hu49 := Try.underlying49
  have hu63 := Try.underlying63
  have hu29 := Try.underlying29
  unfold opV
  obtain ⟨w1, hw1, hop, HM, HB, HR⟩ : ∃ w1, (w.alloc (.cells #[.int .i64 2, .int .i64 th, .int .i64 a, .int .i64 b, .int .i64 v, .int .i64 nn, .int .i64 mm, dv] 25)).alloc (.cells #[.int .i64 0, .int .i64 0, .int .i64 0, .int .i64 0, .int .i64 0] 49) = w1 ∧
      w1.heap[w.heap.size]? = some (.cells #[.int .i64 2, .int .i64 th, .int .i64 a, .int .i64 b, .int .i64 v, .int .i64 nn, .int .i64 mm, dv] 25 (0, 0)) ∧
      Aside0 (IsM w1 g k0 k1 k2 k3 k4 k5 k6 k7 k8 k9 k10 (.slice none 0 0) rv) ∧ Aside0 (Below w.heap.size w w1) ∧ Aside0 (w1.heap[w.heap.size + 1]? = some (.cells #[.int .i64 0, .int .i64 0, .int .i64 0, .int .i64 0, .int .i64 0] 49 (0, 0))) :=
    ⟨_, rfl, blk_alloc (blk_new _ _) _, ⟨blk_alloc (blk_alloc h _) _⟩, ⟨below_alloc (below_alloc (Below.refl _ _) _) _⟩, ⟨blk_new1 _ _ _⟩⟩
  have HGL := Aside0.mk (blk_lt h)
  clear h
  obtain ⟨z0, z1, z2, z3, z4, z5, z6, z7⟩ := cells8 hop
  obtain ⟨r0, r1, r2, r3, r4, s0, s1, s2, s3, s4⟩ := cells5 HR.out
  have h38 : w1.cell? ⟨g, 8, none⟩ = some (.int .i64 k8) := (blk_cell HM.out 8).trans rfl
  have h39 : w1.cell? ⟨g, 9, none⟩ = some (.int .i64 k9) := (blk_cell HM.out 9).trans rfl
  clear hop
  rw [show refV z51 = .agg #[.int .i64 0, .int .i64 0, .int .i64 0, .int .i64 0, .int .i64 0] from rfl]
  by_cases c1 : nn < 1
  · have d1 : decide (nn < 1) = true := decide_eq_true c1
    go_enter Try.func21, Try.ntmps21
    go_wp2_with fail
    go_quiet (fail)
    go_wp2
    refine bodyPost_ret (ret5e rfl _ _ (w.heap.size + 1) (.int .i64 0) (.int .i64 0) (.int .i64 0) (.int .i64 0) (.int .i64 0) _ _ _ _ _ rfl HR.out) rfl ?_
    exact ⟨rfl, below_set (below_set (below_set (below_set (below_set (by first | exact HB.out | exact pw_below_drewN HB.out _ | exact pw_below_drewN (pw_below_drewN HB.out _) _ | exact pw_below_drewN (pw_below_drewN (pw_below_drewN HB.out _) _) _) (by omega)) (by omega)) (by omega)) (by omega)) (by omega)⟩
  have d1 : decide (nn < 1) = false := decide_eq_false c1
  by_cases c2 : mm < 1
  · have d2 : decide (mm < 1) = true := decide_eq_true c2
    go_enter Try.func21, Try.ntmps21
    go_wp2_with fail
    go_quiet (fail)
    go_wp2
    refine bodyPost_ret (ret5e rfl _ _ (w.heap.size + 1) (.int .i64 0) (.int .i64 0) (.int .i64 0) (.int .i64 0) (.int .i64 0) _ _ _ _ _ rfl HR.out) rfl ?_
    exact ⟨rfl, below_set (below_set (below_set (below_set (below_set (by first | exact HB.out | exact pw_below_drewN HB.out _ | exact pw_below_drewN (pw_below_drewN HB.out _) _ | exact pw_below_drewN (pw_below_drewN (pw_below_drewN HB.out _) _) _) (by omega)) (by omega)) (by omega)) (by omega)) (by omega)⟩
  have d2 : decide (mm < 1) = false := decide_eq_false c2
  have he : askOf k3 k8 th 1 = 1 := askOf_one (by omega)
  go_enter Try.func21, Try.ntmps21
  go_wp2_with fail
  go_quiet (fail)
  go_wp2_with fail
  refine (askV g k0 k1 k2 k3 k4 k5 k6 k7 k8 k9 k10 (.slice none 0 0) rv th 1 _ _ he (by exact HM.out)).mono ?_
  rintro e w2 ⟨rfl, rfl⟩
  go_wp2
  refine bodyPost_ret (ret5e rfl _ _ (w.heap.size + 1) (.int .i64 0) (.int .i64 0) (.int .i64 0) (.int .i64 0) (.int .i64 0) _ _ _ _ _ rfl HR.out) rfl ?_
  exact ⟨rfl, below_set (below_set (below_set (below_set (below_set (by first | exact HB.out | exact pw_below_drewN HB.out _ | exact pw_below_drewN (pw_below_drewN HB.out _) _ | exact pw_below_drewN (pw_below_drewN (pw_below_drewN HB.out _) _) _) (by omega)) (by omega)) (by omega)) (by omega)) (by omega)⟩

set_option maxHeartbeats 8000000 in
set_option maxRecDepth 100000 in
theorem new2q (g : Nat) (k0 k1 k2 k3 k4 k5 k6 k7 k8 k9 k10 : Int) (rv : Value) (th a b v nn mm : Int) (dv : Value) (pw fu : Bool) (w : World) (h : IsM w g k0 k1 k2 k3 k4 k5 k6 k7 k8 k9 k10 (.slice none 0 0) rv) (hk8 : 1 ≤ k8) (hk8b : k8 ≤ 1000000000) (hpw : num_Power.f mm = some pw) (hn1 : 1 ≤ nn) (hm1 : 1 ≤ mm) (ht0 : 0 ≤ th) (ht1 : th < k3) (hlt : k8.tdiv mm < nn) :
    Calls Try.prog 21 #[.pointer (some ⟨g, 0, none⟩), opV 2 th a b v nn mm dv, .bool fu] w fun e w' => e = .returned (.tuple #[refV z51, .int .i64 4]) ∧ Below w.heap.size w w' := by
  have hu25 := Try.underlying25
  have hu49 := Try.underlying49
  have hu63 := Try.underlying63
  have hu29 := Try.underlying29
  unfold opV
  obtain ⟨w1, hw1, hop, HM, HB, HR⟩ : ∃ w1, (w.alloc (.cells #[.int .i64 2, .int .i64 th, .int .i64 a, .int .i64 b, .int .i64 v, .int .i64 nn, .int .i64 mm, dv] 25)).alloc (.cells #[.int .i64 0, .int .i64 0, .int .i64 0, .int .i64 0, .int .i64 0] 49) = w1 ∧
      w1.heap[w.heap.size]? = some (.cells #[.int .i64 2, .int .i64 th, .int .i64 a, .int .i64 b, .int .i64 v, .int .i64 nn, .int .i64 mm, dv] 25 (0, 0)) ∧
      Aside0 (IsM w1 g k0 k1 k2 k3 k4 k5 k6 k7 k8 k9 k10 (.slice none 0 0) rv) ∧ Aside0 (Below w.heap.size w w1) ∧ Aside0 (w1.heap[w.heap.size + 1]? = some (.cells #[.int .i64 0, .int .i64 0, .int .i64 0, .int .i64 0, .int .i64 0] 49 (0, 0))) :=
    ⟨_, rfl, blk_alloc (blk_new _ _) _, ⟨blk_alloc (blk_alloc h _) _⟩, ⟨below_alloc (below_alloc (Below.refl _ _) _) _⟩, ⟨blk_new1 _ _ _⟩⟩
  have HGL := Aside0.mk (blk_lt h)
  clear h
  obtain ⟨z0, z1, z2, z3, z4, z5, z6, z7⟩ := cells8 hop
  obtain ⟨r0, r1, r2, r3, r4, s0, s1, s2, s3, s4⟩ := cells5 HR.out
  have h38 : w1.cell? ⟨g, 8, none⟩ = some (.int .i64 k8) := (blk_cell HM.out 8).trans rfl
  have h39 : w1.cell? ⟨g, 9, none⟩ = some (.int .i64 k9) := (blk_cell HM.out 9).trans rfl
  clear hop
  rw [show refV z51 = .agg #[.int .i64 0, .int .i64 0, .int .i64 0, .int .i64 0, .int .i64 0] from rfl]
  have d1 : decide (nn < 1) = false := decide_eq_false (by omega)
  have d2 : decide (mm < 1) = false := decide_eq_false (by omega)
  have he : askOf k3 k8 th 1 = 0 := askOf_nil (by omega) (by omega)
  have e0 : (mm = 0) = False := eq_false (by omega)
  have e1 : (mm == 0) = false := beq_eq_false_iff_ne.2 (by omega)
  have hqb : k8.tdiv mm ≤ k8 := by rw [Int.tdiv_eq_ediv_of_nonneg (by omega)]; exact Int.ediv_le_self _ (by omega)
  have hqc : 0 ≤ k8.tdiv mm := Int.tdiv_nonneg (by omega) (by omega)
  obtain ⟨q, hq⟩ : ∃ q, k8.tdiv mm = q := ⟨_, rfl⟩
  rw [hq] at hqb hqc
  have hqw : IntKind.i64.wrap (k8.tdiv mm) = q := by rw [hq]; exact (i64_w _).trans (by unfold wrap64; omega)
  have d3 : decide (q < nn) = true := decide_eq_true (by omega)
  go_enter Try.func21, Try.ntmps21
  go_wp2_with fail
  go_quiet (fail)
  go_wp2_with fail
  refine (askV g k0 k1 k2 k3 k4 k5 k6 k7 k8 k9 k10 (.slice none 0 0) rv th 1 _ _ he (by exact HM.out)).mono ?_
  rintro e w2 ⟨rfl, rfl⟩
  go_wp2_with fail
  go_quiet (exact (askV g k0 k1 k2 k3 k4 k5 k6 k7 k8 k9 k10 (.slice none 0 0) rv th 1 _ _ he (by exact HM.out)).mono (fun e w3 hh => ⟨hh.1, _, hh.2⟩))
  go_wp2
  refine bodyPost_ret (ret5e rfl _ _ (w.heap.size + 1) (.int .i64 0) (.int .i64 0) (.int .i64 0) (.int .i64 0) (.int .i64 0) _ _ _ _ _ rfl HR.out) rfl ?_
  exact ⟨rfl, below_set (below_set (below_set (below_set (below_set (by first | exact HB.out | exact pw_below_drewN HB.out _ | exact pw_below_drewN (pw_below_drewN HB.out _) _ | exact pw_below_drewN (pw_below_drewN (pw_below_drewN HB.out _) _) _) (by omega)) (by omega)) (by omega)) (by omega)) (by omega)⟩

set_option maxHeartbeats 8000000 in
set_option maxRecDepth 100000 in
theorem new2f (g : Nat) (k0 k1 k2 k3 k4 k5 k6 k7 k8 k9 k10 : Int) (rv : Value) (th a b v nn mm : Int) (dv : Value) (pw fu : Bool) (w : World) (h : IsM w g k0 k1 k2 k3 k4 k5 k6 k7 k8 k9 k10 (.slice none 0 0) rv) (hk8 : 1 ≤ k8) (hk8b : k8 ≤ 1000000000) (hpw : num_Power.f mm = some pw) (hn1 : 1 ≤ nn) (hm1 : 1 ≤ mm) (ht0 : 0 ≤ th) (ht1 : th < k3) (hle : nn ≤ k8.tdiv mm) (hfu : fu = true) :
    Calls Try.prog 21 #[.pointer (some ⟨g, 0, none⟩), opV 2 th a b v nn mm dv, .bool fu] w fun e w' => e = .returned (.tuple #[refV z51, .int .i64 13]) ∧ Below w.heap.size w w' := by
  have hu25 := Try.underlying25
  have hu49 := Try.underlying49
  have hu63 := Try.underlying63
  have hu29 := Try.underlying29
  unfold opV
  obtain ⟨w1, hw1, hop, HM, HB, HR⟩ : ∃ w1, (w.alloc (.cells #[.int .i64 2, .int .i64 th, .int .i64 a, .int .i64 b, .int .i64 v, .int .i64 nn, .int .i64 mm, dv] 25)).alloc (.cells #[.int .i64 0, .int .i64 0, .int .i64 0, .int .i64 0, .int .i64 0] 49) = w1 ∧
      w1.heap[w.heap.size]? = some (.cells #[.int .i64 2, .int .i64 th, .int .i64 a, .int .i64 b, .int .i64 v, .int .i64 nn, .int .i64 mm, dv] 25 (0, 0)) ∧
      Aside0 (IsM w1 g k0 k1 k2 k3 k4 k5 k6 k7 k8 k9 k10 (.slice none 0 0) rv) ∧ Aside0 (Below w.heap.size w w1) ∧ Aside0 (w1.heap[w.heap.size + 1]? = some (.cells #[.int .i64 0, .int .i64 0, .int .i64 0, .int .i64 0, .int .i64 0] 49 (0, 0))) :=
    ⟨_, rfl, blk_alloc (blk_new _ _) _, ⟨blk_alloc (blk_alloc h _) _⟩, ⟨below_alloc (below_alloc (Below.refl _ _) _) _⟩, ⟨blk_new1 _ _ _⟩⟩
  have HGL := Aside0.mk (blk_lt h)
  clear h
  obtain ⟨z0, z1, z2, z3, z4, z5, z6, z7⟩ := cells8 hop
  obtain ⟨r0, r1, r2, r3, r4, s0, s1, s2, s3, s4⟩ := cells5 HR.out
  have h38 : w1.cell? ⟨g, 8, none⟩ = some (.int .i64 k8) := (blk_cell HM.out 8).trans rfl
  have h39 : w1.cell? ⟨g, 9, none⟩ = some (.int .i64 k9) := (blk_cell HM.out 9).trans rfl
  clear hop
  rw [show refV z51 = .agg #[.int .i64 0, .int .i64 0, .int .i64 0, .int .i64 0, .int .i64 0] from rfl]
  have d1 : decide (nn < 1) = false := decide_eq_false (by omega)
  have d2 : decide (mm < 1) = false := decide_eq_false (by omega)
  have he : askOf k3 k8 th 1 = 0 := askOf_nil (by omega) (by omega)
  have e0 : (mm = 0) = False := eq_false (by omega)
  have e1 : (mm == 0) = false := beq_eq_false_iff_ne.2 (by omega)
  have hqb : k8.tdiv mm ≤ k8 := by rw [Int.tdiv_eq_ediv_of_nonneg (by omega)]; exact Int.ediv_le_self _ (by omega)
  have hqc : 0 ≤ k8.tdiv mm := Int.tdiv_nonneg (by omega) (by omega)
  obtain ⟨q, hq⟩ : ∃ q, k8.tdiv mm = q := ⟨_, rfl⟩
  rw [hq] at hqb hqc
  have hqw : IntKind.i64.wrap (k8.tdiv mm) = q := by rw [hq]; exact (i64_w _).trans (by unfold wrap64; omega)
  have d3 : decide (q < nn) = false := decide_eq_false (by omega)
  obtain ⟨hp1, hp2⟩ := quo_mul hm1 hn1 hk8 hle
  obtain ⟨p, hp⟩ : ∃ p, nn * mm = p := ⟨_, rfl⟩
  rw [hp] at hp1 hp2
  have hpw2 : IntKind.i64.wrap (nn * mm) = p := by rw [hp]; exact (i64_w _).trans (by unfold wrap64; omega)
  have he2 : askOf k3 k8 th p = 0 := askOf_nil (by omega) (by omega)
  subst hfu
  go_enter Try.func21, Try.ntmps21
  go_wp2_with fail
  go_quiet (fail)
  go_wp2_with fail
  refine (askV g k0 k1 k2 k3 k4 k5 k6 k7 k8 k9 k10 (.slice none 0 0) rv th 1 _ _ he (by exact HM.out)).mono ?_
  rintro e w2 ⟨rfl, rfl⟩
  go_wp2_with fail
  go_quiet (exact (askV g k0 k1 k2 k3 k4 k5 k6 k7 k8 k9 k10 (.slice none 0 0) rv th 1 _ _ he (by exact HM.out)).mono (fun e w3 hh => ⟨hh.1, _, hh.2⟩))
  go_wp2_with fail
  refine (askV g k0 k1 k2 k3 k4 k5 k6 k7 k8 k9 k10 (.slice none 0 0) rv th p _ _ he2 (by exact HM.out)).mono ?_
  rintro e w2 ⟨rfl, rfl⟩
  go_wp2
  refine bodyPost_ret (ret5e rfl _ _ (w.heap.size + 1) (.int .i64 0) (.int .i64 0) (.int .i64 0) (.int .i64 0) (.int .i64 0) _ _ _ _ _ rfl HR.out) rfl ?_
  exact ⟨rfl, below_set (below_set (below_set (below_set (below_set (by first | exact HB.out | exact pw_below_drewN HB.out _ | exact pw_below_drewN (pw_below_drewN HB.out _) _ | exact pw_below_drewN (pw_below_drewN (pw_below_drewN HB.out _) _) _) (by omega)) (by omega)) (by omega)) (by omega)) (by omega)⟩

set_option maxHeartbeats 8000000 in
set_option maxRecDepth 100000 in
theorem new2m (g : Nat) (k0 k1 k2 k3 k4 k5 k6 k7 k8 k9 k10 : Int) (rv : Value) (th a b v nn mm : Int) (dv : Value) (pw fu : Bool) (w : World) (h : IsM w g k0 k1 k2 k3 k4 k5 k6 k7 k8 k9 k10 (.slice none 0 0) rv) (hk8 : 1 ≤ k8) (hk8b : k8 ≤ 1000000000) (hpw : num_Power.f mm = some pw) (kk r : Nat) (hr : model_room.f kk (nn * mm) (1) = some (r : Int)) (h1 : 1 ≤ r) (h2 : r ≤ 1000000) (hn1 : 1 ≤ nn) (hm1 : 1 ≤ mm) (ht0 : 0 ≤ th) (ht1 : th < k3) (hle : nn ≤ k8.tdiv mm) (hfu : fu = false) :
    Calls Try.prog 21 #[.pointer (some ⟨g, 0, none⟩), opV 2 th a b v nn mm dv, .bool fu] w fun e w' => e = .returned (.tuple #[refV ⟨1, 0, nn * mm, 0, 31⟩, .int .i64 0]) ∧ KB g w w' ∧
      ∃ g5 cap gt gb mp sp, IsM w' g k0 k1 k2 k3 k4 k5 k6 k7 k8 k9 k10 (.slice (some ⟨g5, 0, none⟩) 1 cap) rv ∧ 1 ≤ cap ∧ w'.cell? ⟨g5, 0, none⟩ = some (.pointer (some ⟨gt, 0, none⟩)) ∧
        w'.heap[gt]? = some (.cells #[.slice (some ⟨gb, 0, none⟩) r r, mp, .int .i64 r, sp, .bool true] 80 (0, 0)) ∧ w'.heap[gb]? = some (.cells (fillTo r r (0)) 5 (0, 0)) ∧ w.heap.size ≤ gt ∧ w.heap.size ≤ gb ∧ w.heap.size ≤ g5 := by
  have hu25 := Try.underlying25
  have hu49 := Try.underlying49
  have hu63 := Try.underlying63
  have hu29 := Try.underlying29
  unfold opV
  obtain ⟨w1, hw1, hop, HM, HB, HR⟩ : ∃ w1, (w.alloc (.cells #[.int .i64 2, .int .i64 th, .int .i64 a, .int .i64 b, .int .i64 v, .int .i64 nn, .int .i64 mm, dv] 25)).alloc (.cells #[.int .i64 0, .int .i64 0, .int .i64 0, .int .i64 0, .int .i64 0] 49) = w1 ∧
      w1.heap[w.heap.size]? = some (.cells #[.int .i64 2, .int .i64 th, .int .i64 a, .int .i64 b, .int .i64 v, .int .i64 nn, .int .i64 mm, dv] 25 (0, 0)) ∧
      Aside0 (IsM w1 g k0 k1 k2 k3 k4 k5 k6 k7 k8 k9 k10 (.slice none 0 0) rv) ∧ Aside0 (Below w.heap.size w w1) ∧ Aside0 (w1.heap[w.heap.size + 1]? = some (.cells #[.int .i64 0, .int .i64 0, .int .i64 0, .int .i64 0, .int .i64 0] 49 (0, 0))) :=
    ⟨_, rfl, blk_alloc (blk_new _ _) _, ⟨blk_alloc (blk_alloc h _) _⟩, ⟨below_alloc (below_alloc (Below.refl _ _) _) _⟩, ⟨blk_new1 _ _ _⟩⟩
  have HGL := Aside0.mk (blk_lt h)
  clear h
  obtain ⟨z0, z1, z2, z3, z4, z5, z6, z7⟩ := cells8 hop
  obtain ⟨r0, r1, r2, r3, r4, s0, s1, s2, s3, s4⟩ := cells5 HR.out
  have h38 : w1.cell? ⟨g, 8, none⟩ = some (.int .i64 k8) := (blk_cell HM.out 8).trans rfl
  have h39 : w1.cell? ⟨g, 9, none⟩ = some (.int .i64 k9) := (blk_cell HM.out 9).trans rfl
  clear hop
  have d1 : decide (nn < 1) = false := decide_eq_false (by omega)
  have d2 : decide (mm < 1) = false := decide_eq_false (by omega)
  have he : askOf k3 k8 th 1 = 0 := askOf_nil (by omega) (by omega)
  have e0 : (mm = 0) = False := eq_false (by omega)
  have e1 : (mm == 0) = false := beq_eq_false_iff_ne.2 (by omega)
  have hqb : k8.tdiv mm ≤ k8 := by rw [Int.tdiv_eq_ediv_of_nonneg (by omega)]; exact Int.ediv_le_self _ (by omega)
  have hqc : 0 ≤ k8.tdiv mm := Int.tdiv_nonneg (by omega) (by omega)
  obtain ⟨q, hq⟩ : ∃ q, k8.tdiv mm = q := ⟨_, rfl⟩
  rw [hq] at hqb hqc
  have hqw : IntKind.i64.wrap (k8.tdiv mm) = q := by rw [hq]; exact (i64_w _).trans (by unfold wrap64; omega)
  have d3 : decide (q < nn) = false := decide_eq_false (by omega)
  obtain ⟨hp1, hp2⟩ := quo_mul hm1 hn1 hk8 hle
  obtain ⟨p, hp⟩ : ∃ p, nn * mm = p := ⟨_, rfl⟩
  rw [hp] at hp1 hp2
  have hpw2 : IntKind.i64.wrap (nn * mm) = p := by rw [hp]; exact (i64_w _).trans (by unfold wrap64; omega)
  have he2 : askOf k3 k8 th p = 0 := askOf_nil (by omega) (by omega)
  rw [hp] at hr
  rw [hp]
  subst hfu
  go_enter Try.func21, Try.ntmps21
  go_wp2_with fail
  go_quiet (fail)
  go_wp2_with fail
  refine (askV g k0 k1 k2 k3 k4 k5 k6 k7 k8 k9 k10 (.slice none 0 0) rv th 1 _ _ he (by exact HM.out)).mono ?_
  rintro e w2 ⟨rfl, rfl⟩
  go_wp2_with fail
  go_quiet (exact (askV g k0 k1 k2 k3 k4 k5 k6 k7 k8 k9 k10 (.slice none 0 0) rv th 1 _ _ he (by exact HM.out)).mono (fun e w3 hh => ⟨hh.1, _, hh.2⟩))
  go_wp2_with fail
  refine (askV g k0 k1 k2 k3 k4 k5 k6 k7 k8 k9 k10 (.slice none 0 0) rv th p _ _ he2 (by exact HM.out)).mono ?_
  rintro e w2 ⟨rfl, rfl⟩
  go_wp2_with fail
  refine (makeE kk g k0 k1 k2 k3 k4 k5 k6 k7 k8 k9 k10 rv (p) (1) (0) r _ (by exact HM.out) hr h1 h2).mono ?_
  rintro e w3 ⟨rfl, hkb, g5, cap, gt, gb, mp, sp, hm, hcap, hc, hth, hfl, hgt, hgb, hg5⟩
  have hsz := blk_lt HR.out
  have hgt2 : w1.heap.size ≤ gt := hgt
  have hgb2 : w1.heap.size ≤ gb := hgb
  have hg52 : w1.heap.size ≤ g5 := hg5
  have hres := (hkb.block (w.heap.size + 1) hsz (by have hq := HGL.out; omega)).trans HR.out
  have hkb2 : KB g w w3 := KB.step (KB.of (by first | exact HB.out | exact pw_below_drewN HB.out _ | exact pw_below_drewN (pw_below_drewN HB.out _) _ | exact pw_below_drewN (pw_below_drewN (pw_below_drewN HB.out _) _) _)) hkb
  obtain ⟨p0, p1, p2, p3, p4, q0, q1, q2, q3, q4⟩ := cells5 hres
  have HQ := Aside0.mk (And.intro hres (And.intro hkb2 (And.intro hm (And.intro hcap (And.intro hc (And.intro hth (And.intro hfl (And.intro hgt2 (And.intro hgb2 (And.intro hg52 hsz))))))))))
  clear hres hkb2 hm hcap hc hth hfl hgt2 hgb2 hg52 hsz hkb hgt hgb hg5
  simp only [refV]
  go_wp2
  obtain ⟨hres, hkb2, hm, hcap, hc, hth, hfl, hgt2, hgb2, hg52, hsz⟩ := HQ.out
  refine bodyPost_ret (ret5e rfl _ _ (w.heap.size + 1) (.int .i64 0) (.int .i64 0) (.int .i64 0) (.int .i64 0) (.int .i64 0) _ _ _ _ _ rfl hres) rfl ?_
  have hgl := HGL.out
  exact ⟨rfl, ((((hkb2.high (by omega)).high (by omega)).high (by omega)).high (by omega)).high (by omega), g5, cap, gt, gb, mp, sp, blk_put5 _ _ _ _ _ hm (by omega), hcap, cell_put5 _ _ _ _ _ hc (by omega), blk_put5 _ _ _ _ _ hth (by omega), blk_put5 _ _ _ _ _ hfl (by omega), by omega, by omega, by omega⟩

end Go.Proofs.Ytneejihmakfaoaa.OwnModel
