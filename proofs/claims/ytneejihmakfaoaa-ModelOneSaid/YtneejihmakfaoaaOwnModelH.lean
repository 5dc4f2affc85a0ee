/- Walks of the model's functions by hand: whole, renew, derived, used, of a reference that is none. Conditions: the model lies in a block. -/
import Derived.Test.YtneejihmakfaoaaOwnModelG
namespace Go.Proofs.Ytneejihmakfaoaa.OwnModel
open Go.RowKit Go.Proofs.Ytneejihmakfaoaa.OwnMask Go.Proofs.Ytneejihmakfaoaa.QModelOne Go.Proofs.YtneejihmakfaoaaW.PrintWords Go.Proofs.YtneejihmakfaoaaW.PrintLast Go.Proofs.YtneejihmakfaoaaW.PrintMore
set_option linter.unusedVariables false
set_option linter.unusedSimpArgs false
/-- Something that is done. -/
def opV (kd th a b v nn mm : Int) (dv : Value) : Value := .agg #[.int .i64 kd, .int .i64 th, .int .i64 a, .int .i64 b, .int .i64 v, .int .i64 nn, .int .i64 mm, dv]

theorem ret5e {fn : Func} {p u : Tmp} (h : fn.results = #[.cell p 49, .tmp u]) (tmps : Array Value) (W : World) (g : Nat) (a0 a1 a2 a3 a4 b0 b1 b2 b3 b4 : Value) (hp : tmps.getD p undef = .pointer (some ⟨g, 0, none⟩)) (hW : W.heap[g]? = some (.cells #[a0, a1, a2, a3, a4] 49 (0, 0))) :
    (results fn tmps).run Try.prog (((((W.setCell ⟨g, 0, none⟩ b0).setCell ⟨g, 1, none⟩ b1).setCell ⟨g, 2, none⟩ b2).setCell ⟨g, 3, none⟩ b3).setCell ⟨g, 4, none⟩ b4) = .ok (.tuple #[.agg #[b0, b1, b2, b3, b4], tmps.getD u undef]) (((((W.setCell ⟨g, 0, none⟩ b0).setCell ⟨g, 1, none⟩ b1).setCell ⟨g, 2, none⟩ b2).setCell ⟨g, 3, none⟩ b3).setCell ⟨g, 4, none⟩ b4) :=
  results_ct h tmps _ g 49 #[b0, b1, b2, b3, b4] (0, 0) _ hp (put5 b0 b1 b2 b3 b4 hW) Try.underlying49 rfl (by kernel_rfl)
theorem put3 {W : World} {g : Nat} {t : TypeId} {a0 a1 a2 : Value} (b0 b1 b2 : Value) (h : W.heap[g]? = some (.cells #[a0, a1, a2] t (0, 0))) :
    (((W.setCell ⟨g, 0, none⟩ b0).setCell ⟨g, 1, none⟩ b1).setCell ⟨g, 2, none⟩ b2).heap[g]? = some (.cells #[b0, b1, b2] t (0, 0)) := by
  refine blk_put (cs := #[b0, b1, a2]) ?_ 2 _ rfl
  refine blk_put (cs := #[b0, a1, a2]) ?_ 1 _ rfl
  exact blk_put h 0 _ rfl
theorem ret3 {fn : Func} {p : Tmp} (h : fn.results = #[.cell p 35]) (tmps : Array Value) (W : World) (g : Nat) (a0 a1 a2 b0 b1 b2 : Value) (hp : tmps.getD p undef = .pointer (some ⟨g, 0, none⟩)) (hW : W.heap[g]? = some (.cells #[a0, a1, a2] 35 (0, 0))) :
    (results fn tmps).run Try.prog (((W.setCell ⟨g, 0, none⟩ b0).setCell ⟨g, 1, none⟩ b1).setCell ⟨g, 2, none⟩ b2) = .ok (.agg #[b0, b1, b2]) (((W.setCell ⟨g, 0, none⟩ b0).setCell ⟨g, 1, none⟩ b1).setCell ⟨g, 2, none⟩ b2) :=
  results_cell_row h tmps _ g 35 #[b0, b1, b2] (0, 0) _ hp (put3 b0 b1 b2 hW) Try.underlying35 rfl (by kernel_rfl)

theorem blk_newb (w : World) (o1 o2 o3 : Obj) : (((w.alloc o1).alloc o2).alloc o3).heap[w.heap.size + 1 + 1]? = some o3 := by
  have h := blk_new1 (w.alloc o1) o2 o3
  rwa [World.size_alloc] at h
theorem askOf_is (t m a n : Int) : askOf t m a n = 0 ∨ askOf t m a n = 1 ∨ askOf t m a n = 4 := by
  unfold askOf
  split
  · exact Or.inr (Or.inl rfl)
  · split
    · exact Or.inr (Or.inr rfl)
    · exact Or.inl rfl

set_option maxHeartbeats 2000000 in
set_option maxRecDepth 100000 in
theorem whole0 (pv : Value) (w : World) :
    Calls Try.prog 37 #[pv, refV z51] w fun e w' => e = .returned (.int .i64 7) ∧ Below w.heap.size w w' := by
  have hu49 := Try.underlying49
  have z0 : ∀ w : World, (w.alloc (.cells #[.int .i64 0, .int .i64 0, .int .i64 0, .int .i64 0, .int .i64 0] 49)).cell? ⟨w.heap.size, 0, none⟩ = some (.int .i64 0) := fun w => (blk_cell (blk_new w _) 0).trans rfl
  unfold refV
  go_enter Try.func37, Try.ntmps37
  go_wp2
  go_ret
  exact ⟨rfl, below_alloc (Below.refl _ _) _⟩

set_option maxHeartbeats 2000000 in
set_option maxRecDepth 100000 in
theorem renew0 (g : Nat) (k0 k1 k2 k3 k4 k5 k6 k7 k8 k9 k10 : Int) (lv rv : Value) (kd th a b v nn mm : Int) (dv : Value) (fu : Bool) (w : World) (h : IsM w g k0 k1 k2 k3 k4 k5 k6 k7 k8 k9 k10 lv rv) :
    Calls Try.prog 22 #[.pointer (some ⟨g, 0, none⟩), opV kd th a b v nn mm dv, refV z51, .bool fu] w fun e w' => e = .returned (.tuple #[refV z51, .int .i64 (if askOf k3 k8 th nn = 0 then 7 else askOf k3 k8 th nn)]) ∧ Below w.heap.size w w' := by
  have hu25 := Try.underlying25
  have hu49 := Try.underlying49
  unfold opV
  rw [show refV z51 = .agg #[.int .i64 0, .int .i64 0, .int .i64 0, .int .i64 0, .int .i64 0] from rfl]
  obtain ⟨w1, hw1, z1, z5, x0, x1, x2, x3, x4, HM, HB, HR⟩ : ∃ w1, ((w.alloc (.cells #[.int .i64 kd, .int .i64 th, .int .i64 a, .int .i64 b, .int .i64 v, .int .i64 nn, .int .i64 mm, dv] 25)).alloc (.cells #[.int .i64 0, .int .i64 0, .int .i64 0, .int .i64 0, .int .i64 0] 49)).alloc (.cells #[.int .i64 0, .int .i64 0, .int .i64 0, .int .i64 0, .int .i64 0] 49) = w1 ∧
      w1.cell? ⟨w.heap.size, 1, none⟩ = some (.int .i64 th) ∧ w1.cell? ⟨w.heap.size, 5, none⟩ = some (.int .i64 nn) ∧
      w1.cell? ⟨w.heap.size + 1, 0, none⟩ = some (.int .i64 0) ∧ w1.cell? ⟨w.heap.size + 1, 1, none⟩ = some (.int .i64 0) ∧ w1.cell? ⟨w.heap.size + 1, 2, none⟩ = some (.int .i64 0) ∧ w1.cell? ⟨w.heap.size + 1, 3, none⟩ = some (.int .i64 0) ∧ w1.cell? ⟨w.heap.size + 1, 4, none⟩ = some (.int .i64 0) ∧
      Aside0 (IsM w1 g k0 k1 k2 k3 k4 k5 k6 k7 k8 k9 k10 lv rv) ∧ Aside0 (Below w.heap.size w w1) ∧ Aside0 (w1.heap[w.heap.size + 1 + 1]? = some (.cells #[.int .i64 0, .int .i64 0, .int .i64 0, .int .i64 0, .int .i64 0] 49 (0, 0))) :=
    ⟨_, rfl, (blk_cell (blk_alloc (blk_alloc (blk_new _ _) _) _) 1).trans rfl, (blk_cell (blk_alloc (blk_alloc (blk_new _ _) _) _) 5).trans rfl,
      (blk_cell (blk_alloc (blk_new1 _ _ _) _) 0).trans rfl, (blk_cell (blk_alloc (blk_new1 _ _ _) _) 1).trans rfl, (blk_cell (blk_alloc (blk_new1 _ _ _) _) 2).trans rfl, (blk_cell (blk_alloc (blk_new1 _ _ _) _) 3).trans rfl, (blk_cell (blk_alloc (blk_new1 _ _ _) _) 4).trans rfl,
      ⟨blk_alloc (blk_alloc (blk_alloc h _) _) _⟩, ⟨below_alloc (below_alloc (below_alloc (Below.refl _ _) _) _) _⟩, ⟨blk_newb _ _ _ _⟩⟩
  clear h
  have hr1 := HR.out
  have x5 : w1.cell? ⟨w.heap.size + 1 + 1, 0, none⟩ = some (.int .i64 0) := (blk_cell hr1 0).trans rfl
  have x6 : w1.cell? ⟨w.heap.size + 1 + 1, 1, none⟩ = some (.int .i64 0) := (blk_cell hr1 1).trans rfl
  have x7 : w1.cell? ⟨w.heap.size + 1 + 1, 2, none⟩ = some (.int .i64 0) := (blk_cell hr1 2).trans rfl
  have x8 : w1.cell? ⟨w.heap.size + 1 + 1, 3, none⟩ = some (.int .i64 0) := (blk_cell hr1 3).trans rfl
  have x9 : w1.cell? ⟨w.heap.size + 1 + 1, 4, none⟩ = some (.int .i64 0) := (blk_cell hr1 4).trans rfl
  have y5 := blk_frozen hr1 0
  have y6 := blk_frozen hr1 1
  have y7 := blk_frozen hr1 2
  have y8 := blk_frozen hr1 3
  have y9 := blk_frozen hr1 4
  clear hr1
  rcases askOf_is k3 k8 th nn with he | he | he
  · rw [show (if askOf k3 k8 th nn = 0 then (7 : Int) else askOf k3 k8 th nn) = 7 from if_pos he]
    go_enter Try.func22, Try.ntmps22
    go_wp2_with fail
    refine (ask g k0 k1 k2 k3 k4 k5 k6 k7 k8 k9 k10 lv rv th nn _ HM.out).mono ?_
    rintro e w2 ⟨rfl, rfl⟩
    rw [he]
    clear he
    go_wp2_with fail
    refine (whole0 _ _).mono ?_
    rintro e w3 ⟨rfl, hb⟩
    have hr3 := blk_below HR.out hb
    have HB3 := Aside0.mk (below_step HB.out hb)
    have HR3 := Aside0.mk hr3
    have u5 : w3.cell? ⟨w.heap.size + 1 + 1, 0, none⟩ = some (.int .i64 0) := (blk_cell hr3 0).trans rfl
    have u6 : w3.cell? ⟨w.heap.size + 1 + 1, 1, none⟩ = some (.int .i64 0) := (blk_cell hr3 1).trans rfl
    have u7 : w3.cell? ⟨w.heap.size + 1 + 1, 2, none⟩ = some (.int .i64 0) := (blk_cell hr3 2).trans rfl
    have u8 : w3.cell? ⟨w.heap.size + 1 + 1, 3, none⟩ = some (.int .i64 0) := (blk_cell hr3 3).trans rfl
    have u9 : w3.cell? ⟨w.heap.size + 1 + 1, 4, none⟩ = some (.int .i64 0) := (blk_cell hr3 4).trans rfl
    have v5 := blk_frozen hr3 0
    have v6 := blk_frozen hr3 1
    have v7 := blk_frozen hr3 2
    have v8 := blk_frozen hr3 3
    have v9 := blk_frozen hr3 4
    clear hr3 hb
    go_wp2
    refine bodyPost_ret (ret5e rfl _ _ (w.heap.size + 1 + 1) (.int .i64 0) (.int .i64 0) (.int .i64 0) (.int .i64 0) (.int .i64 0) _ _ _ _ _ rfl HR3.out) rfl ?_
    exact ⟨rfl, below_set (below_set (below_set (below_set (below_set HB3.out (by omega)) (by omega)) (by omega)) (by omega)) (by omega)⟩
  all_goals
    rw [show (if askOf k3 k8 th nn = 0 then (7 : Int) else askOf k3 k8 th nn) = askOf k3 k8 th nn from if_neg (by rw [he]; decide), he]
    go_enter Try.func22, Try.ntmps22
    go_wp2_with fail
    refine (ask g k0 k1 k2 k3 k4 k5 k6 k7 k8 k9 k10 lv rv th nn _ HM.out).mono ?_
    rintro e w2 ⟨rfl, rfl⟩
    rw [he]
    clear he
    go_wp2
    refine bodyPost_ret (ret5e rfl _ _ (w.heap.size + 1 + 1) (.int .i64 0) (.int .i64 0) (.int .i64 0) (.int .i64 0) (.int .i64 0) _ _ _ _ _ rfl HR.out) rfl ?_
    exact ⟨rfl, below_set (below_set (below_set (below_set (below_set HB.out (by omega)) (by omega)) (by omega)) (by omega)) (by omega)⟩

set_option maxHeartbeats 4000000 in
set_option maxRecDepth 100000 in
theorem derived0 (g : Nat) (kd th a b v nn mm : Int) (dv : Value) (w : World) :
    Calls Try.prog 23 #[.pointer (some ⟨g, 0, none⟩), opV kd th a b v nn mm dv, refV z51] w fun e w' => e = .returned (.tuple #[refV z51, .int .i64 (if kd = 10 then 0 else 7)]) ∧ Below w.heap.size w w' := by
  have hu25 := Try.underlying25
  have hu49 := Try.underlying49
  unfold opV
  rw [show refV z51 = .agg #[.int .i64 0, .int .i64 0, .int .i64 0, .int .i64 0, .int .i64 0] from rfl]
  obtain ⟨w1, hw1, z0, x0, x1, x2, x3, x4, HB, HR⟩ : ∃ w1, ((w.alloc (.cells #[.int .i64 kd, .int .i64 th, .int .i64 a, .int .i64 b, .int .i64 v, .int .i64 nn, .int .i64 mm, dv] 25)).alloc (.cells #[.int .i64 0, .int .i64 0, .int .i64 0, .int .i64 0, .int .i64 0] 49)).alloc (.cells #[.int .i64 0, .int .i64 0, .int .i64 0, .int .i64 0, .int .i64 0] 49) = w1 ∧
      w1.cell? ⟨w.heap.size, 0, none⟩ = some (.int .i64 kd) ∧
      w1.cell? ⟨w.heap.size + 1, 0, none⟩ = some (.int .i64 0) ∧ w1.cell? ⟨w.heap.size + 1, 1, none⟩ = some (.int .i64 0) ∧ w1.cell? ⟨w.heap.size + 1, 2, none⟩ = some (.int .i64 0) ∧ w1.cell? ⟨w.heap.size + 1, 3, none⟩ = some (.int .i64 0) ∧ w1.cell? ⟨w.heap.size + 1, 4, none⟩ = some (.int .i64 0) ∧
      Aside0 (Below w.heap.size w w1) ∧ Aside0 (w1.heap[w.heap.size + 1 + 1]? = some (.cells #[.int .i64 0, .int .i64 0, .int .i64 0, .int .i64 0, .int .i64 0] 49 (0, 0))) :=
    ⟨_, rfl, (blk_cell (blk_alloc (blk_alloc (blk_new _ _) _) _) 0).trans rfl,
      (blk_cell (blk_alloc (blk_new1 _ _ _) _) 0).trans rfl, (blk_cell (blk_alloc (blk_new1 _ _ _) _) 1).trans rfl, (blk_cell (blk_alloc (blk_new1 _ _ _) _) 2).trans rfl, (blk_cell (blk_alloc (blk_new1 _ _ _) _) 3).trans rfl, (blk_cell (blk_alloc (blk_new1 _ _ _) _) 4).trans rfl,
      ⟨below_alloc (below_alloc (below_alloc (Below.refl _ _) _) _) _⟩, ⟨blk_newb _ _ _ _⟩⟩
  have hr1 := HR.out
  have x5 : w1.cell? ⟨w.heap.size + 1 + 1, 0, none⟩ = some (.int .i64 0) := (blk_cell hr1 0).trans rfl
  have x6 : w1.cell? ⟨w.heap.size + 1 + 1, 1, none⟩ = some (.int .i64 0) := (blk_cell hr1 1).trans rfl
  have x7 : w1.cell? ⟨w.heap.size + 1 + 1, 2, none⟩ = some (.int .i64 0) := (blk_cell hr1 2).trans rfl
  have x8 : w1.cell? ⟨w.heap.size + 1 + 1, 3, none⟩ = some (.int .i64 0) := (blk_cell hr1 3).trans rfl
  have x9 : w1.cell? ⟨w.heap.size + 1 + 1, 4, none⟩ = some (.int .i64 0) := (blk_cell hr1 4).trans rfl
  have y5 := blk_frozen hr1 0
  have y6 := blk_frozen hr1 1
  have y7 := blk_frozen hr1 2
  have y8 := blk_frozen hr1 3
  have y9 := blk_frozen hr1 4
  clear hr1
  by_cases c1 : kd = 10
  · subst c1
    go_enter Try.func23, Try.ntmps23
    go_wp2
    refine bodyPost_ret (ret5e rfl _ _ (w.heap.size + 1 + 1) (.int .i64 0) (.int .i64 0) (.int .i64 0) (.int .i64 0) (.int .i64 0) _ _ _ _ _ rfl HR.out) rfl ?_
    exact ⟨rfl, below_set (below_set (below_set (below_set (below_set HB.out (by omega)) (by omega)) (by omega)) (by omega)) (by omega)⟩
  · rw [if_neg c1]
    by_cases c2 : kd = 13
    · subst c2
      go_enter Try.func23, Try.ntmps23
      go_wp2_with fail
      refine (model_slot.calls 0 0 0 0 0 4 7 _ rfl).mono ?_
      rintro e w2 ⟨rfl, hb⟩
      have hb3 := hb
      have hr3 := blk_below HR.out hb3
      have HB3 := Aside0.mk (below_step HB.out hb3)
      have HR3 := Aside0.mk hr3
      have u5 : w2.cell? ⟨w.heap.size + 1 + 1, 0, none⟩ = some (.int .i64 0) := (blk_cell hr3 0).trans rfl
      have u6 : w2.cell? ⟨w.heap.size + 1 + 1, 1, none⟩ = some (.int .i64 0) := (blk_cell hr3 1).trans rfl
      have u7 : w2.cell? ⟨w.heap.size + 1 + 1, 2, none⟩ = some (.int .i64 0) := (blk_cell hr3 2).trans rfl
      have u8 : w2.cell? ⟨w.heap.size + 1 + 1, 3, none⟩ = some (.int .i64 0) := (blk_cell hr3 3).trans rfl
      have u9 : w2.cell? ⟨w.heap.size + 1 + 1, 4, none⟩ = some (.int .i64 0) := (blk_cell hr3 4).trans rfl
      have v5 := blk_frozen hr3 0
      have v6 := blk_frozen hr3 1
      have v7 := blk_frozen hr3 2
      have v8 := blk_frozen hr3 3
      have v9 := blk_frozen hr3 4
      clear hr3 hb hb3
      go_wp2
      refine bodyPost_ret (ret5e rfl _ _ (w.heap.size + 1 + 1) (.int .i64 0) (.int .i64 0) (.int .i64 0) (.int .i64 0) (.int .i64 0) _ _ _ _ _ rfl HR3.out) rfl ?_
      exact ⟨rfl, below_set (below_set (below_set (below_set (below_set HB3.out (by omega)) (by omega)) (by omega)) (by omega)) (by omega)⟩
    · have e1 : (kd == 10) = false := beq_eq_false_iff_ne.2 c1
      have e2 : (kd == 13) = false := beq_eq_false_iff_ne.2 c2
      go_enter Try.func23, Try.ntmps23
      go_wp2
      refine bodyPost_ret (ret5e rfl _ _ (w.heap.size + 1 + 1) (.int .i64 0) (.int .i64 0) (.int .i64 0) (.int .i64 0) (.int .i64 0) _ _ _ _ _ rfl HR.out) rfl ?_
      exact ⟨rfl, below_set (below_set (below_set (below_set (below_set HB.out (by omega)) (by omega)) (by omega)) (by omega)) (by omega)⟩

end Go.Proofs.Ytneejihmakfaoaa.OwnModel
