/- Walks of the model's functions by hand: Do, on an empty model (the other ways). Conditions: the registers lie in a block of their own. Printed by gen_do.py. -/
import Derived.Test.YtneejihmakfaoaaOwnModelL
import Derived.Deep.DeepCutAuto
namespace Go.Proofs.Ytneejihmakfaoaa.OwnModel
open Go.RowKit Go.Proofs.Ytneejihmakfaoaa.OwnMask Go.Proofs.Ytneejihmakfaoaa.QModelOne Go.Proofs.YtneejihmakfaoaaW.PrintWords Go.Proofs.YtneejihmakfaoaaW.PrintLast Go.Proofs.YtneejihmakfaoaaW.PrintMore
set_option linter.unusedVariables false
set_option linter.unusedSimpArgs false
theorem ret3g {fn : Func} {p : Tmp} (h : fn.results = #[.cell p 35]) (tmps : Array Value) (W : World) (g : Nat) (b0 b1 b2 : Value) (hp : tmps.getD p undef = .pointer (some ⟨g, 0, none⟩)) (hW : W.heap[g]? = some (.cells #[b0, b1, b2] 35 (0, 0))) :
    (results fn tmps).run Try.prog W = .ok (.agg #[b0, b1, b2]) W :=
  results_cell_row h tmps _ g 35 #[b0, b1, b2] (0, 0) _ hp hW Try.underlying35 rfl (by kernel_rfl)
theorem KB.put5 {gr w W} {j0 j1 j2 j3 j4 : Nat} {v0 v1 v2 v3 v4 : Value} (h : KB gr w W) : KB gr w (((((W.setCell ⟨gr, j0, none⟩ v0).setCell ⟨gr, j1, none⟩ v1).setCell ⟨gr, j2, none⟩ v2).setCell ⟨gr, j3, none⟩ v3).setCell ⟨gr, j4, none⟩ v4) :=
  ((((h.step (KB.set _ _ _ _)).step (KB.set _ _ _ _)).step (KB.set _ _ _ _)).step (KB.set _ _ _ _)).step (KB.set _ _ _ _)
theorem blk_puts {W : World} {g k : Nat} {o : Obj} {j0 j1 j2 j3 j4 : Nat} {b0 b1 b2 b3 b4 : Value} (h : W.heap[k]? = some o) (hn : k ≠ g) :
    (((((W.setCell ⟨g, j0, none⟩ b0).setCell ⟨g, j1, none⟩ b1).setCell ⟨g, j2, none⟩ b2).setCell ⟨g, j3, none⟩ b3).setCell ⟨g, j4, none⟩ b4).heap[k]? = some o :=
  set_other (set_other (set_other (set_other (set_other h hn) hn) hn) hn) hn
theorem blk_put3 {W : World} {g k : Nat} {o : Obj} {j0 j1 j2 : Nat} {b0 b1 b2 : Value} (h : W.heap[k]? = some o) (hn : k ≠ g) :
    (((W.setCell ⟨g, j0, none⟩ b0).setCell ⟨g, j1, none⟩ b1).setCell ⟨g, j2, none⟩ b2).heap[k]? = some o :=
  set_other (set_other (set_other h hn) hn) hn
theorem cells13 {w : World} {g : Nat} {k0 k1 k2 k3 k4 k5 k6 k7 k8 k9 k10 : Int} {lv rv : Value} (h : IsM w g k0 k1 k2 k3 k4 k5 k6 k7 k8 k9 k10 lv rv) : w.cell? ⟨g, 12, none⟩ = some rv := (blk_cell h 12).trans rfl
theorem regs_old {w : World} {g : Nat} {t : TypeId} {xs : List S51} (h : w.heap[g]? = some (.cells (cells51 xs) t (0, 0))) (a : Int) (h0 : 0 ≤ a) (h1 : a < (xs.length : Int)) :
    ∃ p : S51, w.cell? ⟨g, a.toNat * 5, none⟩ = some (.int .i64 p.f0) ∧ w.cell? ⟨g, a.toNat * 5 + 1, none⟩ = some (.int .i64 p.f1) ∧ w.cell? ⟨g, a.toNat * 5 + 2, none⟩ = some (.int .i64 p.f2) ∧ w.cell? ⟨g, a.toNat * 5 + 3, none⟩ = some (.int .i64 p.f3) ∧ w.cell? ⟨g, a.toNat * 5 + 4, none⟩ = some (.int .i64 p.f4) ∧
      w.frozen? ⟨g, a.toNat * 5, none⟩ = false ∧ w.frozen? ⟨g, a.toNat * 5 + 1, none⟩ = false ∧ w.frozen? ⟨g, a.toNat * 5 + 2, none⟩ = false ∧ w.frozen? ⟨g, a.toNat * 5 + 3, none⟩ = false ∧ w.frozen? ⟨g, a.toNat * 5 + 4, none⟩ = false := by
  have hl : a.toNat < xs.length := by omega
  have hp : xs[a.toNat]? = some xs[a.toNat] := List.getElem?_eq_getElem hl
  exact ⟨xs[a.toNat], regs_cell h _ _ hp 0 (by decide), regs_cell h _ _ hp 1 (by decide), regs_cell h _ _ hp 2 (by decide), regs_cell h _ _ hp 3 (by decide), regs_cell h _ _ hp 4 (by decide), blk_frozen h _, blk_frozen h _, blk_frozen h _, blk_frozen h _, blk_frozen h _⟩
theorem DoF.putx {w W : World} {g gr p q r : Nat} {k0 k1 k2 k3 k4 k5 k6 k7 k8 k9 k10 : Int} {xs : List S51} {ov : Array Value} (h : DoF w W g k0 k1 k2 k3 k4 k5 k6 k7 k8 k9 k10 gr p q r xs ov) (h0 : w.heap.size ≤ q) (h1 : ¬ (q = g)) (h2 : ¬ (q = p)) (h3 : ¬ (q = r)) (h4 : ¬ (q = gr)) :
    DoF w (((((W.setCell ⟨q, 0, none⟩ (.int .i64 0)).setCell ⟨q, 1, none⟩ (.int .i64 0)).setCell ⟨q, 2, none⟩ (.int .i64 0)).setCell ⟨q, 3, none⟩ (.int .i64 0)).setCell ⟨q, 4, none⟩ (.int .i64 0)) g k0 k1 k2 k3 k4 k5 k6 k7 k8 k9 k10 gr p q r xs ov :=
  ⟨blk_puts h.m (fun e => h1 e.symm), blk_puts h.op (fun e => h2 e.symm), put5 _ _ _ _ _ h.x, blk_puts h.res (fun e => h3 e.symm), blk_puts h.rg (fun e => h4 e.symm), below_set (below_set (below_set (below_set (below_set h.b h0) h0) h0) h0) h0⟩
theorem in_regs {n : Nat} {a : Int} (h : inRegs n a = true) : 0 ≤ a ∧ a < (n : Int) := by
  unfold inRegs at h
  simpa using h

set_option maxHeartbeats 8000000 in
set_option maxRecDepth 100000 in
theorem doDerive (g : Nat) (k0 k1 k2 k3 k4 k5 k6 k7 k8 k9 k10 : Int) (gr : Nat) (xs : List S51) (kd th a b v nn mm : Int) (A : Option Addr) (dl dc : Nat) (fu : Bool) (w : World) (h : IsM w g k0 k1 k2 k3 k4 k5 k6 k7 k8 k9 k10 (.slice none 0 0) (.slice (some ⟨gr, 0, none⟩) xs.length xs.length)) (hr : w.heap[gr]? = some (.cells (cells51 xs) 49 (0, 0))) (hn : xs.length ≤ 64)
    (hreg : regsOk xs.length kd a b v = true) (hk : kd = 7 ∨ kd = 8 ∨ kd = 9 ∨ kd = 13) :
    Calls Try.prog 8 #[.pointer (some ⟨g, 0, none⟩), .agg #[.int .i64 kd, .int .i64 th, .int .i64 a, .int .i64 b, .int .i64 v, .int .i64 nn, .int .i64 mm, .slice A dl dc], .bool fu] w fun e w' => e = .returned (.agg #[.int .i64 7, .int .i64 0, .slice none 0 0]) ∧ Below w.heap.size w w' := by
  have hu25 := Try.underlying25
  have hu35 := Try.underlying35
  have hu49 := Try.underlying49
  have hu59 := Try.underlying59
  have hu63 := Try.underlying63
  have hgg : gr ≠ g := blk_ne hr h (by decide)
  have hgl := blk_lt h
  have hrl := blk_lt hr
  obtain ⟨w1, hw1, hop, HM, HRG, HR, HB⟩ := do_boxes g k0 k1 k2 k3 k4 k5 k6 k7 k8 k9 k10 gr xs #[.int .i64 kd, .int .i64 th, .int .i64 a, .int .i64 b, .int .i64 v, .int .i64 nn, .int .i64 mm, .slice A dl dc] w h hr
  clear h hr
  obtain ⟨z0, z1, z2, z3, z4, z5, z6, z7⟩ := cells8 hop
  have HOP := Aside0.mk hop
  have HG := Aside0.mk (And.intro hgg (And.intro hgl hrl))
  clear hop hgg hgl hrl
  have hk1 : 1 ≤ kd := by omega
  have hk18 : kd ≤ 18 := by omega
  have HX := Aside0.mk (show (if kd = 10 then (0 : Int) else 7) = 7 from if_neg (by omega))
  rcases hk with rfl | rfl | rfl | rfl
  all_goals
    go_enter Try.func8, Try.ntmps8
    go_wp2_with fail
    have hh := registers g k0 k1 k2 k3 k4 k5 k6 k7 k8 k9 k10 (.slice none 0 0) (some ⟨gr, 0, none⟩) xs.length xs.length _ th a b v nn mm (.slice A dl dc) _ HM.out hk1 hk18
    rw [hreg] at hh
    refine hh.mono ?_
    rintro e w2 ⟨rfl, hb⟩
    obtain ⟨w3, hw3, HD⟩ := do_x g k0 k1 k2 k3 k4 k5 k6 k7 k8 k9 k10 gr xs _ w w1 w2 HM HOP.out HRG HR HB hb
    obtain ⟨y0, y1, y2, y3, y4, y5, y6, y7⟩ := cells8 HD.out.1.op
    clear hb hh z0 z1 z2 z3 z4 z5 z6 z7 hreg
    go_upto_region 27 with fail
    go_region_law (first | (go_simp; go_at_call 15; refine (get0 g gr k0 k1 k2 k3 k4 k5 k6 k7 k8 k9 k10 xs b _ (by exact HD.out.1.m) (by exact HD.out.1.rg) hn).mono ?_; rintro e w4 ⟨rfl, hb4⟩; have HD4 := Aside0.mk (show DoF w w4 g k0 k1 k2 k3 k4 k5 k6 k7 k8 k9 k10 gr w.heap.size w2.heap.size (w.heap.size + 1) xs _ from (by first | exact DoF.below HD.out.1 hb4 | exact DoF.below (DoF.drew HD.out.1) hb4)); obtain ⟨v0, v1, v2, v3, v4, v5, v6, v7⟩ := cells8 HD4.out.op; clear hb4) | (go_simp; go_at_call 23; refine (derivedA g _ th a b v nn mm _ 7 _ HX.out).mono ?_; rintro e w5 ⟨rfl, hb5⟩; have HD5 := Aside0.mk (show DoF w w5 g k0 k1 k2 k3 k4 k5 k6 k7 k8 k9 k10 gr w.heap.size w2.heap.size (w.heap.size + 1) xs _ from (by first | exact DoF.below HD4.out hb5 | exact DoF.below (DoF.drew HD4.out) hb5)); obtain ⟨u0, u1, u2, u3, u4, t0, t1, t2, t3, t4⟩ := cells5 HD5.out.x; obtain ⟨p0, p1, p2, q0, q1, q2⟩ := cells3 HD5.out.res; clear hb5))
    all_goals
      have hne2 : ¬ (w.heap.size + 1 = w2.heap.size) := by have hlt := HD.out.2; omega
      have hne1 : ¬ (w2.heap.size = w.heap.size + 1) := by have hlt := HD.out.2; omega
      go_wp2
      refine bodyPost_ret (ret3 rfl _ _ (w.heap.size + 1) (.int .i64 0) (.int .i64 0) (.slice none 0 0) _ _ _ rfl (blk_put5 _ _ _ _ _ HD5.out.res hne2)) rfl ?_
      have hlt := HD.out.2
      exact ⟨rfl, below_set (below_set (below_set (below_set (below_set (below_set (below_set (below_set (by first | exact HD5.out.b | exact below_drew1 HD5.out.b) (by omega)) (by omega)) (by omega)) (by omega)) (by omega)) (by omega)) (by omega)) (by omega)⟩

set_option maxHeartbeats 8000000 in
set_option maxRecDepth 100000 in
theorem doUse (g : Nat) (k0 k1 k2 k3 k4 k5 k6 k7 k8 k9 k10 : Int) (gr : Nat) (xs : List S51) (kd th a b v nn mm : Int) (A : Option Addr) (dl dc : Nat) (fu : Bool) (w : World) (h : IsM w g k0 k1 k2 k3 k4 k5 k6 k7 k8 k9 k10 (.slice none 0 0) (.slice (some ⟨gr, 0, none⟩) xs.length xs.length)) (hr : w.heap[gr]? = some (.cells (cells51 xs) 49 (0, 0))) (hn : xs.length ≤ 64)
    (hreg : regsOk xs.length kd a b v = true) (hk : kd = 4 ∨ kd = 6 ∨ kd = 11 ∨ kd = 12 ∨ kd = 14) (x : Int) (hx : usedErr k3 kd th nn dl = x) :
    Calls Try.prog 8 #[.pointer (some ⟨g, 0, none⟩), .agg #[.int .i64 kd, .int .i64 th, .int .i64 a, .int .i64 b, .int .i64 v, .int .i64 nn, .int .i64 mm, .slice A dl dc], .bool fu] w fun e w' => e = .returned (.agg #[.int .i64 x, .int .i64 0, .slice none 0 0]) ∧ Below w.heap.size w w' := by
  have hu25 := Try.underlying25
  have hu35 := Try.underlying35
  have hu49 := Try.underlying49
  have hu59 := Try.underlying59
  have hu63 := Try.underlying63
  have hgg : gr ≠ g := blk_ne hr h (by decide)
  have hgl := blk_lt h
  have hrl := blk_lt hr
  obtain ⟨w1, hw1, hop, HM, HRG, HR, HB⟩ := do_boxes g k0 k1 k2 k3 k4 k5 k6 k7 k8 k9 k10 gr xs #[.int .i64 kd, .int .i64 th, .int .i64 a, .int .i64 b, .int .i64 v, .int .i64 nn, .int .i64 mm, .slice A dl dc] w h hr
  clear h hr
  obtain ⟨z0, z1, z2, z3, z4, z5, z6, z7⟩ := cells8 hop
  have HOP := Aside0.mk hop
  have HG := Aside0.mk (And.intro hgg (And.intro hgl hrl))
  clear hop hgg hgl hrl
  have hk1 : 1 ≤ kd := by omega
  have hk18 : kd ≤ 18 := by omega
  have HX := Aside0.mk hx
  clear hx
  rcases hk with rfl | rfl | rfl | rfl | rfl
  all_goals
    go_enter Try.func8, Try.ntmps8
    go_wp2_with fail
    have hh := registers g k0 k1 k2 k3 k4 k5 k6 k7 k8 k9 k10 (.slice none 0 0) (some ⟨gr, 0, none⟩) xs.length xs.length _ th a b v nn mm (.slice A dl dc) _ HM.out hk1 hk18
    rw [hreg] at hh
    refine hh.mono ?_
    rintro e w2 ⟨rfl, hb⟩
    obtain ⟨w3, hw3, HD⟩ := do_x g k0 k1 k2 k3 k4 k5 k6 k7 k8 k9 k10 gr xs _ w w1 w2 HM HOP.out HRG HR HB hb
    obtain ⟨y0, y1, y2, y3, y4, y5, y6, y7⟩ := cells8 HD.out.1.op
    clear hb hh z0 z1 z2 z3 z4 z5 z6 z7 hreg
    go_upto_region 8 with fail
    go_region_law (first | (go_simp; go_at_call 15; refine (get0 g gr k0 k1 k2 k3 k4 k5 k6 k7 k8 k9 k10 xs b _ (by exact HD.out.1.m) (by exact HD.out.1.rg) hn).mono ?_; rintro e w4 ⟨rfl, hb4⟩; have HD4 := Aside0.mk (show DoF w w4 g k0 k1 k2 k3 k4 k5 k6 k7 k8 k9 k10 gr w.heap.size w2.heap.size (w.heap.size + 1) xs _ from (by first | exact DoF.below HD.out.1 hb4 | exact DoF.below (DoF.drew HD.out.1) hb4)); obtain ⟨v0, v1, v2, v3, v4, v5, v6, v7⟩ := cells8 HD4.out.op; clear hb4) | (go_simp; go_at_call 24; refine (usedA g k0 k1 k2 k3 k4 k5 k6 k7 k8 k9 k10 _ _ _ th a b v nn mm A dl dc x _ (by exact HD4.out.m) (by decide) HX.out).mono ?_; rintro e w5 ⟨rfl, hb5⟩; have HD5 := Aside0.mk (show DoF w w5 g k0 k1 k2 k3 k4 k5 k6 k7 k8 k9 k10 gr w.heap.size w2.heap.size (w.heap.size + 1) xs _ from (by first | exact DoF.below HD4.out hb5 | exact DoF.below (DoF.drew HD4.out) hb5)); obtain ⟨u0, u1, u2, u3, u4, t0, t1, t2, t3, t4⟩ := cells5 HD5.out.x; obtain ⟨p0, p1, p2, q0, q1, q2⟩ := cells3 HD5.out.res; clear hb5))
    all_goals
      go_wp2
      refine bodyPost_ret (ret3g rfl _ _ (w.heap.size + 1) (.int .i64 x) (.int .i64 0) (.slice none 0 0) rfl (by first | (with_reducible exact put3 _ _ _ HD5.out.res) | exact blk_drew (put3 _ _ _ HD5.out.res))) rfl ?_
      exact ⟨rfl, by repeat (first | (with_reducible exact HD5.out.b) | (with_reducible apply below_drew1) | (with_reducible refine below_set ?_ (by omega)))⟩
    
set_option maxHeartbeats 8000000 in
set_option maxRecDepth 100000 in
theorem doClear (g : Nat) (k0 k1 k2 k3 k4 k5 k6 k7 k8 k9 k10 : Int) (gr : Nat) (xs : List S51) (kd th a b v nn mm : Int) (A : Option Addr) (dl dc : Nat) (fu : Bool) (w : World) (h : IsM w g k0 k1 k2 k3 k4 k5 k6 k7 k8 k9 k10 (.slice none 0 0) (.slice (some ⟨gr, 0, none⟩) xs.length xs.length)) (hr : w.heap[gr]? = some (.cells (cells51 xs) 49 (0, 0))) (hn : xs.length ≤ 64)
    (hreg : regsOk xs.length kd a b v = true) (hk : kd = 18) (hia : inRegs xs.length a = true) :
    Calls Try.prog 8 #[.pointer (some ⟨g, 0, none⟩), .agg #[.int .i64 kd, .int .i64 th, .int .i64 a, .int .i64 b, .int .i64 v, .int .i64 nn, .int .i64 mm, .slice A dl dc], .bool fu] w fun e w' => e = .returned (.agg #[.int .i64 0, .int .i64 0, .slice none 0 0]) ∧ KB gr w w' ∧ w'.heap[gr]? = some (.cells (cells51 (xs.set a.toNat z51)) 49 (0, 0)) := by
  have hu25 := Try.underlying25
  have hu35 := Try.underlying35
  have hu49 := Try.underlying49
  have hu59 := Try.underlying59
  have hu63 := Try.underlying63
  have hgg : gr ≠ g := blk_ne hr h (by decide)
  have hgl := blk_lt h
  have hrl := blk_lt hr
  obtain ⟨w1, hw1, hop, HM, HRG, HR, HB⟩ := do_boxes g k0 k1 k2 k3 k4 k5 k6 k7 k8 k9 k10 gr xs #[.int .i64 kd, .int .i64 th, .int .i64 a, .int .i64 b, .int .i64 v, .int .i64 nn, .int .i64 mm, .slice A dl dc] w h hr
  clear h hr
  obtain ⟨z0, z1, z2, z3, z4, z5, z6, z7⟩ := cells8 hop
  have HOP := Aside0.mk hop
  have HG := Aside0.mk (And.intro hgg (And.intro hgl hrl))
  clear hop hgg hgl hrl
  subst hk
  have hk1 : (1 : Int) ≤ 18 := by decide
  have hk18 : (18 : Int) ≤ 18 := by decide
  go_enter Try.func8, Try.ntmps8
  go_wp2_with fail
  have hh := registers g k0 k1 k2 k3 k4 k5 k6 k7 k8 k9 k10 (.slice none 0 0) (some ⟨gr, 0, none⟩) xs.length xs.length _ th a b v nn mm (.slice A dl dc) _ HM.out hk1 hk18
  rw [hreg] at hh
  refine hh.mono ?_
  rintro e w2 ⟨rfl, hb⟩
  obtain ⟨w3, hw3, HD⟩ := do_x g k0 k1 k2 k3 k4 k5 k6 k7 k8 k9 k10 gr xs _ w w1 w2 HM HOP.out HRG HR HB hb
  obtain ⟨y0, y1, y2, y3, y4, y5, y6, y7⟩ := cells8 HD.out.1.op
  clear hb hh z0 z1 z2 z3 z4 z5 z6 z7 hreg
  go_upto_region 14 with fail
  obtain ⟨ha0, ha1⟩ := in_regs hia
  have pa : (0 ≤ a) = True := eq_true ha0
  have pb : (a < (xs.length : Int)) = True := eq_true ha1
  have e12 := cells13 HD.out.1.m
  obtain ⟨po, o0, o1, o2, o3, o4, f0, f1, f2, f3, f4⟩ := regs_old HD.out.1.rg a ha0 ha1
  have rgl := blk_lt HD.out.1.rg
  obtain ⟨p0, p1, p2, q0, q1, q2⟩ := cells3 HD.out.1.res
  have hng : ¬ (gr = w.heap.size + 1) := by have hq := HG.out.2.2; omega
  have hng2 : ¬ (w.heap.size + 1 = gr) := by have hq := HG.out.2.2; omega
  clear rgl
  go_region
  all_goals
    go_wp2
    refine bodyPost_ret (ret3g rfl _ _ (w.heap.size + 1) (.int .i64 0) (.int .i64 0) (.slice none 0 0) rfl (blk_drew (put3 _ _ _ (blk_puts HD.out.1.res hng2)))) rfl ?_
    have hlt := HD.out.2
    exact ⟨rfl, KB.step (((KB.high (KB.put5 (KB.of HD.out.1.b)) (by omega)).high (by omega)).high (by omega)) (KB.of (below_drew1 (Below.refl _ _))), blk_drew (blk_put3 (regs_set HD.out.1.rg a.toNat z51 (by omega)) hng)⟩
  
set_option maxHeartbeats 8000000 in
set_option maxRecDepth 100000 in
theorem doCopy (g : Nat) (k0 k1 k2 k3 k4 k5 k6 k7 k8 k9 k10 : Int) (gr : Nat) (xs : List S51) (kd th a b v nn mm : Int) (A : Option Addr) (dl dc : Nat) (fu : Bool) (w : World) (h : IsM w g k0 k1 k2 k3 k4 k5 k6 k7 k8 k9 k10 (.slice none 0 0) (.slice (some ⟨gr, 0, none⟩) xs.length xs.length)) (hr : w.heap[gr]? = some (.cells (cells51 xs) 49 (0, 0))) (hn : xs.length ≤ 64)
    (hreg : regsOk xs.length kd a b v = true) (hk : kd = 10) (hia : inRegs xs.length a = true) :
    Calls Try.prog 8 #[.pointer (some ⟨g, 0, none⟩), .agg #[.int .i64 kd, .int .i64 th, .int .i64 a, .int .i64 b, .int .i64 v, .int .i64 nn, .int .i64 mm, .slice A dl dc], .bool fu] w fun e w' => e = .returned (.agg #[.int .i64 0, .int .i64 0, .slice none 0 0]) ∧ KB gr w w' ∧ w'.heap[gr]? = some (.cells (cells51 (xs.set a.toNat z51)) 49 (0, 0)) := by
  have hu25 := Try.underlying25
  have hu35 := Try.underlying35
  have hu49 := Try.underlying49
  have hu59 := Try.underlying59
  have hu63 := Try.underlying63
  have hgg : gr ≠ g := blk_ne hr h (by decide)
  have hgl := blk_lt h
  have hrl := blk_lt hr
  obtain ⟨w1, hw1, hop, HM, HRG, HR, HB⟩ := do_boxes g k0 k1 k2 k3 k4 k5 k6 k7 k8 k9 k10 gr xs #[.int .i64 kd, .int .i64 th, .int .i64 a, .int .i64 b, .int .i64 v, .int .i64 nn, .int .i64 mm, .slice A dl dc] w h hr
  clear h hr
  obtain ⟨z0, z1, z2, z3, z4, z5, z6, z7⟩ := cells8 hop
  have HOP := Aside0.mk hop
  have HG := Aside0.mk (And.intro hgg (And.intro hgl hrl))
  clear hop hgg hgl hrl
  subst hk
  have hk1 : (1 : Int) ≤ 10 := by decide
  have hk18 : (10 : Int) ≤ 18 := by decide
  go_enter Try.func8, Try.ntmps8
  go_wp2_with fail
  have hh := registers g k0 k1 k2 k3 k4 k5 k6 k7 k8 k9 k10 (.slice none 0 0) (some ⟨gr, 0, none⟩) xs.length xs.length _ th a b v nn mm (.slice A dl dc) _ HM.out hk1 hk18
  rw [hreg] at hh
  refine hh.mono ?_
  rintro e w2 ⟨rfl, hb⟩
  obtain ⟨w3, hw3, HD⟩ := do_x g k0 k1 k2 k3 k4 k5 k6 k7 k8 k9 k10 gr xs _ w w1 w2 HM HOP.out HRG HR HB hb
  obtain ⟨y0, y1, y2, y3, y4, y5, y6, y7⟩ := cells8 HD.out.1.op
  clear hb hh z0 z1 z2 z3 z4 z5 z6 z7 hreg
  go_upto_region 27 with fail
  obtain ⟨ha0, ha1⟩ := in_regs hia
  have pa : (0 ≤ a) = True := eq_true ha0
  have pb : (a < (xs.length : Int)) = True := eq_true ha1
  have HA := Aside0.mk (And.intro ha0 ha1)
  clear hia
  have hne2 : ¬ (w.heap.size + 1 = w2.heap.size) := by have hlt := HD.out.2; omega
  have hne1 : ¬ (w2.heap.size = w.heap.size + 1) := by have hlt := HD.out.2; omega
  have hq1 : ¬ (gr = w.heap.size + 1) := by have hq := HG.out.2.2; omega
  have hq2 : ¬ (w.heap.size + 1 = gr) := by have hq := HG.out.2.2; omega
  have hq3 : ¬ (gr = w2.heap.size) := by have hq := HG.out.2.2; have hlt := HD.out.2; omega
  have hq4 : ¬ (w2.heap.size = gr) := by have hq := HG.out.2.2; have hlt := HD.out.2; omega
  have hq5 : ¬ (g = w2.heap.size) := by have hq := HG.out.2.1; have hlt := HD.out.2; omega
  have hq6 : ¬ (w2.heap.size = g) := by have hq := HG.out.2.1; have hlt := HD.out.2; omega
  have hq7 : ¬ (w.heap.size = w2.heap.size) := by have hlt := HD.out.2; omega
  have hq8 : ¬ (w2.heap.size = w.heap.size) := by have hlt := HD.out.2; omega
  go_region_law (first | (go_simp; go_at_call 15; refine (get0 g gr k0 k1 k2 k3 k4 k5 k6 k7 k8 k9 k10 xs b _ (by exact HD.out.1.m) (by exact HD.out.1.rg) hn).mono ?_; rintro e w4 ⟨rfl, hb4⟩; have HD4 := Aside0.mk (show DoF w w4 g k0 k1 k2 k3 k4 k5 k6 k7 k8 k9 k10 gr w.heap.size w2.heap.size (w.heap.size + 1) xs _ from (by first | exact DoF.below HD.out.1 hb4 | exact DoF.below (DoF.drew HD.out.1) hb4)); obtain ⟨v0, v1, v2, v3, v4, v5, v6, v7⟩ := cells8 HD4.out.op; clear hb4) | (go_simp; go_at_call 23; refine (derivedA g 10 th a b v nn mm _ 0 _ rfl).mono ?_; rintro e w5 ⟨rfl, hb5⟩; have HD5 := Aside0.mk (show DoF w w5 g k0 k1 k2 k3 k4 k5 k6 k7 k8 k9 k10 gr w.heap.size w2.heap.size (w.heap.size + 1) xs _ from (by first | exact DoF.below HD4.out hb5 | exact DoF.below (DoF.drew HD4.out) hb5)); obtain ⟨u0, u1, u2, u3, u4, t0, t1, t2, t3, t4⟩ := cells5 HD5.out.x; obtain ⟨p0, p1, p2, q0, q1, q2⟩ := cells3 HD5.out.res; clear hb5))
  all_goals
    obtain ⟨w6, hw6, HC⟩ : ∃ w6, (((((w5.setCell ⟨w2.heap.size, 0, none⟩ (.int .i64 0)).setCell ⟨w2.heap.size, 1, none⟩ (.int .i64 0)).setCell ⟨w2.heap.size, 2, none⟩ (.int .i64 0)).setCell ⟨w2.heap.size, 3, none⟩ (.int .i64 0)).setCell ⟨w2.heap.size, 4, none⟩ (.int .i64 0)) = w6 ∧ Aside0 (DoF w w6 g k0 k1 k2 k3 k4 k5 k6 k7 k8 k9 k10 gr w.heap.size w2.heap.size (w.heap.size + 1) xs #[.int .i64 10, .int .i64 th, .int .i64 a, .int .i64 b, .int .i64 v, .int .i64 nn, .int .i64 mm, .slice A dl dc]) := ⟨_, rfl, ⟨DoF.putx HD5.out (by have hlt := HD.out.2; omega) hq6 hq8 hne1 hq4⟩⟩
    clear u0 u1 u2 u3 u4 t0 t1 t2 t3 t4 p0 p1 p2 q0 q1 q2 v0 v1 v2 v3 v4 v5 v6 v7
    obtain ⟨u0, u1, u2, u3, u4, t0, t1, t2, t3, t4⟩ := cells5 HC.out.x
    obtain ⟨p0, p1, p2, q0, q1, q2⟩ := cells3 HC.out.res
    obtain ⟨v0, v1, v2, v3, v4, v5, v6, v7⟩ := cells8 HC.out.op
    have e12 := cells13 HC.out.m
    obtain ⟨po, o0, o1, o2, o3, o4, f0, f1, f2, f3, f4⟩ := regs_old HC.out.rg a ha0 ha1
    go_upto_region 29 with fail
    go_region
    all_goals
      go_wp2
      have hlt := HD.out.2
      refine bodyPost_ret (ret3g rfl _ _ (w.heap.size + 1) (.int .i64 0) (.int .i64 0) (.slice none 0 0) rfl (by first | (with_reducible exact blk_drew (put3 _ _ _ (blk_puts HC.out.res hq2))) | exact blk_drew (blk_drew (put3 _ _ _ (blk_puts HC.out.res hq2))))) rfl ?_
      first | (with_reducible exact ⟨rfl, KB.step (((KB.high (KB.put5 (KB.of HC.out.b)) (by omega)).high (by omega)).high (by omega)) (KB.of (below_drew1 (Below.refl _ _))), blk_drew (blk_put3 (regs_set HC.out.rg a.toNat z51 (by omega)) hq1)⟩) | exact ⟨rfl, KB.step (((KB.high (KB.put5 (KB.of HC.out.b)) (by omega)).high (by omega)).high (by omega)) (KB.of (below_drew1 (Below.refl _ _))), blk_drew (blk_put3 (regs_set HC.out.rg a.toNat z51 (by omega)) hq1)⟩
    
end Go.Proofs.Ytneejihmakfaoaa.OwnModel
