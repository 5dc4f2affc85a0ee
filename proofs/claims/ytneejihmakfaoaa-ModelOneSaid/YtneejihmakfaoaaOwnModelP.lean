/- Walks of the model's functions by hand: Do, where two bytes of a chunk are read. Conditions: the chunk is there. -/
import Derived.Test.YtneejihmakfaoaaOwnModelO
namespace Go.Proofs.Ytneejihmakfaoaa.OwnModel
open Go.RowKit Go.Proofs.Ytneejihmakfaoaa.OwnMask Go.Proofs.Ytneejihmakfaoaa.QModelOne Go.Proofs.YtneejihmakfaoaaW.PrintWords Go.Proofs.YtneejihmakfaoaaW.PrintLast Go.Proofs.YtneejihmakfaoaaW.PrintMore
set_option linter.unusedVariables false
set_option linter.unusedSimpArgs false
/-- A model with one chunk of 16 bytes 9. -/
structure One (W : World) (g : Nat) (k0 k1 k2 k3 k4 k5 k6 k7 k8 k9 k10 : Int) (gr : Nat) (xs : List S51) (g5 cap gt gb : Nat) (mp sp : Value) : Prop where
  m : IsM W g k0 k1 k2 k3 k4 k5 k6 k7 k8 k9 k10 (.slice (some ⟨g5, 0, none⟩) 1 cap) (.slice (some ⟨gr, 0, none⟩) xs.length xs.length)
  rg : W.heap[gr]? = some (.cells (cells51 xs) 49 (0, 0))
  hcap : 1 ≤ cap
  c : W.cell? ⟨g5, 0, none⟩ = some (.pointer (some ⟨gt, 0, none⟩))
  th : W.heap[gt]? = some (.cells #[.slice (some ⟨gb, 0, none⟩) 16 16, mp, .int .i64 16, sp, .bool true] 80 (0, 0))
  fl : W.heap[gb]? = some (.cells (fillTo 16 16 9) 5 (0, 0))
theorem One.below {W W' : World} {g : Nat} {k0 k1 k2 k3 k4 k5 k6 k7 k8 k9 k10 : Int} {gr : Nat} {xs : List S51} {g5 cap gt gb : Nat} {mp sp : Value} (h : One W g k0 k1 k2 k3 k4 k5 k6 k7 k8 k9 k10 gr xs g5 cap gt gb mp sp) (hb : Below W.heap.size W W') : One W' g k0 k1 k2 k3 k4 k5 k6 k7 k8 k9 k10 gr xs g5 cap gt gb mp sp :=
  ⟨blk_below h.m hb, blk_below h.rg hb, h.hcap, (hb.cell (World.block_lt_of_cell? _ _ h.c)).trans h.c, blk_below h.th hb, blk_below h.fl hb⟩
theorem One.lives {W : World} {g : Nat} {k0 k1 k2 k3 k4 k5 k6 k7 k8 k9 k10 : Int} {gr : Nat} {xs : List S51} {g5 cap gt gb : Nat} {mp sp : Value} (h : One W g k0 k1 k2 k3 k4 k5 k6 k7 k8 k9 k10 gr xs g5 cap gt gb mp sp) : Lives W (some ⟨g5, 0, none⟩) [true] := by
  intro i hi
  obtain rfl : i = 0 := by simpa using hi
  exact ⟨_, gt, rfl, by simpa [Addr.add] using h.c, (blk_cell h.th 4).trans rfl⟩
theorem One.get {g : Nat} {k0 k1 k2 k3 k4 k5 k6 k7 k8 k9 k10 : Int} {gr : Nat} {xs : List S51} {g5 cap gt gb : Nat} {mp sp : Value} (hn : xs.length ≤ 64) (b : Int) (hg : getOf [true] xs b = ⟨1, 0, 5, 0, 31⟩) (w : World) (h : One w g k0 k1 k2 k3 k4 k5 k6 k7 k8 k9 k10 gr xs g5 cap gt gb mp sp) :
    Calls Try.prog 15 #[.pointer (some ⟨g, 0, none⟩), .int .i64 b] w fun e w' => e = .returned (.agg #[.int .i64 1, .int .i64 0, .int .i64 5, .int .i64 0, .int .i64 31]) ∧ Below w.heap.size w w' := by
  have hh := OwnModel.get g k0 k1 k2 k3 k4 k5 k6 k7 k8 k9 k10 (some ⟨g5, 0, none⟩) (some ⟨gr, 0, none⟩) cap xs.length [true] xs b w h.m h.lives (by decide) h.hcap (regs_reads h.rg (by omega))
  rw [hg] at hh
  exact hh

set_option maxHeartbeats 8000000 in
set_option maxRecDepth 100000 in
theorem doR (g : Nat) (k0 k1 k2 k3 k4 k5 k6 k7 k8 k9 k10 : Int) (gr : Nat) (xs : List S51) (g5 cap gt gb : Nat) (mp sp : Value) (th a b v mm : Int) (dv : Value) (fu : Bool) (w : World) (h : One w g k0 k1 k2 k3 k4 k5 k6 k7 k8 k9 k10 gr xs g5 cap gt gb mp sp) (hn : xs.length ≤ 64)
    (hreg : regsOk xs.length 11 a b v = true) (hg : getOf [true] xs b = ⟨1, 0, 5, 0, 31⟩) :
    Calls Try.prog 8 #[.pointer (some ⟨g, 0, none⟩), .agg #[.int .i64 11, .int .i64 th, .int .i64 a, .int .i64 b, .int .i64 v, .int .i64 2, .int .i64 mm, dv], .bool fu] w fun e w' => ∃ gc c2, e = .returned (.agg #[.int .i64 0, .int .i64 0, .slice (some ⟨gc, 0, none⟩) 2 c2]) ∧ w'.cell? ⟨gc, 0, none⟩ = some (.int .u8 9) ∧ w.heap.size ≤ gc ∧ 2 ≤ c2 ∧ Below w.heap.size w w' := by
  have hu25 := Try.underlying25
  have hu35 := Try.underlying35
  have hu49 := Try.underlying49
  obtain ⟨w1, hw1, hop, HO, HR, HB⟩ : ∃ w1, (w.alloc (.cells #[.int .i64 11, .int .i64 th, .int .i64 a, .int .i64 b, .int .i64 v, .int .i64 2, .int .i64 mm, dv] 25)).alloc (.cells #[.int .i64 0, .int .i64 0, .slice none 0 0] 35) = w1 ∧ w1.heap[w.heap.size]? = some (.cells #[.int .i64 11, .int .i64 th, .int .i64 a, .int .i64 b, .int .i64 v, .int .i64 2, .int .i64 mm, dv] 25 (0, 0)) ∧ Aside0 (One w1 g k0 k1 k2 k3 k4 k5 k6 k7 k8 k9 k10 gr xs g5 cap gt gb mp sp) ∧ Aside0 (w1.heap[w.heap.size + 1]? = some (.cells #[.int .i64 0, .int .i64 0, .slice none 0 0] 35 (0, 0))) ∧ Aside0 (Below w.heap.size w w1) :=
    ⟨_, rfl, blk_alloc (blk_new _ _) _, ⟨h.below (below_alloc (below_alloc (Below.refl _ _) _) _)⟩, ⟨blk_new1 _ _ _⟩, ⟨below_alloc (below_alloc (Below.refl _ _) _) _⟩⟩
  clear h
  obtain ⟨z0, z1, z2, z3, z4, z5, z6, z7⟩ := cells8 hop
  have HOP := Aside0.mk hop
  have HG := Aside0.mk hg
  clear hop hg
  go_enter Try.func8, Try.ntmps8
  go_wp2_with fail
  have hh := registers g k0 k1 k2 k3 k4 k5 k6 k7 k8 k9 k10 _ (some ⟨gr, 0, none⟩) xs.length xs.length 11 th a b v 2 mm dv _ HO.out.m (by decide) (by decide)
  rw [hreg] at hh
  refine hh.mono ?_
  rintro e w2 ⟨rfl, hb⟩
  obtain ⟨w3, hw3, HO3, HP3, HR3, HB3⟩ : ∃ w3, w2.alloc (.cells #[.int .i64 0, .int .i64 0, .int .i64 0, .int .i64 0, .int .i64 0] 49) = w3 ∧ Aside0 (One w3 g k0 k1 k2 k3 k4 k5 k6 k7 k8 k9 k10 gr xs g5 cap gt gb mp sp) ∧ Aside0 (w3.heap[w.heap.size]? = some (.cells #[.int .i64 11, .int .i64 th, .int .i64 a, .int .i64 b, .int .i64 v, .int .i64 2, .int .i64 mm, dv] 25 (0, 0))) ∧ Aside0 (w3.heap[w.heap.size + 1]? = some (.cells #[.int .i64 0, .int .i64 0, .slice none 0 0] 35 (0, 0))) ∧ Aside0 (Below w.heap.size w w3) :=
    ⟨_, rfl, ⟨(HO.out.below hb).below (below_alloc (Below.refl _ _) _)⟩, ⟨blk_alloc (blk_below HOP.out hb) _⟩, ⟨blk_alloc (blk_below HR.out hb) _⟩, ⟨below_alloc (below_step HB.out hb) _⟩⟩
  obtain ⟨y0, y1, y2, y3, y4, y5, y6, y7⟩ := cells8 HP3.out
  clear hb hh z0 z1 z2 z3 z4 z5 z6 z7 hreg
  go_upto_region 8 with fail
  go_region_law (first | (go_simp; go_at_call 15; refine (One.get hn b HG.out _ (by first | exact HO3.out | exact HO3.out.below (below_drew1 (Below.refl _ _)))).mono ?_; rintro e w4 ⟨rfl, hb4⟩; have HK4 := Aside0.mk (show Below w3.heap.size w3 w4 from (by first | exact hb4 | exact below_step (below_drew1 (Below.refl _ _)) hb4)); obtain ⟨v0, v1, v2, v3, v4, v5, v6, v7⟩ := cells8 (blk_below HP3.out HK4.out); clear hb4) | (go_simp; go_at_call 24; refine (usedR g k0 k1 k2 k3 k4 k5 k6 k7 k8 k9 k10 g5 cap gt gb mp sp (.slice (some ⟨gr, 0, none⟩) xs.length xs.length) th a b v mm dv _ (by exact (HO3.out.below HK4.out).m) (by exact (HO3.out.below HK4.out).c) (by exact (HO3.out.below HK4.out).th) (by exact (HO3.out.below HK4.out).fl)).mono ?_; rintro e w5 ⟨gc, c2, rfl, hgc, hge, hc2, hb5⟩; have HK5 := Aside0.mk (show Below w3.heap.size w3 w5 from (by first | exact below_step HK4.out hb5 | exact below_step (below_drew1 HK4.out) hb5)); have hge4 : w4.heap.size ≤ gc := hge; have HGC := Aside0.mk (And.intro hgc (And.intro hge4 hc2)); obtain ⟨p0, p1, p2, q0, q1, q2⟩ := cells3 (blk_below HR3.out HK5.out); clear hb5 hge hge4 hgc hc2))
  all_goals
    go_wp2
    have hrl := blk_lt HR3.out
    have hk4 := HK4.out.size
    have hb3 := HB3.out.size
    have hge4 := HGC.out.2.1
    refine bodyPost_ret (ret3g rfl _ _ (w.heap.size + 1) (.int .i64 0) (.int .i64 0) (.slice (some ⟨gc, 0, none⟩) 2 c2) rfl (by first | (with_reducible exact put3 _ _ _ (blk_below HR3.out HK5.out)) | exact blk_drew (put3 _ _ _ (blk_below HR3.out HK5.out)))) rfl ?_
    exact ⟨gc, c2, rfl, by first | (with_reducible exact cell_put3 HGC.out.1 (by omega)) | exact cell_drw (cell_put3 HGC.out.1 (by omega)), by omega, HGC.out.2.2, by repeat (first | (with_reducible exact below_step HB3.out HK5.out) | (with_reducible apply below_drew1) | (with_reducible refine below_set ?_ (by omega)))⟩

end Go.Proofs.Ytneejihmakfaoaa.OwnModel
