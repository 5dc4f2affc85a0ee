/- Walks of the reference's functions by hand: New, set. Conditions: the reference's model is empty. Printed by gen_ref.py. -/
import Derived.Test.YtneejihmakfaoaaOwnRefA
import Derived.Test.YtneejihmakfaoaaOwnModelN
import Derived.Deep.RegionLaw
import Derived.ArgAppend
namespace Go.Proofs.Ytneejihmakfaoaa.OwnModel
open Go.RowKit Go.Proofs.Ytneejihmakfaoaa.OwnMask Go.Proofs.Ytneejihmakfaoaa.QModelOne Go.Proofs.YtneejihmakfaoaaW.PrintWords Go.Proofs.YtneejihmakfaoaaW.PrintLast Go.Proofs.YtneejihmakfaoaaW.PrintMore
set_option linter.unusedVariables false
set_option linter.unusedSimpArgs false
theorem info51 : (Try.prog.info? 51).map (fun i => (i.zero, i.size, i.bytes)) = some (some (.agg #[(.int .i64 0), (.int .i64 0), (.int .i64 0), (.int .i64 0), (.int .i64 0)]), 5, 40) := by kernel_rfl
theorem run_made_refs51 (n : Nat) (h1 : n ≤ 1000000) (W : World) : (Instr.makeSlice 38 (.int .i64 (n : Int)) (.int .i64 (n : Int))).run Try.prog W = .ok (.slice (some ⟨W.heap.size, 0, none⟩) n n) (W.alloc (.cells (noneCells n) 51)) := by
  obtain ⟨i, hi, hz, hsz, hby⟩ := info_parts info51
  have h := run_makeSlice W 38 51 i _ Try.underlying38 hi hz .i64 .i64 (n : Int) (n : Int) (by omega) (by omega) (by rw [hsz]; simp; omega) (by rw [hby]; omega) (by omega)
  rw [h, hsz]
  simp [Value.cells, noneCells]

set_option maxHeartbeats 8000000 in
set_option maxRecDepth 100000 in
theorem rNew (c0 c1 c2 c3 c4 c5 c6 c8 c9 c10 : Int) (n : Nat) (hn : n ≤ 64) (w : World) :
    Calls Try.prog 10 #[.agg #[.int .i64 c0, .int .i64 c1, .int .i64 c2, .int .i64 c3, .int .i64 c4, .int .i64 c5, .int .i64 c6, .int .i64 n, .int .i64 c8, .int .i64 c9, .int .u64 c10]] w fun e w' =>
      ∃ gr, e = .returned (.agg #[.int .i64 c0, .int .i64 c1, .int .i64 c2, .int .i64 c3, .int .i64 c4, .int .i64 c5, .int .i64 c6, .int .i64 n, .int .i64 c8, .int .i64 c9, .int .u64 c10, .slice none 0 0, .slice (some ⟨gr, 0, none⟩) n n]) ∧ w'.heap[gr]? = some (.cells (noneCells n) 51 (0, 0)) ∧ Below w.heap.size w w' := by
  have hu29 := Try.underlying29
  have hu38 := Try.underlying38
  have hu40 := Try.underlying40
  have hms := run_made_refs51 n (by omega)
  have m1 : max (n : Int) 0 = n := by omega
  have m2 : min (n : Int) 64 = n := by omega
  obtain ⟨w1, hw1, hbx, HR, HB⟩ : ∃ w1, (w.alloc (.cells #[.int .i64 c0, .int .i64 c1, .int .i64 c2, .int .i64 c3, .int .i64 c4, .int .i64 c5, .int .i64 c6, .int .i64 n, .int .i64 c8, .int .i64 c9, .int .u64 c10] 29)).alloc (.cells #[.int .i64 0, .int .i64 0, .int .i64 0, .int .i64 0, .int .i64 0, .int .i64 0, .int .i64 0, .int .i64 0, .int .i64 0, .int .i64 0, .int .u64 0, .slice none 0 0, .slice none 0 0] 40) = w1 ∧ w1.heap[w.heap.size]? = some (.cells #[.int .i64 c0, .int .i64 c1, .int .i64 c2, .int .i64 c3, .int .i64 c4, .int .i64 c5, .int .i64 c6, .int .i64 n, .int .i64 c8, .int .i64 c9, .int .u64 c10] 29 (0, 0)) ∧ Aside0 (w1.heap[w.heap.size + 1]? = some (.cells #[.int .i64 0, .int .i64 0, .int .i64 0, .int .i64 0, .int .i64 0, .int .i64 0, .int .i64 0, .int .i64 0, .int .i64 0, .int .i64 0, .int .u64 0, .slice none 0 0, .slice none 0 0] 40 (0, 0))) ∧ Aside0 (Below w.heap.size w w1) := ⟨_, rfl, blk_alloc (blk_new _ _) _, ⟨blk_new1 _ _ _⟩, ⟨below_alloc (below_alloc (Below.refl _ _) _) _⟩⟩
  have z0 : w1.cell? ⟨w.heap.size, 0, none⟩ = some (.int .i64 c0) := (blk_cell hbx 0).trans rfl
  have z1 : w1.cell? ⟨w.heap.size, 1, none⟩ = some (.int .i64 c1) := (blk_cell hbx 1).trans rfl
  have z2 : w1.cell? ⟨w.heap.size, 2, none⟩ = some (.int .i64 c2) := (blk_cell hbx 2).trans rfl
  have z3 : w1.cell? ⟨w.heap.size, 3, none⟩ = some (.int .i64 c3) := (blk_cell hbx 3).trans rfl
  have z4 : w1.cell? ⟨w.heap.size, 4, none⟩ = some (.int .i64 c4) := (blk_cell hbx 4).trans rfl
  have z5 : w1.cell? ⟨w.heap.size, 5, none⟩ = some (.int .i64 c5) := (blk_cell hbx 5).trans rfl
  have z6 : w1.cell? ⟨w.heap.size, 6, none⟩ = some (.int .i64 c6) := (blk_cell hbx 6).trans rfl
  have z7 : w1.cell? ⟨w.heap.size, 7, none⟩ = some (.int .i64 (n : Int)) := (blk_cell hbx 7).trans rfl
  have z8 : w1.cell? ⟨w.heap.size, 8, none⟩ = some (.int .i64 c8) := (blk_cell hbx 8).trans rfl
  have z9 : w1.cell? ⟨w.heap.size, 9, none⟩ = some (.int .i64 c9) := (blk_cell hbx 9).trans rfl
  have z10 : w1.cell? ⟨w.heap.size, 10, none⟩ = some (.int .u64 c10) := (blk_cell hbx 10).trans rfl
  have za0 := cell_alloc1 z0
  have za1 := cell_alloc1 z1
  have za2 := cell_alloc1 z2
  have za3 := cell_alloc1 z3
  have za4 := cell_alloc1 z4
  have za5 := cell_alloc1 z5
  have za6 := cell_alloc1 z6
  have za7 := cell_alloc1 z7
  have za8 := cell_alloc1 z8
  have za9 := cell_alloc1 z9
  have za10 := cell_alloc1 z10
  obtain ⟨hc0, hc1, hc2, hc3, hc4, hc5, hc6, hc7, hc8, hc9, hc10, hc11, hc12⟩ := cellsR HR.out
  obtain ⟨hf0, hf1, hf2, hf3, hf4, hf5, hf6, hf7, hf8, hf9, hf10, hf11, hf12⟩ := frozR HR.out
  have hra := fun o => blk_alloc HR.out o
  have HRA := Aside0.mk hra
  clear hbx hra
  have ca := fun o => cellsR (HRA.out o)
  have fa := fun o => frozR (HRA.out o)
  go_enter Try.func10, Try.ntmps10
  go_upto_region 1 with fail
  go_region
  all_goals
    go_wp2
    have hrl := blk_lt HR.out
    refine bodyPost_ret (retR rfl _ _ (w.heap.size + 1) #[.int .i64 c0, .int .i64 c1, .int .i64 c2, .int .i64 c3, .int .i64 c4, .int .i64 c5, .int .i64 c6, .int .i64 n, .int .i64 c8, .int .i64 c9, .int .u64 c10, .slice none 0 0, .slice (some ⟨w1.heap.size, 0, none⟩) n n] rfl rfl (by first | (with_reducible exact blk_drew (put13 _ _ _ _ _ _ _ _ _ _ _ _ _ (HRA.out _))) | exact put13 _ _ _ _ _ _ _ _ _ _ _ _ _ (HRA.out _))) rfl ?_
    exact ⟨w1.heap.size, rfl, by first | (with_reducible exact blk_drew (blk_put13 (blk_new _ _) (by omega))) | exact blk_put13 (blk_new _ _) (by omega), by repeat (first | (with_reducible exact HB.out) | (with_reducible apply below_drew1) | (with_reducible apply below_alloc) | (with_reducible refine below_set ?_ (by omega)))⟩

theorem row5 {W : World} {g : Nat} {t : TypeId} {cur : Array Value} (h : W.heap[g]? = some (.cells cur t (0, 0))) (j : Nat) (hj : j * 5 + 5 ≤ cur.size) (b0 b1 b2 b3 b4 : Value) :
    let W2 := ((((W.setCell ⟨g, j * 5, none⟩ b0).setCell ⟨g, j * 5 + 1, none⟩ b1).setCell ⟨g, j * 5 + 2, none⟩ b2).setCell ⟨g, j * 5 + 3, none⟩ b3).setCell ⟨g, j * 5 + 4, none⟩ b4
    W2.cell? ⟨g, j * 5, none⟩ = some b0 ∧ W2.cell? ⟨g, j * 5 + 1, none⟩ = some b1 ∧ W2.cell? ⟨g, j * 5 + 2, none⟩ = some b2 ∧ W2.cell? ⟨g, j * 5 + 3, none⟩ = some b3 ∧ W2.cell? ⟨g, j * 5 + 4, none⟩ = some b4 := by
  intro W2
  have h2 : W2.heap[g]? = some (.cells (((((cur.setIfInBounds (j * 5) b0).setIfInBounds (j * 5 + 1) b1).setIfInBounds (j * 5 + 2) b2).setIfInBounds (j * 5 + 3) b3).setIfInBounds (j * 5 + 4) b4) t (0, 0)) := blk_set (blk_set (blk_set (blk_set (blk_set h _ _) _ _) _ _) _ _) _ _
  refine ⟨?_, ?_, ?_, ?_, ?_⟩ <;> rw [blk_cell h2] <;> simp [Array.getElem?_setIfInBounds] <;> omega
theorem flat_one (xs : List S51) : ∀ u ∈ flat51 xs, u.oneCell' = true := by
  induction xs with
  | nil => intro u hu; simp [flat51] at hu
  | cons x xs ih =>
    intro u hu
    simp only [flat51, List.mem_cons] at hu
    rcases hu with rfl | rfl | rfl | rfl | rfl | hu
    · rfl
    · rfl
    · rfl
    · rfl
    · rfl
    · exact ih u hu
set_option maxHeartbeats 8000000 in
set_option maxRecDepth 100000 in
theorem rSet (k0 k1 k2 k3 k4 k5 k6 k7 k8 k9 k10 : Int) (AL : Option Addr) (nl cl : Nat) (gr cr : Nat) (t0 : TypeId) (xs : List S51) (a y0 y1 y2 y3 y4 : Int) (w : World) (hx : w.heap[gr]? = some (.cells (cells51 xs) t0 (0, 0))) (h0 : 0 ≤ a) (h1 : a < (xs.length : Int)) (hn : xs.length ≤ 64) :
    Calls Try.prog 29 #[.agg #[.int .i64 k0, .int .i64 k1, .int .i64 k2, .int .i64 k3, .int .i64 k4, .int .i64 k5, .int .i64 k6, .int .i64 k7, .int .i64 k8, .int .i64 k9, .int .u64 k10, .slice AL nl cl, .slice (some ⟨gr, 0, none⟩) xs.length cr], .int .i64 a, .agg #[.int .i64 y0, .int .i64 y1, .int .i64 y2, .int .i64 y3, .int .i64 y4]] w fun e w' => ∃ gR cR, e = .returned (.agg #[.int .i64 k0, .int .i64 k1, .int .i64 k2, .int .i64 k3, .int .i64 k4, .int .i64 k5, .int .i64 k6, .int .i64 k7, .int .i64 k8, .int .i64 k9, .int .u64 k10, .slice AL nl cl, .slice (some ⟨gR, 0, none⟩) xs.length cR]) ∧ w'.cell? ⟨gR, a.toNat * 5, none⟩ = some (.int .i64 y0) ∧ w'.cell? ⟨gR, a.toNat * 5 + 1, none⟩ = some (.int .i64 y1) ∧ w'.cell? ⟨gR, a.toNat * 5 + 2, none⟩ = some (.int .i64 y2) ∧ w'.cell? ⟨gR, a.toNat * 5 + 3, none⟩ = some (.int .i64 y3) ∧ w'.cell? ⟨gR, a.toNat * 5 + 4, none⟩ = some (.int .i64 y4) ∧ w.heap.size ≤ gR ∧ Below w.heap.size w w' := by
  have hu51 := Try.underlying51
  have hu40 := Try.underlying40
  have hu38 := Try.underlying38
  obtain ⟨i, hi, hz, hsz, hby⟩ := info_parts info51
  have HI := Aside0.mk (And.intro hi (And.intro hz (And.intro hsz hby)))
  obtain ⟨w1, hw1, hm, HX, HR, HB, HS⟩ : ∃ w1, ((w.alloc (.cells #[.int .i64 k0, .int .i64 k1, .int .i64 k2, .int .i64 k3, .int .i64 k4, .int .i64 k5, .int .i64 k6, .int .i64 k7, .int .i64 k8, .int .i64 k9, .int .u64 k10, .slice AL nl cl, .slice (some ⟨gr, 0, none⟩) xs.length cr] 40)).alloc (.cells #[.int .i64 y0, .int .i64 y1, .int .i64 y2, .int .i64 y3, .int .i64 y4] 51)).alloc (.cells #[.int .i64 0, .int .i64 0, .int .i64 0, .int .i64 0, .int .i64 0, .int .i64 0, .int .i64 0, .int .i64 0, .int .i64 0, .int .i64 0, .int .u64 0, .slice none 0 0, .slice none 0 0] 40) = w1 ∧ w1.heap[w.heap.size]? = some (.cells #[.int .i64 k0, .int .i64 k1, .int .i64 k2, .int .i64 k3, .int .i64 k4, .int .i64 k5, .int .i64 k6, .int .i64 k7, .int .i64 k8, .int .i64 k9, .int .u64 k10, .slice AL nl cl, .slice (some ⟨gr, 0, none⟩) xs.length cr] 40 (0, 0)) ∧ Aside0 (w1.heap[w.heap.size + 1]? = some (.cells #[.int .i64 y0, .int .i64 y1, .int .i64 y2, .int .i64 y3, .int .i64 y4] 51 (0, 0))) ∧ Aside0 (w1.heap[w.heap.size + 1 + 1]? = some (.cells #[.int .i64 0, .int .i64 0, .int .i64 0, .int .i64 0, .int .i64 0, .int .i64 0, .int .i64 0, .int .i64 0, .int .i64 0, .int .i64 0, .int .u64 0, .slice none 0 0, .slice none 0 0] 40 (0, 0))) ∧ Aside0 (Below w.heap.size w w1) ∧ Aside0 (w1.heap[gr]? = some (.cells (cells51 xs) t0 (0, 0))) := ⟨_, rfl, blk_alloc (blk_alloc (blk_new _ _) _) _, ⟨blk_alloc (blk_new1 _ _ _) _⟩, ⟨blk_newb _ _ _ _⟩, ⟨below_alloc (below_alloc (below_alloc (Below.refl _ _) _) _) _⟩, ⟨blk_alloc (blk_alloc (blk_alloc hx _) _) _⟩⟩
  have c12 : w1.cell? ⟨w.heap.size, 12, none⟩ = some (.slice (some ⟨gr, 0, none⟩) xs.length cr) := (blk_cell hm 12).trans rfl
  have c12a := cell_alloc1 c12
  have HM := Aside0.mk hm
  clear hm hx hi hz hsz hby
  go_enter Try.func29, Try.ntmps29
  go_wp2_with (at_builtin; refine wpList_append_grows _ rfl (.tmp 7) (.tmp 9) 38 rfl 51 i _ 5 40 Try.underlying38 HI.out.1 HI.out.2.1 HI.out.2.2.1 HI.out.2.2.2 rfl (by decide) (some ⟨w1.heap.size, 0, none⟩) 0 0 [] rfl (fun h => by cases h) rfl (by intro _ _ _ _ h; simp at h) ⟨gr, 0, none⟩ xs.length cr (flat51 xs) rfl (flat_len xs) ?c1 (flat_one xs) (by omega) (by unfold maxLen; omega) (by omega) ?grow)
  case c1 =>
    intro j u hj
    have e : (⟨gr, 0, none⟩ : Addr).add j = ⟨gr, j, none⟩ := by unfold Addr.add; split <;> simp_all
    rw [e, blk_cell (blk_alloc HS.out _), cells51, List.getElem?_toArray]
    exact hj
  case grow =>
    intro v' w2 hown hgr
    obtain ⟨_, hown⟩ := hown
    rcases hown with ⟨_, h0⟩ | ⟨gR, cR, cur, rfl, hge, hg, hle, _, hcs, htk⟩
    · omega
    · try simp only [Nat.zero_add] at hle
      have hbl : Below w1.heap.size w1 w2 := ⟨hgr.os, hgr.tape, hgr.output, Nat.le_trans (by simp) hgr.size, fun k hk => (hgr.block k (Nat.lt_of_lt_of_le hk (by simp)) (by intro e; cases e)).trans (Below.heap_alloc _ _ _ hk)⟩
      have hge2 : w1.heap.size ≤ gR := Nat.le_trans (by simp) hge
      have HM2 := Aside0.mk (blk_below HM.out hbl)
      have HX2 := Aside0.mk (blk_below HX.out hbl)
      have HR2 := Aside0.mk (blk_below HR.out hbl)
      have HB2 := Aside0.mk (below_step HB.out hbl)
      have hrl := blk_lt HR.out
      have hcz : a.toNat * 5 + 5 ≤ cur.size := by rw [hcs]; omega
      have HC := Aside0.mk (And.intro hg (And.intro hcz (And.intro hge2 hrl)))
      obtain ⟨hc0, hc1, hc2, hc3, hc4, hc5, hc6, hc7, hc8, hc9, hc10, hc11, hc12⟩ := cellsR HM2.out
      have hfm := blk_frozen HM2.out 12
      obtain ⟨x0, x1, x2, x3, x4, _⟩ := cells5 HX2.out
      obtain ⟨rc0, rc1, rc2, rc3, rc4, rc5, rc6, rc7, rc8, rc9, rc10, rc11, rc12⟩ := cellsR HR2.out
      obtain ⟨rf0, rf1, rf2, rf3, rf4, rf5, rf6, rf7, rf8, rf9, rf10, rf11, rf12⟩ := frozR HR2.out
      obtain ⟨o0, ho0⟩ : ∃ u, w2.cell? ⟨gR, a.toNat * 5, none⟩ = some u := ⟨_, (blk_cell hg _).trans (Array.getElem?_eq_getElem (by omega))⟩
      obtain ⟨o1, ho1⟩ : ∃ u, w2.cell? ⟨gR, a.toNat * 5 + 1, none⟩ = some u := ⟨_, (blk_cell hg _).trans (Array.getElem?_eq_getElem (by omega))⟩
      obtain ⟨o2, ho2⟩ : ∃ u, w2.cell? ⟨gR, a.toNat * 5 + 2, none⟩ = some u := ⟨_, (blk_cell hg _).trans (Array.getElem?_eq_getElem (by omega))⟩
      obtain ⟨o3, ho3⟩ : ∃ u, w2.cell? ⟨gR, a.toNat * 5 + 3, none⟩ = some u := ⟨_, (blk_cell hg _).trans (Array.getElem?_eq_getElem (by omega))⟩
      obtain ⟨o4, ho4⟩ : ∃ u, w2.cell? ⟨gR, a.toNat * 5 + 4, none⟩ = some u := ⟨_, (blk_cell hg _).trans (Array.getElem?_eq_getElem (by omega))⟩
      have fo0 := blk_frozen hg (a.toNat * 5)
      have fo1 := blk_frozen hg (a.toNat * 5 + 1)
      have fo2 := blk_frozen hg (a.toNat * 5 + 2)
      have fo3 := blk_frozen hg (a.toNat * 5 + 3)
      have fo4 := blk_frozen hg (a.toNat * 5 + 4)
      have n1 : ¬ (gR = w.heap.size) := by omega
      have n2 : ¬ (w.heap.size = gR) := by omega
      have n3 : ¬ (gR = w.heap.size + 1) := by omega
      have n4 : ¬ (w.heap.size + 1 = gR) := by omega
      have n5 : ¬ (gR = w.heap.size + 1 + 1) := by omega
      have n6 : ¬ (w.heap.size + 1 + 1 = gR) := by omega
      have pa : (0 ≤ a) = True := eq_true h0
      have pb : (a < (xs.length : Int)) = True := eq_true h1
      clear hbl hgr hge hg hcs htk hcz hge2 hrl hle
      go_wp2
      obtain ⟨hg, hcz, hge2, hrl⟩ := HC.out
      refine bodyPost_ret (retR rfl _ _ (w.heap.size + 1 + 1) #[.int .i64 k0, .int .i64 k1, .int .i64 k2, .int .i64 k3, .int .i64 k4, .int .i64 k5, .int .i64 k6, .int .i64 k7, .int .i64 k8, .int .i64 k9, .int .u64 k10, .slice AL nl cl, .slice (some ⟨gR, 0, none⟩) xs.length cR] rfl rfl (put13 _ _ _ _ _ _ _ _ _ _ _ _ _ (blk_puts (set_other HR2.out (by omega)) (by omega)))) rfl ?_
      have hr5 := row5 (set_other (g := w.heap.size) (j := 12) (v := .slice (some ⟨gR, 0, none⟩) xs.length cR) hg (by omega)) a.toNat hcz (.int .i64 y0) (.int .i64 y1) (.int .i64 y2) (.int .i64 y3) (.int .i64 y4)
      exact ⟨gR, cR, rfl, cell_put13 hr5.1 (by omega), cell_put13 hr5.2.1 (by omega), cell_put13 hr5.2.2.1 (by omega), cell_put13 hr5.2.2.2.1 (by omega), cell_put13 hr5.2.2.2.2 (by omega), by omega, by repeat (first | (with_reducible exact HB2.out) | (with_reducible apply below_drew1) | (with_reducible refine below_set ?_ (by omega)))⟩

end Go.Proofs.Ytneejihmakfaoaa.OwnModel
