/- Walks of the reference's functions by hand: Do. Conditions: the reference's model is empty. Printed by gen_ref.py. -/
import Derived.Test.YtneejihmakfaoaaOwnRefG
import Derived.BigQuiet
import Derived.Deep.RegionLaw
import Derived.ArgAppend
namespace Go.Proofs.Ytneejihmakfaoaa.OwnModel
open Go.RowKit Go.Proofs.Ytneejihmakfaoaa.OwnMask Go.Proofs.Ytneejihmakfaoaa.QModelOne Go.Proofs.YtneejihmakfaoaaW.PrintWords Go.Proofs.YtneejihmakfaoaaW.PrintLast Go.Proofs.YtneejihmakfaoaaW.PrintMore
set_option linter.unusedVariables false
set_option linter.unusedSimpArgs false
theorem ne_cell {W : World} {g p : Nat} {i : Int} (h : W.cell? ⟨g, 3, none⟩ = some (.bool true)) (h2 : W.cell? ⟨p, 3, none⟩ = some (.int .i64 i)) : g ≠ p := by
  intro e
  rw [e, h2] at h
  cases h
theorem ne_none {W : World} {g p : Nat} (h : W.cell? ⟨g, 3, none⟩ = some (.bool true)) (h2 : W.cell? ⟨p, 3, none⟩ = none) : g ≠ p := by
  intro e
  rw [e, h2] at h
  cases h

set_option maxHeartbeats 8000000 in
set_option maxRecDepth 100000 in
theorem rDoCopy (k0 k1 k2 k3 k4 k5 k6 k7 k8 k9 k10 : Int) (gr cr : Nat) (t0 : TypeId) (xs : List S51) (th a b v nn mm : Int) (A : Option Addr) (dl dc : Nat) (fu : Bool) (w : World) (hx : w.heap[gr]? = some (.cells (cells51 xs) t0 (0, 0))) (hz : ∀ j, j < xs.length → xs[j]? = some z51) (hn : xs.length ≤ 64) (ha0 : 0 ≤ a) (ha1 : a < (xs.length : Int)) (hb0 : 0 ≤ b) (hb1 : b < (xs.length : Int)) :
    Calls Try.prog 9 #[.agg #[.int .i64 k0, .int .i64 k1, .int .i64 k2, .int .i64 k3, .int .i64 k4, .int .i64 k5, .int .i64 k6, .int .i64 k7, .int .i64 k8, .int .i64 k9, .int .u64 k10, .slice none 0 0, .slice (some ⟨gr, 0, none⟩) xs.length cr], .agg #[.int .i64 10, .int .i64 th, .int .i64 a, .int .i64 b, .int .i64 v, .int .i64 nn, .int .i64 mm, .slice A dl dc], .bool fu] w fun e w' => ∃ gR cR, e = .returned (.tuple #[.agg #[.int .i64 k0, .int .i64 k1, .int .i64 k2, .int .i64 k3, .int .i64 k4, .int .i64 k5, .int .i64 k6, .int .i64 k7, .int .i64 k8, .int .i64 k9, .int .u64 k10, .slice none 0 0, .slice (some ⟨gR, 0, none⟩) xs.length cR], .agg #[.int .i64 0, .int .i64 0, .slice none 0 0]]) ∧ w'.cell? ⟨gR, a.toNat * 5, none⟩ = some (.int .i64 (0)) ∧ w'.cell? ⟨gR, a.toNat * 5 + 1, none⟩ = some (.int .i64 (0)) ∧ w'.cell? ⟨gR, a.toNat * 5 + 2, none⟩ = some (.int .i64 (0)) ∧ w'.cell? ⟨gR, a.toNat * 5 + 3, none⟩ = some (.int .i64 (0)) ∧ w'.cell? ⟨gR, a.toNat * 5 + 4, none⟩ = some (.int .i64 (0)) ∧ w.heap.size ≤ gR ∧ Below w.heap.size w w' := by
  have hu25 := Try.underlying25
  have hu40 := Try.underlying40
  have hu51 := Try.underlying51
  have hu35 := Try.underlying35
  obtain ⟨w1, hw1, HF, HR2⟩ : ∃ w1, (((w.alloc (.cells #[.int .i64 k0, .int .i64 k1, .int .i64 k2, .int .i64 k3, .int .i64 k4, .int .i64 k5, .int .i64 k6, .int .i64 k7, .int .i64 k8, .int .i64 k9, .int .u64 k10, .slice none 0 0, .slice (some ⟨gr, 0, none⟩) xs.length cr] 40)).alloc (.cells #[.int .i64 10, .int .i64 th, .int .i64 a, .int .i64 b, .int .i64 v, .int .i64 nn, .int .i64 mm, .slice A dl dc] 25)).alloc (.cells #[.int .i64 0, .int .i64 0, .int .i64 0, .int .i64 0, .int .i64 0, .int .i64 0, .int .i64 0, .int .i64 0, .int .i64 0, .int .i64 0, .int .u64 0, .slice none 0 0, .slice none 0 0] 40)).alloc (.cells #[.int .i64 0, .int .i64 0, .slice none 0 0] 35) = w1 ∧ Aside0 (MkF w w1 k0 k1 k2 k3 k4 k5 k6 k7 k8 k9 k10 (.slice none 0 0) (.slice (some ⟨gr, 0, none⟩) xs.length cr) #[.int .i64 10, .int .i64 th, .int .i64 a, .int .i64 b, .int .i64 v, .int .i64 nn, .int .i64 mm, .slice A dl dc]) ∧ Aside0 (w1.heap[w.heap.size + 1 + 1 + 1]? = some (.cells #[.int .i64 0, .int .i64 0, .slice none 0 0] 35 (0, 0))) := ⟨_, rfl, ⟨⟨blk_alloc (blk_alloc (blk_alloc (blk_new _ _) _) _) _, blk_alloc (blk_alloc (blk_new1 _ _ _) _) _, blk_alloc (blk_newb _ _ _ _) _, below_alloc (below_alloc (below_alloc (below_alloc (Below.refl _ _) _) _) _) _⟩⟩, ⟨blk_newc _ _ _ _ _⟩⟩
  have HX := Aside0.mk hx
  have HZ := Aside0.mk hz
  clear hx hz
  have n1 : w.heap.size + 1 + 1 ≠ w.heap.size + 1 + 1 + 1 := by omega
  have n2 : w.heap.size + 1 + 1 + 1 ≠ w.heap.size + 1 + 1 := by omega
  have daa : decide (a < 0) = false := decide_eq_false (by omega)
  have dab : decide ((xs.length : Int) ≤ a) = false := decide_eq_false (by omega)
  have dba : decide (b < 0) = false := decide_eq_false (by omega)
  have dbb : decide ((xs.length : Int) ≤ b) = false := decide_eq_false (by omega)
  obtain ⟨ma_0, ma_1, ma_2, ma_3, ma_4, ma_5, ma_6, ma_7, ma_8, ma_9, ma_10, ma_11, ma_12⟩ := cellsR HF.out.m
  obtain ⟨oa_0, oa_1, oa_2, oa_3, oa_4, oa_5, oa_6, oa_7⟩ := cells8 HF.out.op
  obtain ⟨ra_0, ra_1, ra_2, ra_3, ra_4, ra_5, ra_6, ra_7, ra_8, ra_9, ra_10, ra_11, ra_12⟩ := cellsR HF.out.r
  obtain ⟨fa_0, fa_1, fa_2, fa_3, fa_4, fa_5, fa_6, fa_7, fa_8, fa_9, fa_10, fa_11, fa_12⟩ := frozR HF.out.r
  obtain ⟨pa0, pa1, pa2, qa0, qa1, qa2⟩ := cells3 HR2.out
  go_enter Try.func9, Try.ntmps9
  go_wp2_with fail
  refine (cubbyholeref44_Uses.calls 10 10 true true false _ (by kernel_rfl)).mono ?_
  rintro e w2 ⟨rfl, ⟨j, rfl⟩⟩
  go_wp2_with fail
  refine (rDerivesC k0 k1 k2 k3 k4 k5 k6 k7 k8 k9 k10 gr cr t0 xs th a b v nn mm A dl dc _ (blk_drewN (blk_below HX.out HF.out.b) _) HZ.out hn hb0 hb1 ha0 ha1).mono ?_
  rintro e w3 ⟨gR, cR, rfl, g0, g1, g2, g3, g4, hgR, hbj⟩
  have hb := below_step (pw_below_drewN (Below.refl w1.heap.size w1) j) hbj
  obtain ⟨w4, hw4, HF4, HR4⟩ : ∃ w0, (((((((((((((w3.setCell ⟨w.heap.size, 0, none⟩ (.int .i64 k0)).setCell ⟨w.heap.size, 1, none⟩ (.int .i64 k1)).setCell ⟨w.heap.size, 2, none⟩ (.int .i64 k2)).setCell ⟨w.heap.size, 3, none⟩ (.int .i64 k3)).setCell ⟨w.heap.size, 4, none⟩ (.int .i64 k4)).setCell ⟨w.heap.size, 5, none⟩ (.int .i64 k5)).setCell ⟨w.heap.size, 6, none⟩ (.int .i64 k6)).setCell ⟨w.heap.size, 7, none⟩ (.int .i64 k7)).setCell ⟨w.heap.size, 8, none⟩ (.int .i64 k8)).setCell ⟨w.heap.size, 9, none⟩ (.int .i64 k9)).setCell ⟨w.heap.size, 10, none⟩ (.int .u64 k10)).setCell ⟨w.heap.size, 11, none⟩ (.slice none 0 0)).setCell ⟨w.heap.size, 12, none⟩ (.slice (some ⟨gR, 0, none⟩) xs.length cR)) = w0 ∧ Aside0 (MkF w w0 k0 k1 k2 k3 k4 k5 k6 k7 k8 k9 k10 (.slice none 0 0) (.slice (some ⟨gR, 0, none⟩) xs.length cR) _) ∧ Aside0 (w0.heap[w.heap.size + 1 + 1 + 1]? = some (.cells #[.int .i64 0, .int .i64 0, .slice none 0 0] 35 (0, 0))) := ⟨_, rfl, ⟨MkF.putn (MkF.below HF.out hb)⟩, ⟨blk_put13 (blk_below HR2.out hb) (by omega)⟩⟩
  have HF3 := Aside0.mk (show MkF w w3 k0 k1 k2 k3 k4 k5 k6 k7 k8 k9 k10 (.slice none 0 0) (.slice (some ⟨gr, 0, none⟩) xs.length cr) _ from MkF.below HF.out hb)
  have HR3 := Aside0.mk (blk_below HR2.out hb)
  have HG := Aside0.mk (And.intro g0 (And.intro g1 (And.intro g2 (And.intro g3 (And.intro g4 (Nat.lt_of_lt_of_le (blk_lt HR2.out) (show w1.heap.size ≤ gR from hgR)))))))
  clear hb hbj g0 g1 g2 g3 g4 hgR ma_0 ma_1 ma_2 ma_3 ma_4 ma_5 ma_6 ma_7 ma_8 ma_9 ma_10 ma_11 ma_12 oa_0 oa_1 oa_2 oa_3 oa_4 oa_5 oa_6 oa_7 ra_0 ra_1 ra_2 ra_3 ra_4 ra_5 ra_6 ra_7 ra_8 ra_9 ra_10 ra_11 ra_12 fa_0 fa_1 fa_2 fa_3 fa_4 fa_5 fa_6 fa_7 fa_8 fa_9 fa_10 fa_11 fa_12 pa0 pa1 pa2 qa0 qa1 qa2
  obtain ⟨mb_0, mb_1, mb_2, mb_3, mb_4, mb_5, mb_6, mb_7, mb_8, mb_9, mb_10, mb_11, mb_12⟩ := cellsR HF3.out.m
  obtain ⟨fb_0, fb_1, fb_2, fb_3, fb_4, fb_5, fb_6, fb_7, fb_8, fb_9, fb_10, fb_11, fb_12⟩ := frozR HF3.out.m
  obtain ⟨mc_0, mc_1, mc_2, mc_3, mc_4, mc_5, mc_6, mc_7, mc_8, mc_9, mc_10, mc_11, mc_12⟩ := cellsR HF4.out.m
  obtain ⟨oc_0, oc_1, oc_2, oc_3, oc_4, oc_5, oc_6, oc_7⟩ := cells8 HF4.out.op
  obtain ⟨rc_0, rc_1, rc_2, rc_3, rc_4, rc_5, rc_6, rc_7, rc_8, rc_9, rc_10, rc_11, rc_12⟩ := cellsR HF4.out.r
  obtain ⟨fc_0, fc_1, fc_2, fc_3, fc_4, fc_5, fc_6, fc_7, fc_8, fc_9, fc_10, fc_11, fc_12⟩ := frozR HF4.out.r
  obtain ⟨pc0, pc1, pc2, qc0, qc1, qc2⟩ := cells3 HR4.out
  go_wp2
  refine bodyPost_ret (retRd rfl _ _ (w.heap.size + 1 + 1) (w.heap.size + 1 + 1 + 1) #[.int .i64 k0, .int .i64 k1, .int .i64 k2, .int .i64 k3, .int .i64 k4, .int .i64 k5, .int .i64 k6, .int .i64 k7, .int .i64 k8, .int .i64 k9, .int .u64 k10, .slice none 0 0, .slice (some ⟨gR, 0, none⟩) xs.length cR] #[.int .i64 0, .int .i64 0, .slice none 0 0] rfl rfl rfl rfl (by first | (with_reducible exact blk_put3 (put13 _ _ _ _ _ _ _ _ _ _ _ _ _  HF4.out.r) n1) | exact blk_put3 (put13 _ _ _ _ _ _ _ _ _ _ _ _ _  (HF4.out.drewN _).r) n1) (by first | (with_reducible exact put3 _ _ _ (blk_put13 HR4.out n2)) | exact put3 _ _ _ (blk_put13 (blk_drewN HR4.out _) n2))) rfl ?_
  obtain ⟨g0, g1, g2, g3, g4, hgR⟩ := HG.out
  exact ⟨gR, cR, rfl, cell_put3 (cell_put13 (by rw [← hw4]; exact cell_put13 g0 (by omega)) (by omega)) (by omega), cell_put3 (cell_put13 (by rw [← hw4]; exact cell_put13 g1 (by omega)) (by omega)) (by omega), cell_put3 (cell_put13 (by rw [← hw4]; exact cell_put13 g2 (by omega)) (by omega)) (by omega), cell_put3 (cell_put13 (by rw [← hw4]; exact cell_put13 g3 (by omega)) (by omega)) (by omega), cell_put3 (cell_put13 (by rw [← hw4]; exact cell_put13 g4 (by omega)) (by omega)) (by omega), by omega, by repeat (first | (with_reducible exact HF4.out.b) | (with_reducible refine below_set ?_ (by omega)))⟩

set_option maxHeartbeats 8000000 in
set_option maxRecDepth 100000 in
theorem rDoClear (k0 k1 k2 k3 k4 k5 k6 k7 k8 k9 k10 : Int) (gr cr : Nat) (t0 : TypeId) (xs : List S51) (th a b v nn mm : Int) (A : Option Addr) (dl dc : Nat) (fu : Bool) (w : World) (hx : w.heap[gr]? = some (.cells (cells51 xs) t0 (0, 0))) (hz : ∀ j, j < xs.length → xs[j]? = some z51) (hn : xs.length ≤ 64) (ha0 : 0 ≤ a) (ha1 : a < (xs.length : Int)) :
    Calls Try.prog 9 #[.agg #[.int .i64 k0, .int .i64 k1, .int .i64 k2, .int .i64 k3, .int .i64 k4, .int .i64 k5, .int .i64 k6, .int .i64 k7, .int .i64 k8, .int .i64 k9, .int .u64 k10, .slice none 0 0, .slice (some ⟨gr, 0, none⟩) xs.length cr], .agg #[.int .i64 18, .int .i64 th, .int .i64 a, .int .i64 b, .int .i64 v, .int .i64 nn, .int .i64 mm, .slice A dl dc], .bool fu] w fun e w' => ∃ gR cR, e = .returned (.tuple #[.agg #[.int .i64 k0, .int .i64 k1, .int .i64 k2, .int .i64 k3, .int .i64 k4, .int .i64 k5, .int .i64 k6, .int .i64 k7, .int .i64 k8, .int .i64 k9, .int .u64 k10, .slice none 0 0, .slice (some ⟨gR, 0, none⟩) xs.length cR], .agg #[.int .i64 0, .int .i64 0, .slice none 0 0]]) ∧ w'.cell? ⟨gR, a.toNat * 5, none⟩ = some (.int .i64 (0)) ∧ w'.cell? ⟨gR, a.toNat * 5 + 1, none⟩ = some (.int .i64 (0)) ∧ w'.cell? ⟨gR, a.toNat * 5 + 2, none⟩ = some (.int .i64 (0)) ∧ w'.cell? ⟨gR, a.toNat * 5 + 3, none⟩ = some (.int .i64 (0)) ∧ w'.cell? ⟨gR, a.toNat * 5 + 4, none⟩ = some (.int .i64 (0)) ∧ w.heap.size ≤ gR ∧ Below w.heap.size w w' := by
  have hu25 := Try.underlying25
  have hu40 := Try.underlying40
  have hu51 := Try.underlying51
  have hu35 := Try.underlying35
  obtain ⟨w1, hw1, HF, HR2⟩ : ∃ w1, (((w.alloc (.cells #[.int .i64 k0, .int .i64 k1, .int .i64 k2, .int .i64 k3, .int .i64 k4, .int .i64 k5, .int .i64 k6, .int .i64 k7, .int .i64 k8, .int .i64 k9, .int .u64 k10, .slice none 0 0, .slice (some ⟨gr, 0, none⟩) xs.length cr] 40)).alloc (.cells #[.int .i64 18, .int .i64 th, .int .i64 a, .int .i64 b, .int .i64 v, .int .i64 nn, .int .i64 mm, .slice A dl dc] 25)).alloc (.cells #[.int .i64 0, .int .i64 0, .int .i64 0, .int .i64 0, .int .i64 0, .int .i64 0, .int .i64 0, .int .i64 0, .int .i64 0, .int .i64 0, .int .u64 0, .slice none 0 0, .slice none 0 0] 40)).alloc (.cells #[.int .i64 0, .int .i64 0, .slice none 0 0] 35) = w1 ∧ Aside0 (MkF w w1 k0 k1 k2 k3 k4 k5 k6 k7 k8 k9 k10 (.slice none 0 0) (.slice (some ⟨gr, 0, none⟩) xs.length cr) #[.int .i64 18, .int .i64 th, .int .i64 a, .int .i64 b, .int .i64 v, .int .i64 nn, .int .i64 mm, .slice A dl dc]) ∧ Aside0 (w1.heap[w.heap.size + 1 + 1 + 1]? = some (.cells #[.int .i64 0, .int .i64 0, .slice none 0 0] 35 (0, 0))) := ⟨_, rfl, ⟨⟨blk_alloc (blk_alloc (blk_alloc (blk_new _ _) _) _) _, blk_alloc (blk_alloc (blk_new1 _ _ _) _) _, blk_alloc (blk_newb _ _ _ _) _, below_alloc (below_alloc (below_alloc (below_alloc (Below.refl _ _) _) _) _) _⟩⟩, ⟨blk_newc _ _ _ _ _⟩⟩
  have HX := Aside0.mk hx
  have HZ := Aside0.mk hz
  clear hx hz
  have n1 : w.heap.size + 1 + 1 ≠ w.heap.size + 1 + 1 + 1 := by omega
  have n2 : w.heap.size + 1 + 1 + 1 ≠ w.heap.size + 1 + 1 := by omega
  have daa : decide (a < 0) = false := decide_eq_false (by omega)
  have dab : decide ((xs.length : Int) ≤ a) = false := decide_eq_false (by omega)
  obtain ⟨ma_0, ma_1, ma_2, ma_3, ma_4, ma_5, ma_6, ma_7, ma_8, ma_9, ma_10, ma_11, ma_12⟩ := cellsR HF.out.m
  obtain ⟨oa_0, oa_1, oa_2, oa_3, oa_4, oa_5, oa_6, oa_7⟩ := cells8 HF.out.op
  obtain ⟨ra_0, ra_1, ra_2, ra_3, ra_4, ra_5, ra_6, ra_7, ra_8, ra_9, ra_10, ra_11, ra_12⟩ := cellsR HF.out.r
  obtain ⟨fa_0, fa_1, fa_2, fa_3, fa_4, fa_5, fa_6, fa_7, fa_8, fa_9, fa_10, fa_11, fa_12⟩ := frozR HF.out.r
  obtain ⟨pa0, pa1, pa2, qa0, qa1, qa2⟩ := cells3 HR2.out
  go_enter Try.func9, Try.ntmps9
  go_wp2_with fail
  refine (cubbyholeref44_Uses.calls 10 18 true false false _ (by kernel_rfl)).mono ?_
  rintro e w2 ⟨rfl, ⟨j, rfl⟩⟩
  go_wp2_with fail
  refine (rSet k0 k1 k2 k3 k4 k5 k6 k7 k8 k9 k10 none 0 0 gr cr t0 xs a 0 0 0 0 0 _ (blk_drewN (blk_below HX.out HF.out.b) _) ha0 ha1 hn).mono ?_
  rintro e w3 ⟨gR, cR, rfl, g0, g1, g2, g3, g4, hgR, hbj⟩
  have hb := below_step (pw_below_drewN (Below.refl w1.heap.size w1) j) hbj
  obtain ⟨w4, hw4, HF4, HR4⟩ : ∃ w0, (((((((((((((w3.setCell ⟨w.heap.size, 0, none⟩ (.int .i64 k0)).setCell ⟨w.heap.size, 1, none⟩ (.int .i64 k1)).setCell ⟨w.heap.size, 2, none⟩ (.int .i64 k2)).setCell ⟨w.heap.size, 3, none⟩ (.int .i64 k3)).setCell ⟨w.heap.size, 4, none⟩ (.int .i64 k4)).setCell ⟨w.heap.size, 5, none⟩ (.int .i64 k5)).setCell ⟨w.heap.size, 6, none⟩ (.int .i64 k6)).setCell ⟨w.heap.size, 7, none⟩ (.int .i64 k7)).setCell ⟨w.heap.size, 8, none⟩ (.int .i64 k8)).setCell ⟨w.heap.size, 9, none⟩ (.int .i64 k9)).setCell ⟨w.heap.size, 10, none⟩ (.int .u64 k10)).setCell ⟨w.heap.size, 11, none⟩ (.slice none 0 0)).setCell ⟨w.heap.size, 12, none⟩ (.slice (some ⟨gR, 0, none⟩) xs.length cR)) = w0 ∧ Aside0 (MkF w w0 k0 k1 k2 k3 k4 k5 k6 k7 k8 k9 k10 (.slice none 0 0) (.slice (some ⟨gR, 0, none⟩) xs.length cR) _) ∧ Aside0 (w0.heap[w.heap.size + 1 + 1 + 1]? = some (.cells #[.int .i64 0, .int .i64 0, .slice none 0 0] 35 (0, 0))) := ⟨_, rfl, ⟨MkF.putn (MkF.below HF.out hb)⟩, ⟨blk_put13 (blk_below HR2.out hb) (by omega)⟩⟩
  have HF3 := Aside0.mk (show MkF w w3 k0 k1 k2 k3 k4 k5 k6 k7 k8 k9 k10 (.slice none 0 0) (.slice (some ⟨gr, 0, none⟩) xs.length cr) _ from MkF.below HF.out hb)
  have HR3 := Aside0.mk (blk_below HR2.out hb)
  have HG := Aside0.mk (And.intro g0 (And.intro g1 (And.intro g2 (And.intro g3 (And.intro g4 (Nat.lt_of_lt_of_le (blk_lt HR2.out) (show w1.heap.size ≤ gR from hgR)))))))
  clear hb hbj g0 g1 g2 g3 g4 hgR ma_0 ma_1 ma_2 ma_3 ma_4 ma_5 ma_6 ma_7 ma_8 ma_9 ma_10 ma_11 ma_12 oa_0 oa_1 oa_2 oa_3 oa_4 oa_5 oa_6 oa_7 ra_0 ra_1 ra_2 ra_3 ra_4 ra_5 ra_6 ra_7 ra_8 ra_9 ra_10 ra_11 ra_12 fa_0 fa_1 fa_2 fa_3 fa_4 fa_5 fa_6 fa_7 fa_8 fa_9 fa_10 fa_11 fa_12 pa0 pa1 pa2 qa0 qa1 qa2
  obtain ⟨mb_0, mb_1, mb_2, mb_3, mb_4, mb_5, mb_6, mb_7, mb_8, mb_9, mb_10, mb_11, mb_12⟩ := cellsR HF3.out.m
  obtain ⟨fb_0, fb_1, fb_2, fb_3, fb_4, fb_5, fb_6, fb_7, fb_8, fb_9, fb_10, fb_11, fb_12⟩ := frozR HF3.out.m
  obtain ⟨mc_0, mc_1, mc_2, mc_3, mc_4, mc_5, mc_6, mc_7, mc_8, mc_9, mc_10, mc_11, mc_12⟩ := cellsR HF4.out.m
  obtain ⟨oc_0, oc_1, oc_2, oc_3, oc_4, oc_5, oc_6, oc_7⟩ := cells8 HF4.out.op
  obtain ⟨rc_0, rc_1, rc_2, rc_3, rc_4, rc_5, rc_6, rc_7, rc_8, rc_9, rc_10, rc_11, rc_12⟩ := cellsR HF4.out.r
  obtain ⟨fc_0, fc_1, fc_2, fc_3, fc_4, fc_5, fc_6, fc_7, fc_8, fc_9, fc_10, fc_11, fc_12⟩ := frozR HF4.out.r
  obtain ⟨pc0, pc1, pc2, qc0, qc1, qc2⟩ := cells3 HR4.out
  go_wp2
  refine bodyPost_ret (retRd rfl _ _ (w.heap.size + 1 + 1) (w.heap.size + 1 + 1 + 1) #[.int .i64 k0, .int .i64 k1, .int .i64 k2, .int .i64 k3, .int .i64 k4, .int .i64 k5, .int .i64 k6, .int .i64 k7, .int .i64 k8, .int .i64 k9, .int .u64 k10, .slice none 0 0, .slice (some ⟨gR, 0, none⟩) xs.length cR] #[.int .i64 0, .int .i64 0, .slice none 0 0] rfl rfl rfl rfl (by first | (with_reducible exact blk_put3 (put13 _ _ _ _ _ _ _ _ _ _ _ _ _  HF4.out.r) n1) | exact blk_put3 (put13 _ _ _ _ _ _ _ _ _ _ _ _ _  (HF4.out.drewN _).r) n1) (by first | (with_reducible exact put3 _ _ _ (blk_put13 HR4.out n2)) | exact put3 _ _ _ (blk_put13 (blk_drewN HR4.out _) n2))) rfl ?_
  obtain ⟨g0, g1, g2, g3, g4, hgR⟩ := HG.out
  exact ⟨gR, cR, rfl, cell_put3 (cell_put13 (by rw [← hw4]; exact cell_put13 g0 (by omega)) (by omega)) (by omega), cell_put3 (cell_put13 (by rw [← hw4]; exact cell_put13 g1 (by omega)) (by omega)) (by omega), cell_put3 (cell_put13 (by rw [← hw4]; exact cell_put13 g2 (by omega)) (by omega)) (by omega), cell_put3 (cell_put13 (by rw [← hw4]; exact cell_put13 g3 (by omega)) (by omega)) (by omega), cell_put3 (cell_put13 (by rw [← hw4]; exact cell_put13 g4 (by omega)) (by omega)) (by omega), by omega, by repeat (first | (with_reducible exact HF4.out.b) | (with_reducible refine below_set ?_ (by omega)))⟩

set_option maxHeartbeats 8000000 in
set_option maxRecDepth 100000 in
theorem rDoM1m (k0 k1 k2 k3 k4 k5 k6 k7 k8 k9 k10 : Int) (gr cr : Nat) (t0 : TypeId) (xs : List S51) (th a b v nn mm : Int) (A : Option Addr) (dl dc : Nat) (fu : Bool) (w : World) (hx : w.heap[gr]? = some (.cells (cells51 xs) t0 (0, 0))) (hz : ∀ j, j < xs.length → xs[j]? = some z51) (hn : xs.length ≤ 64) (ha0 : 0 ≤ a) (ha1 : a < (xs.length : Int)) (kk r : Nat) (hr : Aside0 (cubbyholeref44_room.f kk (nn) (1) = some (r : Int))) (h1 : 1 ≤ r) (h2 : r ≤ 1000000) (he : askFull k3 k8 th nn fu = 0) :
    Calls Try.prog 9 #[.agg #[.int .i64 k0, .int .i64 k1, .int .i64 k2, .int .i64 k3, .int .i64 k4, .int .i64 k5, .int .i64 k6, .int .i64 k7, .int .i64 k8, .int .i64 k9, .int .u64 k10, .slice none 0 0, .slice (some ⟨gr, 0, none⟩) xs.length cr], .agg #[.int .i64 1, .int .i64 th, .int .i64 a, .int .i64 b, .int .i64 v, .int .i64 nn, .int .i64 mm, .slice A dl dc], .bool fu] w fun e w' => ∃ gl cap gR cR, e = .returned (.tuple #[.agg #[.int .i64 k0, .int .i64 k1, .int .i64 k2, .int .i64 k3, .int .i64 k4, .int .i64 k5, .int .i64 k6, .int .i64 k7, .int .i64 k8, .int .i64 k9, .int .u64 k10, .slice (some ⟨gl, 0, none⟩) 1 cap, .slice (some ⟨gR, 0, none⟩) xs.length cR], .agg #[.int .i64 0, .int .i64 0, .slice none 0 0]]) ∧ w'.cell? ⟨gl, 3, none⟩ = some (.bool true) ∧ w'.cell? ⟨gR, a.toNat * 5, none⟩ = some (.int .i64 (1)) ∧ w'.cell? ⟨gR, a.toNat * 5 + 1, none⟩ = some (.int .i64 (0)) ∧ w'.cell? ⟨gR, a.toNat * 5 + 2, none⟩ = some (.int .i64 (nn)) ∧ w'.cell? ⟨gR, a.toNat * 5 + 3, none⟩ = some (.int .i64 (0)) ∧ w'.cell? ⟨gR, a.toNat * 5 + 4, none⟩ = some (.int .i64 (31)) ∧ w.heap.size ≤ gR ∧ Below w.heap.size w w' := by
  have hu25 := Try.underlying25
  have hu40 := Try.underlying40
  have hu51 := Try.underlying51
  have hu35 := Try.underlying35
  obtain ⟨w1, hw1, HF, HR2⟩ : ∃ w1, (((w.alloc (.cells #[.int .i64 k0, .int .i64 k1, .int .i64 k2, .int .i64 k3, .int .i64 k4, .int .i64 k5, .int .i64 k6, .int .i64 k7, .int .i64 k8, .int .i64 k9, .int .u64 k10, .slice none 0 0, .slice (some ⟨gr, 0, none⟩) xs.length cr] 40)).alloc (.cells #[.int .i64 1, .int .i64 th, .int .i64 a, .int .i64 b, .int .i64 v, .int .i64 nn, .int .i64 mm, .slice A dl dc] 25)).alloc (.cells #[.int .i64 0, .int .i64 0, .int .i64 0, .int .i64 0, .int .i64 0, .int .i64 0, .int .i64 0, .int .i64 0, .int .i64 0, .int .i64 0, .int .u64 0, .slice none 0 0, .slice none 0 0] 40)).alloc (.cells #[.int .i64 0, .int .i64 0, .slice none 0 0] 35) = w1 ∧ Aside0 (MkF w w1 k0 k1 k2 k3 k4 k5 k6 k7 k8 k9 k10 (.slice none 0 0) (.slice (some ⟨gr, 0, none⟩) xs.length cr) #[.int .i64 1, .int .i64 th, .int .i64 a, .int .i64 b, .int .i64 v, .int .i64 nn, .int .i64 mm, .slice A dl dc]) ∧ Aside0 (w1.heap[w.heap.size + 1 + 1 + 1]? = some (.cells #[.int .i64 0, .int .i64 0, .slice none 0 0] 35 (0, 0))) := ⟨_, rfl, ⟨⟨blk_alloc (blk_alloc (blk_alloc (blk_new _ _) _) _) _, blk_alloc (blk_alloc (blk_new1 _ _ _) _) _, blk_alloc (blk_newb _ _ _ _) _, below_alloc (below_alloc (below_alloc (below_alloc (Below.refl _ _) _) _) _) _⟩⟩, ⟨blk_newc _ _ _ _ _⟩⟩
  have HX := Aside0.mk hx
  have HZ := Aside0.mk hz
  clear hx hz
  have n1 : w.heap.size + 1 + 1 ≠ w.heap.size + 1 + 1 + 1 := by omega
  have n2 : w.heap.size + 1 + 1 + 1 ≠ w.heap.size + 1 + 1 := by omega
  have daa : decide (a < 0) = false := decide_eq_false (by omega)
  have dab : decide ((xs.length : Int) ≤ a) = false := decide_eq_false (by omega)
  obtain ⟨ma_0, ma_1, ma_2, ma_3, ma_4, ma_5, ma_6, ma_7, ma_8, ma_9, ma_10, ma_11, ma_12⟩ := cellsR HF.out.m
  obtain ⟨oa_0, oa_1, oa_2, oa_3, oa_4, oa_5, oa_6, oa_7⟩ := cells8 HF.out.op
  obtain ⟨ra_0, ra_1, ra_2, ra_3, ra_4, ra_5, ra_6, ra_7, ra_8, ra_9, ra_10, ra_11, ra_12⟩ := cellsR HF.out.r
  obtain ⟨fa_0, fa_1, fa_2, fa_3, fa_4, fa_5, fa_6, fa_7, fa_8, fa_9, fa_10, fa_11, fa_12⟩ := frozR HF.out.r
  obtain ⟨pa0, pa1, pa2, qa0, qa1, qa2⟩ := cells3 HR2.out
  go_enter Try.func9, Try.ntmps9
  go_wp2_with fail
  refine (cubbyholeref44_Uses.calls 10 1 true false false _ (by kernel_rfl)).mono ?_
  rintro e w2 ⟨rfl, ⟨j, rfl⟩⟩
  go_wp2_with fail
  refine (rm1m k0 k1 k2 k3 k4 k5 k6 k7 k8 k9 k10 gr cr xs th a b v nn mm A dl dc fu _ t0 (blk_drewN (blk_below HX.out HF.out.b) _) ha0 ha1 hn kk r hr.out h1 h2 he).mono ?_
  rintro e w3 ⟨gl, cap, gR, cR, rfl, hgl, g0, g1, g2, g3, g4, hgR, hbj⟩
  have hb := below_step (pw_below_drewN (Below.refl w1.heap.size w1) j) hbj
  obtain ⟨w4, hw4, HF4, HR4⟩ : ∃ w0, (((((((((((((w3.setCell ⟨w.heap.size, 0, none⟩ (.int .i64 k0)).setCell ⟨w.heap.size, 1, none⟩ (.int .i64 k1)).setCell ⟨w.heap.size, 2, none⟩ (.int .i64 k2)).setCell ⟨w.heap.size, 3, none⟩ (.int .i64 k3)).setCell ⟨w.heap.size, 4, none⟩ (.int .i64 k4)).setCell ⟨w.heap.size, 5, none⟩ (.int .i64 k5)).setCell ⟨w.heap.size, 6, none⟩ (.int .i64 k6)).setCell ⟨w.heap.size, 7, none⟩ (.int .i64 k7)).setCell ⟨w.heap.size, 8, none⟩ (.int .i64 k8)).setCell ⟨w.heap.size, 9, none⟩ (.int .i64 k9)).setCell ⟨w.heap.size, 10, none⟩ (.int .u64 k10)).setCell ⟨w.heap.size, 11, none⟩ (.slice (some ⟨gl, 0, none⟩) 1 cap)).setCell ⟨w.heap.size, 12, none⟩ (.slice (some ⟨gR, 0, none⟩) xs.length cR)) = w0 ∧ Aside0 (MkF w w0 k0 k1 k2 k3 k4 k5 k6 k7 k8 k9 k10 (.slice (some ⟨gl, 0, none⟩) 1 cap) (.slice (some ⟨gR, 0, none⟩) xs.length cR) _) ∧ Aside0 (w0.heap[w.heap.size + 1 + 1 + 1]? = some (.cells #[.int .i64 0, .int .i64 0, .slice none 0 0] 35 (0, 0))) := ⟨_, rfl, ⟨MkF.putn (MkF.below HF.out hb)⟩, ⟨blk_put13 (blk_below HR2.out hb) (by omega)⟩⟩
  have HF3 := Aside0.mk (show MkF w w3 k0 k1 k2 k3 k4 k5 k6 k7 k8 k9 k10 (.slice none 0 0) (.slice (some ⟨gr, 0, none⟩) xs.length cr) _ from MkF.below HF.out hb)
  have HR3 := Aside0.mk (blk_below HR2.out hb)
  have HG := Aside0.mk (And.intro g0 (And.intro g1 (And.intro g2 (And.intro g3 (And.intro g4 (Nat.lt_of_lt_of_le (blk_lt HR2.out) (show w1.heap.size ≤ gR from hgR)))))))
  have HL := Aside0.mk hgl
  clear hb hbj g0 g1 g2 g3 g4 hgR hgl ma_0 ma_1 ma_2 ma_3 ma_4 ma_5 ma_6 ma_7 ma_8 ma_9 ma_10 ma_11 ma_12 oa_0 oa_1 oa_2 oa_3 oa_4 oa_5 oa_6 oa_7 ra_0 ra_1 ra_2 ra_3 ra_4 ra_5 ra_6 ra_7 ra_8 ra_9 ra_10 ra_11 ra_12 fa_0 fa_1 fa_2 fa_3 fa_4 fa_5 fa_6 fa_7 fa_8 fa_9 fa_10 fa_11 fa_12 pa0 pa1 pa2 qa0 qa1 qa2
  obtain ⟨mb_0, mb_1, mb_2, mb_3, mb_4, mb_5, mb_6, mb_7, mb_8, mb_9, mb_10, mb_11, mb_12⟩ := cellsR HF3.out.m
  obtain ⟨fb_0, fb_1, fb_2, fb_3, fb_4, fb_5, fb_6, fb_7, fb_8, fb_9, fb_10, fb_11, fb_12⟩ := frozR HF3.out.m
  obtain ⟨mc_0, mc_1, mc_2, mc_3, mc_4, mc_5, mc_6, mc_7, mc_8, mc_9, mc_10, mc_11, mc_12⟩ := cellsR HF4.out.m
  obtain ⟨oc_0, oc_1, oc_2, oc_3, oc_4, oc_5, oc_6, oc_7⟩ := cells8 HF4.out.op
  obtain ⟨rc_0, rc_1, rc_2, rc_3, rc_4, rc_5, rc_6, rc_7, rc_8, rc_9, rc_10, rc_11, rc_12⟩ := cellsR HF4.out.r
  obtain ⟨fc_0, fc_1, fc_2, fc_3, fc_4, fc_5, fc_6, fc_7, fc_8, fc_9, fc_10, fc_11, fc_12⟩ := frozR HF4.out.r
  obtain ⟨pc0, pc1, pc2, qc0, qc1, qc2⟩ := cells3 HR4.out
  go_wp2
  refine bodyPost_ret (retRd rfl _ _ (w.heap.size + 1 + 1) (w.heap.size + 1 + 1 + 1) #[.int .i64 k0, .int .i64 k1, .int .i64 k2, .int .i64 k3, .int .i64 k4, .int .i64 k5, .int .i64 k6, .int .i64 k7, .int .i64 k8, .int .i64 k9, .int .u64 k10, .slice (some ⟨gl, 0, none⟩) 1 cap, .slice (some ⟨gR, 0, none⟩) xs.length cR] #[.int .i64 0, .int .i64 0, .slice none 0 0] rfl rfl rfl rfl (by first | (with_reducible exact blk_put3 (put13 _ _ _ _ _ _ _ _ _ _ _ _ _  HF4.out.r) n1) | exact blk_put3 (put13 _ _ _ _ _ _ _ _ _ _ _ _ _  (HF4.out.drewN _).r) n1) (by first | (with_reducible exact put3 _ _ _ (blk_put13 HR4.out n2)) | exact put3 _ _ _ (blk_put13 (blk_drewN HR4.out _) n2))) rfl ?_
  obtain ⟨g0, g1, g2, g3, g4, hgR⟩ := HG.out
  have hgl := HL.out
  have l1 : gl ≠ w.heap.size := ne_cell hgl ((blk_cell HF3.out.m 3).trans rfl)
  have l2 : gl ≠ w.heap.size + 1 + 1 := ne_cell hgl ((blk_cell HF3.out.r 3).trans rfl)
  have l3 : gl ≠ w.heap.size + 1 + 1 + 1 := ne_none hgl ((blk_cell HR3.out 3).trans rfl)
  exact ⟨gl, cap, gR, cR, rfl, cell_put3 (cell_put13 (by rw [← hw4]; exact cell_put13 hgl l1) l2) l3, cell_put3 (cell_put13 (by rw [← hw4]; exact cell_put13 g0 (by omega)) (by omega)) (by omega), cell_put3 (cell_put13 (by rw [← hw4]; exact cell_put13 g1 (by omega)) (by omega)) (by omega), cell_put3 (cell_put13 (by rw [← hw4]; exact cell_put13 g2 (by omega)) (by omega)) (by omega), cell_put3 (cell_put13 (by rw [← hw4]; exact cell_put13 g3 (by omega)) (by omega)) (by omega), cell_put3 (cell_put13 (by rw [← hw4]; exact cell_put13 g4 (by omega)) (by omega)) (by omega), by omega, by repeat (first | (with_reducible exact HF4.out.b) | (with_reducible refine below_set ?_ (by omega)))⟩

set_option maxHeartbeats 8000000 in
set_option maxRecDepth 100000 in
theorem rDoM2m (k0 k1 k2 k3 k4 k5 k6 k7 k8 k9 k10 : Int) (gr cr : Nat) (t0 : TypeId) (xs : List S51) (th a b v nn mm : Int) (A : Option Addr) (dl dc : Nat) (fu : Bool) (w : World) (hx : w.heap[gr]? = some (.cells (cells51 xs) t0 (0, 0))) (hz : ∀ j, j < xs.length → xs[j]? = some z51) (hn : xs.length ≤ 64) (ha0 : 0 ≤ a) (ha1 : a < (xs.length : Int)) (kk r : Nat) (hr : Aside0 (cubbyholeref44_room.f kk (nn * mm) (1) = some (r : Int))) (h1 : 1 ≤ r) (h2 : r ≤ 1000000) (hk8 : 1 ≤ k8) (hk8b : k8 ≤ 1000000000) (hn1 : 1 ≤ nn) (hm1 : 1 ≤ mm) (ht0 : 0 ≤ th) (ht1 : th < k3) (hle : nn ≤ k8.tdiv mm) (hfu : Aside0 (fu = false)) :
    Calls Try.prog 9 #[.agg #[.int .i64 k0, .int .i64 k1, .int .i64 k2, .int .i64 k3, .int .i64 k4, .int .i64 k5, .int .i64 k6, .int .i64 k7, .int .i64 k8, .int .i64 k9, .int .u64 k10, .slice none 0 0, .slice (some ⟨gr, 0, none⟩) xs.length cr], .agg #[.int .i64 2, .int .i64 th, .int .i64 a, .int .i64 b, .int .i64 v, .int .i64 nn, .int .i64 mm, .slice A dl dc], .bool fu] w fun e w' => ∃ gl cap gR cR, e = .returned (.tuple #[.agg #[.int .i64 k0, .int .i64 k1, .int .i64 k2, .int .i64 k3, .int .i64 k4, .int .i64 k5, .int .i64 k6, .int .i64 k7, .int .i64 k8, .int .i64 k9, .int .u64 k10, .slice (some ⟨gl, 0, none⟩) 1 cap, .slice (some ⟨gR, 0, none⟩) xs.length cR], .agg #[.int .i64 0, .int .i64 0, .slice none 0 0]]) ∧ w'.cell? ⟨gl, 3, none⟩ = some (.bool true) ∧ w'.cell? ⟨gR, a.toNat * 5, none⟩ = some (.int .i64 (1)) ∧ w'.cell? ⟨gR, a.toNat * 5 + 1, none⟩ = some (.int .i64 (0)) ∧ w'.cell? ⟨gR, a.toNat * 5 + 2, none⟩ = some (.int .i64 (nn * mm)) ∧ w'.cell? ⟨gR, a.toNat * 5 + 3, none⟩ = some (.int .i64 (0)) ∧ w'.cell? ⟨gR, a.toNat * 5 + 4, none⟩ = some (.int .i64 (31)) ∧ w.heap.size ≤ gR ∧ Below w.heap.size w w' := by
  have hu25 := Try.underlying25
  have hu40 := Try.underlying40
  have hu51 := Try.underlying51
  have hu35 := Try.underlying35
  obtain ⟨w1, hw1, HF, HR2⟩ : ∃ w1, (((w.alloc (.cells #[.int .i64 k0, .int .i64 k1, .int .i64 k2, .int .i64 k3, .int .i64 k4, .int .i64 k5, .int .i64 k6, .int .i64 k7, .int .i64 k8, .int .i64 k9, .int .u64 k10, .slice none 0 0, .slice (some ⟨gr, 0, none⟩) xs.length cr] 40)).alloc (.cells #[.int .i64 2, .int .i64 th, .int .i64 a, .int .i64 b, .int .i64 v, .int .i64 nn, .int .i64 mm, .slice A dl dc] 25)).alloc (.cells #[.int .i64 0, .int .i64 0, .int .i64 0, .int .i64 0, .int .i64 0, .int .i64 0, .int .i64 0, .int .i64 0, .int .i64 0, .int .i64 0, .int .u64 0, .slice none 0 0, .slice none 0 0] 40)).alloc (.cells #[.int .i64 0, .int .i64 0, .slice none 0 0] 35) = w1 ∧ Aside0 (MkF w w1 k0 k1 k2 k3 k4 k5 k6 k7 k8 k9 k10 (.slice none 0 0) (.slice (some ⟨gr, 0, none⟩) xs.length cr) #[.int .i64 2, .int .i64 th, .int .i64 a, .int .i64 b, .int .i64 v, .int .i64 nn, .int .i64 mm, .slice A dl dc]) ∧ Aside0 (w1.heap[w.heap.size + 1 + 1 + 1]? = some (.cells #[.int .i64 0, .int .i64 0, .slice none 0 0] 35 (0, 0))) := ⟨_, rfl, ⟨⟨blk_alloc (blk_alloc (blk_alloc (blk_new _ _) _) _) _, blk_alloc (blk_alloc (blk_new1 _ _ _) _) _, blk_alloc (blk_newb _ _ _ _) _, below_alloc (below_alloc (below_alloc (below_alloc (Below.refl _ _) _) _) _) _⟩⟩, ⟨blk_newc _ _ _ _ _⟩⟩
  have HX := Aside0.mk hx
  have HZ := Aside0.mk hz
  clear hx hz
  have n1 : w.heap.size + 1 + 1 ≠ w.heap.size + 1 + 1 + 1 := by omega
  have n2 : w.heap.size + 1 + 1 + 1 ≠ w.heap.size + 1 + 1 := by omega
  have daa : decide (a < 0) = false := decide_eq_false (by omega)
  have dab : decide ((xs.length : Int) ≤ a) = false := decide_eq_false (by omega)
  obtain ⟨ma_0, ma_1, ma_2, ma_3, ma_4, ma_5, ma_6, ma_7, ma_8, ma_9, ma_10, ma_11, ma_12⟩ := cellsR HF.out.m
  obtain ⟨oa_0, oa_1, oa_2, oa_3, oa_4, oa_5, oa_6, oa_7⟩ := cells8 HF.out.op
  obtain ⟨ra_0, ra_1, ra_2, ra_3, ra_4, ra_5, ra_6, ra_7, ra_8, ra_9, ra_10, ra_11, ra_12⟩ := cellsR HF.out.r
  obtain ⟨fa_0, fa_1, fa_2, fa_3, fa_4, fa_5, fa_6, fa_7, fa_8, fa_9, fa_10, fa_11, fa_12⟩ := frozR HF.out.r
  obtain ⟨pa0, pa1, pa2, qa0, qa1, qa2⟩ := cells3 HR2.out
  go_enter Try.func9, Try.ntmps9
  go_wp2_with fail
  refine (cubbyholeref44_Uses.calls 10 2 true false false _ (by kernel_rfl)).mono ?_
  rintro e w2 ⟨rfl, ⟨j, rfl⟩⟩
  go_wp2_with fail
  refine (rm2m k0 k1 k2 k3 k4 k5 k6 k7 k8 k9 k10 gr cr xs th a b v nn mm A dl dc fu _ t0 (blk_drewN (blk_below HX.out HF.out.b) _) ha0 ha1 hn kk r hr.out h1 h2 hk8 hk8b hn1 hm1 ht0 ht1 hle hfu.out).mono ?_
  rintro e w3 ⟨gl, cap, gR, cR, rfl, hgl, g0, g1, g2, g3, g4, hgR, hbj⟩
  have hb := below_step (pw_below_drewN (Below.refl w1.heap.size w1) j) hbj
  obtain ⟨w4, hw4, HF4, HR4⟩ : ∃ w0, (((((((((((((w3.setCell ⟨w.heap.size, 0, none⟩ (.int .i64 k0)).setCell ⟨w.heap.size, 1, none⟩ (.int .i64 k1)).setCell ⟨w.heap.size, 2, none⟩ (.int .i64 k2)).setCell ⟨w.heap.size, 3, none⟩ (.int .i64 k3)).setCell ⟨w.heap.size, 4, none⟩ (.int .i64 k4)).setCell ⟨w.heap.size, 5, none⟩ (.int .i64 k5)).setCell ⟨w.heap.size, 6, none⟩ (.int .i64 k6)).setCell ⟨w.heap.size, 7, none⟩ (.int .i64 k7)).setCell ⟨w.heap.size, 8, none⟩ (.int .i64 k8)).setCell ⟨w.heap.size, 9, none⟩ (.int .i64 k9)).setCell ⟨w.heap.size, 10, none⟩ (.int .u64 k10)).setCell ⟨w.heap.size, 11, none⟩ (.slice (some ⟨gl, 0, none⟩) 1 cap)).setCell ⟨w.heap.size, 12, none⟩ (.slice (some ⟨gR, 0, none⟩) xs.length cR)) = w0 ∧ Aside0 (MkF w w0 k0 k1 k2 k3 k4 k5 k6 k7 k8 k9 k10 (.slice (some ⟨gl, 0, none⟩) 1 cap) (.slice (some ⟨gR, 0, none⟩) xs.length cR) _) ∧ Aside0 (w0.heap[w.heap.size + 1 + 1 + 1]? = some (.cells #[.int .i64 0, .int .i64 0, .slice none 0 0] 35 (0, 0))) := ⟨_, rfl, ⟨MkF.putn (MkF.below HF.out hb)⟩, ⟨blk_put13 (blk_below HR2.out hb) (by omega)⟩⟩
  have HF3 := Aside0.mk (show MkF w w3 k0 k1 k2 k3 k4 k5 k6 k7 k8 k9 k10 (.slice none 0 0) (.slice (some ⟨gr, 0, none⟩) xs.length cr) _ from MkF.below HF.out hb)
  have HR3 := Aside0.mk (blk_below HR2.out hb)
  have HG := Aside0.mk (And.intro g0 (And.intro g1 (And.intro g2 (And.intro g3 (And.intro g4 (Nat.lt_of_lt_of_le (blk_lt HR2.out) (show w1.heap.size ≤ gR from hgR)))))))
  have HL := Aside0.mk hgl
  clear hb hbj g0 g1 g2 g3 g4 hgR hgl ma_0 ma_1 ma_2 ma_3 ma_4 ma_5 ma_6 ma_7 ma_8 ma_9 ma_10 ma_11 ma_12 oa_0 oa_1 oa_2 oa_3 oa_4 oa_5 oa_6 oa_7 ra_0 ra_1 ra_2 ra_3 ra_4 ra_5 ra_6 ra_7 ra_8 ra_9 ra_10 ra_11 ra_12 fa_0 fa_1 fa_2 fa_3 fa_4 fa_5 fa_6 fa_7 fa_8 fa_9 fa_10 fa_11 fa_12 pa0 pa1 pa2 qa0 qa1 qa2
  obtain ⟨mb_0, mb_1, mb_2, mb_3, mb_4, mb_5, mb_6, mb_7, mb_8, mb_9, mb_10, mb_11, mb_12⟩ := cellsR HF3.out.m
  obtain ⟨fb_0, fb_1, fb_2, fb_3, fb_4, fb_5, fb_6, fb_7, fb_8, fb_9, fb_10, fb_11, fb_12⟩ := frozR HF3.out.m
  obtain ⟨mc_0, mc_1, mc_2, mc_3, mc_4, mc_5, mc_6, mc_7, mc_8, mc_9, mc_10, mc_11, mc_12⟩ := cellsR HF4.out.m
  obtain ⟨oc_0, oc_1, oc_2, oc_3, oc_4, oc_5, oc_6, oc_7⟩ := cells8 HF4.out.op
  obtain ⟨rc_0, rc_1, rc_2, rc_3, rc_4, rc_5, rc_6, rc_7, rc_8, rc_9, rc_10, rc_11, rc_12⟩ := cellsR HF4.out.r
  obtain ⟨fc_0, fc_1, fc_2, fc_3, fc_4, fc_5, fc_6, fc_7, fc_8, fc_9, fc_10, fc_11, fc_12⟩ := frozR HF4.out.r
  obtain ⟨pc0, pc1, pc2, qc0, qc1, qc2⟩ := cells3 HR4.out
  go_wp2
  refine bodyPost_ret (retRd rfl _ _ (w.heap.size + 1 + 1) (w.heap.size + 1 + 1 + 1) #[.int .i64 k0, .int .i64 k1, .int .i64 k2, .int .i64 k3, .int .i64 k4, .int .i64 k5, .int .i64 k6, .int .i64 k7, .int .i64 k8, .int .i64 k9, .int .u64 k10, .slice (some ⟨gl, 0, none⟩) 1 cap, .slice (some ⟨gR, 0, none⟩) xs.length cR] #[.int .i64 0, .int .i64 0, .slice none 0 0] rfl rfl rfl rfl (by first | (with_reducible exact blk_put3 (put13 _ _ _ _ _ _ _ _ _ _ _ _ _  HF4.out.r) n1) | exact blk_put3 (put13 _ _ _ _ _ _ _ _ _ _ _ _ _  (HF4.out.drewN _).r) n1) (by first | (with_reducible exact put3 _ _ _ (blk_put13 HR4.out n2)) | exact put3 _ _ _ (blk_put13 (blk_drewN HR4.out _) n2))) rfl ?_
  obtain ⟨g0, g1, g2, g3, g4, hgR⟩ := HG.out
  have hgl := HL.out
  have l1 : gl ≠ w.heap.size := ne_cell hgl ((blk_cell HF3.out.m 3).trans rfl)
  have l2 : gl ≠ w.heap.size + 1 + 1 := ne_cell hgl ((blk_cell HF3.out.r 3).trans rfl)
  have l3 : gl ≠ w.heap.size + 1 + 1 + 1 := ne_none hgl ((blk_cell HR3.out 3).trans rfl)
  exact ⟨gl, cap, gR, cR, rfl, cell_put3 (cell_put13 (by rw [← hw4]; exact cell_put13 hgl l1) l2) l3, cell_put3 (cell_put13 (by rw [← hw4]; exact cell_put13 g0 (by omega)) (by omega)) (by omega), cell_put3 (cell_put13 (by rw [← hw4]; exact cell_put13 g1 (by omega)) (by omega)) (by omega), cell_put3 (cell_put13 (by rw [← hw4]; exact cell_put13 g2 (by omega)) (by omega)) (by omega), cell_put3 (cell_put13 (by rw [← hw4]; exact cell_put13 g3 (by omega)) (by omega)) (by omega), cell_put3 (cell_put13 (by rw [← hw4]; exact cell_put13 g4 (by omega)) (by omega)) (by omega), by omega, by repeat (first | (with_reducible exact HF4.out.b) | (with_reducible refine below_set ?_ (by omega)))⟩

set_option maxHeartbeats 8000000 in
set_option maxRecDepth 100000 in
theorem rDoM3m (k0 k1 k2 k3 k4 k5 k6 k7 k8 k9 k10 : Int) (gr cr : Nat) (t0 : TypeId) (xs : List S51) (th a b v nn mm : Int) (A : Option Addr) (dl dc : Nat) (fu : Bool) (w : World) (hx : w.heap[gr]? = some (.cells (cells51 xs) t0 (0, 0))) (hz : ∀ j, j < xs.length → xs[j]? = some z51) (hn : xs.length ≤ 64) (ha0 : 0 ≤ a) (ha1 : a < (xs.length : Int)) (kk r : Nat) (hr : Aside0 (cubbyholeref44_room.f kk (nn) (mm) = some (r : Int))) (h1 : 1 ≤ r) (h2 : r ≤ 1000000) (hmlo : -9223372036854775808 ≤ mm) (hmhi : mm < 9223372036854775808) (hp0 : Aside0 (refEnd mm = 1)) (hmm : mm ≤ 256) (he : askFull k3 k8 th nn fu = 0) :
    Calls Try.prog 9 #[.agg #[.int .i64 k0, .int .i64 k1, .int .i64 k2, .int .i64 k3, .int .i64 k4, .int .i64 k5, .int .i64 k6, .int .i64 k7, .int .i64 k8, .int .i64 k9, .int .u64 k10, .slice none 0 0, .slice (some ⟨gr, 0, none⟩) xs.length cr], .agg #[.int .i64 3, .int .i64 th, .int .i64 a, .int .i64 b, .int .i64 v, .int .i64 nn, .int .i64 mm, .slice A dl dc], .bool fu] w fun e w' => ∃ gl cap gR cR, e = .returned (.tuple #[.agg #[.int .i64 k0, .int .i64 k1, .int .i64 k2, .int .i64 k3, .int .i64 k4, .int .i64 k5, .int .i64 k6, .int .i64 k7, .int .i64 k8, .int .i64 k9, .int .u64 k10, .slice (some ⟨gl, 0, none⟩) 1 cap, .slice (some ⟨gR, 0, none⟩) xs.length cR], .agg #[.int .i64 0, .int .i64 0, .slice none 0 0]]) ∧ w'.cell? ⟨gl, 3, none⟩ = some (.bool true) ∧ w'.cell? ⟨gR, a.toNat * 5, none⟩ = some (.int .i64 (1)) ∧ w'.cell? ⟨gR, a.toNat * 5 + 1, none⟩ = some (.int .i64 (0)) ∧ w'.cell? ⟨gR, a.toNat * 5 + 2, none⟩ = some (.int .i64 (nn)) ∧ w'.cell? ⟨gR, a.toNat * 5 + 3, none⟩ = some (.int .i64 (0)) ∧ w'.cell? ⟨gR, a.toNat * 5 + 4, none⟩ = some (.int .i64 (31)) ∧ w.heap.size ≤ gR ∧ Below w.heap.size w w' := by
  have hu25 := Try.underlying25
  have hu40 := Try.underlying40
  have hu51 := Try.underlying51
  have hu35 := Try.underlying35
  obtain ⟨w1, hw1, HF, HR2⟩ : ∃ w1, (((w.alloc (.cells #[.int .i64 k0, .int .i64 k1, .int .i64 k2, .int .i64 k3, .int .i64 k4, .int .i64 k5, .int .i64 k6, .int .i64 k7, .int .i64 k8, .int .i64 k9, .int .u64 k10, .slice none 0 0, .slice (some ⟨gr, 0, none⟩) xs.length cr] 40)).alloc (.cells #[.int .i64 3, .int .i64 th, .int .i64 a, .int .i64 b, .int .i64 v, .int .i64 nn, .int .i64 mm, .slice A dl dc] 25)).alloc (.cells #[.int .i64 0, .int .i64 0, .int .i64 0, .int .i64 0, .int .i64 0, .int .i64 0, .int .i64 0, .int .i64 0, .int .i64 0, .int .i64 0, .int .u64 0, .slice none 0 0, .slice none 0 0] 40)).alloc (.cells #[.int .i64 0, .int .i64 0, .slice none 0 0] 35) = w1 ∧ Aside0 (MkF w w1 k0 k1 k2 k3 k4 k5 k6 k7 k8 k9 k10 (.slice none 0 0) (.slice (some ⟨gr, 0, none⟩) xs.length cr) #[.int .i64 3, .int .i64 th, .int .i64 a, .int .i64 b, .int .i64 v, .int .i64 nn, .int .i64 mm, .slice A dl dc]) ∧ Aside0 (w1.heap[w.heap.size + 1 + 1 + 1]? = some (.cells #[.int .i64 0, .int .i64 0, .slice none 0 0] 35 (0, 0))) := ⟨_, rfl, ⟨⟨blk_alloc (blk_alloc (blk_alloc (blk_new _ _) _) _) _, blk_alloc (blk_alloc (blk_new1 _ _ _) _) _, blk_alloc (blk_newb _ _ _ _) _, below_alloc (below_alloc (below_alloc (below_alloc (Below.refl _ _) _) _) _) _⟩⟩, ⟨blk_newc _ _ _ _ _⟩⟩
  have HX := Aside0.mk hx
  have HZ := Aside0.mk hz
  clear hx hz
  have n1 : w.heap.size + 1 + 1 ≠ w.heap.size + 1 + 1 + 1 := by omega
  have n2 : w.heap.size + 1 + 1 + 1 ≠ w.heap.size + 1 + 1 := by omega
  have daa : decide (a < 0) = false := decide_eq_false (by omega)
  have dab : decide ((xs.length : Int) ≤ a) = false := decide_eq_false (by omega)
  obtain ⟨ma_0, ma_1, ma_2, ma_3, ma_4, ma_5, ma_6, ma_7, ma_8, ma_9, ma_10, ma_11, ma_12⟩ := cellsR HF.out.m
  obtain ⟨oa_0, oa_1, oa_2, oa_3, oa_4, oa_5, oa_6, oa_7⟩ := cells8 HF.out.op
  obtain ⟨ra_0, ra_1, ra_2, ra_3, ra_4, ra_5, ra_6, ra_7, ra_8, ra_9, ra_10, ra_11, ra_12⟩ := cellsR HF.out.r
  obtain ⟨fa_0, fa_1, fa_2, fa_3, fa_4, fa_5, fa_6, fa_7, fa_8, fa_9, fa_10, fa_11, fa_12⟩ := frozR HF.out.r
  obtain ⟨pa0, pa1, pa2, qa0, qa1, qa2⟩ := cells3 HR2.out
  go_enter Try.func9, Try.ntmps9
  go_wp2_with fail
  refine (cubbyholeref44_Uses.calls 10 3 true false false _ (by kernel_rfl)).mono ?_
  rintro e w2 ⟨rfl, ⟨j, rfl⟩⟩
  go_wp2_with fail
  refine (rm3m k0 k1 k2 k3 k4 k5 k6 k7 k8 k9 k10 gr cr xs th a b v nn mm A dl dc fu _ t0 (blk_drewN (blk_below HX.out HF.out.b) _) ha0 ha1 hn kk r hr.out h1 h2 hmlo hmhi hp0.out hmm he).mono ?_
  rintro e w3 ⟨gl, cap, gR, cR, rfl, hgl, g0, g1, g2, g3, g4, hgR, hbj⟩
  have hb := below_step (pw_below_drewN (Below.refl w1.heap.size w1) j) hbj
  obtain ⟨w4, hw4, HF4, HR4⟩ : ∃ w0, (((((((((((((w3.setCell ⟨w.heap.size, 0, none⟩ (.int .i64 k0)).setCell ⟨w.heap.size, 1, none⟩ (.int .i64 k1)).setCell ⟨w.heap.size, 2, none⟩ (.int .i64 k2)).setCell ⟨w.heap.size, 3, none⟩ (.int .i64 k3)).setCell ⟨w.heap.size, 4, none⟩ (.int .i64 k4)).setCell ⟨w.heap.size, 5, none⟩ (.int .i64 k5)).setCell ⟨w.heap.size, 6, none⟩ (.int .i64 k6)).setCell ⟨w.heap.size, 7, none⟩ (.int .i64 k7)).setCell ⟨w.heap.size, 8, none⟩ (.int .i64 k8)).setCell ⟨w.heap.size, 9, none⟩ (.int .i64 k9)).setCell ⟨w.heap.size, 10, none⟩ (.int .u64 k10)).setCell ⟨w.heap.size, 11, none⟩ (.slice (some ⟨gl, 0, none⟩) 1 cap)).setCell ⟨w.heap.size, 12, none⟩ (.slice (some ⟨gR, 0, none⟩) xs.length cR)) = w0 ∧ Aside0 (MkF w w0 k0 k1 k2 k3 k4 k5 k6 k7 k8 k9 k10 (.slice (some ⟨gl, 0, none⟩) 1 cap) (.slice (some ⟨gR, 0, none⟩) xs.length cR) _) ∧ Aside0 (w0.heap[w.heap.size + 1 + 1 + 1]? = some (.cells #[.int .i64 0, .int .i64 0, .slice none 0 0] 35 (0, 0))) := ⟨_, rfl, ⟨MkF.putn (MkF.below HF.out hb)⟩, ⟨blk_put13 (blk_below HR2.out hb) (by omega)⟩⟩
  have HF3 := Aside0.mk (show MkF w w3 k0 k1 k2 k3 k4 k5 k6 k7 k8 k9 k10 (.slice none 0 0) (.slice (some ⟨gr, 0, none⟩) xs.length cr) _ from MkF.below HF.out hb)
  have HR3 := Aside0.mk (blk_below HR2.out hb)
  have HG := Aside0.mk (And.intro g0 (And.intro g1 (And.intro g2 (And.intro g3 (And.intro g4 (Nat.lt_of_lt_of_le (blk_lt HR2.out) (show w1.heap.size ≤ gR from hgR)))))))
  have HL := Aside0.mk hgl
  clear hb hbj g0 g1 g2 g3 g4 hgR hgl ma_0 ma_1 ma_2 ma_3 ma_4 ma_5 ma_6 ma_7 ma_8 ma_9 ma_10 ma_11 ma_12 oa_0 oa_1 oa_2 oa_3 oa_4 oa_5 oa_6 oa_7 ra_0 ra_1 ra_2 ra_3 ra_4 ra_5 ra_6 ra_7 ra_8 ra_9 ra_10 ra_11 ra_12 fa_0 fa_1 fa_2 fa_3 fa_4 fa_5 fa_6 fa_7 fa_8 fa_9 fa_10 fa_11 fa_12 pa0 pa1 pa2 qa0 qa1 qa2
  obtain ⟨mb_0, mb_1, mb_2, mb_3, mb_4, mb_5, mb_6, mb_7, mb_8, mb_9, mb_10, mb_11, mb_12⟩ := cellsR HF3.out.m
  obtain ⟨fb_0, fb_1, fb_2, fb_3, fb_4, fb_5, fb_6, fb_7, fb_8, fb_9, fb_10, fb_11, fb_12⟩ := frozR HF3.out.m
  obtain ⟨mc_0, mc_1, mc_2, mc_3, mc_4, mc_5, mc_6, mc_7, mc_8, mc_9, mc_10, mc_11, mc_12⟩ := cellsR HF4.out.m
  obtain ⟨oc_0, oc_1, oc_2, oc_3, oc_4, oc_5, oc_6, oc_7⟩ := cells8 HF4.out.op
  obtain ⟨rc_0, rc_1, rc_2, rc_3, rc_4, rc_5, rc_6, rc_7, rc_8, rc_9, rc_10, rc_11, rc_12⟩ := cellsR HF4.out.r
  obtain ⟨fc_0, fc_1, fc_2, fc_3, fc_4, fc_5, fc_6, fc_7, fc_8, fc_9, fc_10, fc_11, fc_12⟩ := frozR HF4.out.r
  obtain ⟨pc0, pc1, pc2, qc0, qc1, qc2⟩ := cells3 HR4.out
  go_wp2
  refine bodyPost_ret (retRd rfl _ _ (w.heap.size + 1 + 1) (w.heap.size + 1 + 1 + 1) #[.int .i64 k0, .int .i64 k1, .int .i64 k2, .int .i64 k3, .int .i64 k4, .int .i64 k5, .int .i64 k6, .int .i64 k7, .int .i64 k8, .int .i64 k9, .int .u64 k10, .slice (some ⟨gl, 0, none⟩) 1 cap, .slice (some ⟨gR, 0, none⟩) xs.length cR] #[.int .i64 0, .int .i64 0, .slice none 0 0] rfl rfl rfl rfl (by first | (with_reducible exact blk_put3 (put13 _ _ _ _ _ _ _ _ _ _ _ _ _  HF4.out.r) n1) | exact blk_put3 (put13 _ _ _ _ _ _ _ _ _ _ _ _ _  (HF4.out.drewN _).r) n1) (by first | (with_reducible exact put3 _ _ _ (blk_put13 HR4.out n2)) | exact put3 _ _ _ (blk_put13 (blk_drewN HR4.out _) n2))) rfl ?_
  obtain ⟨g0, g1, g2, g3, g4, hgR⟩ := HG.out
  have hgl := HL.out
  have l1 : gl ≠ w.heap.size := ne_cell hgl ((blk_cell HF3.out.m 3).trans rfl)
  have l2 : gl ≠ w.heap.size + 1 + 1 := ne_cell hgl ((blk_cell HF3.out.r 3).trans rfl)
  have l3 : gl ≠ w.heap.size + 1 + 1 + 1 := ne_none hgl ((blk_cell HR3.out 3).trans rfl)
  exact ⟨gl, cap, gR, cR, rfl, cell_put3 (cell_put13 (by rw [← hw4]; exact cell_put13 hgl l1) l2) l3, cell_put3 (cell_put13 (by rw [← hw4]; exact cell_put13 g0 (by omega)) (by omega)) (by omega), cell_put3 (cell_put13 (by rw [← hw4]; exact cell_put13 g1 (by omega)) (by omega)) (by omega), cell_put3 (cell_put13 (by rw [← hw4]; exact cell_put13 g2 (by omega)) (by omega)) (by omega), cell_put3 (cell_put13 (by rw [← hw4]; exact cell_put13 g3 (by omega)) (by omega)) (by omega), cell_put3 (cell_put13 (by rw [← hw4]; exact cell_put13 g4 (by omega)) (by omega)) (by omega), by omega, by repeat (first | (with_reducible exact HF4.out.b) | (with_reducible refine below_set ?_ (by omega)))⟩

end Go.Proofs.Ytneejihmakfaoaa.OwnModel
