/- Walks of the reference's functions by hand: renews, derives. Conditions: the reference's model is empty. Printed by gen_ref.py. -/
import Derived.Test.YtneejihmakfaoaaOwnRefD
import Derived.BigQuiet
import Derived.Deep.RegionLaw
import Derived.ArgAppend
namespace Go.Proofs.Ytneejihmakfaoaa.OwnModel
open Go.RowKit Go.Proofs.Ytneejihmakfaoaa.OwnMask Go.Proofs.Ytneejihmakfaoaa.QModelOne Go.Proofs.YtneejihmakfaoaaW.PrintWords Go.Proofs.YtneejihmakfaoaaW.PrintLast Go.Proofs.YtneejihmakfaoaaW.PrintMore
set_option linter.unusedVariables false
set_option linter.unusedSimpArgs false
theorem askFull_false (t m a n : Int) : askFull t m a n false = askOf t m a n := by
  unfold askFull
  by_cases h : askOf t m a n = 0
  · rw [if_neg (by simpa using h), h]
    rfl
  · rw [if_pos h]
theorem blk_newc (w : World) (o1 o2 o3 o4 : Obj) : ((((w.alloc o1).alloc o2).alloc o3).alloc o4).heap[w.heap.size + 1 + 1 + 1]? = some o4 := by
  have h := blk_newb (w.alloc o1) o2 o3 o4
  rwa [World.size_alloc] at h
set_option maxHeartbeats 8000000 in
set_option maxRecDepth 100000 in
theorem rGetZ (k0 k1 k2 k3 k4 k5 k6 k7 k8 k9 k10 : Int) (lv : Value) (gr cr : Nat) (t0 : TypeId) (xs : List S51) (b : Int) (w : World) (hx : w.heap[gr]? = some (.cells (cells51 xs) t0 (0, 0))) (hz : ∀ j, j < xs.length → xs[j]? = some z51) (h0 : 0 ≤ b) (h1 : b < (xs.length : Int)) :
    Calls Try.prog 16 #[.agg #[.int .i64 k0, .int .i64 k1, .int .i64 k2, .int .i64 k3, .int .i64 k4, .int .i64 k5, .int .i64 k6, .int .i64 k7, .int .i64 k8, .int .i64 k9, .int .u64 k10, lv, .slice (some ⟨gr, 0, none⟩) xs.length cr], .int .i64 b] w fun e w' => e = .returned (.agg #[.int .i64 0, .int .i64 0, .int .i64 0, .int .i64 0, .int .i64 0]) ∧ Below w.heap.size w w' := by
  have hp := hz b.toNat (by omega)
  exact rGet0 k0 k1 k2 k3 k4 k5 k6 k7 k8 k9 k10 lv gr xs.length cr b w h0 h1 ⟨regs_cell hx _ _ hp 0 (by decide), regs_cell hx _ _ hp 1 (by decide), regs_cell hx _ _ hp 2 (by decide), regs_cell hx _ _ hp 3 (by decide), regs_cell hx _ _ hp 4 (by decide)⟩

set_option maxHeartbeats 8000000 in
set_option maxRecDepth 100000 in
theorem rRenews (k0 k1 k2 k3 k4 k5 k6 k7 k8 k9 k10 : Int) (gr cr : Nat) (t0 : TypeId) (xs : List S51) (th a b v nn mm : Int) (A : Option Addr) (dl dc : Nat) (w : World) (hx : w.heap[gr]? = some (.cells (cells51 xs) t0 (0, 0))) (hz : ∀ j, j < xs.length → xs[j]? = some z51) (hn : xs.length ≤ 64) (hb0 : 0 ≤ b) (hb1 : b < (xs.length : Int)) (fu : Bool) (x : Int) (hq : (if askOf k3 k8 th nn = 0 then 7 else askOf k3 k8 th nn) = x) :
    Calls Try.prog 27 #[.agg #[.int .i64 k0, .int .i64 k1, .int .i64 k2, .int .i64 k3, .int .i64 k4, .int .i64 k5, .int .i64 k6, .int .i64 k7, .int .i64 k8, .int .i64 k9, .int .u64 k10, .slice none 0 0, .slice (some ⟨gr, 0, none⟩) xs.length cr], .agg #[.int .i64 5, .int .i64 th, .int .i64 a, .int .i64 b, .int .i64 v, .int .i64 nn, .int .i64 mm, .slice A dl dc], .bool fu] w fun e w' => e = .returned (.tuple #[.agg #[.int .i64 k0, .int .i64 k1, .int .i64 k2, .int .i64 k3, .int .i64 k4, .int .i64 k5, .int .i64 k6, .int .i64 k7, .int .i64 k8, .int .i64 k9, .int .u64 k10, .slice none 0 0, .slice (some ⟨gr, 0, none⟩) xs.length cr], .int .i64 x]) ∧ Below w.heap.size w w' := by
  have hu25 := Try.underlying25
  have hu40 := Try.underlying40
  have hu51 := Try.underlying51
  have hu29 := Try.underlying29
  have hu35 := Try.underlying35
  have hu33 := Try.underlying33
  obtain ⟨w1, hw1, HF⟩ : ∃ w1, ((w.alloc (.cells #[.int .i64 k0, .int .i64 k1, .int .i64 k2, .int .i64 k3, .int .i64 k4, .int .i64 k5, .int .i64 k6, .int .i64 k7, .int .i64 k8, .int .i64 k9, .int .u64 k10, .slice none 0 0, .slice (some ⟨gr, 0, none⟩) xs.length cr] 40)).alloc (.cells #[.int .i64 5, .int .i64 th, .int .i64 a, .int .i64 b, .int .i64 v, .int .i64 nn, .int .i64 mm, .slice A dl dc] 25)).alloc (.cells #[.int .i64 0, .int .i64 0, .int .i64 0, .int .i64 0, .int .i64 0, .int .i64 0, .int .i64 0, .int .i64 0, .int .i64 0, .int .i64 0, .int .u64 0, .slice none 0 0, .slice none 0 0] 40) = w1 ∧ Aside0 (MkF w w1 k0 k1 k2 k3 k4 k5 k6 k7 k8 k9 k10 (.slice none 0 0) (.slice (some ⟨gr, 0, none⟩) xs.length cr) #[.int .i64 5, .int .i64 th, .int .i64 a, .int .i64 b, .int .i64 v, .int .i64 nn, .int .i64 mm, .slice A dl dc]) := ⟨_, rfl, ⟨⟨blk_alloc (blk_alloc (blk_new _ _) _) _, blk_alloc (blk_new1 _ _ _) _, blk_newb _ _ _ _, below_alloc (below_alloc (below_alloc (Below.refl _ _) _) _) _⟩⟩⟩
  have HX := Aside0.mk hx
  have HZ := Aside0.mk hz
  clear hx hz
  obtain ⟨ma_0, ma_1, ma_2, ma_3, ma_4, ma_5, ma_6, ma_7, ma_8, ma_9, ma_10, ma_11, ma_12⟩ := cellsR HF.out.m
  obtain ⟨oa_0, oa_1, oa_2, oa_3, oa_4, oa_5, oa_6, oa_7⟩ := cells8 HF.out.op
  obtain ⟨ra_0, ra_1, ra_2, ra_3, ra_4, ra_5, ra_6, ra_7, ra_8, ra_9, ra_10, ra_11, ra_12⟩ := cellsR HF.out.r
  obtain ⟨fa_0, fa_1, fa_2, fa_3, fa_4, fa_5, fa_6, fa_7, fa_8, fa_9, fa_10, fa_11, fa_12⟩ := frozR HF.out.r
  have haf := askFull_false k3 k8 th nn
  rcases askOf_is k3 k8 th nn with he | he | he
  · rw [if_pos he] at hq
    subst hq
    rw [he] at haf
    go_enter Try.func27, Try.ntmps27
    go_wp2_with fail
    refine (rAsk k0 k1 k2 k3 k4 k5 k6 k7 k8 k9 k10 (.slice none 0 0) (.slice (some ⟨gr, 0, none⟩) xs.length cr) th nn _ 0 _ haf).mono ?_
    rintro e w2 ⟨rfl, hb⟩
    have HF2 := Aside0.mk (show MkF w w2 k0 k1 k2 k3 k4 k5 k6 k7 k8 k9 k10 (.slice none 0 0) (.slice (some ⟨gr, 0, none⟩) xs.length cr) _ from MkF.below HF.out hb)
    clear hb haf he ma_0 ma_1 ma_2 ma_3 ma_4 ma_5 ma_6 ma_7 ma_8 ma_9 ma_10 ma_11 ma_12 oa_0 oa_1 oa_2 oa_3 oa_4 oa_5 oa_6 oa_7 ra_0 ra_1 ra_2 ra_3 ra_4 ra_5 ra_6 ra_7 ra_8 ra_9 ra_10 ra_11 ra_12 fa_0 fa_1 fa_2 fa_3 fa_4 fa_5 fa_6 fa_7 fa_8 fa_9 fa_10 fa_11 fa_12
    obtain ⟨mb_0, mb_1, mb_2, mb_3, mb_4, mb_5, mb_6, mb_7, mb_8, mb_9, mb_10, mb_11, mb_12⟩ := cellsR HF2.out.m
    obtain ⟨ob_0, ob_1, ob_2, ob_3, ob_4, ob_5, ob_6, ob_7⟩ := cells8 HF2.out.op
    obtain ⟨rb_0, rb_1, rb_2, rb_3, rb_4, rb_5, rb_6, rb_7, rb_8, rb_9, rb_10, rb_11, rb_12⟩ := cellsR HF2.out.r
    obtain ⟨fb_0, fb_1, fb_2, fb_3, fb_4, fb_5, fb_6, fb_7, fb_8, fb_9, fb_10, fb_11, fb_12⟩ := frozR HF2.out.r
    go_wp2_with fail
    refine (rGetZ k0 k1 k2 k3 k4 k5 k6 k7 k8 k9 k10 (.slice none 0 0) gr cr t0 xs b _ (blk_below HX.out HF2.out.b) HZ.out hb0 hb1).mono ?_
    rintro e w3 ⟨rfl, hbg⟩
    have HG3 := Aside0.mk (show MkF w w3 k0 k1 k2 k3 k4 k5 k6 k7 k8 k9 k10 (.slice none 0 0) (.slice (some ⟨gr, 0, none⟩) xs.length cr) _ from MkF.below HF2.out hbg)
    clear hbg
    go_upto_region 5 with fail
    obtain ⟨w4, hwx, HF4, HY⟩ : ∃ w0, w3.alloc (.cells #[.int .i64 0, .int .i64 0, .int .i64 0, .int .i64 0, .int .i64 0] 51) = w0 ∧ Aside0 (MkF w w0 k0 k1 k2 k3 k4 k5 k6 k7 k8 k9 k10 (.slice none 0 0) (.slice (some ⟨gr, 0, none⟩) xs.length cr) _) ∧ Aside0 (w0.heap[w3.heap.size]? = some (.cells #[.int .i64 0, .int .i64 0, .int .i64 0, .int .i64 0, .int .i64 0] 51 (0, 0))) := ⟨_, rfl, ⟨MkF.below HG3.out (below_alloc (Below.refl _ _) _)⟩, ⟨blk_new _ _⟩⟩
    rw [hwx]
    clear hwx
    clear mb_0 mb_1 mb_2 mb_3 mb_4 mb_5 mb_6 mb_7 mb_8 mb_9 mb_10 mb_11 mb_12 ob_0 ob_1 ob_2 ob_3 ob_4 ob_5 ob_6 ob_7 rb_0 rb_1 rb_2 rb_3 rb_4 rb_5 rb_6 rb_7 rb_8 rb_9 rb_10 rb_11 rb_12 fb_0 fb_1 fb_2 fb_3 fb_4 fb_5 fb_6 fb_7 fb_8 fb_9 fb_10 fb_11 fb_12
    obtain ⟨mc_0, mc_1, mc_2, mc_3, mc_4, mc_5, mc_6, mc_7, mc_8, mc_9, mc_10, mc_11, mc_12⟩ := cellsR HF4.out.m
    obtain ⟨oc_0, oc_1, oc_2, oc_3, oc_4, oc_5, oc_6, oc_7⟩ := cells8 HF4.out.op
    obtain ⟨rc_0, rc_1, rc_2, rc_3, rc_4, rc_5, rc_6, rc_7, rc_8, rc_9, rc_10, rc_11, rc_12⟩ := cellsR HF4.out.r
    obtain ⟨fc_0, fc_1, fc_2, fc_3, fc_4, fc_5, fc_6, fc_7, fc_8, fc_9, fc_10, fc_11, fc_12⟩ := frozR HF4.out.r
    obtain ⟨x0, x1, x2, x3, x4, y0, y1, y2, y3, y4⟩ := cells5 HY.out
    go_wp2_with fail
    refine (rWhole0 k0 k1 k2 k3 k4 k5 k6 k7 k8 k9 k10 (.slice none 0 0) (.slice (some ⟨gr, 0, none⟩) xs.length cr) _).mono ?_
    rintro e w5 ⟨rfl, hb⟩
    have HF5 := Aside0.mk (show MkF w w5 k0 k1 k2 k3 k4 k5 k6 k7 k8 k9 k10 (.slice none 0 0) (.slice (some ⟨gr, 0, none⟩) xs.length cr) _ from MkF.below HF4.out hb)
    clear hb x0 x1 x2 x3 x4 y0 y1 y2 y3 y4 mc_0 mc_1 mc_2 mc_3 mc_4 mc_5 mc_6 mc_7 mc_8 mc_9 mc_10 mc_11 mc_12 oc_0 oc_1 oc_2 oc_3 oc_4 oc_5 oc_6 oc_7 rc_0 rc_1 rc_2 rc_3 rc_4 rc_5 rc_6 rc_7 rc_8 rc_9 rc_10 rc_11 rc_12 fc_0 fc_1 fc_2 fc_3 fc_4 fc_5 fc_6 fc_7 fc_8 fc_9 fc_10 fc_11 fc_12
    obtain ⟨md_0, md_1, md_2, md_3, md_4, md_5, md_6, md_7, md_8, md_9, md_10, md_11, md_12⟩ := cellsR HF5.out.m
    obtain ⟨od_0, od_1, od_2, od_3, od_4, od_5, od_6, od_7⟩ := cells8 HF5.out.op
    obtain ⟨rd_0, rd_1, rd_2, rd_3, rd_4, rd_5, rd_6, rd_7, rd_8, rd_9, rd_10, rd_11, rd_12⟩ := cellsR HF5.out.r
    obtain ⟨fd_0, fd_1, fd_2, fd_3, fd_4, fd_5, fd_6, fd_7, fd_8, fd_9, fd_10, fd_11, fd_12⟩ := frozR HF5.out.r
    go_wp2
    refine bodyPost_ret (retRe rfl _ _ (w.heap.size + 1 + 1) #[.int .i64 k0, .int .i64 k1, .int .i64 k2, .int .i64 k3, .int .i64 k4, .int .i64 k5, .int .i64 k6, .int .i64 k7, .int .i64 k8, .int .i64 k9, .int .u64 k10, .slice none 0 0, .slice (some ⟨gr, 0, none⟩) xs.length cr] rfl rfl (put13 _ _ _ _ _ _ _ _ _ _ _ _ _  HF5.out.r)) rfl ?_
    exact ⟨rfl, by repeat (first | (with_reducible exact HF5.out.b) | (with_reducible apply below_drew1) | (with_reducible refine below_set ?_ (by omega)))⟩
  all_goals
    rw [if_neg (by rw [he]; decide)] at hq
    rw [hq] at he haf
    subst he
    go_enter Try.func27, Try.ntmps27
    go_wp2_with fail
    refine (rAsk k0 k1 k2 k3 k4 k5 k6 k7 k8 k9 k10 (.slice none 0 0) (.slice (some ⟨gr, 0, none⟩) xs.length cr) th nn _ _ _ haf).mono ?_
    rintro e w2 ⟨rfl, hb⟩
    have HF2 := Aside0.mk (show MkF w w2 k0 k1 k2 k3 k4 k5 k6 k7 k8 k9 k10 (.slice none 0 0) (.slice (some ⟨gr, 0, none⟩) xs.length cr) _ from MkF.below HF.out hb)
    clear hb haf hq ma_0 ma_1 ma_2 ma_3 ma_4 ma_5 ma_6 ma_7 ma_8 ma_9 ma_10 ma_11 ma_12 oa_0 oa_1 oa_2 oa_3 oa_4 oa_5 oa_6 oa_7 ra_0 ra_1 ra_2 ra_3 ra_4 ra_5 ra_6 ra_7 ra_8 ra_9 ra_10 ra_11 ra_12 fa_0 fa_1 fa_2 fa_3 fa_4 fa_5 fa_6 fa_7 fa_8 fa_9 fa_10 fa_11 fa_12
    obtain ⟨mb_0, mb_1, mb_2, mb_3, mb_4, mb_5, mb_6, mb_7, mb_8, mb_9, mb_10, mb_11, mb_12⟩ := cellsR HF2.out.m
    obtain ⟨ob_0, ob_1, ob_2, ob_3, ob_4, ob_5, ob_6, ob_7⟩ := cells8 HF2.out.op
    obtain ⟨rb_0, rb_1, rb_2, rb_3, rb_4, rb_5, rb_6, rb_7, rb_8, rb_9, rb_10, rb_11, rb_12⟩ := cellsR HF2.out.r
    obtain ⟨fb_0, fb_1, fb_2, fb_3, fb_4, fb_5, fb_6, fb_7, fb_8, fb_9, fb_10, fb_11, fb_12⟩ := frozR HF2.out.r
    go_wp2
    refine bodyPost_ret (retRe rfl _ _ (w.heap.size + 1 + 1) #[.int .i64 k0, .int .i64 k1, .int .i64 k2, .int .i64 k3, .int .i64 k4, .int .i64 k5, .int .i64 k6, .int .i64 k7, .int .i64 k8, .int .i64 k9, .int .u64 k10, .slice none 0 0, .slice (some ⟨gr, 0, none⟩) xs.length cr] rfl rfl (put13 _ _ _ _ _ _ _ _ _ _ _ _ _  HF2.out.r)) rfl ?_
    exact ⟨rfl, by repeat (first | (with_reducible exact HF2.out.b) | (with_reducible apply below_drew1) | (with_reducible refine below_set ?_ (by omega)))⟩

set_option maxHeartbeats 8000000 in
set_option maxRecDepth 100000 in
theorem rDerives (k0 k1 k2 k3 k4 k5 k6 k7 k8 k9 k10 : Int) (gr cr : Nat) (t0 : TypeId) (xs : List S51) (kd th a b v nn mm : Int) (A : Option Addr) (dl dc : Nat) (w : World) (hx : w.heap[gr]? = some (.cells (cells51 xs) t0 (0, 0))) (hz : ∀ j, j < xs.length → xs[j]? = some z51) (hn : xs.length ≤ 64) (hb0 : 0 ≤ b) (hb1 : b < (xs.length : Int)) (hk : kd = 7 ∨ kd = 8 ∨ kd = 9) :
    Calls Try.prog 28 #[.agg #[.int .i64 k0, .int .i64 k1, .int .i64 k2, .int .i64 k3, .int .i64 k4, .int .i64 k5, .int .i64 k6, .int .i64 k7, .int .i64 k8, .int .i64 k9, .int .u64 k10, .slice none 0 0, .slice (some ⟨gr, 0, none⟩) xs.length cr], .agg #[.int .i64 kd, .int .i64 th, .int .i64 a, .int .i64 b, .int .i64 v, .int .i64 nn, .int .i64 mm, .slice A dl dc]] w fun e w' => e = .returned (.tuple #[.agg #[.int .i64 k0, .int .i64 k1, .int .i64 k2, .int .i64 k3, .int .i64 k4, .int .i64 k5, .int .i64 k6, .int .i64 k7, .int .i64 k8, .int .i64 k9, .int .u64 k10, .slice none 0 0, .slice (some ⟨gr, 0, none⟩) xs.length cr], .int .i64 7]) ∧ Below w.heap.size w w' := by
  have hu25 := Try.underlying25
  have hu40 := Try.underlying40
  have hu51 := Try.underlying51
  have hu29 := Try.underlying29
  have hu35 := Try.underlying35
  have hu33 := Try.underlying33
  obtain ⟨w1, hw1, HF⟩ : ∃ w1, ((w.alloc (.cells #[.int .i64 k0, .int .i64 k1, .int .i64 k2, .int .i64 k3, .int .i64 k4, .int .i64 k5, .int .i64 k6, .int .i64 k7, .int .i64 k8, .int .i64 k9, .int .u64 k10, .slice none 0 0, .slice (some ⟨gr, 0, none⟩) xs.length cr] 40)).alloc (.cells #[.int .i64 kd, .int .i64 th, .int .i64 a, .int .i64 b, .int .i64 v, .int .i64 nn, .int .i64 mm, .slice A dl dc] 25)).alloc (.cells #[.int .i64 0, .int .i64 0, .int .i64 0, .int .i64 0, .int .i64 0, .int .i64 0, .int .i64 0, .int .i64 0, .int .i64 0, .int .i64 0, .int .u64 0, .slice none 0 0, .slice none 0 0] 40) = w1 ∧ Aside0 (MkF w w1 k0 k1 k2 k3 k4 k5 k6 k7 k8 k9 k10 (.slice none 0 0) (.slice (some ⟨gr, 0, none⟩) xs.length cr) #[.int .i64 kd, .int .i64 th, .int .i64 a, .int .i64 b, .int .i64 v, .int .i64 nn, .int .i64 mm, .slice A dl dc]) := ⟨_, rfl, ⟨⟨blk_alloc (blk_alloc (blk_new _ _) _) _, blk_alloc (blk_new1 _ _ _) _, blk_newb _ _ _ _, below_alloc (below_alloc (below_alloc (Below.refl _ _) _) _) _⟩⟩⟩
  have HX := Aside0.mk hx
  have HZ := Aside0.mk hz
  clear hx hz
  have kk1 : (kd == 10) = false := beq_eq_false_iff_ne.2 (by omega)
  have kk2 : (kd == 13) = false := beq_eq_false_iff_ne.2 (by omega)
  obtain ⟨ma_0, ma_1, ma_2, ma_3, ma_4, ma_5, ma_6, ma_7, ma_8, ma_9, ma_10, ma_11, ma_12⟩ := cellsR HF.out.m
  obtain ⟨oa_0, oa_1, oa_2, oa_3, oa_4, oa_5, oa_6, oa_7⟩ := cells8 HF.out.op
  obtain ⟨ra_0, ra_1, ra_2, ra_3, ra_4, ra_5, ra_6, ra_7, ra_8, ra_9, ra_10, ra_11, ra_12⟩ := cellsR HF.out.r
  obtain ⟨fa_0, fa_1, fa_2, fa_3, fa_4, fa_5, fa_6, fa_7, fa_8, fa_9, fa_10, fa_11, fa_12⟩ := frozR HF.out.r
  go_enter Try.func28, Try.ntmps28
  go_wp2_with fail
  refine (rGetZ k0 k1 k2 k3 k4 k5 k6 k7 k8 k9 k10 (.slice none 0 0) gr cr t0 xs b _ (blk_below HX.out HF.out.b) HZ.out hb0 hb1).mono ?_
  rintro e w3 ⟨rfl, hbg⟩
  have HG3 := Aside0.mk (show MkF w w3 k0 k1 k2 k3 k4 k5 k6 k7 k8 k9 k10 (.slice none 0 0) (.slice (some ⟨gr, 0, none⟩) xs.length cr) _ from MkF.below HF.out hbg)
  clear hbg
  go_upto_region 2 with fail
  obtain ⟨w4, hwx, HF4, HY⟩ : ∃ w0, w3.alloc (.cells #[.int .i64 0, .int .i64 0, .int .i64 0, .int .i64 0, .int .i64 0] 51) = w0 ∧ Aside0 (MkF w w0 k0 k1 k2 k3 k4 k5 k6 k7 k8 k9 k10 (.slice none 0 0) (.slice (some ⟨gr, 0, none⟩) xs.length cr) _) ∧ Aside0 (w0.heap[w3.heap.size]? = some (.cells #[.int .i64 0, .int .i64 0, .int .i64 0, .int .i64 0, .int .i64 0] 51 (0, 0))) := ⟨_, rfl, ⟨MkF.below HG3.out (below_alloc (Below.refl _ _) _)⟩, ⟨blk_new _ _⟩⟩
  rw [hwx]
  clear hwx
  clear ma_0 ma_1 ma_2 ma_3 ma_4 ma_5 ma_6 ma_7 ma_8 ma_9 ma_10 ma_11 ma_12 oa_0 oa_1 oa_2 oa_3 oa_4 oa_5 oa_6 oa_7 ra_0 ra_1 ra_2 ra_3 ra_4 ra_5 ra_6 ra_7 ra_8 ra_9 ra_10 ra_11 ra_12 fa_0 fa_1 fa_2 fa_3 fa_4 fa_5 fa_6 fa_7 fa_8 fa_9 fa_10 fa_11 fa_12
  obtain ⟨x0, x1, x2, x3, x4, _⟩ := cells5 HY.out
  go_upto_region 4 with fail
  obtain ⟨w5, hwy, HF5, HX5, HY5⟩ : ∃ w0, w4.alloc (.cells #[.int .i64 0, .int .i64 0, .int .i64 0, .int .i64 0, .int .i64 0] 51) = w0 ∧ Aside0 (MkF w w0 k0 k1 k2 k3 k4 k5 k6 k7 k8 k9 k10 (.slice none 0 0) (.slice (some ⟨gr, 0, none⟩) xs.length cr) _) ∧ Aside0 (w0.heap[w3.heap.size]? = some (.cells #[.int .i64 0, .int .i64 0, .int .i64 0, .int .i64 0, .int .i64 0] 51 (0, 0))) ∧ Aside0 (w0.heap[w4.heap.size]? = some (.cells #[.int .i64 0, .int .i64 0, .int .i64 0, .int .i64 0, .int .i64 0] 51 (0, 0))) := ⟨_, rfl, ⟨MkF.below HF4.out (below_alloc (Below.refl _ _) _)⟩, ⟨blk_alloc HY.out _⟩, ⟨blk_new _ _⟩⟩
  rw [hwy]
  clear hwy x0 x1 x2 x3 x4
  obtain ⟨md_0, md_1, md_2, md_3, md_4, md_5, md_6, md_7, md_8, md_9, md_10, md_11, md_12⟩ := cellsR HF5.out.m
  obtain ⟨od_0, od_1, od_2, od_3, od_4, od_5, od_6, od_7⟩ := cells8 HF5.out.op
  obtain ⟨rd_0, rd_1, rd_2, rd_3, rd_4, rd_5, rd_6, rd_7, rd_8, rd_9, rd_10, rd_11, rd_12⟩ := cellsR HF5.out.r
  obtain ⟨fd_0, fd_1, fd_2, fd_3, fd_4, fd_5, fd_6, fd_7, fd_8, fd_9, fd_10, fd_11, fd_12⟩ := frozR HF5.out.r
  obtain ⟨p0, p1, p2, p3, p4, _⟩ := cells5 HX5.out
  obtain ⟨q0, q1, q2, q3, q4, _⟩ := cells5 HY5.out
  go_wp2
  refine bodyPost_ret (retRe rfl _ _ (w.heap.size + 1 + 1) #[.int .i64 k0, .int .i64 k1, .int .i64 k2, .int .i64 k3, .int .i64 k4, .int .i64 k5, .int .i64 k6, .int .i64 k7, .int .i64 k8, .int .i64 k9, .int .u64 k10, .slice none 0 0, .slice (some ⟨gr, 0, none⟩) xs.length cr] rfl rfl (put13 _ _ _ _ _ _ _ _ _ _ _ _ _  HF5.out.r)) rfl ?_
  exact ⟨rfl, by repeat (first | (with_reducible exact HF5.out.b) | (with_reducible apply below_drew1) | (with_reducible refine below_set ?_ (by omega)))⟩

set_option maxHeartbeats 8000000 in
set_option maxRecDepth 100000 in
theorem rDerivesL (k0 k1 k2 k3 k4 k5 k6 k7 k8 k9 k10 : Int) (gr cr : Nat) (t0 : TypeId) (xs : List S51) (th a b v nn mm : Int) (A : Option Addr) (dl dc : Nat) (w : World) (hx : w.heap[gr]? = some (.cells (cells51 xs) t0 (0, 0))) (hz : ∀ j, j < xs.length → xs[j]? = some z51) (hn : xs.length ≤ 64) (hb0 : 0 ≤ b) (hb1 : b < (xs.length : Int)) :
    Calls Try.prog 28 #[.agg #[.int .i64 k0, .int .i64 k1, .int .i64 k2, .int .i64 k3, .int .i64 k4, .int .i64 k5, .int .i64 k6, .int .i64 k7, .int .i64 k8, .int .i64 k9, .int .u64 k10, .slice none 0 0, .slice (some ⟨gr, 0, none⟩) xs.length cr], .agg #[.int .i64 13, .int .i64 th, .int .i64 a, .int .i64 b, .int .i64 v, .int .i64 nn, .int .i64 mm, .slice A dl dc]] w fun e w' => e = .returned (.tuple #[.agg #[.int .i64 k0, .int .i64 k1, .int .i64 k2, .int .i64 k3, .int .i64 k4, .int .i64 k5, .int .i64 k6, .int .i64 k7, .int .i64 k8, .int .i64 k9, .int .u64 k10, .slice none 0 0, .slice (some ⟨gr, 0, none⟩) xs.length cr], .int .i64 7]) ∧ Below w.heap.size w w' := by
  have hu25 := Try.underlying25
  have hu40 := Try.underlying40
  have hu51 := Try.underlying51
  have hu29 := Try.underlying29
  have hu35 := Try.underlying35
  have hu33 := Try.underlying33
  obtain ⟨w1, hw1, HF⟩ : ∃ w1, ((w.alloc (.cells #[.int .i64 k0, .int .i64 k1, .int .i64 k2, .int .i64 k3, .int .i64 k4, .int .i64 k5, .int .i64 k6, .int .i64 k7, .int .i64 k8, .int .i64 k9, .int .u64 k10, .slice none 0 0, .slice (some ⟨gr, 0, none⟩) xs.length cr] 40)).alloc (.cells #[.int .i64 13, .int .i64 th, .int .i64 a, .int .i64 b, .int .i64 v, .int .i64 nn, .int .i64 mm, .slice A dl dc] 25)).alloc (.cells #[.int .i64 0, .int .i64 0, .int .i64 0, .int .i64 0, .int .i64 0, .int .i64 0, .int .i64 0, .int .i64 0, .int .i64 0, .int .i64 0, .int .u64 0, .slice none 0 0, .slice none 0 0] 40) = w1 ∧ Aside0 (MkF w w1 k0 k1 k2 k3 k4 k5 k6 k7 k8 k9 k10 (.slice none 0 0) (.slice (some ⟨gr, 0, none⟩) xs.length cr) #[.int .i64 13, .int .i64 th, .int .i64 a, .int .i64 b, .int .i64 v, .int .i64 nn, .int .i64 mm, .slice A dl dc]) := ⟨_, rfl, ⟨⟨blk_alloc (blk_alloc (blk_new _ _) _) _, blk_alloc (blk_new1 _ _ _) _, blk_newb _ _ _ _, below_alloc (below_alloc (below_alloc (Below.refl _ _) _) _) _⟩⟩⟩
  have HX := Aside0.mk hx
  have HZ := Aside0.mk hz
  clear hx hz
  obtain ⟨ma_0, ma_1, ma_2, ma_3, ma_4, ma_5, ma_6, ma_7, ma_8, ma_9, ma_10, ma_11, ma_12⟩ := cellsR HF.out.m
  obtain ⟨oa_0, oa_1, oa_2, oa_3, oa_4, oa_5, oa_6, oa_7⟩ := cells8 HF.out.op
  obtain ⟨ra_0, ra_1, ra_2, ra_3, ra_4, ra_5, ra_6, ra_7, ra_8, ra_9, ra_10, ra_11, ra_12⟩ := cellsR HF.out.r
  obtain ⟨fa_0, fa_1, fa_2, fa_3, fa_4, fa_5, fa_6, fa_7, fa_8, fa_9, fa_10, fa_11, fa_12⟩ := frozR HF.out.r
  go_enter Try.func28, Try.ntmps28
  go_wp2_with fail
  refine (rGetZ k0 k1 k2 k3 k4 k5 k6 k7 k8 k9 k10 (.slice none 0 0) gr cr t0 xs b _ (blk_below HX.out HF.out.b) HZ.out hb0 hb1).mono ?_
  rintro e w3 ⟨rfl, hbg⟩
  have HG3 := Aside0.mk (show MkF w w3 k0 k1 k2 k3 k4 k5 k6 k7 k8 k9 k10 (.slice none 0 0) (.slice (some ⟨gr, 0, none⟩) xs.length cr) _ from MkF.below HF.out hbg)
  clear hbg
  go_upto_region 2 with fail
  obtain ⟨w4, hwx, HF4, HY⟩ : ∃ w0, w3.alloc (.cells #[.int .i64 0, .int .i64 0, .int .i64 0, .int .i64 0, .int .i64 0] 51) = w0 ∧ Aside0 (MkF w w0 k0 k1 k2 k3 k4 k5 k6 k7 k8 k9 k10 (.slice none 0 0) (.slice (some ⟨gr, 0, none⟩) xs.length cr) _) ∧ Aside0 (w0.heap[w3.heap.size]? = some (.cells #[.int .i64 0, .int .i64 0, .int .i64 0, .int .i64 0, .int .i64 0] 51 (0, 0))) := ⟨_, rfl, ⟨MkF.below HG3.out (below_alloc (Below.refl _ _) _)⟩, ⟨blk_new _ _⟩⟩
  rw [hwx]
  clear hwx
  clear ma_0 ma_1 ma_2 ma_3 ma_4 ma_5 ma_6 ma_7 ma_8 ma_9 ma_10 ma_11 ma_12 oa_0 oa_1 oa_2 oa_3 oa_4 oa_5 oa_6 oa_7 ra_0 ra_1 ra_2 ra_3 ra_4 ra_5 ra_6 ra_7 ra_8 ra_9 ra_10 ra_11 ra_12 fa_0 fa_1 fa_2 fa_3 fa_4 fa_5 fa_6 fa_7 fa_8 fa_9 fa_10 fa_11 fa_12
  obtain ⟨x0, x1, x2, x3, x4, _⟩ := cells5 HY.out
  go_upto_region 4 with fail
  obtain ⟨w5, hwy, HF5, HX5, HY5⟩ : ∃ w0, w4.alloc (.cells #[.int .i64 0, .int .i64 0, .int .i64 0, .int .i64 0, .int .i64 0] 51) = w0 ∧ Aside0 (MkF w w0 k0 k1 k2 k3 k4 k5 k6 k7 k8 k9 k10 (.slice none 0 0) (.slice (some ⟨gr, 0, none⟩) xs.length cr) _) ∧ Aside0 (w0.heap[w3.heap.size]? = some (.cells #[.int .i64 0, .int .i64 0, .int .i64 0, .int .i64 0, .int .i64 0] 51 (0, 0))) ∧ Aside0 (w0.heap[w4.heap.size]? = some (.cells #[.int .i64 0, .int .i64 0, .int .i64 0, .int .i64 0, .int .i64 0] 51 (0, 0))) := ⟨_, rfl, ⟨MkF.below HF4.out (below_alloc (Below.refl _ _) _)⟩, ⟨blk_alloc HY.out _⟩, ⟨blk_new _ _⟩⟩
  rw [hwy]
  clear hwy x0 x1 x2 x3 x4
  obtain ⟨md_0, md_1, md_2, md_3, md_4, md_5, md_6, md_7, md_8, md_9, md_10, md_11, md_12⟩ := cellsR HF5.out.m
  obtain ⟨od_0, od_1, od_2, od_3, od_4, od_5, od_6, od_7⟩ := cells8 HF5.out.op
  obtain ⟨rd_0, rd_1, rd_2, rd_3, rd_4, rd_5, rd_6, rd_7, rd_8, rd_9, rd_10, rd_11, rd_12⟩ := cellsR HF5.out.r
  obtain ⟨fd_0, fd_1, fd_2, fd_3, fd_4, fd_5, fd_6, fd_7, fd_8, fd_9, fd_10, fd_11, fd_12⟩ := frozR HF5.out.r
  obtain ⟨p0, p1, p2, p3, p4, _⟩ := cells5 HX5.out
  obtain ⟨q0, q1, q2, q3, q4, _⟩ := cells5 HY5.out
  go_wp2_with fail
  refine (rSlot0 4 _).mono ?_
  rintro e w6 ⟨rfl, hb⟩
  have HF6 := Aside0.mk (show MkF w w6 k0 k1 k2 k3 k4 k5 k6 k7 k8 k9 k10 (.slice none 0 0) (.slice (some ⟨gr, 0, none⟩) xs.length cr) _ from MkF.below HF5.out hb)
  clear hb md_0 md_1 md_2 md_3 md_4 md_5 md_6 md_7 md_8 md_9 md_10 md_11 md_12 od_0 od_1 od_2 od_3 od_4 od_5 od_6 od_7 rd_0 rd_1 rd_2 rd_3 rd_4 rd_5 rd_6 rd_7 rd_8 rd_9 rd_10 rd_11 rd_12 fd_0 fd_1 fd_2 fd_3 fd_4 fd_5 fd_6 fd_7 fd_8 fd_9 fd_10 fd_11 fd_12
  obtain ⟨me_0, me_1, me_2, me_3, me_4, me_5, me_6, me_7, me_8, me_9, me_10, me_11, me_12⟩ := cellsR HF6.out.m
  obtain ⟨oe_0, oe_1, oe_2, oe_3, oe_4, oe_5, oe_6, oe_7⟩ := cells8 HF6.out.op
  obtain ⟨re_0, re_1, re_2, re_3, re_4, re_5, re_6, re_7, re_8, re_9, re_10, re_11, re_12⟩ := cellsR HF6.out.r
  obtain ⟨fe_0, fe_1, fe_2, fe_3, fe_4, fe_5, fe_6, fe_7, fe_8, fe_9, fe_10, fe_11, fe_12⟩ := frozR HF6.out.r
  go_wp2
  refine bodyPost_ret (retRe rfl _ _ (w.heap.size + 1 + 1) #[.int .i64 k0, .int .i64 k1, .int .i64 k2, .int .i64 k3, .int .i64 k4, .int .i64 k5, .int .i64 k6, .int .i64 k7, .int .i64 k8, .int .i64 k9, .int .u64 k10, .slice none 0 0, .slice (some ⟨gr, 0, none⟩) xs.length cr] rfl rfl (put13 _ _ _ _ _ _ _ _ _ _ _ _ _  HF6.out.r)) rfl ?_
  exact ⟨rfl, by repeat (first | (with_reducible exact HF6.out.b) | (with_reducible apply below_drew1) | (with_reducible refine below_set ?_ (by omega)))⟩

set_option maxHeartbeats 8000000 in
set_option maxRecDepth 100000 in
theorem rDerivesC (k0 k1 k2 k3 k4 k5 k6 k7 k8 k9 k10 : Int) (gr cr : Nat) (t0 : TypeId) (xs : List S51) (th a b v nn mm : Int) (A : Option Addr) (dl dc : Nat) (w : World) (hx : w.heap[gr]? = some (.cells (cells51 xs) t0 (0, 0))) (hz : ∀ j, j < xs.length → xs[j]? = some z51) (hn : xs.length ≤ 64) (hb0 : 0 ≤ b) (hb1 : b < (xs.length : Int)) (ha0 : 0 ≤ a) (ha1 : a < (xs.length : Int)) :
    Calls Try.prog 28 #[.agg #[.int .i64 k0, .int .i64 k1, .int .i64 k2, .int .i64 k3, .int .i64 k4, .int .i64 k5, .int .i64 k6, .int .i64 k7, .int .i64 k8, .int .i64 k9, .int .u64 k10, .slice none 0 0, .slice (some ⟨gr, 0, none⟩) xs.length cr], .agg #[.int .i64 10, .int .i64 th, .int .i64 a, .int .i64 b, .int .i64 v, .int .i64 nn, .int .i64 mm, .slice A dl dc]] w fun e w' => ∃ gR cR, e = .returned (.tuple #[.agg #[.int .i64 k0, .int .i64 k1, .int .i64 k2, .int .i64 k3, .int .i64 k4, .int .i64 k5, .int .i64 k6, .int .i64 k7, .int .i64 k8, .int .i64 k9, .int .u64 k10, .slice none 0 0, .slice (some ⟨gR, 0, none⟩) xs.length cR], .int .i64 0]) ∧ w'.cell? ⟨gR, a.toNat * 5, none⟩ = some (.int .i64 0) ∧ w'.cell? ⟨gR, a.toNat * 5 + 1, none⟩ = some (.int .i64 0) ∧ w'.cell? ⟨gR, a.toNat * 5 + 2, none⟩ = some (.int .i64 0) ∧ w'.cell? ⟨gR, a.toNat * 5 + 3, none⟩ = some (.int .i64 0) ∧ w'.cell? ⟨gR, a.toNat * 5 + 4, none⟩ = some (.int .i64 0) ∧ w.heap.size ≤ gR ∧ Below w.heap.size w w' := by
  have hu25 := Try.underlying25
  have hu40 := Try.underlying40
  have hu51 := Try.underlying51
  have hu29 := Try.underlying29
  have hu35 := Try.underlying35
  have hu33 := Try.underlying33
  obtain ⟨w1, hw1, HF⟩ : ∃ w1, ((w.alloc (.cells #[.int .i64 k0, .int .i64 k1, .int .i64 k2, .int .i64 k3, .int .i64 k4, .int .i64 k5, .int .i64 k6, .int .i64 k7, .int .i64 k8, .int .i64 k9, .int .u64 k10, .slice none 0 0, .slice (some ⟨gr, 0, none⟩) xs.length cr] 40)).alloc (.cells #[.int .i64 10, .int .i64 th, .int .i64 a, .int .i64 b, .int .i64 v, .int .i64 nn, .int .i64 mm, .slice A dl dc] 25)).alloc (.cells #[.int .i64 0, .int .i64 0, .int .i64 0, .int .i64 0, .int .i64 0, .int .i64 0, .int .i64 0, .int .i64 0, .int .i64 0, .int .i64 0, .int .u64 0, .slice none 0 0, .slice none 0 0] 40) = w1 ∧ Aside0 (MkF w w1 k0 k1 k2 k3 k4 k5 k6 k7 k8 k9 k10 (.slice none 0 0) (.slice (some ⟨gr, 0, none⟩) xs.length cr) #[.int .i64 10, .int .i64 th, .int .i64 a, .int .i64 b, .int .i64 v, .int .i64 nn, .int .i64 mm, .slice A dl dc]) := ⟨_, rfl, ⟨⟨blk_alloc (blk_alloc (blk_new _ _) _) _, blk_alloc (blk_new1 _ _ _) _, blk_newb _ _ _ _, below_alloc (below_alloc (below_alloc (Below.refl _ _) _) _) _⟩⟩⟩
  have HX := Aside0.mk hx
  have HZ := Aside0.mk hz
  clear hx hz
  obtain ⟨ma_0, ma_1, ma_2, ma_3, ma_4, ma_5, ma_6, ma_7, ma_8, ma_9, ma_10, ma_11, ma_12⟩ := cellsR HF.out.m
  obtain ⟨oa_0, oa_1, oa_2, oa_3, oa_4, oa_5, oa_6, oa_7⟩ := cells8 HF.out.op
  obtain ⟨ra_0, ra_1, ra_2, ra_3, ra_4, ra_5, ra_6, ra_7, ra_8, ra_9, ra_10, ra_11, ra_12⟩ := cellsR HF.out.r
  obtain ⟨fa_0, fa_1, fa_2, fa_3, fa_4, fa_5, fa_6, fa_7, fa_8, fa_9, fa_10, fa_11, fa_12⟩ := frozR HF.out.r
  go_enter Try.func28, Try.ntmps28
  go_wp2_with fail
  refine (rGetZ k0 k1 k2 k3 k4 k5 k6 k7 k8 k9 k10 (.slice none 0 0) gr cr t0 xs b _ (blk_below HX.out HF.out.b) HZ.out hb0 hb1).mono ?_
  rintro e w3 ⟨rfl, hbg⟩
  have HG3 := Aside0.mk (show MkF w w3 k0 k1 k2 k3 k4 k5 k6 k7 k8 k9 k10 (.slice none 0 0) (.slice (some ⟨gr, 0, none⟩) xs.length cr) _ from MkF.below HF.out hbg)
  clear hbg
  go_upto_region 2 with fail
  obtain ⟨w4, hwx, HF4, HY⟩ : ∃ w0, w3.alloc (.cells #[.int .i64 0, .int .i64 0, .int .i64 0, .int .i64 0, .int .i64 0] 51) = w0 ∧ Aside0 (MkF w w0 k0 k1 k2 k3 k4 k5 k6 k7 k8 k9 k10 (.slice none 0 0) (.slice (some ⟨gr, 0, none⟩) xs.length cr) _) ∧ Aside0 (w0.heap[w3.heap.size]? = some (.cells #[.int .i64 0, .int .i64 0, .int .i64 0, .int .i64 0, .int .i64 0] 51 (0, 0))) := ⟨_, rfl, ⟨MkF.below HG3.out (below_alloc (Below.refl _ _) _)⟩, ⟨blk_new _ _⟩⟩
  rw [hwx]
  clear hwx
  clear ma_0 ma_1 ma_2 ma_3 ma_4 ma_5 ma_6 ma_7 ma_8 ma_9 ma_10 ma_11 ma_12 oa_0 oa_1 oa_2 oa_3 oa_4 oa_5 oa_6 oa_7 ra_0 ra_1 ra_2 ra_3 ra_4 ra_5 ra_6 ra_7 ra_8 ra_9 ra_10 ra_11 ra_12 fa_0 fa_1 fa_2 fa_3 fa_4 fa_5 fa_6 fa_7 fa_8 fa_9 fa_10 fa_11 fa_12
  obtain ⟨x0, x1, x2, x3, x4, _⟩ := cells5 HY.out
  go_upto_region 4 with fail
  obtain ⟨w5, hwy, HF5, HX5, HY5⟩ : ∃ w0, w4.alloc (.cells #[.int .i64 0, .int .i64 0, .int .i64 0, .int .i64 0, .int .i64 0] 51) = w0 ∧ Aside0 (MkF w w0 k0 k1 k2 k3 k4 k5 k6 k7 k8 k9 k10 (.slice none 0 0) (.slice (some ⟨gr, 0, none⟩) xs.length cr) _) ∧ Aside0 (w0.heap[w3.heap.size]? = some (.cells #[.int .i64 0, .int .i64 0, .int .i64 0, .int .i64 0, .int .i64 0] 51 (0, 0))) ∧ Aside0 (w0.heap[w4.heap.size]? = some (.cells #[.int .i64 0, .int .i64 0, .int .i64 0, .int .i64 0, .int .i64 0] 51 (0, 0))) := ⟨_, rfl, ⟨MkF.below HF4.out (below_alloc (Below.refl _ _) _)⟩, ⟨blk_alloc HY.out _⟩, ⟨blk_new _ _⟩⟩
  rw [hwy]
  clear hwy x0 x1 x2 x3 x4
  obtain ⟨md_0, md_1, md_2, md_3, md_4, md_5, md_6, md_7, md_8, md_9, md_10, md_11, md_12⟩ := cellsR HF5.out.m
  obtain ⟨od_0, od_1, od_2, od_3, od_4, od_5, od_6, od_7⟩ := cells8 HF5.out.op
  obtain ⟨rd_0, rd_1, rd_2, rd_3, rd_4, rd_5, rd_6, rd_7, rd_8, rd_9, rd_10, rd_11, rd_12⟩ := cellsR HF5.out.r
  obtain ⟨fd_0, fd_1, fd_2, fd_3, fd_4, fd_5, fd_6, fd_7, fd_8, fd_9, fd_10, fd_11, fd_12⟩ := frozR HF5.out.r
  obtain ⟨p0, p1, p2, p3, p4, _⟩ := cells5 HX5.out
  obtain ⟨q0, q1, q2, q3, q4, _⟩ := cells5 HY5.out
  go_wp2_with fail
  refine (rSet k0 k1 k2 k3 k4 k5 k6 k7 k8 k9 k10 none 0 0 gr cr t0 xs a 0 0 0 0 0 _ (blk_below HX.out HF5.out.b) ha0 ha1 hn).mono ?_
  rintro e w8 ⟨gR, cR, rfl, g0, g1, g2, g3, g4, hgR, hbv⟩
  have HF8 := Aside0.mk (show MkF w w8 k0 k1 k2 k3 k4 k5 k6 k7 k8 k9 k10 (.slice none 0 0) (.slice (some ⟨gr, 0, none⟩) xs.length cr) _ from MkF.below HF5.out hbv)
  have HG8 := Aside0.mk (And.intro g0 (And.intro g1 (And.intro g2 (And.intro g3 (And.intro g4 hgR)))))
  clear g0 g1 g2 g3 g4 hgR hbv md_0 md_1 md_2 md_3 md_4 md_5 md_6 md_7 md_8 md_9 md_10 md_11 md_12 od_0 od_1 od_2 od_3 od_4 od_5 od_6 od_7 rd_0 rd_1 rd_2 rd_3 rd_4 rd_5 rd_6 rd_7 rd_8 rd_9 rd_10 rd_11 rd_12 fd_0 fd_1 fd_2 fd_3 fd_4 fd_5 fd_6 fd_7 fd_8 fd_9 fd_10 fd_11 fd_12
  obtain ⟨me_0, me_1, me_2, me_3, me_4, me_5, me_6, me_7, me_8, me_9, me_10, me_11, me_12⟩ := cellsR HF8.out.m
  obtain ⟨oe_0, oe_1, oe_2, oe_3, oe_4, oe_5, oe_6, oe_7⟩ := cells8 HF8.out.op
  obtain ⟨re_0, re_1, re_2, re_3, re_4, re_5, re_6, re_7, re_8, re_9, re_10, re_11, re_12⟩ := cellsR HF8.out.r
  obtain ⟨fe_0, fe_1, fe_2, fe_3, fe_4, fe_5, fe_6, fe_7, fe_8, fe_9, fe_10, fe_11, fe_12⟩ := frozR HF8.out.r
  go_wp2
  obtain ⟨g0, g1, g2, g3, g4, hgR⟩ := HG8.out
  have hr7 := blk_lt HF5.out.r
  have e1 : gR ≠ w.heap.size + 1 + 1 := by omega
  refine bodyPost_ret (retRe rfl _ _ (w.heap.size + 1 + 1) #[.int .i64 k0, .int .i64 k1, .int .i64 k2, .int .i64 k3, .int .i64 k4, .int .i64 k5, .int .i64 k6, .int .i64 k7, .int .i64 k8, .int .i64 k9, .int .u64 k10, .slice none 0 0, .slice (some ⟨gR, 0, none⟩) xs.length cR] rfl rfl (put13 _ _ _ _ _ _ _ _ _ _ _ _ _  HF8.out.r)) rfl ?_
  exact ⟨gR, cR, rfl, cell_put13 g0 e1, cell_put13 g1 e1, cell_put13 g2 e1, cell_put13 g3 e1, cell_put13 g4 e1, Nat.le_trans HF5.out.b.size hgR, by repeat (first | (with_reducible exact HF8.out.b) | (with_reducible refine below_set ?_ (by omega)))⟩

end Go.Proofs.Ytneejihmakfaoaa.OwnModel
