/- Walks of the reference's functions by hand: uses. Conditions: the reference's model is empty. Printed by gen_ref.py. -/
import Derived.Test.YtneejihmakfaoaaOwnRefE
import Derived.BigQuiet
import Derived.Deep.RegionLaw
import Derived.ArgAppend
namespace Go.Proofs.Ytneejihmakfaoaa.OwnModel
open Go.RowKit Go.Proofs.Ytneejihmakfaoaa.OwnMask Go.Proofs.Ytneejihmakfaoaa.QModelOne Go.Proofs.YtneejihmakfaoaaW.PrintWords Go.Proofs.YtneejihmakfaoaaW.PrintLast Go.Proofs.YtneejihmakfaoaaW.PrintMore
set_option linter.unusedVariables false
set_option linter.unusedSimpArgs false
/-- What uses knows of memory while it works. -/
structure UsF (w W : World) (k0 k1 k2 k3 k4 k5 k6 k7 k8 k9 k10 : Int) (lv rv : Value) (ov : Array Value) (q : Nat) (x1 : Array Value) : Prop where
  mf : MkF w W k0 k1 k2 k3 k4 k5 k6 k7 k8 k9 k10 lv rv ov
  r2 : W.heap[w.heap.size + 1 + 1 + 1]? = some (.cells #[.int .i64 0, .int .i64 0, .slice none 0 0] 35 (0, 0))
  t7 : W.heap[q]? = some (.cells x1 35 (0, 0))
  hq : w.heap.size + 1 + 1 + 1 < q
theorem UsF.below {W2 : World} {w W : World} {k0 k1 k2 k3 k4 k5 k6 k7 k8 k9 k10 : Int} {lv rv : Value} {ov : Array Value} {q : Nat} {x1 : Array Value} (h : UsF w W k0 k1 k2 k3 k4 k5 k6 k7 k8 k9 k10 lv rv ov q x1) (hb : Below W.heap.size W W2) : UsF w W2 k0 k1 k2 k3 k4 k5 k6 k7 k8 k9 k10 lv rv ov q x1 := ⟨h.mf.below hb, blk_below h.r2 hb, blk_below h.t7 hb, h.hq⟩
theorem UsF.err {w W : World} {k0 k1 k2 k3 k4 k5 k6 k7 k8 k9 k10 : Int} {lv rv : Value} {ov : Array Value} {q : Nat} (e : Int) (h : UsF w W k0 k1 k2 k3 k4 k5 k6 k7 k8 k9 k10 lv rv ov q #[.int .i64 0, .int .i64 0, .slice none 0 0]) : UsF w (W.setCell ⟨q, 0, none⟩ (.int .i64 e)) k0 k1 k2 k3 k4 k5 k6 k7 k8 k9 k10 lv rv ov q #[.int .i64 e, .int .i64 0, .slice none 0 0] := by
  have hq := h.hq
  exact ⟨⟨set_other h.mf.m (by omega), set_other h.mf.op (by omega), set_other h.mf.r (by omega), below_set h.mf.b (by omega)⟩, set_other h.r2 (by omega), blk_put h.t7 0 _ rfl, hq⟩
theorem retRd {fn : Func} {p p2 : Tmp} (h : fn.results = #[.cell p 40, .cell p2 35]) (tmps : Array Value) (W : World) (g g2 : Nat) (cs cs2 : Array Value) (hs : cs.size = 13) (hs2 : cs2.size = 3) (hp : tmps.getD p undef = .pointer (some ⟨g, 0, none⟩)) (hp2 : tmps.getD p2 undef = .pointer (some ⟨g2, 0, none⟩)) (hW : W.heap[g]? = some (.cells cs 40 (0, 0))) (hW2 : W.heap[g2]? = some (.cells cs2 35 (0, 0))) :
    (results fn tmps).run Try.prog W = .ok (.tuple #[.agg cs, .agg cs2]) W :=
  results_cc h tmps _ g g2 40 35 cs cs2 (0, 0) (0, 0) _ _ hp hW Try.underlying40 rfl (by rw [hs]; exact size40) hp2 hW2 Try.underlying35 rfl (by rw [hs2]; kernel_rfl)

set_option maxHeartbeats 8000000 in
set_option maxRecDepth 100000 in
theorem rUse4b (k0 k1 k2 k3 k4 k5 k6 k7 k8 k9 k10 : Int) (gr cr : Nat) (t0 : TypeId) (xs : List S51) (th a b v nn mm : Int) (A : Option Addr) (dl dc : Nat) (w : World) (hx : w.heap[gr]? = some (.cells (cells51 xs) t0 (0, 0))) (hz : ∀ j, j < xs.length → xs[j]? = some z51) (hn : xs.length ≤ 64) (hb0 : 0 ≤ b) (hb1 : b < (xs.length : Int)) (hbad : th < 0 ∨ k3 ≤ th) :
    Calls Try.prog 30 #[.agg #[.int .i64 k0, .int .i64 k1, .int .i64 k2, .int .i64 k3, .int .i64 k4, .int .i64 k5, .int .i64 k6, .int .i64 k7, .int .i64 k8, .int .i64 k9, .int .u64 k10, .slice none 0 0, .slice (some ⟨gr, 0, none⟩) xs.length cr], .agg #[.int .i64 4, .int .i64 th, .int .i64 a, .int .i64 b, .int .i64 v, .int .i64 nn, .int .i64 mm, .slice A dl dc]] w fun e w' => e = .returned (.tuple #[.agg #[.int .i64 k0, .int .i64 k1, .int .i64 k2, .int .i64 k3, .int .i64 k4, .int .i64 k5, .int .i64 k6, .int .i64 k7, .int .i64 k8, .int .i64 k9, .int .u64 k10, .slice none 0 0, .slice (some ⟨gr, 0, none⟩) xs.length cr], .agg #[.int .i64 1, .int .i64 0, .slice none 0 0]]) ∧ Below w.heap.size w w' := by
  have hu25 := Try.underlying25
  have hu40 := Try.underlying40
  have hu51 := Try.underlying51
  have hu29 := Try.underlying29
  have hu35 := Try.underlying35
  have hu33 := Try.underlying33
  obtain ⟨w1, hw1, HF, HR2⟩ : ∃ w1, (((w.alloc (.cells #[.int .i64 k0, .int .i64 k1, .int .i64 k2, .int .i64 k3, .int .i64 k4, .int .i64 k5, .int .i64 k6, .int .i64 k7, .int .i64 k8, .int .i64 k9, .int .u64 k10, .slice none 0 0, .slice (some ⟨gr, 0, none⟩) xs.length cr] 40)).alloc (.cells #[.int .i64 4, .int .i64 th, .int .i64 a, .int .i64 b, .int .i64 v, .int .i64 nn, .int .i64 mm, .slice A dl dc] 25)).alloc (.cells #[.int .i64 0, .int .i64 0, .int .i64 0, .int .i64 0, .int .i64 0, .int .i64 0, .int .i64 0, .int .i64 0, .int .i64 0, .int .i64 0, .int .u64 0, .slice none 0 0, .slice none 0 0] 40)).alloc (.cells #[.int .i64 0, .int .i64 0, .slice none 0 0] 35) = w1 ∧ Aside0 (MkF w w1 k0 k1 k2 k3 k4 k5 k6 k7 k8 k9 k10 (.slice none 0 0) (.slice (some ⟨gr, 0, none⟩) xs.length cr) #[.int .i64 4, .int .i64 th, .int .i64 a, .int .i64 b, .int .i64 v, .int .i64 nn, .int .i64 mm, .slice A dl dc]) ∧ Aside0 (w1.heap[w.heap.size + 1 + 1 + 1]? = some (.cells #[.int .i64 0, .int .i64 0, .slice none 0 0] 35 (0, 0))) := ⟨_, rfl, ⟨⟨blk_alloc (blk_alloc (blk_alloc (blk_new _ _) _) _) _, blk_alloc (blk_alloc (blk_new1 _ _ _) _) _, blk_alloc (blk_newb _ _ _ _) _, below_alloc (below_alloc (below_alloc (below_alloc (Below.refl _ _) _) _) _) _⟩⟩, ⟨blk_newc _ _ _ _ _⟩⟩
  have HX := Aside0.mk hx
  have HZ := Aside0.mk hz
  clear hx hz
  by_cases c : th < 0
  · have d1 : decide (th < 0) = true := decide_eq_true c
    obtain ⟨ma_0, ma_1, ma_2, ma_3, ma_4, ma_5, ma_6, ma_7, ma_8, ma_9, ma_10, ma_11, ma_12⟩ := cellsR HF.out.m
    obtain ⟨oa_0, oa_1, oa_2, oa_3, oa_4, oa_5, oa_6, oa_7⟩ := cells8 HF.out.op
    go_enter Try.func30, Try.ntmps30
    go_wp2_with fail
    refine (rGetZ k0 k1 k2 k3 k4 k5 k6 k7 k8 k9 k10 (.slice none 0 0) gr cr t0 xs b _ (blk_below HX.out HF.out.b) HZ.out hb0 hb1).mono ?_
    rintro e w3 ⟨rfl, hbg⟩
    have HB3 := Aside0.mk hbg
    clear hbg
    go_upto_region 2 with fail
    obtain ⟨w4, hwx, HB4, HY⟩ : ∃ w0, w3.alloc (.cells #[.int .i64 0, .int .i64 0, .int .i64 0, .int .i64 0, .int .i64 0] 51) = w0 ∧ Aside0 (Below w1.heap.size w1 w0) ∧ Aside0 (w0.heap[w3.heap.size]? = some (.cells #[.int .i64 0, .int .i64 0, .int .i64 0, .int .i64 0, .int .i64 0] 51 (0, 0))) := ⟨_, rfl, ⟨below_alloc HB3.out _⟩, ⟨blk_new _ _⟩⟩
    rw [hwx]
    clear hwx ma_0 ma_1 ma_2 ma_3 ma_4 ma_5 ma_6 ma_7 ma_8 ma_9 ma_10 ma_11 ma_12 oa_0 oa_1 oa_2 oa_3 oa_4 oa_5 oa_6 oa_7
    go_upto_region 3 with fail
    obtain ⟨w5, hwy, HU, HY5⟩ : ∃ w0, w4.alloc (.cells #[.int .i64 0, .int .i64 0, .slice none 0 0] 35) = w0 ∧ Aside0 (UsF w w0 k0 k1 k2 k3 k4 k5 k6 k7 k8 k9 k10 (.slice none 0 0) (.slice (some ⟨gr, 0, none⟩) xs.length cr) _ w4.heap.size #[.int .i64 0, .int .i64 0, .slice none 0 0]) ∧ Aside0 (w0.heap[w3.heap.size]? = some (.cells #[.int .i64 0, .int .i64 0, .int .i64 0, .int .i64 0, .int .i64 0] 51 (0, 0))) := ⟨_, rfl, ⟨⟨MkF.below HF.out (below_alloc HB4.out _), blk_below HR2.out (below_alloc HB4.out _), blk_new _ _, Nat.lt_of_lt_of_le (blk_lt HR2.out) HB4.out.size⟩⟩, ⟨blk_alloc HY.out _⟩⟩
    rw [hwy]
    clear hwy
    obtain ⟨mb_0, mb_1, mb_2, mb_3, mb_4, mb_5, mb_6, mb_7, mb_8, mb_9, mb_10, mb_11, mb_12⟩ := cellsR HU.out.mf.m
    obtain ⟨ob_0, ob_1, ob_2, ob_3, ob_4, ob_5, ob_6, ob_7⟩ := cells8 HU.out.mf.op
    obtain ⟨x0, x1, x2, x3, x4, _⟩ := cells5 HY5.out
    obtain ⟨e0, e1, e2, g0, g1, g2⟩ := cells3 HU.out.t7
    go_upto_region 31 with fail
    obtain ⟨w7, hw7, HV⟩ : ∃ w0, w5.setCell ⟨w4.heap.size, 0, none⟩ (.int .i64 1) = w0 ∧ Aside0 (UsF w w0 k0 k1 k2 k3 k4 k5 k6 k7 k8 k9 k10 (.slice none 0 0) (.slice (some ⟨gr, 0, none⟩) xs.length cr) _ w4.heap.size #[.int .i64 1, .int .i64 0, .slice none 0 0]) := ⟨_, rfl, ⟨UsF.err 1 HU.out⟩⟩
    rw [hw7]
    clear hw7 e0 e1 e2 g0 g1 g2 x0 x1 x2 x3 x4 mb_0 mb_1 mb_2 mb_3 mb_4 mb_5 mb_6 mb_7 mb_8 mb_9 mb_10 mb_11 mb_12 ob_0 ob_1 ob_2 ob_3 ob_4 ob_5 ob_6 ob_7
    obtain ⟨mz_0, mz_1, mz_2, mz_3, mz_4, mz_5, mz_6, mz_7, mz_8, mz_9, mz_10, mz_11, mz_12⟩ := cellsR HV.out.mf.m
    obtain ⟨oz_0, oz_1, oz_2, oz_3, oz_4, oz_5, oz_6, oz_7⟩ := cells8 HV.out.mf.op
    obtain ⟨rz_0, rz_1, rz_2, rz_3, rz_4, rz_5, rz_6, rz_7, rz_8, rz_9, rz_10, rz_11, rz_12⟩ := cellsR HV.out.mf.r
    obtain ⟨fz_0, fz_1, fz_2, fz_3, fz_4, fz_5, fz_6, fz_7, fz_8, fz_9, fz_10, fz_11, fz_12⟩ := frozR HV.out.mf.r
    obtain ⟨e0, e1, e2, _⟩ := cells3 HV.out.t7
    obtain ⟨p0, p1, p2, q0, q1, q2⟩ := cells3 HV.out.r2
    have n3 : ¬ (w4.heap.size = w.heap.size + 1 + 1) := by have hh := HV.out.hq; omega
    have n4 : ¬ (w.heap.size + 1 + 1 = w4.heap.size) := by have hh := HV.out.hq; omega
    have n5 : ¬ (w4.heap.size = w.heap.size + 1 + 1 + 1) := by have hh := HV.out.hq; omega
    have n6 : ¬ (w.heap.size + 1 + 1 + 1 = w4.heap.size) := by have hh := HV.out.hq; omega
    have n1 : w.heap.size + 1 + 1 ≠ w.heap.size + 1 + 1 + 1 := by omega
    have n2 : w.heap.size + 1 + 1 + 1 ≠ w.heap.size + 1 + 1 := by omega
    go_region
    all_goals
      go_wp2
      refine bodyPost_ret (retRd rfl _ _ (w.heap.size + 1 + 1) (w.heap.size + 1 + 1 + 1) #[.int .i64 k0, .int .i64 k1, .int .i64 k2, .int .i64 k3, .int .i64 k4, .int .i64 k5, .int .i64 k6, .int .i64 k7, .int .i64 k8, .int .i64 k9, .int .u64 k10, .slice none 0 0, .slice (some ⟨gr, 0, none⟩) xs.length cr] #[.int .i64 1, .int .i64 0, .slice none 0 0] rfl rfl rfl rfl (by first | (with_reducible exact blk_drew (blk_put3 (put13 _ _ _ _ _ _ _ _ _ _ _ _ _  HV.out.mf.r) n1)) | (with_reducible exact blk_drew (put13 _ _ _ _ _ _ _ _ _ _ _ _ _  (blk_put3 HV.out.mf.r n1))) | (with_reducible exact blk_put3 (put13 _ _ _ _ _ _ _ _ _ _ _ _ _  HV.out.mf.r) n1) | exact put13 _ _ _ _ _ _ _ _ _ _ _ _ _  (blk_put3 HV.out.mf.r n1)) (by first | (with_reducible exact blk_drew (put3 _ _ _ (blk_put13 HV.out.r2 n2))) | (with_reducible exact blk_drew (blk_put13 (put3 _ _ _ HV.out.r2) n2)) | (with_reducible exact put3 _ _ _ (blk_put13 HV.out.r2 n2)) | exact blk_put13 (put3 _ _ _ HV.out.r2) n2)) rfl ?_
      exact ⟨rfl, by repeat (first | (with_reducible exact HV.out.mf.b) | (with_reducible apply below_drew1) | (with_reducible refine below_set ?_ (by omega)))⟩
  · have d1 : decide (th < 0) = false := decide_eq_false c
    have d2 : decide (k3 ≤ th) = true := decide_eq_true (hbad.resolve_left c)
    obtain ⟨ma_0, ma_1, ma_2, ma_3, ma_4, ma_5, ma_6, ma_7, ma_8, ma_9, ma_10, ma_11, ma_12⟩ := cellsR HF.out.m
    obtain ⟨oa_0, oa_1, oa_2, oa_3, oa_4, oa_5, oa_6, oa_7⟩ := cells8 HF.out.op
    go_enter Try.func30, Try.ntmps30
    go_wp2_with fail
    refine (rGetZ k0 k1 k2 k3 k4 k5 k6 k7 k8 k9 k10 (.slice none 0 0) gr cr t0 xs b _ (blk_below HX.out HF.out.b) HZ.out hb0 hb1).mono ?_
    rintro e w3 ⟨rfl, hbg⟩
    have HB3 := Aside0.mk hbg
    clear hbg
    go_upto_region 2 with fail
    obtain ⟨w4, hwx, HB4, HY⟩ : ∃ w0, w3.alloc (.cells #[.int .i64 0, .int .i64 0, .int .i64 0, .int .i64 0, .int .i64 0] 51) = w0 ∧ Aside0 (Below w1.heap.size w1 w0) ∧ Aside0 (w0.heap[w3.heap.size]? = some (.cells #[.int .i64 0, .int .i64 0, .int .i64 0, .int .i64 0, .int .i64 0] 51 (0, 0))) := ⟨_, rfl, ⟨below_alloc HB3.out _⟩, ⟨blk_new _ _⟩⟩
    rw [hwx]
    clear hwx ma_0 ma_1 ma_2 ma_3 ma_4 ma_5 ma_6 ma_7 ma_8 ma_9 ma_10 ma_11 ma_12 oa_0 oa_1 oa_2 oa_3 oa_4 oa_5 oa_6 oa_7
    go_upto_region 3 with fail
    obtain ⟨w5, hwy, HU, HY5⟩ : ∃ w0, w4.alloc (.cells #[.int .i64 0, .int .i64 0, .slice none 0 0] 35) = w0 ∧ Aside0 (UsF w w0 k0 k1 k2 k3 k4 k5 k6 k7 k8 k9 k10 (.slice none 0 0) (.slice (some ⟨gr, 0, none⟩) xs.length cr) _ w4.heap.size #[.int .i64 0, .int .i64 0, .slice none 0 0]) ∧ Aside0 (w0.heap[w3.heap.size]? = some (.cells #[.int .i64 0, .int .i64 0, .int .i64 0, .int .i64 0, .int .i64 0] 51 (0, 0))) := ⟨_, rfl, ⟨⟨MkF.below HF.out (below_alloc HB4.out _), blk_below HR2.out (below_alloc HB4.out _), blk_new _ _, Nat.lt_of_lt_of_le (blk_lt HR2.out) HB4.out.size⟩⟩, ⟨blk_alloc HY.out _⟩⟩
    rw [hwy]
    clear hwy
    obtain ⟨mb_0, mb_1, mb_2, mb_3, mb_4, mb_5, mb_6, mb_7, mb_8, mb_9, mb_10, mb_11, mb_12⟩ := cellsR HU.out.mf.m
    obtain ⟨ob_0, ob_1, ob_2, ob_3, ob_4, ob_5, ob_6, ob_7⟩ := cells8 HU.out.mf.op
    obtain ⟨x0, x1, x2, x3, x4, _⟩ := cells5 HY5.out
    obtain ⟨e0, e1, e2, g0, g1, g2⟩ := cells3 HU.out.t7
    go_upto_region 31 with fail
    obtain ⟨w7, hw7, HV⟩ : ∃ w0, w5.setCell ⟨w4.heap.size, 0, none⟩ (.int .i64 1) = w0 ∧ Aside0 (UsF w w0 k0 k1 k2 k3 k4 k5 k6 k7 k8 k9 k10 (.slice none 0 0) (.slice (some ⟨gr, 0, none⟩) xs.length cr) _ w4.heap.size #[.int .i64 1, .int .i64 0, .slice none 0 0]) := ⟨_, rfl, ⟨UsF.err 1 HU.out⟩⟩
    rw [hw7]
    clear hw7 e0 e1 e2 g0 g1 g2 x0 x1 x2 x3 x4 mb_0 mb_1 mb_2 mb_3 mb_4 mb_5 mb_6 mb_7 mb_8 mb_9 mb_10 mb_11 mb_12 ob_0 ob_1 ob_2 ob_3 ob_4 ob_5 ob_6 ob_7
    obtain ⟨mz_0, mz_1, mz_2, mz_3, mz_4, mz_5, mz_6, mz_7, mz_8, mz_9, mz_10, mz_11, mz_12⟩ := cellsR HV.out.mf.m
    obtain ⟨oz_0, oz_1, oz_2, oz_3, oz_4, oz_5, oz_6, oz_7⟩ := cells8 HV.out.mf.op
    obtain ⟨rz_0, rz_1, rz_2, rz_3, rz_4, rz_5, rz_6, rz_7, rz_8, rz_9, rz_10, rz_11, rz_12⟩ := cellsR HV.out.mf.r
    obtain ⟨fz_0, fz_1, fz_2, fz_3, fz_4, fz_5, fz_6, fz_7, fz_8, fz_9, fz_10, fz_11, fz_12⟩ := frozR HV.out.mf.r
    obtain ⟨e0, e1, e2, _⟩ := cells3 HV.out.t7
    obtain ⟨p0, p1, p2, q0, q1, q2⟩ := cells3 HV.out.r2
    have n3 : ¬ (w4.heap.size = w.heap.size + 1 + 1) := by have hh := HV.out.hq; omega
    have n4 : ¬ (w.heap.size + 1 + 1 = w4.heap.size) := by have hh := HV.out.hq; omega
    have n5 : ¬ (w4.heap.size = w.heap.size + 1 + 1 + 1) := by have hh := HV.out.hq; omega
    have n6 : ¬ (w.heap.size + 1 + 1 + 1 = w4.heap.size) := by have hh := HV.out.hq; omega
    have n1 : w.heap.size + 1 + 1 ≠ w.heap.size + 1 + 1 + 1 := by omega
    have n2 : w.heap.size + 1 + 1 + 1 ≠ w.heap.size + 1 + 1 := by omega
    go_region
    all_goals
      go_wp2
      refine bodyPost_ret (retRd rfl _ _ (w.heap.size + 1 + 1) (w.heap.size + 1 + 1 + 1) #[.int .i64 k0, .int .i64 k1, .int .i64 k2, .int .i64 k3, .int .i64 k4, .int .i64 k5, .int .i64 k6, .int .i64 k7, .int .i64 k8, .int .i64 k9, .int .u64 k10, .slice none 0 0, .slice (some ⟨gr, 0, none⟩) xs.length cr] #[.int .i64 1, .int .i64 0, .slice none 0 0] rfl rfl rfl rfl (by first | (with_reducible exact blk_drew (blk_put3 (put13 _ _ _ _ _ _ _ _ _ _ _ _ _  HV.out.mf.r) n1)) | (with_reducible exact blk_drew (put13 _ _ _ _ _ _ _ _ _ _ _ _ _  (blk_put3 HV.out.mf.r n1))) | (with_reducible exact blk_put3 (put13 _ _ _ _ _ _ _ _ _ _ _ _ _  HV.out.mf.r) n1) | exact put13 _ _ _ _ _ _ _ _ _ _ _ _ _  (blk_put3 HV.out.mf.r n1)) (by first | (with_reducible exact blk_drew (put3 _ _ _ (blk_put13 HV.out.r2 n2))) | (with_reducible exact blk_drew (blk_put13 (put3 _ _ _ HV.out.r2) n2)) | (with_reducible exact put3 _ _ _ (blk_put13 HV.out.r2 n2)) | exact blk_put13 (put3 _ _ _ HV.out.r2) n2)) rfl ?_
      exact ⟨rfl, by repeat (first | (with_reducible exact HV.out.mf.b) | (with_reducible apply below_drew1) | (with_reducible refine below_set ?_ (by omega)))⟩

set_option maxHeartbeats 8000000 in
set_option maxRecDepth 100000 in
theorem rUse4 (k0 k1 k2 k3 k4 k5 k6 k7 k8 k9 k10 : Int) (gr cr : Nat) (t0 : TypeId) (xs : List S51) (th a b v nn mm : Int) (A : Option Addr) (dl dc : Nat) (w : World) (hx : w.heap[gr]? = some (.cells (cells51 xs) t0 (0, 0))) (hz : ∀ j, j < xs.length → xs[j]? = some z51) (hn : xs.length ≤ 64) (hb0 : 0 ≤ b) (hb1 : b < (xs.length : Int)) (h0 : 0 ≤ th) (h1 : th < k3) :
    Calls Try.prog 30 #[.agg #[.int .i64 k0, .int .i64 k1, .int .i64 k2, .int .i64 k3, .int .i64 k4, .int .i64 k5, .int .i64 k6, .int .i64 k7, .int .i64 k8, .int .i64 k9, .int .u64 k10, .slice none 0 0, .slice (some ⟨gr, 0, none⟩) xs.length cr], .agg #[.int .i64 4, .int .i64 th, .int .i64 a, .int .i64 b, .int .i64 v, .int .i64 nn, .int .i64 mm, .slice A dl dc]] w fun e w' => e = .returned (.tuple #[.agg #[.int .i64 k0, .int .i64 k1, .int .i64 k2, .int .i64 k3, .int .i64 k4, .int .i64 k5, .int .i64 k6, .int .i64 k7, .int .i64 k8, .int .i64 k9, .int .u64 k10, .slice none 0 0, .slice (some ⟨gr, 0, none⟩) xs.length cr], .agg #[.int .i64 7, .int .i64 0, .slice none 0 0]]) ∧ Below w.heap.size w w' := by
  have hu25 := Try.underlying25
  have hu40 := Try.underlying40
  have hu51 := Try.underlying51
  have hu29 := Try.underlying29
  have hu35 := Try.underlying35
  have hu33 := Try.underlying33
  obtain ⟨w1, hw1, HF, HR2⟩ : ∃ w1, (((w.alloc (.cells #[.int .i64 k0, .int .i64 k1, .int .i64 k2, .int .i64 k3, .int .i64 k4, .int .i64 k5, .int .i64 k6, .int .i64 k7, .int .i64 k8, .int .i64 k9, .int .u64 k10, .slice none 0 0, .slice (some ⟨gr, 0, none⟩) xs.length cr] 40)).alloc (.cells #[.int .i64 4, .int .i64 th, .int .i64 a, .int .i64 b, .int .i64 v, .int .i64 nn, .int .i64 mm, .slice A dl dc] 25)).alloc (.cells #[.int .i64 0, .int .i64 0, .int .i64 0, .int .i64 0, .int .i64 0, .int .i64 0, .int .i64 0, .int .i64 0, .int .i64 0, .int .i64 0, .int .u64 0, .slice none 0 0, .slice none 0 0] 40)).alloc (.cells #[.int .i64 0, .int .i64 0, .slice none 0 0] 35) = w1 ∧ Aside0 (MkF w w1 k0 k1 k2 k3 k4 k5 k6 k7 k8 k9 k10 (.slice none 0 0) (.slice (some ⟨gr, 0, none⟩) xs.length cr) #[.int .i64 4, .int .i64 th, .int .i64 a, .int .i64 b, .int .i64 v, .int .i64 nn, .int .i64 mm, .slice A dl dc]) ∧ Aside0 (w1.heap[w.heap.size + 1 + 1 + 1]? = some (.cells #[.int .i64 0, .int .i64 0, .slice none 0 0] 35 (0, 0))) := ⟨_, rfl, ⟨⟨blk_alloc (blk_alloc (blk_alloc (blk_new _ _) _) _) _, blk_alloc (blk_alloc (blk_new1 _ _ _) _) _, blk_alloc (blk_newb _ _ _ _) _, below_alloc (below_alloc (below_alloc (below_alloc (Below.refl _ _) _) _) _) _⟩⟩, ⟨blk_newc _ _ _ _ _⟩⟩
  have HX := Aside0.mk hx
  have HZ := Aside0.mk hz
  clear hx hz
  have d1 : decide (th < 0) = false := decide_eq_false (by omega)
  have d2 : decide (k3 ≤ th) = false := decide_eq_false (by omega)
  obtain ⟨ma_0, ma_1, ma_2, ma_3, ma_4, ma_5, ma_6, ma_7, ma_8, ma_9, ma_10, ma_11, ma_12⟩ := cellsR HF.out.m
  obtain ⟨oa_0, oa_1, oa_2, oa_3, oa_4, oa_5, oa_6, oa_7⟩ := cells8 HF.out.op
  go_enter Try.func30, Try.ntmps30
  go_wp2_with fail
  refine (rGetZ k0 k1 k2 k3 k4 k5 k6 k7 k8 k9 k10 (.slice none 0 0) gr cr t0 xs b _ (blk_below HX.out HF.out.b) HZ.out hb0 hb1).mono ?_
  rintro e w3 ⟨rfl, hbg⟩
  have HB3 := Aside0.mk hbg
  clear hbg
  go_upto_region 2 with fail
  obtain ⟨w4, hwx, HB4, HY⟩ : ∃ w0, w3.alloc (.cells #[.int .i64 0, .int .i64 0, .int .i64 0, .int .i64 0, .int .i64 0] 51) = w0 ∧ Aside0 (Below w1.heap.size w1 w0) ∧ Aside0 (w0.heap[w3.heap.size]? = some (.cells #[.int .i64 0, .int .i64 0, .int .i64 0, .int .i64 0, .int .i64 0] 51 (0, 0))) := ⟨_, rfl, ⟨below_alloc HB3.out _⟩, ⟨blk_new _ _⟩⟩
  rw [hwx]
  clear hwx ma_0 ma_1 ma_2 ma_3 ma_4 ma_5 ma_6 ma_7 ma_8 ma_9 ma_10 ma_11 ma_12 oa_0 oa_1 oa_2 oa_3 oa_4 oa_5 oa_6 oa_7
  go_upto_region 3 with fail
  obtain ⟨w5, hwy, HU, HY5⟩ : ∃ w0, w4.alloc (.cells #[.int .i64 0, .int .i64 0, .slice none 0 0] 35) = w0 ∧ Aside0 (UsF w w0 k0 k1 k2 k3 k4 k5 k6 k7 k8 k9 k10 (.slice none 0 0) (.slice (some ⟨gr, 0, none⟩) xs.length cr) _ w4.heap.size #[.int .i64 0, .int .i64 0, .slice none 0 0]) ∧ Aside0 (w0.heap[w3.heap.size]? = some (.cells #[.int .i64 0, .int .i64 0, .int .i64 0, .int .i64 0, .int .i64 0] 51 (0, 0))) := ⟨_, rfl, ⟨⟨MkF.below HF.out (below_alloc HB4.out _), blk_below HR2.out (below_alloc HB4.out _), blk_new _ _, Nat.lt_of_lt_of_le (blk_lt HR2.out) HB4.out.size⟩⟩, ⟨blk_alloc HY.out _⟩⟩
  rw [hwy]
  clear hwy
  obtain ⟨mb_0, mb_1, mb_2, mb_3, mb_4, mb_5, mb_6, mb_7, mb_8, mb_9, mb_10, mb_11, mb_12⟩ := cellsR HU.out.mf.m
  obtain ⟨ob_0, ob_1, ob_2, ob_3, ob_4, ob_5, ob_6, ob_7⟩ := cells8 HU.out.mf.op
  obtain ⟨x0, x1, x2, x3, x4, _⟩ := cells5 HY5.out
  obtain ⟨e0, e1, e2, g0, g1, g2⟩ := cells3 HU.out.t7
  go_wp2_with fail
  refine (rWhole0 k0 k1 k2 k3 k4 k5 k6 k7 k8 k9 k10 (.slice none 0 0) (.slice (some ⟨gr, 0, none⟩) xs.length cr) _).mono ?_
  rintro e w6 ⟨rfl, hb⟩
  have HU6 := Aside0.mk (show UsF w w6 k0 k1 k2 k3 k4 k5 k6 k7 k8 k9 k10 (.slice none 0 0) (.slice (some ⟨gr, 0, none⟩) xs.length cr) _ w4.heap.size #[.int .i64 0, .int .i64 0, .slice none 0 0] from HU.out.below hb)
  clear hb x0 x1 x2 x3 x4 e0 e1 e2 g0 g1 g2 mb_0 mb_1 mb_2 mb_3 mb_4 mb_5 mb_6 mb_7 mb_8 mb_9 mb_10 mb_11 mb_12 ob_0 ob_1 ob_2 ob_3 ob_4 ob_5 ob_6 ob_7
  obtain ⟨mb_0, mb_1, mb_2, mb_3, mb_4, mb_5, mb_6, mb_7, mb_8, mb_9, mb_10, mb_11, mb_12⟩ := cellsR HU6.out.mf.m
  obtain ⟨ob_0, ob_1, ob_2, ob_3, ob_4, ob_5, ob_6, ob_7⟩ := cells8 HU6.out.mf.op
  obtain ⟨e0, e1, e2, g0, g1, g2⟩ := cells3 HU6.out.t7
  have x0 := e0
  have x1 := e0
  have x2 := e0
  have x3 := e0
  have x4 := e0
  go_upto_region 31 with fail
  obtain ⟨w7, hw7, HV⟩ : ∃ w0, w6.setCell ⟨w4.heap.size, 0, none⟩ (.int .i64 7) = w0 ∧ Aside0 (UsF w w0 k0 k1 k2 k3 k4 k5 k6 k7 k8 k9 k10 (.slice none 0 0) (.slice (some ⟨gr, 0, none⟩) xs.length cr) _ w4.heap.size #[.int .i64 7, .int .i64 0, .slice none 0 0]) := ⟨_, rfl, ⟨UsF.err 7 HU6.out⟩⟩
  rw [hw7]
  clear hw7 e0 e1 e2 g0 g1 g2 x0 x1 x2 x3 x4 mb_0 mb_1 mb_2 mb_3 mb_4 mb_5 mb_6 mb_7 mb_8 mb_9 mb_10 mb_11 mb_12 ob_0 ob_1 ob_2 ob_3 ob_4 ob_5 ob_6 ob_7
  obtain ⟨mz_0, mz_1, mz_2, mz_3, mz_4, mz_5, mz_6, mz_7, mz_8, mz_9, mz_10, mz_11, mz_12⟩ := cellsR HV.out.mf.m
  obtain ⟨oz_0, oz_1, oz_2, oz_3, oz_4, oz_5, oz_6, oz_7⟩ := cells8 HV.out.mf.op
  obtain ⟨rz_0, rz_1, rz_2, rz_3, rz_4, rz_5, rz_6, rz_7, rz_8, rz_9, rz_10, rz_11, rz_12⟩ := cellsR HV.out.mf.r
  obtain ⟨fz_0, fz_1, fz_2, fz_3, fz_4, fz_5, fz_6, fz_7, fz_8, fz_9, fz_10, fz_11, fz_12⟩ := frozR HV.out.mf.r
  obtain ⟨e0, e1, e2, _⟩ := cells3 HV.out.t7
  obtain ⟨p0, p1, p2, q0, q1, q2⟩ := cells3 HV.out.r2
  have n3 : ¬ (w4.heap.size = w.heap.size + 1 + 1) := by have hh := HV.out.hq; omega
  have n4 : ¬ (w.heap.size + 1 + 1 = w4.heap.size) := by have hh := HV.out.hq; omega
  have n5 : ¬ (w4.heap.size = w.heap.size + 1 + 1 + 1) := by have hh := HV.out.hq; omega
  have n6 : ¬ (w.heap.size + 1 + 1 + 1 = w4.heap.size) := by have hh := HV.out.hq; omega
  have n1 : w.heap.size + 1 + 1 ≠ w.heap.size + 1 + 1 + 1 := by omega
  have n2 : w.heap.size + 1 + 1 + 1 ≠ w.heap.size + 1 + 1 := by omega
  go_region
  all_goals
    go_wp2
    refine bodyPost_ret (retRd rfl _ _ (w.heap.size + 1 + 1) (w.heap.size + 1 + 1 + 1) #[.int .i64 k0, .int .i64 k1, .int .i64 k2, .int .i64 k3, .int .i64 k4, .int .i64 k5, .int .i64 k6, .int .i64 k7, .int .i64 k8, .int .i64 k9, .int .u64 k10, .slice none 0 0, .slice (some ⟨gr, 0, none⟩) xs.length cr] #[.int .i64 7, .int .i64 0, .slice none 0 0] rfl rfl rfl rfl (by first | (with_reducible exact blk_drew (blk_put3 (put13 _ _ _ _ _ _ _ _ _ _ _ _ _  HV.out.mf.r) n1)) | (with_reducible exact blk_drew (put13 _ _ _ _ _ _ _ _ _ _ _ _ _  (blk_put3 HV.out.mf.r n1))) | (with_reducible exact blk_put3 (put13 _ _ _ _ _ _ _ _ _ _ _ _ _  HV.out.mf.r) n1) | exact put13 _ _ _ _ _ _ _ _ _ _ _ _ _  (blk_put3 HV.out.mf.r n1)) (by first | (with_reducible exact blk_drew (put3 _ _ _ (blk_put13 HV.out.r2 n2))) | (with_reducible exact blk_drew (blk_put13 (put3 _ _ _ HV.out.r2) n2)) | (with_reducible exact put3 _ _ _ (blk_put13 HV.out.r2 n2)) | exact blk_put13 (put3 _ _ _ HV.out.r2) n2)) rfl ?_
    exact ⟨rfl, by repeat (first | (with_reducible exact HV.out.mf.b) | (with_reducible apply below_drew1) | (with_reducible refine below_set ?_ (by omega)))⟩

set_option maxHeartbeats 8000000 in
set_option maxRecDepth 100000 in
theorem rUse6 (k0 k1 k2 k3 k4 k5 k6 k7 k8 k9 k10 : Int) (gr cr : Nat) (t0 : TypeId) (xs : List S51) (th a b v nn mm : Int) (A : Option Addr) (dl dc : Nat) (w : World) (hx : w.heap[gr]? = some (.cells (cells51 xs) t0 (0, 0))) (hz : ∀ j, j < xs.length → xs[j]? = some z51) (hn : xs.length ≤ 64) (hb0 : 0 ≤ b) (hb1 : b < (xs.length : Int)) :
    Calls Try.prog 30 #[.agg #[.int .i64 k0, .int .i64 k1, .int .i64 k2, .int .i64 k3, .int .i64 k4, .int .i64 k5, .int .i64 k6, .int .i64 k7, .int .i64 k8, .int .i64 k9, .int .u64 k10, .slice none 0 0, .slice (some ⟨gr, 0, none⟩) xs.length cr], .agg #[.int .i64 6, .int .i64 th, .int .i64 a, .int .i64 b, .int .i64 v, .int .i64 nn, .int .i64 mm, .slice A dl dc]] w fun e w' => e = .returned (.tuple #[.agg #[.int .i64 k0, .int .i64 k1, .int .i64 k2, .int .i64 k3, .int .i64 k4, .int .i64 k5, .int .i64 k6, .int .i64 k7, .int .i64 k8, .int .i64 k9, .int .u64 k10, .slice none 0 0, .slice (some ⟨gr, 0, none⟩) xs.length cr], .agg #[.int .i64 7, .int .i64 0, .slice none 0 0]]) ∧ Below w.heap.size w w' := by
  have hu25 := Try.underlying25
  have hu40 := Try.underlying40
  have hu51 := Try.underlying51
  have hu29 := Try.underlying29
  have hu35 := Try.underlying35
  have hu33 := Try.underlying33
  obtain ⟨w1, hw1, HF, HR2⟩ : ∃ w1, (((w.alloc (.cells #[.int .i64 k0, .int .i64 k1, .int .i64 k2, .int .i64 k3, .int .i64 k4, .int .i64 k5, .int .i64 k6, .int .i64 k7, .int .i64 k8, .int .i64 k9, .int .u64 k10, .slice none 0 0, .slice (some ⟨gr, 0, none⟩) xs.length cr] 40)).alloc (.cells #[.int .i64 6, .int .i64 th, .int .i64 a, .int .i64 b, .int .i64 v, .int .i64 nn, .int .i64 mm, .slice A dl dc] 25)).alloc (.cells #[.int .i64 0, .int .i64 0, .int .i64 0, .int .i64 0, .int .i64 0, .int .i64 0, .int .i64 0, .int .i64 0, .int .i64 0, .int .i64 0, .int .u64 0, .slice none 0 0, .slice none 0 0] 40)).alloc (.cells #[.int .i64 0, .int .i64 0, .slice none 0 0] 35) = w1 ∧ Aside0 (MkF w w1 k0 k1 k2 k3 k4 k5 k6 k7 k8 k9 k10 (.slice none 0 0) (.slice (some ⟨gr, 0, none⟩) xs.length cr) #[.int .i64 6, .int .i64 th, .int .i64 a, .int .i64 b, .int .i64 v, .int .i64 nn, .int .i64 mm, .slice A dl dc]) ∧ Aside0 (w1.heap[w.heap.size + 1 + 1 + 1]? = some (.cells #[.int .i64 0, .int .i64 0, .slice none 0 0] 35 (0, 0))) := ⟨_, rfl, ⟨⟨blk_alloc (blk_alloc (blk_alloc (blk_new _ _) _) _) _, blk_alloc (blk_alloc (blk_new1 _ _ _) _) _, blk_alloc (blk_newb _ _ _ _) _, below_alloc (below_alloc (below_alloc (below_alloc (Below.refl _ _) _) _) _) _⟩⟩, ⟨blk_newc _ _ _ _ _⟩⟩
  have HX := Aside0.mk hx
  have HZ := Aside0.mk hz
  clear hx hz
  obtain ⟨ma_0, ma_1, ma_2, ma_3, ma_4, ma_5, ma_6, ma_7, ma_8, ma_9, ma_10, ma_11, ma_12⟩ := cellsR HF.out.m
  obtain ⟨oa_0, oa_1, oa_2, oa_3, oa_4, oa_5, oa_6, oa_7⟩ := cells8 HF.out.op
  go_enter Try.func30, Try.ntmps30
  go_wp2_with fail
  refine (rGetZ k0 k1 k2 k3 k4 k5 k6 k7 k8 k9 k10 (.slice none 0 0) gr cr t0 xs b _ (blk_below HX.out HF.out.b) HZ.out hb0 hb1).mono ?_
  rintro e w3 ⟨rfl, hbg⟩
  have HB3 := Aside0.mk hbg
  clear hbg
  go_upto_region 2 with fail
  obtain ⟨w4, hwx, HB4, HY⟩ : ∃ w0, w3.alloc (.cells #[.int .i64 0, .int .i64 0, .int .i64 0, .int .i64 0, .int .i64 0] 51) = w0 ∧ Aside0 (Below w1.heap.size w1 w0) ∧ Aside0 (w0.heap[w3.heap.size]? = some (.cells #[.int .i64 0, .int .i64 0, .int .i64 0, .int .i64 0, .int .i64 0] 51 (0, 0))) := ⟨_, rfl, ⟨below_alloc HB3.out _⟩, ⟨blk_new _ _⟩⟩
  rw [hwx]
  clear hwx ma_0 ma_1 ma_2 ma_3 ma_4 ma_5 ma_6 ma_7 ma_8 ma_9 ma_10 ma_11 ma_12 oa_0 oa_1 oa_2 oa_3 oa_4 oa_5 oa_6 oa_7
  go_upto_region 3 with fail
  obtain ⟨w5, hwy, HU, HY5⟩ : ∃ w0, w4.alloc (.cells #[.int .i64 0, .int .i64 0, .slice none 0 0] 35) = w0 ∧ Aside0 (UsF w w0 k0 k1 k2 k3 k4 k5 k6 k7 k8 k9 k10 (.slice none 0 0) (.slice (some ⟨gr, 0, none⟩) xs.length cr) _ w4.heap.size #[.int .i64 0, .int .i64 0, .slice none 0 0]) ∧ Aside0 (w0.heap[w3.heap.size]? = some (.cells #[.int .i64 0, .int .i64 0, .int .i64 0, .int .i64 0, .int .i64 0] 51 (0, 0))) := ⟨_, rfl, ⟨⟨MkF.below HF.out (below_alloc HB4.out _), blk_below HR2.out (below_alloc HB4.out _), blk_new _ _, Nat.lt_of_lt_of_le (blk_lt HR2.out) HB4.out.size⟩⟩, ⟨blk_alloc HY.out _⟩⟩
  rw [hwy]
  clear hwy
  obtain ⟨mb_0, mb_1, mb_2, mb_3, mb_4, mb_5, mb_6, mb_7, mb_8, mb_9, mb_10, mb_11, mb_12⟩ := cellsR HU.out.mf.m
  obtain ⟨ob_0, ob_1, ob_2, ob_3, ob_4, ob_5, ob_6, ob_7⟩ := cells8 HU.out.mf.op
  obtain ⟨x0, x1, x2, x3, x4, _⟩ := cells5 HY5.out
  obtain ⟨e0, e1, e2, g0, g1, g2⟩ := cells3 HU.out.t7
  go_wp2_with fail
  refine (rWhole0 k0 k1 k2 k3 k4 k5 k6 k7 k8 k9 k10 (.slice none 0 0) (.slice (some ⟨gr, 0, none⟩) xs.length cr) _).mono ?_
  rintro e w6 ⟨rfl, hb⟩
  have HU6 := Aside0.mk (show UsF w w6 k0 k1 k2 k3 k4 k5 k6 k7 k8 k9 k10 (.slice none 0 0) (.slice (some ⟨gr, 0, none⟩) xs.length cr) _ w4.heap.size #[.int .i64 0, .int .i64 0, .slice none 0 0] from HU.out.below hb)
  clear hb x0 x1 x2 x3 x4 e0 e1 e2 g0 g1 g2 mb_0 mb_1 mb_2 mb_3 mb_4 mb_5 mb_6 mb_7 mb_8 mb_9 mb_10 mb_11 mb_12 ob_0 ob_1 ob_2 ob_3 ob_4 ob_5 ob_6 ob_7
  obtain ⟨mb_0, mb_1, mb_2, mb_3, mb_4, mb_5, mb_6, mb_7, mb_8, mb_9, mb_10, mb_11, mb_12⟩ := cellsR HU6.out.mf.m
  obtain ⟨ob_0, ob_1, ob_2, ob_3, ob_4, ob_5, ob_6, ob_7⟩ := cells8 HU6.out.mf.op
  obtain ⟨e0, e1, e2, g0, g1, g2⟩ := cells3 HU6.out.t7
  have x0 := e0
  have x1 := e0
  have x2 := e0
  have x3 := e0
  have x4 := e0
  go_upto_region 31 with fail
  obtain ⟨w7, hw7, HV⟩ : ∃ w0, w6.setCell ⟨w4.heap.size, 0, none⟩ (.int .i64 7) = w0 ∧ Aside0 (UsF w w0 k0 k1 k2 k3 k4 k5 k6 k7 k8 k9 k10 (.slice none 0 0) (.slice (some ⟨gr, 0, none⟩) xs.length cr) _ w4.heap.size #[.int .i64 7, .int .i64 0, .slice none 0 0]) := ⟨_, rfl, ⟨UsF.err 7 HU6.out⟩⟩
  rw [hw7]
  clear hw7 e0 e1 e2 g0 g1 g2 x0 x1 x2 x3 x4 mb_0 mb_1 mb_2 mb_3 mb_4 mb_5 mb_6 mb_7 mb_8 mb_9 mb_10 mb_11 mb_12 ob_0 ob_1 ob_2 ob_3 ob_4 ob_5 ob_6 ob_7
  obtain ⟨mz_0, mz_1, mz_2, mz_3, mz_4, mz_5, mz_6, mz_7, mz_8, mz_9, mz_10, mz_11, mz_12⟩ := cellsR HV.out.mf.m
  obtain ⟨oz_0, oz_1, oz_2, oz_3, oz_4, oz_5, oz_6, oz_7⟩ := cells8 HV.out.mf.op
  obtain ⟨rz_0, rz_1, rz_2, rz_3, rz_4, rz_5, rz_6, rz_7, rz_8, rz_9, rz_10, rz_11, rz_12⟩ := cellsR HV.out.mf.r
  obtain ⟨fz_0, fz_1, fz_2, fz_3, fz_4, fz_5, fz_6, fz_7, fz_8, fz_9, fz_10, fz_11, fz_12⟩ := frozR HV.out.mf.r
  obtain ⟨e0, e1, e2, _⟩ := cells3 HV.out.t7
  obtain ⟨p0, p1, p2, q0, q1, q2⟩ := cells3 HV.out.r2
  have n3 : ¬ (w4.heap.size = w.heap.size + 1 + 1) := by have hh := HV.out.hq; omega
  have n4 : ¬ (w.heap.size + 1 + 1 = w4.heap.size) := by have hh := HV.out.hq; omega
  have n5 : ¬ (w4.heap.size = w.heap.size + 1 + 1 + 1) := by have hh := HV.out.hq; omega
  have n6 : ¬ (w.heap.size + 1 + 1 + 1 = w4.heap.size) := by have hh := HV.out.hq; omega
  have n1 : w.heap.size + 1 + 1 ≠ w.heap.size + 1 + 1 + 1 := by omega
  have n2 : w.heap.size + 1 + 1 + 1 ≠ w.heap.size + 1 + 1 := by omega
  go_region
  all_goals
    go_wp2
    refine bodyPost_ret (retRd rfl _ _ (w.heap.size + 1 + 1) (w.heap.size + 1 + 1 + 1) #[.int .i64 k0, .int .i64 k1, .int .i64 k2, .int .i64 k3, .int .i64 k4, .int .i64 k5, .int .i64 k6, .int .i64 k7, .int .i64 k8, .int .i64 k9, .int .u64 k10, .slice none 0 0, .slice (some ⟨gr, 0, none⟩) xs.length cr] #[.int .i64 7, .int .i64 0, .slice none 0 0] rfl rfl rfl rfl (by first | (with_reducible exact blk_drew (blk_put3 (put13 _ _ _ _ _ _ _ _ _ _ _ _ _  HV.out.mf.r) n1)) | (with_reducible exact blk_drew (put13 _ _ _ _ _ _ _ _ _ _ _ _ _  (blk_put3 HV.out.mf.r n1))) | (with_reducible exact blk_put3 (put13 _ _ _ _ _ _ _ _ _ _ _ _ _  HV.out.mf.r) n1) | exact put13 _ _ _ _ _ _ _ _ _ _ _ _ _  (blk_put3 HV.out.mf.r n1)) (by first | (with_reducible exact blk_drew (put3 _ _ _ (blk_put13 HV.out.r2 n2))) | (with_reducible exact blk_drew (blk_put13 (put3 _ _ _ HV.out.r2) n2)) | (with_reducible exact put3 _ _ _ (blk_put13 HV.out.r2 n2)) | exact blk_put13 (put3 _ _ _ HV.out.r2) n2)) rfl ?_
    exact ⟨rfl, by repeat (first | (with_reducible exact HV.out.mf.b) | (with_reducible apply below_drew1) | (with_reducible refine below_set ?_ (by omega)))⟩

set_option maxHeartbeats 8000000 in
set_option maxRecDepth 100000 in
theorem rUse11b (k0 k1 k2 k3 k4 k5 k6 k7 k8 k9 k10 : Int) (gr cr : Nat) (t0 : TypeId) (xs : List S51) (th a b v nn mm : Int) (A : Option Addr) (dl dc : Nat) (w : World) (hx : w.heap[gr]? = some (.cells (cells51 xs) t0 (0, 0))) (hz : ∀ j, j < xs.length → xs[j]? = some z51) (hn : xs.length ≤ 64) (hb0 : 0 ≤ b) (hb1 : b < (xs.length : Int)) (h0 : 4096 < nn) :
    Calls Try.prog 30 #[.agg #[.int .i64 k0, .int .i64 k1, .int .i64 k2, .int .i64 k3, .int .i64 k4, .int .i64 k5, .int .i64 k6, .int .i64 k7, .int .i64 k8, .int .i64 k9, .int .u64 k10, .slice none 0 0, .slice (some ⟨gr, 0, none⟩) xs.length cr], .agg #[.int .i64 11, .int .i64 th, .int .i64 a, .int .i64 b, .int .i64 v, .int .i64 nn, .int .i64 mm, .slice A dl dc]] w fun e w' => e = .returned (.tuple #[.agg #[.int .i64 k0, .int .i64 k1, .int .i64 k2, .int .i64 k3, .int .i64 k4, .int .i64 k5, .int .i64 k6, .int .i64 k7, .int .i64 k8, .int .i64 k9, .int .u64 k10, .slice none 0 0, .slice (some ⟨gr, 0, none⟩) xs.length cr], .agg #[.int .i64 4, .int .i64 0, .slice none 0 0]]) ∧ Below w.heap.size w w' := by
  have hu25 := Try.underlying25
  have hu40 := Try.underlying40
  have hu51 := Try.underlying51
  have hu29 := Try.underlying29
  have hu35 := Try.underlying35
  have hu33 := Try.underlying33
  obtain ⟨w1, hw1, HF, HR2⟩ : ∃ w1, (((w.alloc (.cells #[.int .i64 k0, .int .i64 k1, .int .i64 k2, .int .i64 k3, .int .i64 k4, .int .i64 k5, .int .i64 k6, .int .i64 k7, .int .i64 k8, .int .i64 k9, .int .u64 k10, .slice none 0 0, .slice (some ⟨gr, 0, none⟩) xs.length cr] 40)).alloc (.cells #[.int .i64 11, .int .i64 th, .int .i64 a, .int .i64 b, .int .i64 v, .int .i64 nn, .int .i64 mm, .slice A dl dc] 25)).alloc (.cells #[.int .i64 0, .int .i64 0, .int .i64 0, .int .i64 0, .int .i64 0, .int .i64 0, .int .i64 0, .int .i64 0, .int .i64 0, .int .i64 0, .int .u64 0, .slice none 0 0, .slice none 0 0] 40)).alloc (.cells #[.int .i64 0, .int .i64 0, .slice none 0 0] 35) = w1 ∧ Aside0 (MkF w w1 k0 k1 k2 k3 k4 k5 k6 k7 k8 k9 k10 (.slice none 0 0) (.slice (some ⟨gr, 0, none⟩) xs.length cr) #[.int .i64 11, .int .i64 th, .int .i64 a, .int .i64 b, .int .i64 v, .int .i64 nn, .int .i64 mm, .slice A dl dc]) ∧ Aside0 (w1.heap[w.heap.size + 1 + 1 + 1]? = some (.cells #[.int .i64 0, .int .i64 0, .slice none 0 0] 35 (0, 0))) := ⟨_, rfl, ⟨⟨blk_alloc (blk_alloc (blk_alloc (blk_new _ _) _) _) _, blk_alloc (blk_alloc (blk_new1 _ _ _) _) _, blk_alloc (blk_newb _ _ _ _) _, below_alloc (below_alloc (below_alloc (below_alloc (Below.refl _ _) _) _) _) _⟩⟩, ⟨blk_newc _ _ _ _ _⟩⟩
  have HX := Aside0.mk hx
  have HZ := Aside0.mk hz
  clear hx hz
  have d1 : decide (4096 < nn) = true := decide_eq_true h0
  obtain ⟨ma_0, ma_1, ma_2, ma_3, ma_4, ma_5, ma_6, ma_7, ma_8, ma_9, ma_10, ma_11, ma_12⟩ := cellsR HF.out.m
  obtain ⟨oa_0, oa_1, oa_2, oa_3, oa_4, oa_5, oa_6, oa_7⟩ := cells8 HF.out.op
  go_enter Try.func30, Try.ntmps30
  go_wp2_with fail
  refine (rGetZ k0 k1 k2 k3 k4 k5 k6 k7 k8 k9 k10 (.slice none 0 0) gr cr t0 xs b _ (blk_below HX.out HF.out.b) HZ.out hb0 hb1).mono ?_
  rintro e w3 ⟨rfl, hbg⟩
  have HB3 := Aside0.mk hbg
  clear hbg
  go_upto_region 2 with fail
  obtain ⟨w4, hwx, HB4, HY⟩ : ∃ w0, w3.alloc (.cells #[.int .i64 0, .int .i64 0, .int .i64 0, .int .i64 0, .int .i64 0] 51) = w0 ∧ Aside0 (Below w1.heap.size w1 w0) ∧ Aside0 (w0.heap[w3.heap.size]? = some (.cells #[.int .i64 0, .int .i64 0, .int .i64 0, .int .i64 0, .int .i64 0] 51 (0, 0))) := ⟨_, rfl, ⟨below_alloc HB3.out _⟩, ⟨blk_new _ _⟩⟩
  rw [hwx]
  clear hwx ma_0 ma_1 ma_2 ma_3 ma_4 ma_5 ma_6 ma_7 ma_8 ma_9 ma_10 ma_11 ma_12 oa_0 oa_1 oa_2 oa_3 oa_4 oa_5 oa_6 oa_7
  go_upto_region 3 with fail
  obtain ⟨w5, hwy, HU, HY5⟩ : ∃ w0, w4.alloc (.cells #[.int .i64 0, .int .i64 0, .slice none 0 0] 35) = w0 ∧ Aside0 (UsF w w0 k0 k1 k2 k3 k4 k5 k6 k7 k8 k9 k10 (.slice none 0 0) (.slice (some ⟨gr, 0, none⟩) xs.length cr) _ w4.heap.size #[.int .i64 0, .int .i64 0, .slice none 0 0]) ∧ Aside0 (w0.heap[w3.heap.size]? = some (.cells #[.int .i64 0, .int .i64 0, .int .i64 0, .int .i64 0, .int .i64 0] 51 (0, 0))) := ⟨_, rfl, ⟨⟨MkF.below HF.out (below_alloc HB4.out _), blk_below HR2.out (below_alloc HB4.out _), blk_new _ _, Nat.lt_of_lt_of_le (blk_lt HR2.out) HB4.out.size⟩⟩, ⟨blk_alloc HY.out _⟩⟩
  rw [hwy]
  clear hwy
  obtain ⟨mb_0, mb_1, mb_2, mb_3, mb_4, mb_5, mb_6, mb_7, mb_8, mb_9, mb_10, mb_11, mb_12⟩ := cellsR HU.out.mf.m
  obtain ⟨ob_0, ob_1, ob_2, ob_3, ob_4, ob_5, ob_6, ob_7⟩ := cells8 HU.out.mf.op
  obtain ⟨x0, x1, x2, x3, x4, _⟩ := cells5 HY5.out
  obtain ⟨e0, e1, e2, g0, g1, g2⟩ := cells3 HU.out.t7
  go_upto_region 31 with fail
  obtain ⟨w7, hw7, HV⟩ : ∃ w0, w5.setCell ⟨w4.heap.size, 0, none⟩ (.int .i64 4) = w0 ∧ Aside0 (UsF w w0 k0 k1 k2 k3 k4 k5 k6 k7 k8 k9 k10 (.slice none 0 0) (.slice (some ⟨gr, 0, none⟩) xs.length cr) _ w4.heap.size #[.int .i64 4, .int .i64 0, .slice none 0 0]) := ⟨_, rfl, ⟨UsF.err 4 HU.out⟩⟩
  rw [hw7]
  clear hw7 e0 e1 e2 g0 g1 g2 x0 x1 x2 x3 x4 mb_0 mb_1 mb_2 mb_3 mb_4 mb_5 mb_6 mb_7 mb_8 mb_9 mb_10 mb_11 mb_12 ob_0 ob_1 ob_2 ob_3 ob_4 ob_5 ob_6 ob_7
  obtain ⟨mz_0, mz_1, mz_2, mz_3, mz_4, mz_5, mz_6, mz_7, mz_8, mz_9, mz_10, mz_11, mz_12⟩ := cellsR HV.out.mf.m
  obtain ⟨oz_0, oz_1, oz_2, oz_3, oz_4, oz_5, oz_6, oz_7⟩ := cells8 HV.out.mf.op
  obtain ⟨rz_0, rz_1, rz_2, rz_3, rz_4, rz_5, rz_6, rz_7, rz_8, rz_9, rz_10, rz_11, rz_12⟩ := cellsR HV.out.mf.r
  obtain ⟨fz_0, fz_1, fz_2, fz_3, fz_4, fz_5, fz_6, fz_7, fz_8, fz_9, fz_10, fz_11, fz_12⟩ := frozR HV.out.mf.r
  obtain ⟨e0, e1, e2, _⟩ := cells3 HV.out.t7
  obtain ⟨p0, p1, p2, q0, q1, q2⟩ := cells3 HV.out.r2
  have n3 : ¬ (w4.heap.size = w.heap.size + 1 + 1) := by have hh := HV.out.hq; omega
  have n4 : ¬ (w.heap.size + 1 + 1 = w4.heap.size) := by have hh := HV.out.hq; omega
  have n5 : ¬ (w4.heap.size = w.heap.size + 1 + 1 + 1) := by have hh := HV.out.hq; omega
  have n6 : ¬ (w.heap.size + 1 + 1 + 1 = w4.heap.size) := by have hh := HV.out.hq; omega
  have n1 : w.heap.size + 1 + 1 ≠ w.heap.size + 1 + 1 + 1 := by omega
  have n2 : w.heap.size + 1 + 1 + 1 ≠ w.heap.size + 1 + 1 := by omega
  go_region
  all_goals
    go_wp2
    refine bodyPost_ret (retRd rfl _ _ (w.heap.size + 1 + 1) (w.heap.size + 1 + 1 + 1) #[.int .i64 k0, .int .i64 k1, .int .i64 k2, .int .i64 k3, .int .i64 k4, .int .i64 k5, .int .i64 k6, .int .i64 k7, .int .i64 k8, .int .i64 k9, .int .u64 k10, .slice none 0 0, .slice (some ⟨gr, 0, none⟩) xs.length cr] #[.int .i64 4, .int .i64 0, .slice none 0 0] rfl rfl rfl rfl (by first | (with_reducible exact blk_drew (blk_put3 (put13 _ _ _ _ _ _ _ _ _ _ _ _ _  HV.out.mf.r) n1)) | (with_reducible exact blk_drew (put13 _ _ _ _ _ _ _ _ _ _ _ _ _  (blk_put3 HV.out.mf.r n1))) | (with_reducible exact blk_put3 (put13 _ _ _ _ _ _ _ _ _ _ _ _ _  HV.out.mf.r) n1) | exact put13 _ _ _ _ _ _ _ _ _ _ _ _ _  (blk_put3 HV.out.mf.r n1)) (by first | (with_reducible exact blk_drew (put3 _ _ _ (blk_put13 HV.out.r2 n2))) | (with_reducible exact blk_drew (blk_put13 (put3 _ _ _ HV.out.r2) n2)) | (with_reducible exact put3 _ _ _ (blk_put13 HV.out.r2 n2)) | exact blk_put13 (put3 _ _ _ HV.out.r2) n2)) rfl ?_
    exact ⟨rfl, by repeat (first | (with_reducible exact HV.out.mf.b) | (with_reducible apply below_drew1) | (with_reducible refine below_set ?_ (by omega)))⟩

set_option maxHeartbeats 8000000 in
set_option maxRecDepth 100000 in
theorem rUse11 (k0 k1 k2 k3 k4 k5 k6 k7 k8 k9 k10 : Int) (gr cr : Nat) (t0 : TypeId) (xs : List S51) (th a b v nn mm : Int) (A : Option Addr) (dl dc : Nat) (w : World) (hx : w.heap[gr]? = some (.cells (cells51 xs) t0 (0, 0))) (hz : ∀ j, j < xs.length → xs[j]? = some z51) (hn : xs.length ≤ 64) (hb0 : 0 ≤ b) (hb1 : b < (xs.length : Int)) (h0 : nn ≤ 4096) :
    Calls Try.prog 30 #[.agg #[.int .i64 k0, .int .i64 k1, .int .i64 k2, .int .i64 k3, .int .i64 k4, .int .i64 k5, .int .i64 k6, .int .i64 k7, .int .i64 k8, .int .i64 k9, .int .u64 k10, .slice none 0 0, .slice (some ⟨gr, 0, none⟩) xs.length cr], .agg #[.int .i64 11, .int .i64 th, .int .i64 a, .int .i64 b, .int .i64 v, .int .i64 nn, .int .i64 mm, .slice A dl dc]] w fun e w' => e = .returned (.tuple #[.agg #[.int .i64 k0, .int .i64 k1, .int .i64 k2, .int .i64 k3, .int .i64 k4, .int .i64 k5, .int .i64 k6, .int .i64 k7, .int .i64 k8, .int .i64 k9, .int .u64 k10, .slice none 0 0, .slice (some ⟨gr, 0, none⟩) xs.length cr], .agg #[.int .i64 7, .int .i64 0, .slice none 0 0]]) ∧ Below w.heap.size w w' := by
  have hu25 := Try.underlying25
  have hu40 := Try.underlying40
  have hu51 := Try.underlying51
  have hu29 := Try.underlying29
  have hu35 := Try.underlying35
  have hu33 := Try.underlying33
  obtain ⟨w1, hw1, HF, HR2⟩ : ∃ w1, (((w.alloc (.cells #[.int .i64 k0, .int .i64 k1, .int .i64 k2, .int .i64 k3, .int .i64 k4, .int .i64 k5, .int .i64 k6, .int .i64 k7, .int .i64 k8, .int .i64 k9, .int .u64 k10, .slice none 0 0, .slice (some ⟨gr, 0, none⟩) xs.length cr] 40)).alloc (.cells #[.int .i64 11, .int .i64 th, .int .i64 a, .int .i64 b, .int .i64 v, .int .i64 nn, .int .i64 mm, .slice A dl dc] 25)).alloc (.cells #[.int .i64 0, .int .i64 0, .int .i64 0, .int .i64 0, .int .i64 0, .int .i64 0, .int .i64 0, .int .i64 0, .int .i64 0, .int .i64 0, .int .u64 0, .slice none 0 0, .slice none 0 0] 40)).alloc (.cells #[.int .i64 0, .int .i64 0, .slice none 0 0] 35) = w1 ∧ Aside0 (MkF w w1 k0 k1 k2 k3 k4 k5 k6 k7 k8 k9 k10 (.slice none 0 0) (.slice (some ⟨gr, 0, none⟩) xs.length cr) #[.int .i64 11, .int .i64 th, .int .i64 a, .int .i64 b, .int .i64 v, .int .i64 nn, .int .i64 mm, .slice A dl dc]) ∧ Aside0 (w1.heap[w.heap.size + 1 + 1 + 1]? = some (.cells #[.int .i64 0, .int .i64 0, .slice none 0 0] 35 (0, 0))) := ⟨_, rfl, ⟨⟨blk_alloc (blk_alloc (blk_alloc (blk_new _ _) _) _) _, blk_alloc (blk_alloc (blk_new1 _ _ _) _) _, blk_alloc (blk_newb _ _ _ _) _, below_alloc (below_alloc (below_alloc (below_alloc (Below.refl _ _) _) _) _) _⟩⟩, ⟨blk_newc _ _ _ _ _⟩⟩
  have HX := Aside0.mk hx
  have HZ := Aside0.mk hz
  clear hx hz
  have d1 : decide (4096 < nn) = false := decide_eq_false (by omega)
  obtain ⟨ma_0, ma_1, ma_2, ma_3, ma_4, ma_5, ma_6, ma_7, ma_8, ma_9, ma_10, ma_11, ma_12⟩ := cellsR HF.out.m
  obtain ⟨oa_0, oa_1, oa_2, oa_3, oa_4, oa_5, oa_6, oa_7⟩ := cells8 HF.out.op
  go_enter Try.func30, Try.ntmps30
  go_wp2_with fail
  refine (rGetZ k0 k1 k2 k3 k4 k5 k6 k7 k8 k9 k10 (.slice none 0 0) gr cr t0 xs b _ (blk_below HX.out HF.out.b) HZ.out hb0 hb1).mono ?_
  rintro e w3 ⟨rfl, hbg⟩
  have HB3 := Aside0.mk hbg
  clear hbg
  go_upto_region 2 with fail
  obtain ⟨w4, hwx, HB4, HY⟩ : ∃ w0, w3.alloc (.cells #[.int .i64 0, .int .i64 0, .int .i64 0, .int .i64 0, .int .i64 0] 51) = w0 ∧ Aside0 (Below w1.heap.size w1 w0) ∧ Aside0 (w0.heap[w3.heap.size]? = some (.cells #[.int .i64 0, .int .i64 0, .int .i64 0, .int .i64 0, .int .i64 0] 51 (0, 0))) := ⟨_, rfl, ⟨below_alloc HB3.out _⟩, ⟨blk_new _ _⟩⟩
  rw [hwx]
  clear hwx ma_0 ma_1 ma_2 ma_3 ma_4 ma_5 ma_6 ma_7 ma_8 ma_9 ma_10 ma_11 ma_12 oa_0 oa_1 oa_2 oa_3 oa_4 oa_5 oa_6 oa_7
  go_upto_region 3 with fail
  obtain ⟨w5, hwy, HU, HY5⟩ : ∃ w0, w4.alloc (.cells #[.int .i64 0, .int .i64 0, .slice none 0 0] 35) = w0 ∧ Aside0 (UsF w w0 k0 k1 k2 k3 k4 k5 k6 k7 k8 k9 k10 (.slice none 0 0) (.slice (some ⟨gr, 0, none⟩) xs.length cr) _ w4.heap.size #[.int .i64 0, .int .i64 0, .slice none 0 0]) ∧ Aside0 (w0.heap[w3.heap.size]? = some (.cells #[.int .i64 0, .int .i64 0, .int .i64 0, .int .i64 0, .int .i64 0] 51 (0, 0))) := ⟨_, rfl, ⟨⟨MkF.below HF.out (below_alloc HB4.out _), blk_below HR2.out (below_alloc HB4.out _), blk_new _ _, Nat.lt_of_lt_of_le (blk_lt HR2.out) HB4.out.size⟩⟩, ⟨blk_alloc HY.out _⟩⟩
  rw [hwy]
  clear hwy
  obtain ⟨mb_0, mb_1, mb_2, mb_3, mb_4, mb_5, mb_6, mb_7, mb_8, mb_9, mb_10, mb_11, mb_12⟩ := cellsR HU.out.mf.m
  obtain ⟨ob_0, ob_1, ob_2, ob_3, ob_4, ob_5, ob_6, ob_7⟩ := cells8 HU.out.mf.op
  obtain ⟨x0, x1, x2, x3, x4, _⟩ := cells5 HY5.out
  obtain ⟨e0, e1, e2, g0, g1, g2⟩ := cells3 HU.out.t7
  go_wp2_with fail
  refine (rAccess0 nn 1 _).mono ?_
  rintro e w6 ⟨rfl, hb⟩
  have HU6 := Aside0.mk (show UsF w w6 k0 k1 k2 k3 k4 k5 k6 k7 k8 k9 k10 (.slice none 0 0) (.slice (some ⟨gr, 0, none⟩) xs.length cr) _ w4.heap.size #[.int .i64 0, .int .i64 0, .slice none 0 0] from HU.out.below hb)
  clear hb x0 x1 x2 x3 x4 e0 e1 e2 g0 g1 g2 mb_0 mb_1 mb_2 mb_3 mb_4 mb_5 mb_6 mb_7 mb_8 mb_9 mb_10 mb_11 mb_12 ob_0 ob_1 ob_2 ob_3 ob_4 ob_5 ob_6 ob_7
  obtain ⟨mb_0, mb_1, mb_2, mb_3, mb_4, mb_5, mb_6, mb_7, mb_8, mb_9, mb_10, mb_11, mb_12⟩ := cellsR HU6.out.mf.m
  obtain ⟨ob_0, ob_1, ob_2, ob_3, ob_4, ob_5, ob_6, ob_7⟩ := cells8 HU6.out.mf.op
  obtain ⟨e0, e1, e2, g0, g1, g2⟩ := cells3 HU6.out.t7
  have x0 := e0
  have x1 := e0
  have x2 := e0
  have x3 := e0
  have x4 := e0
  go_upto_region 31 with fail
  obtain ⟨w7, hw7, HV⟩ : ∃ w0, w6.setCell ⟨w4.heap.size, 0, none⟩ (.int .i64 7) = w0 ∧ Aside0 (UsF w w0 k0 k1 k2 k3 k4 k5 k6 k7 k8 k9 k10 (.slice none 0 0) (.slice (some ⟨gr, 0, none⟩) xs.length cr) _ w4.heap.size #[.int .i64 7, .int .i64 0, .slice none 0 0]) := ⟨_, rfl, ⟨UsF.err 7 HU6.out⟩⟩
  rw [hw7]
  clear hw7 e0 e1 e2 g0 g1 g2 x0 x1 x2 x3 x4 mb_0 mb_1 mb_2 mb_3 mb_4 mb_5 mb_6 mb_7 mb_8 mb_9 mb_10 mb_11 mb_12 ob_0 ob_1 ob_2 ob_3 ob_4 ob_5 ob_6 ob_7
  obtain ⟨mz_0, mz_1, mz_2, mz_3, mz_4, mz_5, mz_6, mz_7, mz_8, mz_9, mz_10, mz_11, mz_12⟩ := cellsR HV.out.mf.m
  obtain ⟨oz_0, oz_1, oz_2, oz_3, oz_4, oz_5, oz_6, oz_7⟩ := cells8 HV.out.mf.op
  obtain ⟨rz_0, rz_1, rz_2, rz_3, rz_4, rz_5, rz_6, rz_7, rz_8, rz_9, rz_10, rz_11, rz_12⟩ := cellsR HV.out.mf.r
  obtain ⟨fz_0, fz_1, fz_2, fz_3, fz_4, fz_5, fz_6, fz_7, fz_8, fz_9, fz_10, fz_11, fz_12⟩ := frozR HV.out.mf.r
  obtain ⟨e0, e1, e2, _⟩ := cells3 HV.out.t7
  obtain ⟨p0, p1, p2, q0, q1, q2⟩ := cells3 HV.out.r2
  have n3 : ¬ (w4.heap.size = w.heap.size + 1 + 1) := by have hh := HV.out.hq; omega
  have n4 : ¬ (w.heap.size + 1 + 1 = w4.heap.size) := by have hh := HV.out.hq; omega
  have n5 : ¬ (w4.heap.size = w.heap.size + 1 + 1 + 1) := by have hh := HV.out.hq; omega
  have n6 : ¬ (w.heap.size + 1 + 1 + 1 = w4.heap.size) := by have hh := HV.out.hq; omega
  have n1 : w.heap.size + 1 + 1 ≠ w.heap.size + 1 + 1 + 1 := by omega
  have n2 : w.heap.size + 1 + 1 + 1 ≠ w.heap.size + 1 + 1 := by omega
  go_region
  all_goals
    go_wp2
    refine bodyPost_ret (retRd rfl _ _ (w.heap.size + 1 + 1) (w.heap.size + 1 + 1 + 1) #[.int .i64 k0, .int .i64 k1, .int .i64 k2, .int .i64 k3, .int .i64 k4, .int .i64 k5, .int .i64 k6, .int .i64 k7, .int .i64 k8, .int .i64 k9, .int .u64 k10, .slice none 0 0, .slice (some ⟨gr, 0, none⟩) xs.length cr] #[.int .i64 7, .int .i64 0, .slice none 0 0] rfl rfl rfl rfl (by first | (with_reducible exact blk_drew (blk_put3 (put13 _ _ _ _ _ _ _ _ _ _ _ _ _  HV.out.mf.r) n1)) | (with_reducible exact blk_drew (put13 _ _ _ _ _ _ _ _ _ _ _ _ _  (blk_put3 HV.out.mf.r n1))) | (with_reducible exact blk_put3 (put13 _ _ _ _ _ _ _ _ _ _ _ _ _  HV.out.mf.r) n1) | exact put13 _ _ _ _ _ _ _ _ _ _ _ _ _  (blk_put3 HV.out.mf.r n1)) (by first | (with_reducible exact blk_drew (put3 _ _ _ (blk_put13 HV.out.r2 n2))) | (with_reducible exact blk_drew (blk_put13 (put3 _ _ _ HV.out.r2) n2)) | (with_reducible exact put3 _ _ _ (blk_put13 HV.out.r2 n2)) | exact blk_put13 (put3 _ _ _ HV.out.r2) n2)) rfl ?_
    exact ⟨rfl, by repeat (first | (with_reducible exact HV.out.mf.b) | (with_reducible apply below_drew1) | (with_reducible refine below_set ?_ (by omega)))⟩

set_option maxHeartbeats 8000000 in
set_option maxRecDepth 100000 in
theorem rUse12b (k0 k1 k2 k3 k4 k5 k6 k7 k8 k9 k10 : Int) (gr cr : Nat) (t0 : TypeId) (xs : List S51) (th a b v nn mm : Int) (A : Option Addr) (dl dc : Nat) (w : World) (hx : w.heap[gr]? = some (.cells (cells51 xs) t0 (0, 0))) (hz : ∀ j, j < xs.length → xs[j]? = some z51) (hn : xs.length ≤ 64) (hb0 : 0 ≤ b) (hb1 : b < (xs.length : Int)) (h0 : 4096 < (dl : Int)) :
    Calls Try.prog 30 #[.agg #[.int .i64 k0, .int .i64 k1, .int .i64 k2, .int .i64 k3, .int .i64 k4, .int .i64 k5, .int .i64 k6, .int .i64 k7, .int .i64 k8, .int .i64 k9, .int .u64 k10, .slice none 0 0, .slice (some ⟨gr, 0, none⟩) xs.length cr], .agg #[.int .i64 12, .int .i64 th, .int .i64 a, .int .i64 b, .int .i64 v, .int .i64 nn, .int .i64 mm, .slice A dl dc]] w fun e w' => e = .returned (.tuple #[.agg #[.int .i64 k0, .int .i64 k1, .int .i64 k2, .int .i64 k3, .int .i64 k4, .int .i64 k5, .int .i64 k6, .int .i64 k7, .int .i64 k8, .int .i64 k9, .int .u64 k10, .slice none 0 0, .slice (some ⟨gr, 0, none⟩) xs.length cr], .agg #[.int .i64 4, .int .i64 0, .slice none 0 0]]) ∧ Below w.heap.size w w' := by
  have hu25 := Try.underlying25
  have hu40 := Try.underlying40
  have hu51 := Try.underlying51
  have hu29 := Try.underlying29
  have hu35 := Try.underlying35
  have hu33 := Try.underlying33
  obtain ⟨w1, hw1, HF, HR2⟩ : ∃ w1, (((w.alloc (.cells #[.int .i64 k0, .int .i64 k1, .int .i64 k2, .int .i64 k3, .int .i64 k4, .int .i64 k5, .int .i64 k6, .int .i64 k7, .int .i64 k8, .int .i64 k9, .int .u64 k10, .slice none 0 0, .slice (some ⟨gr, 0, none⟩) xs.length cr] 40)).alloc (.cells #[.int .i64 12, .int .i64 th, .int .i64 a, .int .i64 b, .int .i64 v, .int .i64 nn, .int .i64 mm, .slice A dl dc] 25)).alloc (.cells #[.int .i64 0, .int .i64 0, .int .i64 0, .int .i64 0, .int .i64 0, .int .i64 0, .int .i64 0, .int .i64 0, .int .i64 0, .int .i64 0, .int .u64 0, .slice none 0 0, .slice none 0 0] 40)).alloc (.cells #[.int .i64 0, .int .i64 0, .slice none 0 0] 35) = w1 ∧ Aside0 (MkF w w1 k0 k1 k2 k3 k4 k5 k6 k7 k8 k9 k10 (.slice none 0 0) (.slice (some ⟨gr, 0, none⟩) xs.length cr) #[.int .i64 12, .int .i64 th, .int .i64 a, .int .i64 b, .int .i64 v, .int .i64 nn, .int .i64 mm, .slice A dl dc]) ∧ Aside0 (w1.heap[w.heap.size + 1 + 1 + 1]? = some (.cells #[.int .i64 0, .int .i64 0, .slice none 0 0] 35 (0, 0))) := ⟨_, rfl, ⟨⟨blk_alloc (blk_alloc (blk_alloc (blk_new _ _) _) _) _, blk_alloc (blk_alloc (blk_new1 _ _ _) _) _, blk_alloc (blk_newb _ _ _ _) _, below_alloc (below_alloc (below_alloc (below_alloc (Below.refl _ _) _) _) _) _⟩⟩, ⟨blk_newc _ _ _ _ _⟩⟩
  have HX := Aside0.mk hx
  have HZ := Aside0.mk hz
  clear hx hz
  have d1 : decide (4096 < (dl : Int)) = true := decide_eq_true h0
  obtain ⟨ma_0, ma_1, ma_2, ma_3, ma_4, ma_5, ma_6, ma_7, ma_8, ma_9, ma_10, ma_11, ma_12⟩ := cellsR HF.out.m
  obtain ⟨oa_0, oa_1, oa_2, oa_3, oa_4, oa_5, oa_6, oa_7⟩ := cells8 HF.out.op
  go_enter Try.func30, Try.ntmps30
  go_wp2_with fail
  refine (rGetZ k0 k1 k2 k3 k4 k5 k6 k7 k8 k9 k10 (.slice none 0 0) gr cr t0 xs b _ (blk_below HX.out HF.out.b) HZ.out hb0 hb1).mono ?_
  rintro e w3 ⟨rfl, hbg⟩
  have HB3 := Aside0.mk hbg
  clear hbg
  go_upto_region 2 with fail
  obtain ⟨w4, hwx, HB4, HY⟩ : ∃ w0, w3.alloc (.cells #[.int .i64 0, .int .i64 0, .int .i64 0, .int .i64 0, .int .i64 0] 51) = w0 ∧ Aside0 (Below w1.heap.size w1 w0) ∧ Aside0 (w0.heap[w3.heap.size]? = some (.cells #[.int .i64 0, .int .i64 0, .int .i64 0, .int .i64 0, .int .i64 0] 51 (0, 0))) := ⟨_, rfl, ⟨below_alloc HB3.out _⟩, ⟨blk_new _ _⟩⟩
  rw [hwx]
  clear hwx ma_0 ma_1 ma_2 ma_3 ma_4 ma_5 ma_6 ma_7 ma_8 ma_9 ma_10 ma_11 ma_12 oa_0 oa_1 oa_2 oa_3 oa_4 oa_5 oa_6 oa_7
  go_upto_region 3 with fail
  obtain ⟨w5, hwy, HU, HY5⟩ : ∃ w0, w4.alloc (.cells #[.int .i64 0, .int .i64 0, .slice none 0 0] 35) = w0 ∧ Aside0 (UsF w w0 k0 k1 k2 k3 k4 k5 k6 k7 k8 k9 k10 (.slice none 0 0) (.slice (some ⟨gr, 0, none⟩) xs.length cr) _ w4.heap.size #[.int .i64 0, .int .i64 0, .slice none 0 0]) ∧ Aside0 (w0.heap[w3.heap.size]? = some (.cells #[.int .i64 0, .int .i64 0, .int .i64 0, .int .i64 0, .int .i64 0] 51 (0, 0))) := ⟨_, rfl, ⟨⟨MkF.below HF.out (below_alloc HB4.out _), blk_below HR2.out (below_alloc HB4.out _), blk_new _ _, Nat.lt_of_lt_of_le (blk_lt HR2.out) HB4.out.size⟩⟩, ⟨blk_alloc HY.out _⟩⟩
  rw [hwy]
  clear hwy
  obtain ⟨mb_0, mb_1, mb_2, mb_3, mb_4, mb_5, mb_6, mb_7, mb_8, mb_9, mb_10, mb_11, mb_12⟩ := cellsR HU.out.mf.m
  obtain ⟨ob_0, ob_1, ob_2, ob_3, ob_4, ob_5, ob_6, ob_7⟩ := cells8 HU.out.mf.op
  obtain ⟨x0, x1, x2, x3, x4, _⟩ := cells5 HY5.out
  obtain ⟨e0, e1, e2, g0, g1, g2⟩ := cells3 HU.out.t7
  go_upto_region 31 with fail
  obtain ⟨w7, hw7, HV⟩ : ∃ w0, w5.setCell ⟨w4.heap.size, 0, none⟩ (.int .i64 4) = w0 ∧ Aside0 (UsF w w0 k0 k1 k2 k3 k4 k5 k6 k7 k8 k9 k10 (.slice none 0 0) (.slice (some ⟨gr, 0, none⟩) xs.length cr) _ w4.heap.size #[.int .i64 4, .int .i64 0, .slice none 0 0]) := ⟨_, rfl, ⟨UsF.err 4 HU.out⟩⟩
  rw [hw7]
  clear hw7 e0 e1 e2 g0 g1 g2 x0 x1 x2 x3 x4 mb_0 mb_1 mb_2 mb_3 mb_4 mb_5 mb_6 mb_7 mb_8 mb_9 mb_10 mb_11 mb_12 ob_0 ob_1 ob_2 ob_3 ob_4 ob_5 ob_6 ob_7
  obtain ⟨mz_0, mz_1, mz_2, mz_3, mz_4, mz_5, mz_6, mz_7, mz_8, mz_9, mz_10, mz_11, mz_12⟩ := cellsR HV.out.mf.m
  obtain ⟨oz_0, oz_1, oz_2, oz_3, oz_4, oz_5, oz_6, oz_7⟩ := cells8 HV.out.mf.op
  obtain ⟨rz_0, rz_1, rz_2, rz_3, rz_4, rz_5, rz_6, rz_7, rz_8, rz_9, rz_10, rz_11, rz_12⟩ := cellsR HV.out.mf.r
  obtain ⟨fz_0, fz_1, fz_2, fz_3, fz_4, fz_5, fz_6, fz_7, fz_8, fz_9, fz_10, fz_11, fz_12⟩ := frozR HV.out.mf.r
  obtain ⟨e0, e1, e2, _⟩ := cells3 HV.out.t7
  obtain ⟨p0, p1, p2, q0, q1, q2⟩ := cells3 HV.out.r2
  have n3 : ¬ (w4.heap.size = w.heap.size + 1 + 1) := by have hh := HV.out.hq; omega
  have n4 : ¬ (w.heap.size + 1 + 1 = w4.heap.size) := by have hh := HV.out.hq; omega
  have n5 : ¬ (w4.heap.size = w.heap.size + 1 + 1 + 1) := by have hh := HV.out.hq; omega
  have n6 : ¬ (w.heap.size + 1 + 1 + 1 = w4.heap.size) := by have hh := HV.out.hq; omega
  have n1 : w.heap.size + 1 + 1 ≠ w.heap.size + 1 + 1 + 1 := by omega
  have n2 : w.heap.size + 1 + 1 + 1 ≠ w.heap.size + 1 + 1 := by omega
  go_region
  all_goals
    go_wp2
    refine bodyPost_ret (retRd rfl _ _ (w.heap.size + 1 + 1) (w.heap.size + 1 + 1 + 1) #[.int .i64 k0, .int .i64 k1, .int .i64 k2, .int .i64 k3, .int .i64 k4, .int .i64 k5, .int .i64 k6, .int .i64 k7, .int .i64 k8, .int .i64 k9, .int .u64 k10, .slice none 0 0, .slice (some ⟨gr, 0, none⟩) xs.length cr] #[.int .i64 4, .int .i64 0, .slice none 0 0] rfl rfl rfl rfl (by first | (with_reducible exact blk_drew (blk_put3 (put13 _ _ _ _ _ _ _ _ _ _ _ _ _  HV.out.mf.r) n1)) | (with_reducible exact blk_drew (put13 _ _ _ _ _ _ _ _ _ _ _ _ _  (blk_put3 HV.out.mf.r n1))) | (with_reducible exact blk_put3 (put13 _ _ _ _ _ _ _ _ _ _ _ _ _  HV.out.mf.r) n1) | exact put13 _ _ _ _ _ _ _ _ _ _ _ _ _  (blk_put3 HV.out.mf.r n1)) (by first | (with_reducible exact blk_drew (put3 _ _ _ (blk_put13 HV.out.r2 n2))) | (with_reducible exact blk_drew (blk_put13 (put3 _ _ _ HV.out.r2) n2)) | (with_reducible exact put3 _ _ _ (blk_put13 HV.out.r2 n2)) | exact blk_put13 (put3 _ _ _ HV.out.r2) n2)) rfl ?_
    exact ⟨rfl, by repeat (first | (with_reducible exact HV.out.mf.b) | (with_reducible apply below_drew1) | (with_reducible refine below_set ?_ (by omega)))⟩

set_option maxHeartbeats 8000000 in
set_option maxRecDepth 100000 in
theorem rUse12 (k0 k1 k2 k3 k4 k5 k6 k7 k8 k9 k10 : Int) (gr cr : Nat) (t0 : TypeId) (xs : List S51) (th a b v nn mm : Int) (A : Option Addr) (dl dc : Nat) (w : World) (hx : w.heap[gr]? = some (.cells (cells51 xs) t0 (0, 0))) (hz : ∀ j, j < xs.length → xs[j]? = some z51) (hn : xs.length ≤ 64) (hb0 : 0 ≤ b) (hb1 : b < (xs.length : Int)) (h0 : (dl : Int) ≤ 4096) :
    Calls Try.prog 30 #[.agg #[.int .i64 k0, .int .i64 k1, .int .i64 k2, .int .i64 k3, .int .i64 k4, .int .i64 k5, .int .i64 k6, .int .i64 k7, .int .i64 k8, .int .i64 k9, .int .u64 k10, .slice none 0 0, .slice (some ⟨gr, 0, none⟩) xs.length cr], .agg #[.int .i64 12, .int .i64 th, .int .i64 a, .int .i64 b, .int .i64 v, .int .i64 nn, .int .i64 mm, .slice A dl dc]] w fun e w' => e = .returned (.tuple #[.agg #[.int .i64 k0, .int .i64 k1, .int .i64 k2, .int .i64 k3, .int .i64 k4, .int .i64 k5, .int .i64 k6, .int .i64 k7, .int .i64 k8, .int .i64 k9, .int .u64 k10, .slice none 0 0, .slice (some ⟨gr, 0, none⟩) xs.length cr], .agg #[.int .i64 7, .int .i64 0, .slice none 0 0]]) ∧ Below w.heap.size w w' := by
  have hu25 := Try.underlying25
  have hu40 := Try.underlying40
  have hu51 := Try.underlying51
  have hu29 := Try.underlying29
  have hu35 := Try.underlying35
  have hu33 := Try.underlying33
  obtain ⟨w1, hw1, HF, HR2⟩ : ∃ w1, (((w.alloc (.cells #[.int .i64 k0, .int .i64 k1, .int .i64 k2, .int .i64 k3, .int .i64 k4, .int .i64 k5, .int .i64 k6, .int .i64 k7, .int .i64 k8, .int .i64 k9, .int .u64 k10, .slice none 0 0, .slice (some ⟨gr, 0, none⟩) xs.length cr] 40)).alloc (.cells #[.int .i64 12, .int .i64 th, .int .i64 a, .int .i64 b, .int .i64 v, .int .i64 nn, .int .i64 mm, .slice A dl dc] 25)).alloc (.cells #[.int .i64 0, .int .i64 0, .int .i64 0, .int .i64 0, .int .i64 0, .int .i64 0, .int .i64 0, .int .i64 0, .int .i64 0, .int .i64 0, .int .u64 0, .slice none 0 0, .slice none 0 0] 40)).alloc (.cells #[.int .i64 0, .int .i64 0, .slice none 0 0] 35) = w1 ∧ Aside0 (MkF w w1 k0 k1 k2 k3 k4 k5 k6 k7 k8 k9 k10 (.slice none 0 0) (.slice (some ⟨gr, 0, none⟩) xs.length cr) #[.int .i64 12, .int .i64 th, .int .i64 a, .int .i64 b, .int .i64 v, .int .i64 nn, .int .i64 mm, .slice A dl dc]) ∧ Aside0 (w1.heap[w.heap.size + 1 + 1 + 1]? = some (.cells #[.int .i64 0, .int .i64 0, .slice none 0 0] 35 (0, 0))) := ⟨_, rfl, ⟨⟨blk_alloc (blk_alloc (blk_alloc (blk_new _ _) _) _) _, blk_alloc (blk_alloc (blk_new1 _ _ _) _) _, blk_alloc (blk_newb _ _ _ _) _, below_alloc (below_alloc (below_alloc (below_alloc (Below.refl _ _) _) _) _) _⟩⟩, ⟨blk_newc _ _ _ _ _⟩⟩
  have HX := Aside0.mk hx
  have HZ := Aside0.mk hz
  clear hx hz
  have d1 : decide (4096 < (dl : Int)) = false := decide_eq_false (by omega)
  obtain ⟨ma_0, ma_1, ma_2, ma_3, ma_4, ma_5, ma_6, ma_7, ma_8, ma_9, ma_10, ma_11, ma_12⟩ := cellsR HF.out.m
  obtain ⟨oa_0, oa_1, oa_2, oa_3, oa_4, oa_5, oa_6, oa_7⟩ := cells8 HF.out.op
  go_enter Try.func30, Try.ntmps30
  go_wp2_with fail
  refine (rGetZ k0 k1 k2 k3 k4 k5 k6 k7 k8 k9 k10 (.slice none 0 0) gr cr t0 xs b _ (blk_below HX.out HF.out.b) HZ.out hb0 hb1).mono ?_
  rintro e w3 ⟨rfl, hbg⟩
  have HB3 := Aside0.mk hbg
  clear hbg
  go_upto_region 2 with fail
  obtain ⟨w4, hwx, HB4, HY⟩ : ∃ w0, w3.alloc (.cells #[.int .i64 0, .int .i64 0, .int .i64 0, .int .i64 0, .int .i64 0] 51) = w0 ∧ Aside0 (Below w1.heap.size w1 w0) ∧ Aside0 (w0.heap[w3.heap.size]? = some (.cells #[.int .i64 0, .int .i64 0, .int .i64 0, .int .i64 0, .int .i64 0] 51 (0, 0))) := ⟨_, rfl, ⟨below_alloc HB3.out _⟩, ⟨blk_new _ _⟩⟩
  rw [hwx]
  clear hwx ma_0 ma_1 ma_2 ma_3 ma_4 ma_5 ma_6 ma_7 ma_8 ma_9 ma_10 ma_11 ma_12 oa_0 oa_1 oa_2 oa_3 oa_4 oa_5 oa_6 oa_7
  go_upto_region 3 with fail
  obtain ⟨w5, hwy, HU, HY5⟩ : ∃ w0, w4.alloc (.cells #[.int .i64 0, .int .i64 0, .slice none 0 0] 35) = w0 ∧ Aside0 (UsF w w0 k0 k1 k2 k3 k4 k5 k6 k7 k8 k9 k10 (.slice none 0 0) (.slice (some ⟨gr, 0, none⟩) xs.length cr) _ w4.heap.size #[.int .i64 0, .int .i64 0, .slice none 0 0]) ∧ Aside0 (w0.heap[w3.heap.size]? = some (.cells #[.int .i64 0, .int .i64 0, .int .i64 0, .int .i64 0, .int .i64 0] 51 (0, 0))) := ⟨_, rfl, ⟨⟨MkF.below HF.out (below_alloc HB4.out _), blk_below HR2.out (below_alloc HB4.out _), blk_new _ _, Nat.lt_of_lt_of_le (blk_lt HR2.out) HB4.out.size⟩⟩, ⟨blk_alloc HY.out _⟩⟩
  rw [hwy]
  clear hwy
  obtain ⟨mb_0, mb_1, mb_2, mb_3, mb_4, mb_5, mb_6, mb_7, mb_8, mb_9, mb_10, mb_11, mb_12⟩ := cellsR HU.out.mf.m
  obtain ⟨ob_0, ob_1, ob_2, ob_3, ob_4, ob_5, ob_6, ob_7⟩ := cells8 HU.out.mf.op
  obtain ⟨x0, x1, x2, x3, x4, _⟩ := cells5 HY5.out
  obtain ⟨e0, e1, e2, g0, g1, g2⟩ := cells3 HU.out.t7
  go_wp2_with fail
  refine (rAccess0 dl 2 _).mono ?_
  rintro e w6 ⟨rfl, hb⟩
  have HU6 := Aside0.mk (show UsF w w6 k0 k1 k2 k3 k4 k5 k6 k7 k8 k9 k10 (.slice none 0 0) (.slice (some ⟨gr, 0, none⟩) xs.length cr) _ w4.heap.size #[.int .i64 0, .int .i64 0, .slice none 0 0] from HU.out.below hb)
  clear hb x0 x1 x2 x3 x4 e0 e1 e2 g0 g1 g2 mb_0 mb_1 mb_2 mb_3 mb_4 mb_5 mb_6 mb_7 mb_8 mb_9 mb_10 mb_11 mb_12 ob_0 ob_1 ob_2 ob_3 ob_4 ob_5 ob_6 ob_7
  obtain ⟨mb_0, mb_1, mb_2, mb_3, mb_4, mb_5, mb_6, mb_7, mb_8, mb_9, mb_10, mb_11, mb_12⟩ := cellsR HU6.out.mf.m
  obtain ⟨ob_0, ob_1, ob_2, ob_3, ob_4, ob_5, ob_6, ob_7⟩ := cells8 HU6.out.mf.op
  obtain ⟨e0, e1, e2, g0, g1, g2⟩ := cells3 HU6.out.t7
  have x0 := e0
  have x1 := e0
  have x2 := e0
  have x3 := e0
  have x4 := e0
  go_upto_region 31 with fail
  obtain ⟨w7, hw7, HV⟩ : ∃ w0, w6.setCell ⟨w4.heap.size, 0, none⟩ (.int .i64 7) = w0 ∧ Aside0 (UsF w w0 k0 k1 k2 k3 k4 k5 k6 k7 k8 k9 k10 (.slice none 0 0) (.slice (some ⟨gr, 0, none⟩) xs.length cr) _ w4.heap.size #[.int .i64 7, .int .i64 0, .slice none 0 0]) := ⟨_, rfl, ⟨UsF.err 7 HU6.out⟩⟩
  rw [hw7]
  clear hw7 e0 e1 e2 g0 g1 g2 x0 x1 x2 x3 x4 mb_0 mb_1 mb_2 mb_3 mb_4 mb_5 mb_6 mb_7 mb_8 mb_9 mb_10 mb_11 mb_12 ob_0 ob_1 ob_2 ob_3 ob_4 ob_5 ob_6 ob_7
  obtain ⟨mz_0, mz_1, mz_2, mz_3, mz_4, mz_5, mz_6, mz_7, mz_8, mz_9, mz_10, mz_11, mz_12⟩ := cellsR HV.out.mf.m
  obtain ⟨oz_0, oz_1, oz_2, oz_3, oz_4, oz_5, oz_6, oz_7⟩ := cells8 HV.out.mf.op
  obtain ⟨rz_0, rz_1, rz_2, rz_3, rz_4, rz_5, rz_6, rz_7, rz_8, rz_9, rz_10, rz_11, rz_12⟩ := cellsR HV.out.mf.r
  obtain ⟨fz_0, fz_1, fz_2, fz_3, fz_4, fz_5, fz_6, fz_7, fz_8, fz_9, fz_10, fz_11, fz_12⟩ := frozR HV.out.mf.r
  obtain ⟨e0, e1, e2, _⟩ := cells3 HV.out.t7
  obtain ⟨p0, p1, p2, q0, q1, q2⟩ := cells3 HV.out.r2
  have n3 : ¬ (w4.heap.size = w.heap.size + 1 + 1) := by have hh := HV.out.hq; omega
  have n4 : ¬ (w.heap.size + 1 + 1 = w4.heap.size) := by have hh := HV.out.hq; omega
  have n5 : ¬ (w4.heap.size = w.heap.size + 1 + 1 + 1) := by have hh := HV.out.hq; omega
  have n6 : ¬ (w.heap.size + 1 + 1 + 1 = w4.heap.size) := by have hh := HV.out.hq; omega
  have n1 : w.heap.size + 1 + 1 ≠ w.heap.size + 1 + 1 + 1 := by omega
  have n2 : w.heap.size + 1 + 1 + 1 ≠ w.heap.size + 1 + 1 := by omega
  go_region
  all_goals
    go_wp2
    refine bodyPost_ret (retRd rfl _ _ (w.heap.size + 1 + 1) (w.heap.size + 1 + 1 + 1) #[.int .i64 k0, .int .i64 k1, .int .i64 k2, .int .i64 k3, .int .i64 k4, .int .i64 k5, .int .i64 k6, .int .i64 k7, .int .i64 k8, .int .i64 k9, .int .u64 k10, .slice none 0 0, .slice (some ⟨gr, 0, none⟩) xs.length cr] #[.int .i64 7, .int .i64 0, .slice none 0 0] rfl rfl rfl rfl (by first | (with_reducible exact blk_drew (blk_put3 (put13 _ _ _ _ _ _ _ _ _ _ _ _ _  HV.out.mf.r) n1)) | (with_reducible exact blk_drew (put13 _ _ _ _ _ _ _ _ _ _ _ _ _  (blk_put3 HV.out.mf.r n1))) | (with_reducible exact blk_put3 (put13 _ _ _ _ _ _ _ _ _ _ _ _ _  HV.out.mf.r) n1) | exact put13 _ _ _ _ _ _ _ _ _ _ _ _ _  (blk_put3 HV.out.mf.r n1)) (by first | (with_reducible exact blk_drew (put3 _ _ _ (blk_put13 HV.out.r2 n2))) | (with_reducible exact blk_drew (blk_put13 (put3 _ _ _ HV.out.r2) n2)) | (with_reducible exact put3 _ _ _ (blk_put13 HV.out.r2 n2)) | exact blk_put13 (put3 _ _ _ HV.out.r2) n2)) rfl ?_
    exact ⟨rfl, by repeat (first | (with_reducible exact HV.out.mf.b) | (with_reducible apply below_drew1) | (with_reducible refine below_set ?_ (by omega)))⟩

set_option maxHeartbeats 8000000 in
set_option maxRecDepth 100000 in
theorem rUse14 (k0 k1 k2 k3 k4 k5 k6 k7 k8 k9 k10 : Int) (gr cr : Nat) (t0 : TypeId) (xs : List S51) (th a b v nn mm : Int) (A : Option Addr) (dl dc : Nat) (w : World) (hx : w.heap[gr]? = some (.cells (cells51 xs) t0 (0, 0))) (hz : ∀ j, j < xs.length → xs[j]? = some z51) (hn : xs.length ≤ 64) (hb0 : 0 ≤ b) (hb1 : b < (xs.length : Int)) :
    Calls Try.prog 30 #[.agg #[.int .i64 k0, .int .i64 k1, .int .i64 k2, .int .i64 k3, .int .i64 k4, .int .i64 k5, .int .i64 k6, .int .i64 k7, .int .i64 k8, .int .i64 k9, .int .u64 k10, .slice none 0 0, .slice (some ⟨gr, 0, none⟩) xs.length cr], .agg #[.int .i64 14, .int .i64 th, .int .i64 a, .int .i64 b, .int .i64 v, .int .i64 nn, .int .i64 mm, .slice A dl dc]] w fun e w' => e = .returned (.tuple #[.agg #[.int .i64 k0, .int .i64 k1, .int .i64 k2, .int .i64 k3, .int .i64 k4, .int .i64 k5, .int .i64 k6, .int .i64 k7, .int .i64 k8, .int .i64 k9, .int .u64 k10, .slice none 0 0, .slice (some ⟨gr, 0, none⟩) xs.length cr], .agg #[.int .i64 7, .int .i64 0, .slice none 0 0]]) ∧ Below w.heap.size w w' := by
  have hu25 := Try.underlying25
  have hu40 := Try.underlying40
  have hu51 := Try.underlying51
  have hu29 := Try.underlying29
  have hu35 := Try.underlying35
  have hu33 := Try.underlying33
  obtain ⟨w1, hw1, HF, HR2⟩ : ∃ w1, (((w.alloc (.cells #[.int .i64 k0, .int .i64 k1, .int .i64 k2, .int .i64 k3, .int .i64 k4, .int .i64 k5, .int .i64 k6, .int .i64 k7, .int .i64 k8, .int .i64 k9, .int .u64 k10, .slice none 0 0, .slice (some ⟨gr, 0, none⟩) xs.length cr] 40)).alloc (.cells #[.int .i64 14, .int .i64 th, .int .i64 a, .int .i64 b, .int .i64 v, .int .i64 nn, .int .i64 mm, .slice A dl dc] 25)).alloc (.cells #[.int .i64 0, .int .i64 0, .int .i64 0, .int .i64 0, .int .i64 0, .int .i64 0, .int .i64 0, .int .i64 0, .int .i64 0, .int .i64 0, .int .u64 0, .slice none 0 0, .slice none 0 0] 40)).alloc (.cells #[.int .i64 0, .int .i64 0, .slice none 0 0] 35) = w1 ∧ Aside0 (MkF w w1 k0 k1 k2 k3 k4 k5 k6 k7 k8 k9 k10 (.slice none 0 0) (.slice (some ⟨gr, 0, none⟩) xs.length cr) #[.int .i64 14, .int .i64 th, .int .i64 a, .int .i64 b, .int .i64 v, .int .i64 nn, .int .i64 mm, .slice A dl dc]) ∧ Aside0 (w1.heap[w.heap.size + 1 + 1 + 1]? = some (.cells #[.int .i64 0, .int .i64 0, .slice none 0 0] 35 (0, 0))) := ⟨_, rfl, ⟨⟨blk_alloc (blk_alloc (blk_alloc (blk_new _ _) _) _) _, blk_alloc (blk_alloc (blk_new1 _ _ _) _) _, blk_alloc (blk_newb _ _ _ _) _, below_alloc (below_alloc (below_alloc (below_alloc (Below.refl _ _) _) _) _) _⟩⟩, ⟨blk_newc _ _ _ _ _⟩⟩
  have HX := Aside0.mk hx
  have HZ := Aside0.mk hz
  clear hx hz
  obtain ⟨ma_0, ma_1, ma_2, ma_3, ma_4, ma_5, ma_6, ma_7, ma_8, ma_9, ma_10, ma_11, ma_12⟩ := cellsR HF.out.m
  obtain ⟨oa_0, oa_1, oa_2, oa_3, oa_4, oa_5, oa_6, oa_7⟩ := cells8 HF.out.op
  go_enter Try.func30, Try.ntmps30
  go_wp2_with fail
  refine (rGetZ k0 k1 k2 k3 k4 k5 k6 k7 k8 k9 k10 (.slice none 0 0) gr cr t0 xs b _ (blk_below HX.out HF.out.b) HZ.out hb0 hb1).mono ?_
  rintro e w3 ⟨rfl, hbg⟩
  have HB3 := Aside0.mk hbg
  clear hbg
  go_upto_region 2 with fail
  obtain ⟨w4, hwx, HB4, HY⟩ : ∃ w0, w3.alloc (.cells #[.int .i64 0, .int .i64 0, .int .i64 0, .int .i64 0, .int .i64 0] 51) = w0 ∧ Aside0 (Below w1.heap.size w1 w0) ∧ Aside0 (w0.heap[w3.heap.size]? = some (.cells #[.int .i64 0, .int .i64 0, .int .i64 0, .int .i64 0, .int .i64 0] 51 (0, 0))) := ⟨_, rfl, ⟨below_alloc HB3.out _⟩, ⟨blk_new _ _⟩⟩
  rw [hwx]
  clear hwx ma_0 ma_1 ma_2 ma_3 ma_4 ma_5 ma_6 ma_7 ma_8 ma_9 ma_10 ma_11 ma_12 oa_0 oa_1 oa_2 oa_3 oa_4 oa_5 oa_6 oa_7
  go_upto_region 3 with fail
  obtain ⟨w5, hwy, HU, HY5⟩ : ∃ w0, w4.alloc (.cells #[.int .i64 0, .int .i64 0, .slice none 0 0] 35) = w0 ∧ Aside0 (UsF w w0 k0 k1 k2 k3 k4 k5 k6 k7 k8 k9 k10 (.slice none 0 0) (.slice (some ⟨gr, 0, none⟩) xs.length cr) _ w4.heap.size #[.int .i64 0, .int .i64 0, .slice none 0 0]) ∧ Aside0 (w0.heap[w3.heap.size]? = some (.cells #[.int .i64 0, .int .i64 0, .int .i64 0, .int .i64 0, .int .i64 0] 51 (0, 0))) := ⟨_, rfl, ⟨⟨MkF.below HF.out (below_alloc HB4.out _), blk_below HR2.out (below_alloc HB4.out _), blk_new _ _, Nat.lt_of_lt_of_le (blk_lt HR2.out) HB4.out.size⟩⟩, ⟨blk_alloc HY.out _⟩⟩
  rw [hwy]
  clear hwy
  obtain ⟨mb_0, mb_1, mb_2, mb_3, mb_4, mb_5, mb_6, mb_7, mb_8, mb_9, mb_10, mb_11, mb_12⟩ := cellsR HU.out.mf.m
  obtain ⟨ob_0, ob_1, ob_2, ob_3, ob_4, ob_5, ob_6, ob_7⟩ := cells8 HU.out.mf.op
  obtain ⟨x0, x1, x2, x3, x4, _⟩ := cells5 HY5.out
  obtain ⟨e0, e1, e2, g0, g1, g2⟩ := cells3 HU.out.t7
  go_wp2_with fail
  refine (rSlot0 8 _).mono ?_
  rintro e w6 ⟨rfl, hb⟩
  have HU6 := Aside0.mk (show UsF w w6 k0 k1 k2 k3 k4 k5 k6 k7 k8 k9 k10 (.slice none 0 0) (.slice (some ⟨gr, 0, none⟩) xs.length cr) _ w4.heap.size #[.int .i64 0, .int .i64 0, .slice none 0 0] from HU.out.below hb)
  clear hb x0 x1 x2 x3 x4 e0 e1 e2 g0 g1 g2 mb_0 mb_1 mb_2 mb_3 mb_4 mb_5 mb_6 mb_7 mb_8 mb_9 mb_10 mb_11 mb_12 ob_0 ob_1 ob_2 ob_3 ob_4 ob_5 ob_6 ob_7
  obtain ⟨mb_0, mb_1, mb_2, mb_3, mb_4, mb_5, mb_6, mb_7, mb_8, mb_9, mb_10, mb_11, mb_12⟩ := cellsR HU6.out.mf.m
  obtain ⟨ob_0, ob_1, ob_2, ob_3, ob_4, ob_5, ob_6, ob_7⟩ := cells8 HU6.out.mf.op
  obtain ⟨e0, e1, e2, g0, g1, g2⟩ := cells3 HU6.out.t7
  have x0 := e0
  have x1 := e0
  have x2 := e0
  have x3 := e0
  have x4 := e0
  go_upto_region 31 with fail
  obtain ⟨w7, hw7, HV⟩ : ∃ w0, w6.setCell ⟨w4.heap.size, 0, none⟩ (.int .i64 7) = w0 ∧ Aside0 (UsF w w0 k0 k1 k2 k3 k4 k5 k6 k7 k8 k9 k10 (.slice none 0 0) (.slice (some ⟨gr, 0, none⟩) xs.length cr) _ w4.heap.size #[.int .i64 7, .int .i64 0, .slice none 0 0]) := ⟨_, rfl, ⟨UsF.err 7 HU6.out⟩⟩
  rw [hw7]
  clear hw7 e0 e1 e2 g0 g1 g2 x0 x1 x2 x3 x4 mb_0 mb_1 mb_2 mb_3 mb_4 mb_5 mb_6 mb_7 mb_8 mb_9 mb_10 mb_11 mb_12 ob_0 ob_1 ob_2 ob_3 ob_4 ob_5 ob_6 ob_7
  obtain ⟨mz_0, mz_1, mz_2, mz_3, mz_4, mz_5, mz_6, mz_7, mz_8, mz_9, mz_10, mz_11, mz_12⟩ := cellsR HV.out.mf.m
  obtain ⟨oz_0, oz_1, oz_2, oz_3, oz_4, oz_5, oz_6, oz_7⟩ := cells8 HV.out.mf.op
  obtain ⟨rz_0, rz_1, rz_2, rz_3, rz_4, rz_5, rz_6, rz_7, rz_8, rz_9, rz_10, rz_11, rz_12⟩ := cellsR HV.out.mf.r
  obtain ⟨fz_0, fz_1, fz_2, fz_3, fz_4, fz_5, fz_6, fz_7, fz_8, fz_9, fz_10, fz_11, fz_12⟩ := frozR HV.out.mf.r
  obtain ⟨e0, e1, e2, _⟩ := cells3 HV.out.t7
  obtain ⟨p0, p1, p2, q0, q1, q2⟩ := cells3 HV.out.r2
  have n3 : ¬ (w4.heap.size = w.heap.size + 1 + 1) := by have hh := HV.out.hq; omega
  have n4 : ¬ (w.heap.size + 1 + 1 = w4.heap.size) := by have hh := HV.out.hq; omega
  have n5 : ¬ (w4.heap.size = w.heap.size + 1 + 1 + 1) := by have hh := HV.out.hq; omega
  have n6 : ¬ (w.heap.size + 1 + 1 + 1 = w4.heap.size) := by have hh := HV.out.hq; omega
  have n1 : w.heap.size + 1 + 1 ≠ w.heap.size + 1 + 1 + 1 := by omega
  have n2 : w.heap.size + 1 + 1 + 1 ≠ w.heap.size + 1 + 1 := by omega
  go_region
  all_goals
    go_wp2
    refine bodyPost_ret (retRd rfl _ _ (w.heap.size + 1 + 1) (w.heap.size + 1 + 1 + 1) #[.int .i64 k0, .int .i64 k1, .int .i64 k2, .int .i64 k3, .int .i64 k4, .int .i64 k5, .int .i64 k6, .int .i64 k7, .int .i64 k8, .int .i64 k9, .int .u64 k10, .slice none 0 0, .slice (some ⟨gr, 0, none⟩) xs.length cr] #[.int .i64 7, .int .i64 0, .slice none 0 0] rfl rfl rfl rfl (by first | (with_reducible exact blk_drew (blk_put3 (put13 _ _ _ _ _ _ _ _ _ _ _ _ _  HV.out.mf.r) n1)) | (with_reducible exact blk_drew (put13 _ _ _ _ _ _ _ _ _ _ _ _ _  (blk_put3 HV.out.mf.r n1))) | (with_reducible exact blk_put3 (put13 _ _ _ _ _ _ _ _ _ _ _ _ _  HV.out.mf.r) n1) | exact put13 _ _ _ _ _ _ _ _ _ _ _ _ _  (blk_put3 HV.out.mf.r n1)) (by first | (with_reducible exact blk_drew (put3 _ _ _ (blk_put13 HV.out.r2 n2))) | (with_reducible exact blk_drew (blk_put13 (put3 _ _ _ HV.out.r2) n2)) | (with_reducible exact put3 _ _ _ (blk_put13 HV.out.r2 n2)) | exact blk_put13 (put3 _ _ _ HV.out.r2) n2)) rfl ?_
    exact ⟨rfl, by repeat (first | (with_reducible exact HV.out.mf.b) | (with_reducible apply below_drew1) | (with_reducible refine below_set ?_ (by omega)))⟩

end Go.Proofs.Ytneejihmakfaoaa.OwnModel
