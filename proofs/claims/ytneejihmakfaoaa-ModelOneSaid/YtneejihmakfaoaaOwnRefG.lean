/- Walks of the reference's functions by hand: Do. Conditions: the reference's model is empty. Printed by gen_ref.py. -/
import Derived.Test.YtneejihmakfaoaaOwnRefF
import Derived.BigQuiet
import Derived.Deep.RegionLaw
import Derived.ArgAppend
namespace Go.Proofs.Ytneejihmakfaoaa.OwnModel
open Go.RowKit Go.Proofs.Ytneejihmakfaoaa.OwnMask Go.Proofs.Ytneejihmakfaoaa.QModelOne Go.Proofs.YtneejihmakfaoaaW.PrintWords Go.Proofs.YtneejihmakfaoaaW.PrintLast Go.Proofs.YtneejihmakfaoaaW.PrintMore
set_option linter.unusedVariables false
set_option linter.unusedSimpArgs false
theorem MkF.putm {w W : World} {k0 k1 k2 k3 k4 k5 k6 k7 k8 k9 k10 : Int} {lv rv : Value} {ov : Array Value} (h : MkF w W k0 k1 k2 k3 k4 k5 k6 k7 k8 k9 k10 lv rv ov) : MkF w (((((((((((((W.setCell ⟨w.heap.size, 0, none⟩ (.int .i64 k0)).setCell ⟨w.heap.size, 1, none⟩ (.int .i64 k1)).setCell ⟨w.heap.size, 2, none⟩ (.int .i64 k2)).setCell ⟨w.heap.size, 3, none⟩ (.int .i64 k3)).setCell ⟨w.heap.size, 4, none⟩ (.int .i64 k4)).setCell ⟨w.heap.size, 5, none⟩ (.int .i64 k5)).setCell ⟨w.heap.size, 6, none⟩ (.int .i64 k6)).setCell ⟨w.heap.size, 7, none⟩ (.int .i64 k7)).setCell ⟨w.heap.size, 8, none⟩ (.int .i64 k8)).setCell ⟨w.heap.size, 9, none⟩ (.int .i64 k9)).setCell ⟨w.heap.size, 10, none⟩ (.int .u64 k10)).setCell ⟨w.heap.size, 11, none⟩ lv).setCell ⟨w.heap.size, 12, none⟩ rv) k0 k1 k2 k3 k4 k5 k6 k7 k8 k9 k10 lv rv ov :=
  ⟨put13 _ _ _ _ _ _ _ _ _ _ _ _ _  h.m, blk_put13 h.op (by omega), blk_put13 h.r (by omega), by repeat (first | (with_reducible exact h.b) | (with_reducible refine below_set ?_ (by omega)))⟩
theorem MkF.putn {w W : World} {k0 k1 k2 k3 k4 k5 k6 k7 k8 k9 k10 : Int} {lv rv lv0 rv0 : Value} {ov : Array Value} (h : MkF w W k0 k1 k2 k3 k4 k5 k6 k7 k8 k9 k10 lv0 rv0 ov) : MkF w (((((((((((((W.setCell ⟨w.heap.size, 0, none⟩ (.int .i64 k0)).setCell ⟨w.heap.size, 1, none⟩ (.int .i64 k1)).setCell ⟨w.heap.size, 2, none⟩ (.int .i64 k2)).setCell ⟨w.heap.size, 3, none⟩ (.int .i64 k3)).setCell ⟨w.heap.size, 4, none⟩ (.int .i64 k4)).setCell ⟨w.heap.size, 5, none⟩ (.int .i64 k5)).setCell ⟨w.heap.size, 6, none⟩ (.int .i64 k6)).setCell ⟨w.heap.size, 7, none⟩ (.int .i64 k7)).setCell ⟨w.heap.size, 8, none⟩ (.int .i64 k8)).setCell ⟨w.heap.size, 9, none⟩ (.int .i64 k9)).setCell ⟨w.heap.size, 10, none⟩ (.int .u64 k10)).setCell ⟨w.heap.size, 11, none⟩ lv).setCell ⟨w.heap.size, 12, none⟩ rv) k0 k1 k2 k3 k4 k5 k6 k7 k8 k9 k10 lv rv ov :=
  ⟨put13 _ _ _ _ _ _ _ _ _ _ _ _ _  h.m, blk_put13 h.op (by omega), blk_put13 h.r (by omega), by repeat (first | (with_reducible exact h.b) | (with_reducible refine below_set ?_ (by omega)))⟩

set_option maxHeartbeats 8000000 in
set_option maxRecDepth 100000 in
theorem rDoOutL (k0 k1 k2 k3 k4 k5 k6 k7 k8 k9 k10 : Int) (gr cr : Nat) (t0 : TypeId) (xs : List S51) (kd th a b v nn mm : Int) (A : Option Addr) (dl dc : Nat) (fu : Bool) (w : World) (hx : w.heap[gr]? = some (.cells (cells51 xs) t0 (0, 0))) (hz : ∀ j, j < xs.length → xs[j]? = some z51) (hn : xs.length ≤ 64) (hbad : kd < 1) :
    Calls Try.prog 9 #[.agg #[.int .i64 k0, .int .i64 k1, .int .i64 k2, .int .i64 k3, .int .i64 k4, .int .i64 k5, .int .i64 k6, .int .i64 k7, .int .i64 k8, .int .i64 k9, .int .u64 k10, .slice none 0 0, .slice (some ⟨gr, 0, none⟩) xs.length cr], .agg #[.int .i64 kd, .int .i64 th, .int .i64 a, .int .i64 b, .int .i64 v, .int .i64 nn, .int .i64 mm, .slice A dl dc], .bool fu] w fun e w' => e = .returned (.tuple #[.agg #[.int .i64 k0, .int .i64 k1, .int .i64 k2, .int .i64 k3, .int .i64 k4, .int .i64 k5, .int .i64 k6, .int .i64 k7, .int .i64 k8, .int .i64 k9, .int .u64 k10, .slice none 0 0, .slice (some ⟨gr, 0, none⟩) xs.length cr], .agg #[.int .i64 1, .int .i64 0, .slice none 0 0]]) ∧ Below w.heap.size w w' := by
  have hu25 := Try.underlying25
  have hu40 := Try.underlying40
  have hu51 := Try.underlying51
  have hu35 := Try.underlying35
  obtain ⟨w1, hw1, HF, HR2⟩ : ∃ w1, (((w.alloc (.cells #[.int .i64 k0, .int .i64 k1, .int .i64 k2, .int .i64 k3, .int .i64 k4, .int .i64 k5, .int .i64 k6, .int .i64 k7, .int .i64 k8, .int .i64 k9, .int .u64 k10, .slice none 0 0, .slice (some ⟨gr, 0, none⟩) xs.length cr] 40)).alloc (.cells #[.int .i64 kd, .int .i64 th, .int .i64 a, .int .i64 b, .int .i64 v, .int .i64 nn, .int .i64 mm, .slice A dl dc] 25)).alloc (.cells #[.int .i64 0, .int .i64 0, .int .i64 0, .int .i64 0, .int .i64 0, .int .i64 0, .int .i64 0, .int .i64 0, .int .i64 0, .int .i64 0, .int .u64 0, .slice none 0 0, .slice none 0 0] 40)).alloc (.cells #[.int .i64 0, .int .i64 0, .slice none 0 0] 35) = w1 ∧ Aside0 (MkF w w1 k0 k1 k2 k3 k4 k5 k6 k7 k8 k9 k10 (.slice none 0 0) (.slice (some ⟨gr, 0, none⟩) xs.length cr) #[.int .i64 kd, .int .i64 th, .int .i64 a, .int .i64 b, .int .i64 v, .int .i64 nn, .int .i64 mm, .slice A dl dc]) ∧ Aside0 (w1.heap[w.heap.size + 1 + 1 + 1]? = some (.cells #[.int .i64 0, .int .i64 0, .slice none 0 0] 35 (0, 0))) := ⟨_, rfl, ⟨⟨blk_alloc (blk_alloc (blk_alloc (blk_new _ _) _) _) _, blk_alloc (blk_alloc (blk_new1 _ _ _) _) _, blk_alloc (blk_newb _ _ _ _) _, below_alloc (below_alloc (below_alloc (below_alloc (Below.refl _ _) _) _) _) _⟩⟩, ⟨blk_newc _ _ _ _ _⟩⟩
  have HX := Aside0.mk hx
  have HZ := Aside0.mk hz
  clear hx hz
  have n1 : w.heap.size + 1 + 1 ≠ w.heap.size + 1 + 1 + 1 := by omega
  have n2 : w.heap.size + 1 + 1 + 1 ≠ w.heap.size + 1 + 1 := by omega
  obtain ⟨ma_0, ma_1, ma_2, ma_3, ma_4, ma_5, ma_6, ma_7, ma_8, ma_9, ma_10, ma_11, ma_12⟩ := cellsR HF.out.m
  obtain ⟨oa_0, oa_1, oa_2, oa_3, oa_4, oa_5, oa_6, oa_7⟩ := cells8 HF.out.op
  obtain ⟨ra_0, ra_1, ra_2, ra_3, ra_4, ra_5, ra_6, ra_7, ra_8, ra_9, ra_10, ra_11, ra_12⟩ := cellsR HF.out.r
  obtain ⟨fa_0, fa_1, fa_2, fa_3, fa_4, fa_5, fa_6, fa_7, fa_8, fa_9, fa_10, fa_11, fa_12⟩ := frozR HF.out.r
  obtain ⟨pa0, pa1, pa2, qa0, qa1, qa2⟩ := cells3 HR2.out
  have d1 : decide (kd < 1) = true := decide_eq_true hbad
  go_enter Try.func9, Try.ntmps9
  go_wp2
  refine bodyPost_ret (retRd rfl _ _ (w.heap.size + 1 + 1) (w.heap.size + 1 + 1 + 1) #[.int .i64 k0, .int .i64 k1, .int .i64 k2, .int .i64 k3, .int .i64 k4, .int .i64 k5, .int .i64 k6, .int .i64 k7, .int .i64 k8, .int .i64 k9, .int .u64 k10, .slice none 0 0, .slice (some ⟨gr, 0, none⟩) xs.length cr] #[.int .i64 1, .int .i64 0, .slice none 0 0] rfl rfl rfl rfl (by first | (with_reducible exact blk_put3 (put13 _ _ _ _ _ _ _ _ _ _ _ _ _  HF.out.r) n1) | exact blk_put3 (put13 _ _ _ _ _ _ _ _ _ _ _ _ _  (HF.out.drewN _).r) n1) (by first | (with_reducible exact put3 _ _ _ (blk_put13 HR2.out n2)) | exact put3 _ _ _ (blk_put13 (blk_drewN HR2.out _) n2))) rfl ?_
  exact ⟨rfl, by repeat (first | (with_reducible exact HF.out.b) | (with_reducible apply below_drew1) | (with_reducible apply pw_below_drewN) | (with_reducible refine below_set ?_ (by omega)))⟩

set_option maxHeartbeats 8000000 in
set_option maxRecDepth 100000 in
theorem rDoOutH (k0 k1 k2 k3 k4 k5 k6 k7 k8 k9 k10 : Int) (gr cr : Nat) (t0 : TypeId) (xs : List S51) (kd th a b v nn mm : Int) (A : Option Addr) (dl dc : Nat) (fu : Bool) (w : World) (hx : w.heap[gr]? = some (.cells (cells51 xs) t0 (0, 0))) (hz : ∀ j, j < xs.length → xs[j]? = some z51) (hn : xs.length ≤ 64) (hbad : 18 < kd) :
    Calls Try.prog 9 #[.agg #[.int .i64 k0, .int .i64 k1, .int .i64 k2, .int .i64 k3, .int .i64 k4, .int .i64 k5, .int .i64 k6, .int .i64 k7, .int .i64 k8, .int .i64 k9, .int .u64 k10, .slice none 0 0, .slice (some ⟨gr, 0, none⟩) xs.length cr], .agg #[.int .i64 kd, .int .i64 th, .int .i64 a, .int .i64 b, .int .i64 v, .int .i64 nn, .int .i64 mm, .slice A dl dc], .bool fu] w fun e w' => e = .returned (.tuple #[.agg #[.int .i64 k0, .int .i64 k1, .int .i64 k2, .int .i64 k3, .int .i64 k4, .int .i64 k5, .int .i64 k6, .int .i64 k7, .int .i64 k8, .int .i64 k9, .int .u64 k10, .slice none 0 0, .slice (some ⟨gr, 0, none⟩) xs.length cr], .agg #[.int .i64 1, .int .i64 0, .slice none 0 0]]) ∧ Below w.heap.size w w' := by
  have hu25 := Try.underlying25
  have hu40 := Try.underlying40
  have hu51 := Try.underlying51
  have hu35 := Try.underlying35
  obtain ⟨w1, hw1, HF, HR2⟩ : ∃ w1, (((w.alloc (.cells #[.int .i64 k0, .int .i64 k1, .int .i64 k2, .int .i64 k3, .int .i64 k4, .int .i64 k5, .int .i64 k6, .int .i64 k7, .int .i64 k8, .int .i64 k9, .int .u64 k10, .slice none 0 0, .slice (some ⟨gr, 0, none⟩) xs.length cr] 40)).alloc (.cells #[.int .i64 kd, .int .i64 th, .int .i64 a, .int .i64 b, .int .i64 v, .int .i64 nn, .int .i64 mm, .slice A dl dc] 25)).alloc (.cells #[.int .i64 0, .int .i64 0, .int .i64 0, .int .i64 0, .int .i64 0, .int .i64 0, .int .i64 0, .int .i64 0, .int .i64 0, .int .i64 0, .int .u64 0, .slice none 0 0, .slice none 0 0] 40)).alloc (.cells #[.int .i64 0, .int .i64 0, .slice none 0 0] 35) = w1 ∧ Aside0 (MkF w w1 k0 k1 k2 k3 k4 k5 k6 k7 k8 k9 k10 (.slice none 0 0) (.slice (some ⟨gr, 0, none⟩) xs.length cr) #[.int .i64 kd, .int .i64 th, .int .i64 a, .int .i64 b, .int .i64 v, .int .i64 nn, .int .i64 mm, .slice A dl dc]) ∧ Aside0 (w1.heap[w.heap.size + 1 + 1 + 1]? = some (.cells #[.int .i64 0, .int .i64 0, .slice none 0 0] 35 (0, 0))) := ⟨_, rfl, ⟨⟨blk_alloc (blk_alloc (blk_alloc (blk_new _ _) _) _) _, blk_alloc (blk_alloc (blk_new1 _ _ _) _) _, blk_alloc (blk_newb _ _ _ _) _, below_alloc (below_alloc (below_alloc (below_alloc (Below.refl _ _) _) _) _) _⟩⟩, ⟨blk_newc _ _ _ _ _⟩⟩
  have HX := Aside0.mk hx
  have HZ := Aside0.mk hz
  clear hx hz
  have n1 : w.heap.size + 1 + 1 ≠ w.heap.size + 1 + 1 + 1 := by omega
  have n2 : w.heap.size + 1 + 1 + 1 ≠ w.heap.size + 1 + 1 := by omega
  obtain ⟨ma_0, ma_1, ma_2, ma_3, ma_4, ma_5, ma_6, ma_7, ma_8, ma_9, ma_10, ma_11, ma_12⟩ := cellsR HF.out.m
  obtain ⟨oa_0, oa_1, oa_2, oa_3, oa_4, oa_5, oa_6, oa_7⟩ := cells8 HF.out.op
  obtain ⟨ra_0, ra_1, ra_2, ra_3, ra_4, ra_5, ra_6, ra_7, ra_8, ra_9, ra_10, ra_11, ra_12⟩ := cellsR HF.out.r
  obtain ⟨fa_0, fa_1, fa_2, fa_3, fa_4, fa_5, fa_6, fa_7, fa_8, fa_9, fa_10, fa_11, fa_12⟩ := frozR HF.out.r
  obtain ⟨pa0, pa1, pa2, qa0, qa1, qa2⟩ := cells3 HR2.out
  have d1 : decide (kd < 1) = false := decide_eq_false (by omega)
  have d2 : decide (18 < kd) = true := decide_eq_true hbad
  go_enter Try.func9, Try.ntmps9
  go_wp2
  refine bodyPost_ret (retRd rfl _ _ (w.heap.size + 1 + 1) (w.heap.size + 1 + 1 + 1) #[.int .i64 k0, .int .i64 k1, .int .i64 k2, .int .i64 k3, .int .i64 k4, .int .i64 k5, .int .i64 k6, .int .i64 k7, .int .i64 k8, .int .i64 k9, .int .u64 k10, .slice none 0 0, .slice (some ⟨gr, 0, none⟩) xs.length cr] #[.int .i64 1, .int .i64 0, .slice none 0 0] rfl rfl rfl rfl (by first | (with_reducible exact blk_put3 (put13 _ _ _ _ _ _ _ _ _ _ _ _ _  HF.out.r) n1) | exact blk_put3 (put13 _ _ _ _ _ _ _ _ _ _ _ _ _  (HF.out.drewN _).r) n1) (by first | (with_reducible exact put3 _ _ _ (blk_put13 HR2.out n2)) | exact put3 _ _ _ (blk_put13 (blk_drewN HR2.out _) n2))) rfl ?_
  exact ⟨rfl, by repeat (first | (with_reducible exact HF.out.b) | (with_reducible apply below_drew1) | (with_reducible apply pw_below_drewN) | (with_reducible refine below_set ?_ (by omega)))⟩

set_option maxHeartbeats 8000000 in
set_option maxRecDepth 100000 in
theorem rDoNone15 (k0 k1 k2 k3 k4 k5 k6 k7 k8 k9 k10 : Int) (gr cr : Nat) (t0 : TypeId) (xs : List S51) (th a b v nn mm : Int) (A : Option Addr) (dl dc : Nat) (fu : Bool) (w : World) (hx : w.heap[gr]? = some (.cells (cells51 xs) t0 (0, 0))) (hz : ∀ j, j < xs.length → xs[j]? = some z51) (hn : xs.length ≤ 64) :
    Calls Try.prog 9 #[.agg #[.int .i64 k0, .int .i64 k1, .int .i64 k2, .int .i64 k3, .int .i64 k4, .int .i64 k5, .int .i64 k6, .int .i64 k7, .int .i64 k8, .int .i64 k9, .int .u64 k10, .slice none 0 0, .slice (some ⟨gr, 0, none⟩) xs.length cr], .agg #[.int .i64 15, .int .i64 th, .int .i64 a, .int .i64 b, .int .i64 v, .int .i64 nn, .int .i64 mm, .slice A dl dc], .bool fu] w fun e w' => e = .returned (.tuple #[.agg #[.int .i64 k0, .int .i64 k1, .int .i64 k2, .int .i64 k3, .int .i64 k4, .int .i64 k5, .int .i64 k6, .int .i64 k7, .int .i64 k8, .int .i64 k9, .int .u64 k10, .slice none 0 0, .slice (some ⟨gr, 0, none⟩) xs.length cr], .agg #[.int .i64 0, .int .i64 0, .slice none 0 0]]) ∧ Below w.heap.size w w' := by
  have hu25 := Try.underlying25
  have hu40 := Try.underlying40
  have hu51 := Try.underlying51
  have hu35 := Try.underlying35
  obtain ⟨w1, hw1, HF, HR2⟩ : ∃ w1, (((w.alloc (.cells #[.int .i64 k0, .int .i64 k1, .int .i64 k2, .int .i64 k3, .int .i64 k4, .int .i64 k5, .int .i64 k6, .int .i64 k7, .int .i64 k8, .int .i64 k9, .int .u64 k10, .slice none 0 0, .slice (some ⟨gr, 0, none⟩) xs.length cr] 40)).alloc (.cells #[.int .i64 15, .int .i64 th, .int .i64 a, .int .i64 b, .int .i64 v, .int .i64 nn, .int .i64 mm, .slice A dl dc] 25)).alloc (.cells #[.int .i64 0, .int .i64 0, .int .i64 0, .int .i64 0, .int .i64 0, .int .i64 0, .int .i64 0, .int .i64 0, .int .i64 0, .int .i64 0, .int .u64 0, .slice none 0 0, .slice none 0 0] 40)).alloc (.cells #[.int .i64 0, .int .i64 0, .slice none 0 0] 35) = w1 ∧ Aside0 (MkF w w1 k0 k1 k2 k3 k4 k5 k6 k7 k8 k9 k10 (.slice none 0 0) (.slice (some ⟨gr, 0, none⟩) xs.length cr) #[.int .i64 15, .int .i64 th, .int .i64 a, .int .i64 b, .int .i64 v, .int .i64 nn, .int .i64 mm, .slice A dl dc]) ∧ Aside0 (w1.heap[w.heap.size + 1 + 1 + 1]? = some (.cells #[.int .i64 0, .int .i64 0, .slice none 0 0] 35 (0, 0))) := ⟨_, rfl, ⟨⟨blk_alloc (blk_alloc (blk_alloc (blk_new _ _) _) _) _, blk_alloc (blk_alloc (blk_new1 _ _ _) _) _, blk_alloc (blk_newb _ _ _ _) _, below_alloc (below_alloc (below_alloc (below_alloc (Below.refl _ _) _) _) _) _⟩⟩, ⟨blk_newc _ _ _ _ _⟩⟩
  have HX := Aside0.mk hx
  have HZ := Aside0.mk hz
  clear hx hz
  have n1 : w.heap.size + 1 + 1 ≠ w.heap.size + 1 + 1 + 1 := by omega
  have n2 : w.heap.size + 1 + 1 + 1 ≠ w.heap.size + 1 + 1 := by omega
  obtain ⟨ma_0, ma_1, ma_2, ma_3, ma_4, ma_5, ma_6, ma_7, ma_8, ma_9, ma_10, ma_11, ma_12⟩ := cellsR HF.out.m
  obtain ⟨oa_0, oa_1, oa_2, oa_3, oa_4, oa_5, oa_6, oa_7⟩ := cells8 HF.out.op
  obtain ⟨ra_0, ra_1, ra_2, ra_3, ra_4, ra_5, ra_6, ra_7, ra_8, ra_9, ra_10, ra_11, ra_12⟩ := cellsR HF.out.r
  obtain ⟨fa_0, fa_1, fa_2, fa_3, fa_4, fa_5, fa_6, fa_7, fa_8, fa_9, fa_10, fa_11, fa_12⟩ := frozR HF.out.r
  obtain ⟨pa0, pa1, pa2, qa0, qa1, qa2⟩ := cells3 HR2.out
  go_enter Try.func9, Try.ntmps9
  go_wp2_with fail
  refine (cubbyholeref44_Uses.calls 10 15 false false false _ (by kernel_rfl)).mono ?_
  rintro e w2 ⟨rfl, ⟨j, rfl⟩⟩
  go_wp2
  refine bodyPost_ret (retRd rfl _ _ (w.heap.size + 1 + 1) (w.heap.size + 1 + 1 + 1) #[.int .i64 k0, .int .i64 k1, .int .i64 k2, .int .i64 k3, .int .i64 k4, .int .i64 k5, .int .i64 k6, .int .i64 k7, .int .i64 k8, .int .i64 k9, .int .u64 k10, .slice none 0 0, .slice (some ⟨gr, 0, none⟩) xs.length cr] #[.int .i64 0, .int .i64 0, .slice none 0 0] rfl rfl rfl rfl (by first | (with_reducible exact blk_put3 (put13 _ _ _ _ _ _ _ _ _ _ _ _ _  HF.out.r) n1) | exact blk_put3 (put13 _ _ _ _ _ _ _ _ _ _ _ _ _  (HF.out.drewN _).r) n1) (by first | (with_reducible exact put3 _ _ _ (blk_put13 HR2.out n2)) | exact put3 _ _ _ (blk_put13 (blk_drewN HR2.out _) n2))) rfl ?_
  exact ⟨rfl, by repeat (first | (with_reducible exact HF.out.b) | (with_reducible apply below_drew1) | (with_reducible apply pw_below_drewN) | (with_reducible refine below_set ?_ (by omega)))⟩

set_option maxHeartbeats 8000000 in
set_option maxRecDepth 100000 in
theorem rDoNone16 (k0 k1 k2 k3 k4 k5 k6 k7 k8 k9 k10 : Int) (gr cr : Nat) (t0 : TypeId) (xs : List S51) (th a b v nn mm : Int) (A : Option Addr) (dl dc : Nat) (fu : Bool) (w : World) (hx : w.heap[gr]? = some (.cells (cells51 xs) t0 (0, 0))) (hz : ∀ j, j < xs.length → xs[j]? = some z51) (hn : xs.length ≤ 64) :
    Calls Try.prog 9 #[.agg #[.int .i64 k0, .int .i64 k1, .int .i64 k2, .int .i64 k3, .int .i64 k4, .int .i64 k5, .int .i64 k6, .int .i64 k7, .int .i64 k8, .int .i64 k9, .int .u64 k10, .slice none 0 0, .slice (some ⟨gr, 0, none⟩) xs.length cr], .agg #[.int .i64 16, .int .i64 th, .int .i64 a, .int .i64 b, .int .i64 v, .int .i64 nn, .int .i64 mm, .slice A dl dc], .bool fu] w fun e w' => e = .returned (.tuple #[.agg #[.int .i64 k0, .int .i64 k1, .int .i64 k2, .int .i64 k3, .int .i64 k4, .int .i64 k5, .int .i64 k6, .int .i64 k7, .int .i64 k8, .int .i64 k9, .int .u64 k10, .slice none 0 0, .slice (some ⟨gr, 0, none⟩) xs.length cr], .agg #[.int .i64 0, .int .i64 0, .slice none 0 0]]) ∧ Below w.heap.size w w' := by
  have hu25 := Try.underlying25
  have hu40 := Try.underlying40
  have hu51 := Try.underlying51
  have hu35 := Try.underlying35
  obtain ⟨w1, hw1, HF, HR2⟩ : ∃ w1, (((w.alloc (.cells #[.int .i64 k0, .int .i64 k1, .int .i64 k2, .int .i64 k3, .int .i64 k4, .int .i64 k5, .int .i64 k6, .int .i64 k7, .int .i64 k8, .int .i64 k9, .int .u64 k10, .slice none 0 0, .slice (some ⟨gr, 0, none⟩) xs.length cr] 40)).alloc (.cells #[.int .i64 16, .int .i64 th, .int .i64 a, .int .i64 b, .int .i64 v, .int .i64 nn, .int .i64 mm, .slice A dl dc] 25)).alloc (.cells #[.int .i64 0, .int .i64 0, .int .i64 0, .int .i64 0, .int .i64 0, .int .i64 0, .int .i64 0, .int .i64 0, .int .i64 0, .int .i64 0, .int .u64 0, .slice none 0 0, .slice none 0 0] 40)).alloc (.cells #[.int .i64 0, .int .i64 0, .slice none 0 0] 35) = w1 ∧ Aside0 (MkF w w1 k0 k1 k2 k3 k4 k5 k6 k7 k8 k9 k10 (.slice none 0 0) (.slice (some ⟨gr, 0, none⟩) xs.length cr) #[.int .i64 16, .int .i64 th, .int .i64 a, .int .i64 b, .int .i64 v, .int .i64 nn, .int .i64 mm, .slice A dl dc]) ∧ Aside0 (w1.heap[w.heap.size + 1 + 1 + 1]? = some (.cells #[.int .i64 0, .int .i64 0, .slice none 0 0] 35 (0, 0))) := ⟨_, rfl, ⟨⟨blk_alloc (blk_alloc (blk_alloc (blk_new _ _) _) _) _, blk_alloc (blk_alloc (blk_new1 _ _ _) _) _, blk_alloc (blk_newb _ _ _ _) _, below_alloc (below_alloc (below_alloc (below_alloc (Below.refl _ _) _) _) _) _⟩⟩, ⟨blk_newc _ _ _ _ _⟩⟩
  have HX := Aside0.mk hx
  have HZ := Aside0.mk hz
  clear hx hz
  have n1 : w.heap.size + 1 + 1 ≠ w.heap.size + 1 + 1 + 1 := by omega
  have n2 : w.heap.size + 1 + 1 + 1 ≠ w.heap.size + 1 + 1 := by omega
  obtain ⟨ma_0, ma_1, ma_2, ma_3, ma_4, ma_5, ma_6, ma_7, ma_8, ma_9, ma_10, ma_11, ma_12⟩ := cellsR HF.out.m
  obtain ⟨oa_0, oa_1, oa_2, oa_3, oa_4, oa_5, oa_6, oa_7⟩ := cells8 HF.out.op
  obtain ⟨ra_0, ra_1, ra_2, ra_3, ra_4, ra_5, ra_6, ra_7, ra_8, ra_9, ra_10, ra_11, ra_12⟩ := cellsR HF.out.r
  obtain ⟨fa_0, fa_1, fa_2, fa_3, fa_4, fa_5, fa_6, fa_7, fa_8, fa_9, fa_10, fa_11, fa_12⟩ := frozR HF.out.r
  obtain ⟨pa0, pa1, pa2, qa0, qa1, qa2⟩ := cells3 HR2.out
  go_enter Try.func9, Try.ntmps9
  go_wp2_with fail
  refine (cubbyholeref44_Uses.calls 10 16 false false false _ (by kernel_rfl)).mono ?_
  rintro e w2 ⟨rfl, ⟨j, rfl⟩⟩
  go_wp2
  refine bodyPost_ret (retRd rfl _ _ (w.heap.size + 1 + 1) (w.heap.size + 1 + 1 + 1) #[.int .i64 k0, .int .i64 k1, .int .i64 k2, .int .i64 k3, .int .i64 k4, .int .i64 k5, .int .i64 k6, .int .i64 k7, .int .i64 k8, .int .i64 k9, .int .u64 k10, .slice none 0 0, .slice (some ⟨gr, 0, none⟩) xs.length cr] #[.int .i64 0, .int .i64 0, .slice none 0 0] rfl rfl rfl rfl (by first | (with_reducible exact blk_put3 (put13 _ _ _ _ _ _ _ _ _ _ _ _ _  HF.out.r) n1) | exact blk_put3 (put13 _ _ _ _ _ _ _ _ _ _ _ _ _  (HF.out.drewN _).r) n1) (by first | (with_reducible exact put3 _ _ _ (blk_put13 HR2.out n2)) | exact put3 _ _ _ (blk_put13 (blk_drewN HR2.out _) n2))) rfl ?_
  exact ⟨rfl, by repeat (first | (with_reducible exact HF.out.b) | (with_reducible apply below_drew1) | (with_reducible apply pw_below_drewN) | (with_reducible refine below_set ?_ (by omega)))⟩

set_option maxHeartbeats 8000000 in
set_option maxRecDepth 100000 in
theorem rDoNone17 (k0 k1 k2 k3 k4 k5 k6 k7 k8 k9 k10 : Int) (gr cr : Nat) (t0 : TypeId) (xs : List S51) (th a b v nn mm : Int) (A : Option Addr) (dl dc : Nat) (fu : Bool) (w : World) (hx : w.heap[gr]? = some (.cells (cells51 xs) t0 (0, 0))) (hz : ∀ j, j < xs.length → xs[j]? = some z51) (hn : xs.length ≤ 64) :
    Calls Try.prog 9 #[.agg #[.int .i64 k0, .int .i64 k1, .int .i64 k2, .int .i64 k3, .int .i64 k4, .int .i64 k5, .int .i64 k6, .int .i64 k7, .int .i64 k8, .int .i64 k9, .int .u64 k10, .slice none 0 0, .slice (some ⟨gr, 0, none⟩) xs.length cr], .agg #[.int .i64 17, .int .i64 th, .int .i64 a, .int .i64 b, .int .i64 v, .int .i64 nn, .int .i64 mm, .slice A dl dc], .bool fu] w fun e w' => e = .returned (.tuple #[.agg #[.int .i64 k0, .int .i64 k1, .int .i64 k2, .int .i64 k3, .int .i64 k4, .int .i64 k5, .int .i64 k6, .int .i64 k7, .int .i64 k8, .int .i64 k9, .int .u64 k10, .slice none 0 0, .slice (some ⟨gr, 0, none⟩) xs.length cr], .agg #[.int .i64 0, .int .i64 0, .slice none 0 0]]) ∧ Below w.heap.size w w' := by
  have hu25 := Try.underlying25
  have hu40 := Try.underlying40
  have hu51 := Try.underlying51
  have hu35 := Try.underlying35
  obtain ⟨w1, hw1, HF, HR2⟩ : ∃ w1, (((w.alloc (.cells #[.int .i64 k0, .int .i64 k1, .int .i64 k2, .int .i64 k3, .int .i64 k4, .int .i64 k5, .int .i64 k6, .int .i64 k7, .int .i64 k8, .int .i64 k9, .int .u64 k10, .slice none 0 0, .slice (some ⟨gr, 0, none⟩) xs.length cr] 40)).alloc (.cells #[.int .i64 17, .int .i64 th, .int .i64 a, .int .i64 b, .int .i64 v, .int .i64 nn, .int .i64 mm, .slice A dl dc] 25)).alloc (.cells #[.int .i64 0, .int .i64 0, .int .i64 0, .int .i64 0, .int .i64 0, .int .i64 0, .int .i64 0, .int .i64 0, .int .i64 0, .int .i64 0, .int .u64 0, .slice none 0 0, .slice none 0 0] 40)).alloc (.cells #[.int .i64 0, .int .i64 0, .slice none 0 0] 35) = w1 ∧ Aside0 (MkF w w1 k0 k1 k2 k3 k4 k5 k6 k7 k8 k9 k10 (.slice none 0 0) (.slice (some ⟨gr, 0, none⟩) xs.length cr) #[.int .i64 17, .int .i64 th, .int .i64 a, .int .i64 b, .int .i64 v, .int .i64 nn, .int .i64 mm, .slice A dl dc]) ∧ Aside0 (w1.heap[w.heap.size + 1 + 1 + 1]? = some (.cells #[.int .i64 0, .int .i64 0, .slice none 0 0] 35 (0, 0))) := ⟨_, rfl, ⟨⟨blk_alloc (blk_alloc (blk_alloc (blk_new _ _) _) _) _, blk_alloc (blk_alloc (blk_new1 _ _ _) _) _, blk_alloc (blk_newb _ _ _ _) _, below_alloc (below_alloc (below_alloc (below_alloc (Below.refl _ _) _) _) _) _⟩⟩, ⟨blk_newc _ _ _ _ _⟩⟩
  have HX := Aside0.mk hx
  have HZ := Aside0.mk hz
  clear hx hz
  have n1 : w.heap.size + 1 + 1 ≠ w.heap.size + 1 + 1 + 1 := by omega
  have n2 : w.heap.size + 1 + 1 + 1 ≠ w.heap.size + 1 + 1 := by omega
  obtain ⟨ma_0, ma_1, ma_2, ma_3, ma_4, ma_5, ma_6, ma_7, ma_8, ma_9, ma_10, ma_11, ma_12⟩ := cellsR HF.out.m
  obtain ⟨oa_0, oa_1, oa_2, oa_3, oa_4, oa_5, oa_6, oa_7⟩ := cells8 HF.out.op
  obtain ⟨ra_0, ra_1, ra_2, ra_3, ra_4, ra_5, ra_6, ra_7, ra_8, ra_9, ra_10, ra_11, ra_12⟩ := cellsR HF.out.r
  obtain ⟨fa_0, fa_1, fa_2, fa_3, fa_4, fa_5, fa_6, fa_7, fa_8, fa_9, fa_10, fa_11, fa_12⟩ := frozR HF.out.r
  obtain ⟨pa0, pa1, pa2, qa0, qa1, qa2⟩ := cells3 HR2.out
  go_enter Try.func9, Try.ntmps9
  go_wp2_with fail
  refine (cubbyholeref44_Uses.calls 10 17 false false false _ (by kernel_rfl)).mono ?_
  rintro e w2 ⟨rfl, ⟨j, rfl⟩⟩
  go_wp2
  refine bodyPost_ret (retRd rfl _ _ (w.heap.size + 1 + 1) (w.heap.size + 1 + 1 + 1) #[.int .i64 k0, .int .i64 k1, .int .i64 k2, .int .i64 k3, .int .i64 k4, .int .i64 k5, .int .i64 k6, .int .i64 k7, .int .i64 k8, .int .i64 k9, .int .u64 k10, .slice none 0 0, .slice (some ⟨gr, 0, none⟩) xs.length cr] #[.int .i64 0, .int .i64 0, .slice none 0 0] rfl rfl rfl rfl (by first | (with_reducible exact blk_put3 (put13 _ _ _ _ _ _ _ _ _ _ _ _ _  HF.out.r) n1) | exact blk_put3 (put13 _ _ _ _ _ _ _ _ _ _ _ _ _  (HF.out.drewN _).r) n1) (by first | (with_reducible exact put3 _ _ _ (blk_put13 HR2.out n2)) | exact put3 _ _ _ (blk_put13 (blk_drewN HR2.out _) n2))) rfl ?_
  exact ⟨rfl, by repeat (first | (with_reducible exact HF.out.b) | (with_reducible apply below_drew1) | (with_reducible apply pw_below_drewN) | (with_reducible refine below_set ?_ (by omega)))⟩

set_option maxHeartbeats 8000000 in
set_option maxRecDepth 100000 in
theorem rDoM1a (k0 k1 k2 k3 k4 k5 k6 k7 k8 k9 k10 : Int) (gr cr : Nat) (t0 : TypeId) (xs : List S51) (th a b v nn mm : Int) (A : Option Addr) (dl dc : Nat) (fu : Bool) (w : World) (hx : w.heap[gr]? = some (.cells (cells51 xs) t0 (0, 0))) (hz : ∀ j, j < xs.length → xs[j]? = some z51) (hn : xs.length ≤ 64) (ha0 : 0 ≤ a) (ha1 : a < (xs.length : Int)) (x : Int) (he : askFull k3 k8 th nn fu = x) (hx0 : x = 1 ∨ x = 4 ∨ x = 13) :
    Calls Try.prog 9 #[.agg #[.int .i64 k0, .int .i64 k1, .int .i64 k2, .int .i64 k3, .int .i64 k4, .int .i64 k5, .int .i64 k6, .int .i64 k7, .int .i64 k8, .int .i64 k9, .int .u64 k10, .slice none 0 0, .slice (some ⟨gr, 0, none⟩) xs.length cr], .agg #[.int .i64 1, .int .i64 th, .int .i64 a, .int .i64 b, .int .i64 v, .int .i64 nn, .int .i64 mm, .slice A dl dc], .bool fu] w fun e w' => e = .returned (.tuple #[.agg #[.int .i64 k0, .int .i64 k1, .int .i64 k2, .int .i64 k3, .int .i64 k4, .int .i64 k5, .int .i64 k6, .int .i64 k7, .int .i64 k8, .int .i64 k9, .int .u64 k10, .slice none 0 0, .slice (some ⟨gr, 0, none⟩) xs.length cr], .agg #[.int .i64 x, .int .i64 0, .slice none 0 0]]) ∧ Below w.heap.size w w' := by
  have hu25 := Try.underlying25
  have hu40 := Try.underlying40
  have hu51 := Try.underlying51
  have hu35 := Try.underlying35
  obtain ⟨w1, hw1, HF, HR2⟩ : ∃ w1, (((w.alloc (.cells #[.int .i64 k0, .int .i64 k1, .int .i64 k2, .int .i64 k3, .int .i64 k4, .int .i64 k5, .int .i64 k6, .int .i64 k7, .int .i64 k8, .int .i64 k9, .int .u64 k10, .slice none 0 0, .slice (some ⟨gr, 0, none⟩) xs.length cr] 40)).alloc (.cells #[.int .i64 1, .int .i64 th, .int .i64 a, .int .i64 b, .int .i64 v, .int .i64 nn, .int .i64 mm, .slice A dl dc] 25)).alloc (.cells #[.int .i64 0, .int .i64 0, .int .i64 0, .int .i64 0, .int .i64 0, .int .i64 0, .int .i64 0, .int .i64 0, .int .i64 0, .int .i64 0, .int .u64 0, .slice none 0 0, .slice none 0 0] 40)).alloc (.cells #[.int .i64 0, .int .i64 0, .slice none 0 0] 35) = w1 ∧ Aside0 (MkF w w1 k0 k1 k2 k3 k4 k5 k6 k7 k8 k9 k10 (.slice none 0 0) (.slice (some ⟨gr, 0, none⟩) xs.length cr) #[.int .i64 1, .int .i64 th, .int .i64 a, .int .i64 b, .int .i64 v, .int .i64 nn, .int .i64 mm, .slice A dl dc]) ∧ Aside0 (w1.heap[w.heap.size + 1 + 1 + 1]? = some (.cells #[.int .i64 0, .int .i64 0, .slice none 0 0] 35 (0, 0))) := ⟨_, rfl, ⟨⟨blk_alloc (blk_alloc (blk_alloc (blk_new _ _) _) _) _, blk_alloc (blk_alloc (blk_new1 _ _ _) _) _, blk_alloc (blk_newb _ _ _ _) _, below_alloc (below_alloc (below_alloc (below_alloc (Below.refl _ _) _) _) _) _⟩⟩, ⟨blk_newc _ _ _ _ _⟩⟩
  have HX := Aside0.mk hx
  have HZ := Aside0.mk hz
  clear hx hz
  have n1 : w.heap.size + 1 + 1 ≠ w.heap.size + 1 + 1 + 1 := by omega
  have n2 : w.heap.size + 1 + 1 + 1 ≠ w.heap.size + 1 + 1 := by omega
  have daa : decide (a < 0) = false := decide_eq_false (by omega)
  have dab : decide ((xs.length : Int) ≤ a) = false := decide_eq_false (by omega)
  obtain ⟨ma_0, ma_1, ma_2, ma_3, ma_4, ma_5, ma_6, ma_7, ma_8, ma_9, ma_10, ma_11, ma_12⟩ := cellsR HF.out.m
  obtain ⟨oa_0, oa_1, oa_2, oa_3, oa_4, oa_5, oa_6, oa_7⟩ := cells8 HF.out.op
  obtain ⟨ra_0, ra_1, ra_2, ra_3, ra_4, ra_5, ra_6, ra_7, ra_8, ra_9, ra_10, ra_11, ra_12⟩ := cellsR HF.out.r
  obtain ⟨fa_0, fa_1, fa_2, fa_3, fa_4, fa_5, fa_6, fa_7, fa_8, fa_9, fa_10, fa_11, fa_12⟩ := frozR HF.out.r
  obtain ⟨pa0, pa1, pa2, qa0, qa1, qa2⟩ := cells3 HR2.out
  go_enter Try.func9, Try.ntmps9
  go_wp2_with fail
  refine (cubbyholeref44_Uses.calls 10 1 true false false _ (by kernel_rfl)).mono ?_
  rintro e w2 ⟨rfl, ⟨j, rfl⟩⟩
  go_wp2_with fail
  refine (rm1a k0 k1 k2 k3 k4 k5 k6 k7 k8 k9 k10 gr cr xs th a b v nn mm A dl dc fu _ x he hx0).mono ?_
  rintro e w3 ⟨rfl, hbj⟩
  have hb := below_step (pw_below_drewN (Below.refl w1.heap.size w1) j) hbj
  obtain ⟨w4, hw4, HF4, HR4⟩ : ∃ w0, (((((((((((((w3.setCell ⟨w.heap.size, 0, none⟩ (.int .i64 k0)).setCell ⟨w.heap.size, 1, none⟩ (.int .i64 k1)).setCell ⟨w.heap.size, 2, none⟩ (.int .i64 k2)).setCell ⟨w.heap.size, 3, none⟩ (.int .i64 k3)).setCell ⟨w.heap.size, 4, none⟩ (.int .i64 k4)).setCell ⟨w.heap.size, 5, none⟩ (.int .i64 k5)).setCell ⟨w.heap.size, 6, none⟩ (.int .i64 k6)).setCell ⟨w.heap.size, 7, none⟩ (.int .i64 k7)).setCell ⟨w.heap.size, 8, none⟩ (.int .i64 k8)).setCell ⟨w.heap.size, 9, none⟩ (.int .i64 k9)).setCell ⟨w.heap.size, 10, none⟩ (.int .u64 k10)).setCell ⟨w.heap.size, 11, none⟩ (.slice none 0 0)).setCell ⟨w.heap.size, 12, none⟩ (.slice (some ⟨gr, 0, none⟩) xs.length cr)) = w0 ∧ Aside0 (MkF w w0 k0 k1 k2 k3 k4 k5 k6 k7 k8 k9 k10 (.slice none 0 0) (.slice (some ⟨gr, 0, none⟩) xs.length cr) _) ∧ Aside0 (w0.heap[w.heap.size + 1 + 1 + 1]? = some (.cells #[.int .i64 0, .int .i64 0, .slice none 0 0] 35 (0, 0))) := ⟨_, rfl, ⟨MkF.putm (MkF.below HF.out hb)⟩, ⟨blk_put13 (blk_below HR2.out hb) (by omega)⟩⟩
  have HF3 := Aside0.mk (show MkF w w3 k0 k1 k2 k3 k4 k5 k6 k7 k8 k9 k10 (.slice none 0 0) (.slice (some ⟨gr, 0, none⟩) xs.length cr) _ from MkF.below HF.out hb)
  clear hb hbj ma_0 ma_1 ma_2 ma_3 ma_4 ma_5 ma_6 ma_7 ma_8 ma_9 ma_10 ma_11 ma_12 oa_0 oa_1 oa_2 oa_3 oa_4 oa_5 oa_6 oa_7 ra_0 ra_1 ra_2 ra_3 ra_4 ra_5 ra_6 ra_7 ra_8 ra_9 ra_10 ra_11 ra_12 fa_0 fa_1 fa_2 fa_3 fa_4 fa_5 fa_6 fa_7 fa_8 fa_9 fa_10 fa_11 fa_12 pa0 pa1 pa2 qa0 qa1 qa2
  obtain ⟨mb_0, mb_1, mb_2, mb_3, mb_4, mb_5, mb_6, mb_7, mb_8, mb_9, mb_10, mb_11, mb_12⟩ := cellsR HF3.out.m
  obtain ⟨fb_0, fb_1, fb_2, fb_3, fb_4, fb_5, fb_6, fb_7, fb_8, fb_9, fb_10, fb_11, fb_12⟩ := frozR HF3.out.m
  obtain ⟨mc_0, mc_1, mc_2, mc_3, mc_4, mc_5, mc_6, mc_7, mc_8, mc_9, mc_10, mc_11, mc_12⟩ := cellsR HF4.out.m
  obtain ⟨oc_0, oc_1, oc_2, oc_3, oc_4, oc_5, oc_6, oc_7⟩ := cells8 HF4.out.op
  obtain ⟨rc_0, rc_1, rc_2, rc_3, rc_4, rc_5, rc_6, rc_7, rc_8, rc_9, rc_10, rc_11, rc_12⟩ := cellsR HF4.out.r
  obtain ⟨fc_0, fc_1, fc_2, fc_3, fc_4, fc_5, fc_6, fc_7, fc_8, fc_9, fc_10, fc_11, fc_12⟩ := frozR HF4.out.r
  obtain ⟨pc0, pc1, pc2, qc0, qc1, qc2⟩ := cells3 HR4.out
  go_wp2
  refine bodyPost_ret (retRd rfl _ _ (w.heap.size + 1 + 1) (w.heap.size + 1 + 1 + 1) #[.int .i64 k0, .int .i64 k1, .int .i64 k2, .int .i64 k3, .int .i64 k4, .int .i64 k5, .int .i64 k6, .int .i64 k7, .int .i64 k8, .int .i64 k9, .int .u64 k10, .slice none 0 0, .slice (some ⟨gr, 0, none⟩) xs.length cr] #[.int .i64 x, .int .i64 0, .slice none 0 0] rfl rfl rfl rfl (by first | (with_reducible exact blk_put3 (put13 _ _ _ _ _ _ _ _ _ _ _ _ _  HF4.out.r) n1) | exact blk_put3 (put13 _ _ _ _ _ _ _ _ _ _ _ _ _  (HF4.out.drewN _).r) n1) (by first | (with_reducible exact put3 _ _ _ (blk_put13 HR4.out n2)) | exact put3 _ _ _ (blk_put13 (blk_drewN HR4.out _) n2))) rfl ?_
  exact ⟨rfl, by repeat (first | (with_reducible exact HF4.out.b) | (with_reducible apply below_drew1) | (with_reducible apply pw_below_drewN) | (with_reducible refine below_set ?_ (by omega)))⟩

set_option maxHeartbeats 8000000 in
set_option maxRecDepth 100000 in
theorem rDoM2b (k0 k1 k2 k3 k4 k5 k6 k7 k8 k9 k10 : Int) (gr cr : Nat) (t0 : TypeId) (xs : List S51) (th a b v nn mm : Int) (A : Option Addr) (dl dc : Nat) (fu : Bool) (w : World) (hx : w.heap[gr]? = some (.cells (cells51 xs) t0 (0, 0))) (hz : ∀ j, j < xs.length → xs[j]? = some z51) (hn : xs.length ≤ 64) (ha0 : 0 ≤ a) (ha1 : a < (xs.length : Int)) (hbad : nn < 1 ∨ mm < 1 ∨ th < 0 ∨ k3 ≤ th) :
    Calls Try.prog 9 #[.agg #[.int .i64 k0, .int .i64 k1, .int .i64 k2, .int .i64 k3, .int .i64 k4, .int .i64 k5, .int .i64 k6, .int .i64 k7, .int .i64 k8, .int .i64 k9, .int .u64 k10, .slice none 0 0, .slice (some ⟨gr, 0, none⟩) xs.length cr], .agg #[.int .i64 2, .int .i64 th, .int .i64 a, .int .i64 b, .int .i64 v, .int .i64 nn, .int .i64 mm, .slice A dl dc], .bool fu] w fun e w' => e = .returned (.tuple #[.agg #[.int .i64 k0, .int .i64 k1, .int .i64 k2, .int .i64 k3, .int .i64 k4, .int .i64 k5, .int .i64 k6, .int .i64 k7, .int .i64 k8, .int .i64 k9, .int .u64 k10, .slice none 0 0, .slice (some ⟨gr, 0, none⟩) xs.length cr], .agg #[.int .i64 1, .int .i64 0, .slice none 0 0]]) ∧ Below w.heap.size w w' := by
  have hu25 := Try.underlying25
  have hu40 := Try.underlying40
  have hu51 := Try.underlying51
  have hu35 := Try.underlying35
  obtain ⟨w1, hw1, HF, HR2⟩ : ∃ w1, (((w.alloc (.cells #[.int .i64 k0, .int .i64 k1, .int .i64 k2, .int .i64 k3, .int .i64 k4, .int .i64 k5, .int .i64 k6, .int .i64 k7, .int .i64 k8, .int .i64 k9, .int .u64 k10, .slice none 0 0, .slice (some ⟨gr, 0, none⟩) xs.length cr] 40)).alloc (.cells #[.int .i64 2, .int .i64 th, .int .i64 a, .int .i64 b, .int .i64 v, .int .i64 nn, .int .i64 mm, .slice A dl dc] 25)).alloc (.cells #[.int .i64 0, .int .i64 0, .int .i64 0, .int .i64 0, .int .i64 0, .int .i64 0, .int .i64 0, .int .i64 0, .int .i64 0, .int .i64 0, .int .u64 0, .slice none 0 0, .slice none 0 0] 40)).alloc (.cells #[.int .i64 0, .int .i64 0, .slice none 0 0] 35) = w1 ∧ Aside0 (MkF w w1 k0 k1 k2 k3 k4 k5 k6 k7 k8 k9 k10 (.slice none 0 0) (.slice (some ⟨gr, 0, none⟩) xs.length cr) #[.int .i64 2, .int .i64 th, .int .i64 a, .int .i64 b, .int .i64 v, .int .i64 nn, .int .i64 mm, .slice A dl dc]) ∧ Aside0 (w1.heap[w.heap.size + 1 + 1 + 1]? = some (.cells #[.int .i64 0, .int .i64 0, .slice none 0 0] 35 (0, 0))) := ⟨_, rfl, ⟨⟨blk_alloc (blk_alloc (blk_alloc (blk_new _ _) _) _) _, blk_alloc (blk_alloc (blk_new1 _ _ _) _) _, blk_alloc (blk_newb _ _ _ _) _, below_alloc (below_alloc (below_alloc (below_alloc (Below.refl _ _) _) _) _) _⟩⟩, ⟨blk_newc _ _ _ _ _⟩⟩
  have HX := Aside0.mk hx
  have HZ := Aside0.mk hz
  clear hx hz
  have n1 : w.heap.size + 1 + 1 ≠ w.heap.size + 1 + 1 + 1 := by omega
  have n2 : w.heap.size + 1 + 1 + 1 ≠ w.heap.size + 1 + 1 := by omega
  have daa : decide (a < 0) = false := decide_eq_false (by omega)
  have dab : decide ((xs.length : Int) ≤ a) = false := decide_eq_false (by omega)
  obtain ⟨ma_0, ma_1, ma_2, ma_3, ma_4, ma_5, ma_6, ma_7, ma_8, ma_9, ma_10, ma_11, ma_12⟩ := cellsR HF.out.m
  obtain ⟨oa_0, oa_1, oa_2, oa_3, oa_4, oa_5, oa_6, oa_7⟩ := cells8 HF.out.op
  obtain ⟨ra_0, ra_1, ra_2, ra_3, ra_4, ra_5, ra_6, ra_7, ra_8, ra_9, ra_10, ra_11, ra_12⟩ := cellsR HF.out.r
  obtain ⟨fa_0, fa_1, fa_2, fa_3, fa_4, fa_5, fa_6, fa_7, fa_8, fa_9, fa_10, fa_11, fa_12⟩ := frozR HF.out.r
  obtain ⟨pa0, pa1, pa2, qa0, qa1, qa2⟩ := cells3 HR2.out
  go_enter Try.func9, Try.ntmps9
  go_wp2_with fail
  refine (cubbyholeref44_Uses.calls 10 2 true false false _ (by kernel_rfl)).mono ?_
  rintro e w2 ⟨rfl, ⟨j, rfl⟩⟩
  go_wp2_with fail
  refine (rm2b k0 k1 k2 k3 k4 k5 k6 k7 k8 k9 k10 gr cr xs th a b v nn mm A dl dc fu _ hbad).mono ?_
  rintro e w3 ⟨rfl, hbj⟩
  have hb := below_step (pw_below_drewN (Below.refl w1.heap.size w1) j) hbj
  obtain ⟨w4, hw4, HF4, HR4⟩ : ∃ w0, (((((((((((((w3.setCell ⟨w.heap.size, 0, none⟩ (.int .i64 k0)).setCell ⟨w.heap.size, 1, none⟩ (.int .i64 k1)).setCell ⟨w.heap.size, 2, none⟩ (.int .i64 k2)).setCell ⟨w.heap.size, 3, none⟩ (.int .i64 k3)).setCell ⟨w.heap.size, 4, none⟩ (.int .i64 k4)).setCell ⟨w.heap.size, 5, none⟩ (.int .i64 k5)).setCell ⟨w.heap.size, 6, none⟩ (.int .i64 k6)).setCell ⟨w.heap.size, 7, none⟩ (.int .i64 k7)).setCell ⟨w.heap.size, 8, none⟩ (.int .i64 k8)).setCell ⟨w.heap.size, 9, none⟩ (.int .i64 k9)).setCell ⟨w.heap.size, 10, none⟩ (.int .u64 k10)).setCell ⟨w.heap.size, 11, none⟩ (.slice none 0 0)).setCell ⟨w.heap.size, 12, none⟩ (.slice (some ⟨gr, 0, none⟩) xs.length cr)) = w0 ∧ Aside0 (MkF w w0 k0 k1 k2 k3 k4 k5 k6 k7 k8 k9 k10 (.slice none 0 0) (.slice (some ⟨gr, 0, none⟩) xs.length cr) _) ∧ Aside0 (w0.heap[w.heap.size + 1 + 1 + 1]? = some (.cells #[.int .i64 0, .int .i64 0, .slice none 0 0] 35 (0, 0))) := ⟨_, rfl, ⟨MkF.putm (MkF.below HF.out hb)⟩, ⟨blk_put13 (blk_below HR2.out hb) (by omega)⟩⟩
  have HF3 := Aside0.mk (show MkF w w3 k0 k1 k2 k3 k4 k5 k6 k7 k8 k9 k10 (.slice none 0 0) (.slice (some ⟨gr, 0, none⟩) xs.length cr) _ from MkF.below HF.out hb)
  clear hb hbj ma_0 ma_1 ma_2 ma_3 ma_4 ma_5 ma_6 ma_7 ma_8 ma_9 ma_10 ma_11 ma_12 oa_0 oa_1 oa_2 oa_3 oa_4 oa_5 oa_6 oa_7 ra_0 ra_1 ra_2 ra_3 ra_4 ra_5 ra_6 ra_7 ra_8 ra_9 ra_10 ra_11 ra_12 fa_0 fa_1 fa_2 fa_3 fa_4 fa_5 fa_6 fa_7 fa_8 fa_9 fa_10 fa_11 fa_12 pa0 pa1 pa2 qa0 qa1 qa2
  obtain ⟨mb_0, mb_1, mb_2, mb_3, mb_4, mb_5, mb_6, mb_7, mb_8, mb_9, mb_10, mb_11, mb_12⟩ := cellsR HF3.out.m
  obtain ⟨fb_0, fb_1, fb_2, fb_3, fb_4, fb_5, fb_6, fb_7, fb_8, fb_9, fb_10, fb_11, fb_12⟩ := frozR HF3.out.m
  obtain ⟨mc_0, mc_1, mc_2, mc_3, mc_4, mc_5, mc_6, mc_7, mc_8, mc_9, mc_10, mc_11, mc_12⟩ := cellsR HF4.out.m
  obtain ⟨oc_0, oc_1, oc_2, oc_3, oc_4, oc_5, oc_6, oc_7⟩ := cells8 HF4.out.op
  obtain ⟨rc_0, rc_1, rc_2, rc_3, rc_4, rc_5, rc_6, rc_7, rc_8, rc_9, rc_10, rc_11, rc_12⟩ := cellsR HF4.out.r
  obtain ⟨fc_0, fc_1, fc_2, fc_3, fc_4, fc_5, fc_6, fc_7, fc_8, fc_9, fc_10, fc_11, fc_12⟩ := frozR HF4.out.r
  obtain ⟨pc0, pc1, pc2, qc0, qc1, qc2⟩ := cells3 HR4.out
  go_wp2
  refine bodyPost_ret (retRd rfl _ _ (w.heap.size + 1 + 1) (w.heap.size + 1 + 1 + 1) #[.int .i64 k0, .int .i64 k1, .int .i64 k2, .int .i64 k3, .int .i64 k4, .int .i64 k5, .int .i64 k6, .int .i64 k7, .int .i64 k8, .int .i64 k9, .int .u64 k10, .slice none 0 0, .slice (some ⟨gr, 0, none⟩) xs.length cr] #[.int .i64 1, .int .i64 0, .slice none 0 0] rfl rfl rfl rfl (by first | (with_reducible exact blk_put3 (put13 _ _ _ _ _ _ _ _ _ _ _ _ _  HF4.out.r) n1) | exact blk_put3 (put13 _ _ _ _ _ _ _ _ _ _ _ _ _  (HF4.out.drewN _).r) n1) (by first | (with_reducible exact put3 _ _ _ (blk_put13 HR4.out n2)) | exact put3 _ _ _ (blk_put13 (blk_drewN HR4.out _) n2))) rfl ?_
  exact ⟨rfl, by repeat (first | (with_reducible exact HF4.out.b) | (with_reducible apply below_drew1) | (with_reducible apply pw_below_drewN) | (with_reducible refine below_set ?_ (by omega)))⟩

set_option maxHeartbeats 8000000 in
set_option maxRecDepth 100000 in
theorem rDoM2q (k0 k1 k2 k3 k4 k5 k6 k7 k8 k9 k10 : Int) (gr cr : Nat) (t0 : TypeId) (xs : List S51) (th a b v nn mm : Int) (A : Option Addr) (dl dc : Nat) (fu : Bool) (w : World) (hx : w.heap[gr]? = some (.cells (cells51 xs) t0 (0, 0))) (hz : ∀ j, j < xs.length → xs[j]? = some z51) (hn : xs.length ≤ 64) (ha0 : 0 ≤ a) (ha1 : a < (xs.length : Int)) (hk8 : 1 ≤ k8) (hk8b : k8 ≤ 1000000000) (hn1 : 1 ≤ nn) (hm1 : 1 ≤ mm) (ht0 : 0 ≤ th) (ht1 : th < k3) (hlt : k8.tdiv mm < nn) :
    Calls Try.prog 9 #[.agg #[.int .i64 k0, .int .i64 k1, .int .i64 k2, .int .i64 k3, .int .i64 k4, .int .i64 k5, .int .i64 k6, .int .i64 k7, .int .i64 k8, .int .i64 k9, .int .u64 k10, .slice none 0 0, .slice (some ⟨gr, 0, none⟩) xs.length cr], .agg #[.int .i64 2, .int .i64 th, .int .i64 a, .int .i64 b, .int .i64 v, .int .i64 nn, .int .i64 mm, .slice A dl dc], .bool fu] w fun e w' => e = .returned (.tuple #[.agg #[.int .i64 k0, .int .i64 k1, .int .i64 k2, .int .i64 k3, .int .i64 k4, .int .i64 k5, .int .i64 k6, .int .i64 k7, .int .i64 k8, .int .i64 k9, .int .u64 k10, .slice none 0 0, .slice (some ⟨gr, 0, none⟩) xs.length cr], .agg #[.int .i64 4, .int .i64 0, .slice none 0 0]]) ∧ Below w.heap.size w w' := by
  have hu25 := Try.underlying25
  have hu40 := Try.underlying40
  have hu51 := Try.underlying51
  have hu35 := Try.underlying35
  obtain ⟨w1, hw1, HF, HR2⟩ : ∃ w1, (((w.alloc (.cells #[.int .i64 k0, .int .i64 k1, .int .i64 k2, .int .i64 k3, .int .i64 k4, .int .i64 k5, .int .i64 k6, .int .i64 k7, .int .i64 k8, .int .i64 k9, .int .u64 k10, .slice none 0 0, .slice (some ⟨gr, 0, none⟩) xs.length cr] 40)).alloc (.cells #[.int .i64 2, .int .i64 th, .int .i64 a, .int .i64 b, .int .i64 v, .int .i64 nn, .int .i64 mm, .slice A dl dc] 25)).alloc (.cells #[.int .i64 0, .int .i64 0, .int .i64 0, .int .i64 0, .int .i64 0, .int .i64 0, .int .i64 0, .int .i64 0, .int .i64 0, .int .i64 0, .int .u64 0, .slice none 0 0, .slice none 0 0] 40)).alloc (.cells #[.int .i64 0, .int .i64 0, .slice none 0 0] 35) = w1 ∧ Aside0 (MkF w w1 k0 k1 k2 k3 k4 k5 k6 k7 k8 k9 k10 (.slice none 0 0) (.slice (some ⟨gr, 0, none⟩) xs.length cr) #[.int .i64 2, .int .i64 th, .int .i64 a, .int .i64 b, .int .i64 v, .int .i64 nn, .int .i64 mm, .slice A dl dc]) ∧ Aside0 (w1.heap[w.heap.size + 1 + 1 + 1]? = some (.cells #[.int .i64 0, .int .i64 0, .slice none 0 0] 35 (0, 0))) := ⟨_, rfl, ⟨⟨blk_alloc (blk_alloc (blk_alloc (blk_new _ _) _) _) _, blk_alloc (blk_alloc (blk_new1 _ _ _) _) _, blk_alloc (blk_newb _ _ _ _) _, below_alloc (below_alloc (below_alloc (below_alloc (Below.refl _ _) _) _) _) _⟩⟩, ⟨blk_newc _ _ _ _ _⟩⟩
  have HX := Aside0.mk hx
  have HZ := Aside0.mk hz
  clear hx hz
  have n1 : w.heap.size + 1 + 1 ≠ w.heap.size + 1 + 1 + 1 := by omega
  have n2 : w.heap.size + 1 + 1 + 1 ≠ w.heap.size + 1 + 1 := by omega
  have daa : decide (a < 0) = false := decide_eq_false (by omega)
  have dab : decide ((xs.length : Int) ≤ a) = false := decide_eq_false (by omega)
  obtain ⟨ma_0, ma_1, ma_2, ma_3, ma_4, ma_5, ma_6, ma_7, ma_8, ma_9, ma_10, ma_11, ma_12⟩ := cellsR HF.out.m
  obtain ⟨oa_0, oa_1, oa_2, oa_3, oa_4, oa_5, oa_6, oa_7⟩ := cells8 HF.out.op
  obtain ⟨ra_0, ra_1, ra_2, ra_3, ra_4, ra_5, ra_6, ra_7, ra_8, ra_9, ra_10, ra_11, ra_12⟩ := cellsR HF.out.r
  obtain ⟨fa_0, fa_1, fa_2, fa_3, fa_4, fa_5, fa_6, fa_7, fa_8, fa_9, fa_10, fa_11, fa_12⟩ := frozR HF.out.r
  obtain ⟨pa0, pa1, pa2, qa0, qa1, qa2⟩ := cells3 HR2.out
  go_enter Try.func9, Try.ntmps9
  go_wp2_with fail
  refine (cubbyholeref44_Uses.calls 10 2 true false false _ (by kernel_rfl)).mono ?_
  rintro e w2 ⟨rfl, ⟨j, rfl⟩⟩
  go_wp2_with fail
  refine (rm2q k0 k1 k2 k3 k4 k5 k6 k7 k8 k9 k10 gr cr xs th a b v nn mm A dl dc fu _ hk8 hk8b hn1 hm1 ht0 ht1 hlt).mono ?_
  rintro e w3 ⟨rfl, hbj⟩
  have hb := below_step (pw_below_drewN (Below.refl w1.heap.size w1) j) hbj
  obtain ⟨w4, hw4, HF4, HR4⟩ : ∃ w0, (((((((((((((w3.setCell ⟨w.heap.size, 0, none⟩ (.int .i64 k0)).setCell ⟨w.heap.size, 1, none⟩ (.int .i64 k1)).setCell ⟨w.heap.size, 2, none⟩ (.int .i64 k2)).setCell ⟨w.heap.size, 3, none⟩ (.int .i64 k3)).setCell ⟨w.heap.size, 4, none⟩ (.int .i64 k4)).setCell ⟨w.heap.size, 5, none⟩ (.int .i64 k5)).setCell ⟨w.heap.size, 6, none⟩ (.int .i64 k6)).setCell ⟨w.heap.size, 7, none⟩ (.int .i64 k7)).setCell ⟨w.heap.size, 8, none⟩ (.int .i64 k8)).setCell ⟨w.heap.size, 9, none⟩ (.int .i64 k9)).setCell ⟨w.heap.size, 10, none⟩ (.int .u64 k10)).setCell ⟨w.heap.size, 11, none⟩ (.slice none 0 0)).setCell ⟨w.heap.size, 12, none⟩ (.slice (some ⟨gr, 0, none⟩) xs.length cr)) = w0 ∧ Aside0 (MkF w w0 k0 k1 k2 k3 k4 k5 k6 k7 k8 k9 k10 (.slice none 0 0) (.slice (some ⟨gr, 0, none⟩) xs.length cr) _) ∧ Aside0 (w0.heap[w.heap.size + 1 + 1 + 1]? = some (.cells #[.int .i64 0, .int .i64 0, .slice none 0 0] 35 (0, 0))) := ⟨_, rfl, ⟨MkF.putm (MkF.below HF.out hb)⟩, ⟨blk_put13 (blk_below HR2.out hb) (by omega)⟩⟩
  have HF3 := Aside0.mk (show MkF w w3 k0 k1 k2 k3 k4 k5 k6 k7 k8 k9 k10 (.slice none 0 0) (.slice (some ⟨gr, 0, none⟩) xs.length cr) _ from MkF.below HF.out hb)
  clear hb hbj ma_0 ma_1 ma_2 ma_3 ma_4 ma_5 ma_6 ma_7 ma_8 ma_9 ma_10 ma_11 ma_12 oa_0 oa_1 oa_2 oa_3 oa_4 oa_5 oa_6 oa_7 ra_0 ra_1 ra_2 ra_3 ra_4 ra_5 ra_6 ra_7 ra_8 ra_9 ra_10 ra_11 ra_12 fa_0 fa_1 fa_2 fa_3 fa_4 fa_5 fa_6 fa_7 fa_8 fa_9 fa_10 fa_11 fa_12 pa0 pa1 pa2 qa0 qa1 qa2
  obtain ⟨mb_0, mb_1, mb_2, mb_3, mb_4, mb_5, mb_6, mb_7, mb_8, mb_9, mb_10, mb_11, mb_12⟩ := cellsR HF3.out.m
  obtain ⟨fb_0, fb_1, fb_2, fb_3, fb_4, fb_5, fb_6, fb_7, fb_8, fb_9, fb_10, fb_11, fb_12⟩ := frozR HF3.out.m
  obtain ⟨mc_0, mc_1, mc_2, mc_3, mc_4, mc_5, mc_6, mc_7, mc_8, mc_9, mc_10, mc_11, mc_12⟩ := cellsR HF4.out.m
  obtain ⟨oc_0, oc_1, oc_2, oc_3, oc_4, oc_5, oc_6, oc_7⟩ := cells8 HF4.out.op
  obtain ⟨rc_0, rc_1, rc_2, rc_3, rc_4, rc_5, rc_6, rc_7, rc_8, rc_9, rc_10, rc_11, rc_12⟩ := cellsR HF4.out.r
  obtain ⟨fc_0, fc_1, fc_2, fc_3, fc_4, fc_5, fc_6, fc_7, fc_8, fc_9, fc_10, fc_11, fc_12⟩ := frozR HF4.out.r
  obtain ⟨pc0, pc1, pc2, qc0, qc1, qc2⟩ := cells3 HR4.out
  go_wp2
  refine bodyPost_ret (retRd rfl _ _ (w.heap.size + 1 + 1) (w.heap.size + 1 + 1 + 1) #[.int .i64 k0, .int .i64 k1, .int .i64 k2, .int .i64 k3, .int .i64 k4, .int .i64 k5, .int .i64 k6, .int .i64 k7, .int .i64 k8, .int .i64 k9, .int .u64 k10, .slice none 0 0, .slice (some ⟨gr, 0, none⟩) xs.length cr] #[.int .i64 4, .int .i64 0, .slice none 0 0] rfl rfl rfl rfl (by first | (with_reducible exact blk_put3 (put13 _ _ _ _ _ _ _ _ _ _ _ _ _  HF4.out.r) n1) | exact blk_put3 (put13 _ _ _ _ _ _ _ _ _ _ _ _ _  (HF4.out.drewN _).r) n1) (by first | (with_reducible exact put3 _ _ _ (blk_put13 HR4.out n2)) | exact put3 _ _ _ (blk_put13 (blk_drewN HR4.out _) n2))) rfl ?_
  exact ⟨rfl, by repeat (first | (with_reducible exact HF4.out.b) | (with_reducible apply below_drew1) | (with_reducible apply pw_below_drewN) | (with_reducible refine below_set ?_ (by omega)))⟩

set_option maxHeartbeats 8000000 in
set_option maxRecDepth 100000 in
theorem rDoM2f (k0 k1 k2 k3 k4 k5 k6 k7 k8 k9 k10 : Int) (gr cr : Nat) (t0 : TypeId) (xs : List S51) (th a b v nn mm : Int) (A : Option Addr) (dl dc : Nat) (fu : Bool) (w : World) (hx : w.heap[gr]? = some (.cells (cells51 xs) t0 (0, 0))) (hz : ∀ j, j < xs.length → xs[j]? = some z51) (hn : xs.length ≤ 64) (ha0 : 0 ≤ a) (ha1 : a < (xs.length : Int)) (hk8 : 1 ≤ k8) (hk8b : k8 ≤ 1000000000) (hn1 : 1 ≤ nn) (hm1 : 1 ≤ mm) (ht0 : 0 ≤ th) (ht1 : th < k3) (hle : nn ≤ k8.tdiv mm) (hfu : Aside0 (fu = true)) :
    Calls Try.prog 9 #[.agg #[.int .i64 k0, .int .i64 k1, .int .i64 k2, .int .i64 k3, .int .i64 k4, .int .i64 k5, .int .i64 k6, .int .i64 k7, .int .i64 k8, .int .i64 k9, .int .u64 k10, .slice none 0 0, .slice (some ⟨gr, 0, none⟩) xs.length cr], .agg #[.int .i64 2, .int .i64 th, .int .i64 a, .int .i64 b, .int .i64 v, .int .i64 nn, .int .i64 mm, .slice A dl dc], .bool fu] w fun e w' => e = .returned (.tuple #[.agg #[.int .i64 k0, .int .i64 k1, .int .i64 k2, .int .i64 k3, .int .i64 k4, .int .i64 k5, .int .i64 k6, .int .i64 k7, .int .i64 k8, .int .i64 k9, .int .u64 k10, .slice none 0 0, .slice (some ⟨gr, 0, none⟩) xs.length cr], .agg #[.int .i64 13, .int .i64 0, .slice none 0 0]]) ∧ Below w.heap.size w w' := by
  have hu25 := Try.underlying25
  have hu40 := Try.underlying40
  have hu51 := Try.underlying51
  have hu35 := Try.underlying35
  obtain ⟨w1, hw1, HF, HR2⟩ : ∃ w1, (((w.alloc (.cells #[.int .i64 k0, .int .i64 k1, .int .i64 k2, .int .i64 k3, .int .i64 k4, .int .i64 k5, .int .i64 k6, .int .i64 k7, .int .i64 k8, .int .i64 k9, .int .u64 k10, .slice none 0 0, .slice (some ⟨gr, 0, none⟩) xs.length cr] 40)).alloc (.cells #[.int .i64 2, .int .i64 th, .int .i64 a, .int .i64 b, .int .i64 v, .int .i64 nn, .int .i64 mm, .slice A dl dc] 25)).alloc (.cells #[.int .i64 0, .int .i64 0, .int .i64 0, .int .i64 0, .int .i64 0, .int .i64 0, .int .i64 0, .int .i64 0, .int .i64 0, .int .i64 0, .int .u64 0, .slice none 0 0, .slice none 0 0] 40)).alloc (.cells #[.int .i64 0, .int .i64 0, .slice none 0 0] 35) = w1 ∧ Aside0 (MkF w w1 k0 k1 k2 k3 k4 k5 k6 k7 k8 k9 k10 (.slice none 0 0) (.slice (some ⟨gr, 0, none⟩) xs.length cr) #[.int .i64 2, .int .i64 th, .int .i64 a, .int .i64 b, .int .i64 v, .int .i64 nn, .int .i64 mm, .slice A dl dc]) ∧ Aside0 (w1.heap[w.heap.size + 1 + 1 + 1]? = some (.cells #[.int .i64 0, .int .i64 0, .slice none 0 0] 35 (0, 0))) := ⟨_, rfl, ⟨⟨blk_alloc (blk_alloc (blk_alloc (blk_new _ _) _) _) _, blk_alloc (blk_alloc (blk_new1 _ _ _) _) _, blk_alloc (blk_newb _ _ _ _) _, below_alloc (below_alloc (below_alloc (below_alloc (Below.refl _ _) _) _) _) _⟩⟩, ⟨blk_newc _ _ _ _ _⟩⟩
  have HX := Aside0.mk hx
  have HZ := Aside0.mk hz
  clear hx hz
  have n1 : w.heap.size + 1 + 1 ≠ w.heap.size + 1 + 1 + 1 := by omega
  have n2 : w.heap.size + 1 + 1 + 1 ≠ w.heap.size + 1 + 1 := by omega
  have daa : decide (a < 0) = false := decide_eq_false (by omega)
  have dab : decide ((xs.length : Int) ≤ a) = false := decide_eq_false (by omega)
  obtain ⟨ma_0, ma_1, ma_2, ma_3, ma_4, ma_5, ma_6, ma_7, ma_8, ma_9, ma_10, ma_11, ma_12⟩ := cellsR HF.out.m
  obtain ⟨oa_0, oa_1, oa_2, oa_3, oa_4, oa_5, oa_6, oa_7⟩ := cells8 HF.out.op
  obtain ⟨ra_0, ra_1, ra_2, ra_3, ra_4, ra_5, ra_6, ra_7, ra_8, ra_9, ra_10, ra_11, ra_12⟩ := cellsR HF.out.r
  obtain ⟨fa_0, fa_1, fa_2, fa_3, fa_4, fa_5, fa_6, fa_7, fa_8, fa_9, fa_10, fa_11, fa_12⟩ := frozR HF.out.r
  obtain ⟨pa0, pa1, pa2, qa0, qa1, qa2⟩ := cells3 HR2.out
  go_enter Try.func9, Try.ntmps9
  go_wp2_with fail
  refine (cubbyholeref44_Uses.calls 10 2 true false false _ (by kernel_rfl)).mono ?_
  rintro e w2 ⟨rfl, ⟨j, rfl⟩⟩
  go_wp2_with fail
  refine (rm2f k0 k1 k2 k3 k4 k5 k6 k7 k8 k9 k10 gr cr xs th a b v nn mm A dl dc fu _ hk8 hk8b hn1 hm1 ht0 ht1 hle hfu.out).mono ?_
  rintro e w3 ⟨rfl, hbj⟩
  have hb := below_step (pw_below_drewN (Below.refl w1.heap.size w1) j) hbj
  obtain ⟨w4, hw4, HF4, HR4⟩ : ∃ w0, (((((((((((((w3.setCell ⟨w.heap.size, 0, none⟩ (.int .i64 k0)).setCell ⟨w.heap.size, 1, none⟩ (.int .i64 k1)).setCell ⟨w.heap.size, 2, none⟩ (.int .i64 k2)).setCell ⟨w.heap.size, 3, none⟩ (.int .i64 k3)).setCell ⟨w.heap.size, 4, none⟩ (.int .i64 k4)).setCell ⟨w.heap.size, 5, none⟩ (.int .i64 k5)).setCell ⟨w.heap.size, 6, none⟩ (.int .i64 k6)).setCell ⟨w.heap.size, 7, none⟩ (.int .i64 k7)).setCell ⟨w.heap.size, 8, none⟩ (.int .i64 k8)).setCell ⟨w.heap.size, 9, none⟩ (.int .i64 k9)).setCell ⟨w.heap.size, 10, none⟩ (.int .u64 k10)).setCell ⟨w.heap.size, 11, none⟩ (.slice none 0 0)).setCell ⟨w.heap.size, 12, none⟩ (.slice (some ⟨gr, 0, none⟩) xs.length cr)) = w0 ∧ Aside0 (MkF w w0 k0 k1 k2 k3 k4 k5 k6 k7 k8 k9 k10 (.slice none 0 0) (.slice (some ⟨gr, 0, none⟩) xs.length cr) _) ∧ Aside0 (w0.heap[w.heap.size + 1 + 1 + 1]? = some (.cells #[.int .i64 0, .int .i64 0, .slice none 0 0] 35 (0, 0))) := ⟨_, rfl, ⟨MkF.putm (MkF.below HF.out hb)⟩, ⟨blk_put13 (blk_below HR2.out hb) (by omega)⟩⟩
  have HF3 := Aside0.mk (show MkF w w3 k0 k1 k2 k3 k4 k5 k6 k7 k8 k9 k10 (.slice none 0 0) (.slice (some ⟨gr, 0, none⟩) xs.length cr) _ from MkF.below HF.out hb)
  clear hb hbj ma_0 ma_1 ma_2 ma_3 ma_4 ma_5 ma_6 ma_7 ma_8 ma_9 ma_10 ma_11 ma_12 oa_0 oa_1 oa_2 oa_3 oa_4 oa_5 oa_6 oa_7 ra_0 ra_1 ra_2 ra_3 ra_4 ra_5 ra_6 ra_7 ra_8 ra_9 ra_10 ra_11 ra_12 fa_0 fa_1 fa_2 fa_3 fa_4 fa_5 fa_6 fa_7 fa_8 fa_9 fa_10 fa_11 fa_12 pa0 pa1 pa2 qa0 qa1 qa2
  obtain ⟨mb_0, mb_1, mb_2, mb_3, mb_4, mb_5, mb_6, mb_7, mb_8, mb_9, mb_10, mb_11, mb_12⟩ := cellsR HF3.out.m
  obtain ⟨fb_0, fb_1, fb_2, fb_3, fb_4, fb_5, fb_6, fb_7, fb_8, fb_9, fb_10, fb_11, fb_12⟩ := frozR HF3.out.m
  obtain ⟨mc_0, mc_1, mc_2, mc_3, mc_4, mc_5, mc_6, mc_7, mc_8, mc_9, mc_10, mc_11, mc_12⟩ := cellsR HF4.out.m
  obtain ⟨oc_0, oc_1, oc_2, oc_3, oc_4, oc_5, oc_6, oc_7⟩ := cells8 HF4.out.op
  obtain ⟨rc_0, rc_1, rc_2, rc_3, rc_4, rc_5, rc_6, rc_7, rc_8, rc_9, rc_10, rc_11, rc_12⟩ := cellsR HF4.out.r
  obtain ⟨fc_0, fc_1, fc_2, fc_3, fc_4, fc_5, fc_6, fc_7, fc_8, fc_9, fc_10, fc_11, fc_12⟩ := frozR HF4.out.r
  obtain ⟨pc0, pc1, pc2, qc0, qc1, qc2⟩ := cells3 HR4.out
  go_wp2
  refine bodyPost_ret (retRd rfl _ _ (w.heap.size + 1 + 1) (w.heap.size + 1 + 1 + 1) #[.int .i64 k0, .int .i64 k1, .int .i64 k2, .int .i64 k3, .int .i64 k4, .int .i64 k5, .int .i64 k6, .int .i64 k7, .int .i64 k8, .int .i64 k9, .int .u64 k10, .slice none 0 0, .slice (some ⟨gr, 0, none⟩) xs.length cr] #[.int .i64 13, .int .i64 0, .slice none 0 0] rfl rfl rfl rfl (by first | (with_reducible exact blk_put3 (put13 _ _ _ _ _ _ _ _ _ _ _ _ _  HF4.out.r) n1) | exact blk_put3 (put13 _ _ _ _ _ _ _ _ _ _ _ _ _  (HF4.out.drewN _).r) n1) (by first | (with_reducible exact put3 _ _ _ (blk_put13 HR4.out n2)) | exact put3 _ _ _ (blk_put13 (blk_drewN HR4.out _) n2))) rfl ?_
  exact ⟨rfl, by repeat (first | (with_reducible exact HF4.out.b) | (with_reducible apply below_drew1) | (with_reducible apply pw_below_drewN) | (with_reducible refine below_set ?_ (by omega)))⟩

set_option maxHeartbeats 8000000 in
set_option maxRecDepth 100000 in
theorem rDoM3b (k0 k1 k2 k3 k4 k5 k6 k7 k8 k9 k10 : Int) (gr cr : Nat) (t0 : TypeId) (xs : List S51) (th a b v nn mm : Int) (A : Option Addr) (dl dc : Nat) (fu : Bool) (w : World) (hx : w.heap[gr]? = some (.cells (cells51 xs) t0 (0, 0))) (hz : ∀ j, j < xs.length → xs[j]? = some z51) (hn : xs.length ≤ 64) (ha0 : 0 ≤ a) (ha1 : a < (xs.length : Int)) (hmlo : -9223372036854775808 ≤ mm) (hmhi : mm < 9223372036854775808) (hbad : Aside0 (refEnd mm ≠ 1 ∨ 256 < mm)) :
    Calls Try.prog 9 #[.agg #[.int .i64 k0, .int .i64 k1, .int .i64 k2, .int .i64 k3, .int .i64 k4, .int .i64 k5, .int .i64 k6, .int .i64 k7, .int .i64 k8, .int .i64 k9, .int .u64 k10, .slice none 0 0, .slice (some ⟨gr, 0, none⟩) xs.length cr], .agg #[.int .i64 3, .int .i64 th, .int .i64 a, .int .i64 b, .int .i64 v, .int .i64 nn, .int .i64 mm, .slice A dl dc], .bool fu] w fun e w' => e = .returned (.tuple #[.agg #[.int .i64 k0, .int .i64 k1, .int .i64 k2, .int .i64 k3, .int .i64 k4, .int .i64 k5, .int .i64 k6, .int .i64 k7, .int .i64 k8, .int .i64 k9, .int .u64 k10, .slice none 0 0, .slice (some ⟨gr, 0, none⟩) xs.length cr], .agg #[.int .i64 1, .int .i64 0, .slice none 0 0]]) ∧ Below w.heap.size w w' := by
  have hu25 := Try.underlying25
  have hu40 := Try.underlying40
  have hu51 := Try.underlying51
  have hu35 := Try.underlying35
  obtain ⟨w1, hw1, HF, HR2⟩ : ∃ w1, (((w.alloc (.cells #[.int .i64 k0, .int .i64 k1, .int .i64 k2, .int .i64 k3, .int .i64 k4, .int .i64 k5, .int .i64 k6, .int .i64 k7, .int .i64 k8, .int .i64 k9, .int .u64 k10, .slice none 0 0, .slice (some ⟨gr, 0, none⟩) xs.length cr] 40)).alloc (.cells #[.int .i64 3, .int .i64 th, .int .i64 a, .int .i64 b, .int .i64 v, .int .i64 nn, .int .i64 mm, .slice A dl dc] 25)).alloc (.cells #[.int .i64 0, .int .i64 0, .int .i64 0, .int .i64 0, .int .i64 0, .int .i64 0, .int .i64 0, .int .i64 0, .int .i64 0, .int .i64 0, .int .u64 0, .slice none 0 0, .slice none 0 0] 40)).alloc (.cells #[.int .i64 0, .int .i64 0, .slice none 0 0] 35) = w1 ∧ Aside0 (MkF w w1 k0 k1 k2 k3 k4 k5 k6 k7 k8 k9 k10 (.slice none 0 0) (.slice (some ⟨gr, 0, none⟩) xs.length cr) #[.int .i64 3, .int .i64 th, .int .i64 a, .int .i64 b, .int .i64 v, .int .i64 nn, .int .i64 mm, .slice A dl dc]) ∧ Aside0 (w1.heap[w.heap.size + 1 + 1 + 1]? = some (.cells #[.int .i64 0, .int .i64 0, .slice none 0 0] 35 (0, 0))) := ⟨_, rfl, ⟨⟨blk_alloc (blk_alloc (blk_alloc (blk_new _ _) _) _) _, blk_alloc (blk_alloc (blk_new1 _ _ _) _) _, blk_alloc (blk_newb _ _ _ _) _, below_alloc (below_alloc (below_alloc (below_alloc (Below.refl _ _) _) _) _) _⟩⟩, ⟨blk_newc _ _ _ _ _⟩⟩
  have HX := Aside0.mk hx
  have HZ := Aside0.mk hz
  clear hx hz
  have n1 : w.heap.size + 1 + 1 ≠ w.heap.size + 1 + 1 + 1 := by omega
  have n2 : w.heap.size + 1 + 1 + 1 ≠ w.heap.size + 1 + 1 := by omega
  have daa : decide (a < 0) = false := decide_eq_false (by omega)
  have dab : decide ((xs.length : Int) ≤ a) = false := decide_eq_false (by omega)
  obtain ⟨ma_0, ma_1, ma_2, ma_3, ma_4, ma_5, ma_6, ma_7, ma_8, ma_9, ma_10, ma_11, ma_12⟩ := cellsR HF.out.m
  obtain ⟨oa_0, oa_1, oa_2, oa_3, oa_4, oa_5, oa_6, oa_7⟩ := cells8 HF.out.op
  obtain ⟨ra_0, ra_1, ra_2, ra_3, ra_4, ra_5, ra_6, ra_7, ra_8, ra_9, ra_10, ra_11, ra_12⟩ := cellsR HF.out.r
  obtain ⟨fa_0, fa_1, fa_2, fa_3, fa_4, fa_5, fa_6, fa_7, fa_8, fa_9, fa_10, fa_11, fa_12⟩ := frozR HF.out.r
  obtain ⟨pa0, pa1, pa2, qa0, qa1, qa2⟩ := cells3 HR2.out
  go_enter Try.func9, Try.ntmps9
  go_wp2_with fail
  refine (cubbyholeref44_Uses.calls 10 3 true false false _ (by kernel_rfl)).mono ?_
  rintro e w2 ⟨rfl, ⟨j, rfl⟩⟩
  go_wp2_with fail
  refine (rm3b k0 k1 k2 k3 k4 k5 k6 k7 k8 k9 k10 gr cr xs th a b v nn mm A dl dc fu _ hmlo hmhi hbad.out).mono ?_
  rintro e w3 ⟨rfl, hbj⟩
  have hb := below_step (pw_below_drewN (Below.refl w1.heap.size w1) j) hbj
  obtain ⟨w4, hw4, HF4, HR4⟩ : ∃ w0, (((((((((((((w3.setCell ⟨w.heap.size, 0, none⟩ (.int .i64 k0)).setCell ⟨w.heap.size, 1, none⟩ (.int .i64 k1)).setCell ⟨w.heap.size, 2, none⟩ (.int .i64 k2)).setCell ⟨w.heap.size, 3, none⟩ (.int .i64 k3)).setCell ⟨w.heap.size, 4, none⟩ (.int .i64 k4)).setCell ⟨w.heap.size, 5, none⟩ (.int .i64 k5)).setCell ⟨w.heap.size, 6, none⟩ (.int .i64 k6)).setCell ⟨w.heap.size, 7, none⟩ (.int .i64 k7)).setCell ⟨w.heap.size, 8, none⟩ (.int .i64 k8)).setCell ⟨w.heap.size, 9, none⟩ (.int .i64 k9)).setCell ⟨w.heap.size, 10, none⟩ (.int .u64 k10)).setCell ⟨w.heap.size, 11, none⟩ (.slice none 0 0)).setCell ⟨w.heap.size, 12, none⟩ (.slice (some ⟨gr, 0, none⟩) xs.length cr)) = w0 ∧ Aside0 (MkF w w0 k0 k1 k2 k3 k4 k5 k6 k7 k8 k9 k10 (.slice none 0 0) (.slice (some ⟨gr, 0, none⟩) xs.length cr) _) ∧ Aside0 (w0.heap[w.heap.size + 1 + 1 + 1]? = some (.cells #[.int .i64 0, .int .i64 0, .slice none 0 0] 35 (0, 0))) := ⟨_, rfl, ⟨MkF.putm (MkF.below HF.out hb)⟩, ⟨blk_put13 (blk_below HR2.out hb) (by omega)⟩⟩
  have HF3 := Aside0.mk (show MkF w w3 k0 k1 k2 k3 k4 k5 k6 k7 k8 k9 k10 (.slice none 0 0) (.slice (some ⟨gr, 0, none⟩) xs.length cr) _ from MkF.below HF.out hb)
  clear hb hbj ma_0 ma_1 ma_2 ma_3 ma_4 ma_5 ma_6 ma_7 ma_8 ma_9 ma_10 ma_11 ma_12 oa_0 oa_1 oa_2 oa_3 oa_4 oa_5 oa_6 oa_7 ra_0 ra_1 ra_2 ra_3 ra_4 ra_5 ra_6 ra_7 ra_8 ra_9 ra_10 ra_11 ra_12 fa_0 fa_1 fa_2 fa_3 fa_4 fa_5 fa_6 fa_7 fa_8 fa_9 fa_10 fa_11 fa_12 pa0 pa1 pa2 qa0 qa1 qa2
  obtain ⟨mb_0, mb_1, mb_2, mb_3, mb_4, mb_5, mb_6, mb_7, mb_8, mb_9, mb_10, mb_11, mb_12⟩ := cellsR HF3.out.m
  obtain ⟨fb_0, fb_1, fb_2, fb_3, fb_4, fb_5, fb_6, fb_7, fb_8, fb_9, fb_10, fb_11, fb_12⟩ := frozR HF3.out.m
  obtain ⟨mc_0, mc_1, mc_2, mc_3, mc_4, mc_5, mc_6, mc_7, mc_8, mc_9, mc_10, mc_11, mc_12⟩ := cellsR HF4.out.m
  obtain ⟨oc_0, oc_1, oc_2, oc_3, oc_4, oc_5, oc_6, oc_7⟩ := cells8 HF4.out.op
  obtain ⟨rc_0, rc_1, rc_2, rc_3, rc_4, rc_5, rc_6, rc_7, rc_8, rc_9, rc_10, rc_11, rc_12⟩ := cellsR HF4.out.r
  obtain ⟨fc_0, fc_1, fc_2, fc_3, fc_4, fc_5, fc_6, fc_7, fc_8, fc_9, fc_10, fc_11, fc_12⟩ := frozR HF4.out.r
  obtain ⟨pc0, pc1, pc2, qc0, qc1, qc2⟩ := cells3 HR4.out
  go_wp2
  refine bodyPost_ret (retRd rfl _ _ (w.heap.size + 1 + 1) (w.heap.size + 1 + 1 + 1) #[.int .i64 k0, .int .i64 k1, .int .i64 k2, .int .i64 k3, .int .i64 k4, .int .i64 k5, .int .i64 k6, .int .i64 k7, .int .i64 k8, .int .i64 k9, .int .u64 k10, .slice none 0 0, .slice (some ⟨gr, 0, none⟩) xs.length cr] #[.int .i64 1, .int .i64 0, .slice none 0 0] rfl rfl rfl rfl (by first | (with_reducible exact blk_put3 (put13 _ _ _ _ _ _ _ _ _ _ _ _ _  HF4.out.r) n1) | exact blk_put3 (put13 _ _ _ _ _ _ _ _ _ _ _ _ _  (HF4.out.drewN _).r) n1) (by first | (with_reducible exact put3 _ _ _ (blk_put13 HR4.out n2)) | exact put3 _ _ _ (blk_put13 (blk_drewN HR4.out _) n2))) rfl ?_
  exact ⟨rfl, by repeat (first | (with_reducible exact HF4.out.b) | (with_reducible apply below_drew1) | (with_reducible apply pw_below_drewN) | (with_reducible refine below_set ?_ (by omega)))⟩

set_option maxHeartbeats 8000000 in
set_option maxRecDepth 100000 in
theorem rDoM3a (k0 k1 k2 k3 k4 k5 k6 k7 k8 k9 k10 : Int) (gr cr : Nat) (t0 : TypeId) (xs : List S51) (th a b v nn mm : Int) (A : Option Addr) (dl dc : Nat) (fu : Bool) (w : World) (hx : w.heap[gr]? = some (.cells (cells51 xs) t0 (0, 0))) (hz : ∀ j, j < xs.length → xs[j]? = some z51) (hn : xs.length ≤ 64) (ha0 : 0 ≤ a) (ha1 : a < (xs.length : Int)) (hmlo : -9223372036854775808 ≤ mm) (hmhi : mm < 9223372036854775808) (hp0 : Aside0 (refEnd mm = 1)) (hmm : mm ≤ 256) (x : Int) (he : askFull k3 k8 th nn fu = x) (hx0 : x = 1 ∨ x = 4 ∨ x = 13) :
    Calls Try.prog 9 #[.agg #[.int .i64 k0, .int .i64 k1, .int .i64 k2, .int .i64 k3, .int .i64 k4, .int .i64 k5, .int .i64 k6, .int .i64 k7, .int .i64 k8, .int .i64 k9, .int .u64 k10, .slice none 0 0, .slice (some ⟨gr, 0, none⟩) xs.length cr], .agg #[.int .i64 3, .int .i64 th, .int .i64 a, .int .i64 b, .int .i64 v, .int .i64 nn, .int .i64 mm, .slice A dl dc], .bool fu] w fun e w' => e = .returned (.tuple #[.agg #[.int .i64 k0, .int .i64 k1, .int .i64 k2, .int .i64 k3, .int .i64 k4, .int .i64 k5, .int .i64 k6, .int .i64 k7, .int .i64 k8, .int .i64 k9, .int .u64 k10, .slice none 0 0, .slice (some ⟨gr, 0, none⟩) xs.length cr], .agg #[.int .i64 x, .int .i64 0, .slice none 0 0]]) ∧ Below w.heap.size w w' := by
  have hu25 := Try.underlying25
  have hu40 := Try.underlying40
  have hu51 := Try.underlying51
  have hu35 := Try.underlying35
  obtain ⟨w1, hw1, HF, HR2⟩ : ∃ w1, (((w.alloc (.cells #[.int .i64 k0, .int .i64 k1, .int .i64 k2, .int .i64 k3, .int .i64 k4, .int .i64 k5, .int .i64 k6, .int .i64 k7, .int .i64 k8, .int .i64 k9, .int .u64 k10, .slice none 0 0, .slice (some ⟨gr, 0, none⟩) xs.length cr] 40)).alloc (.cells #[.int .i64 3, .int .i64 th, .int .i64 a, .int .i64 b, .int .i64 v, .int .i64 nn, .int .i64 mm, .slice A dl dc] 25)).alloc (.cells #[.int .i64 0, .int .i64 0, .int .i64 0, .int .i64 0, .int .i64 0, .int .i64 0, .int .i64 0, .int .i64 0, .int .i64 0, .int .i64 0, .int .u64 0, .slice none 0 0, .slice none 0 0] 40)).alloc (.cells #[.int .i64 0, .int .i64 0, .slice none 0 0] 35) = w1 ∧ Aside0 (MkF w w1 k0 k1 k2 k3 k4 k5 k6 k7 k8 k9 k10 (.slice none 0 0) (.slice (some ⟨gr, 0, none⟩) xs.length cr) #[.int .i64 3, .int .i64 th, .int .i64 a, .int .i64 b, .int .i64 v, .int .i64 nn, .int .i64 mm, .slice A dl dc]) ∧ Aside0 (w1.heap[w.heap.size + 1 + 1 + 1]? = some (.cells #[.int .i64 0, .int .i64 0, .slice none 0 0] 35 (0, 0))) := ⟨_, rfl, ⟨⟨blk_alloc (blk_alloc (blk_alloc (blk_new _ _) _) _) _, blk_alloc (blk_alloc (blk_new1 _ _ _) _) _, blk_alloc (blk_newb _ _ _ _) _, below_alloc (below_alloc (below_alloc (below_alloc (Below.refl _ _) _) _) _) _⟩⟩, ⟨blk_newc _ _ _ _ _⟩⟩
  have HX := Aside0.mk hx
  have HZ := Aside0.mk hz
  clear hx hz
  have n1 : w.heap.size + 1 + 1 ≠ w.heap.size + 1 + 1 + 1 := by omega
  have n2 : w.heap.size + 1 + 1 + 1 ≠ w.heap.size + 1 + 1 := by omega
  have daa : decide (a < 0) = false := decide_eq_false (by omega)
  have dab : decide ((xs.length : Int) ≤ a) = false := decide_eq_false (by omega)
  obtain ⟨ma_0, ma_1, ma_2, ma_3, ma_4, ma_5, ma_6, ma_7, ma_8, ma_9, ma_10, ma_11, ma_12⟩ := cellsR HF.out.m
  obtain ⟨oa_0, oa_1, oa_2, oa_3, oa_4, oa_5, oa_6, oa_7⟩ := cells8 HF.out.op
  obtain ⟨ra_0, ra_1, ra_2, ra_3, ra_4, ra_5, ra_6, ra_7, ra_8, ra_9, ra_10, ra_11, ra_12⟩ := cellsR HF.out.r
  obtain ⟨fa_0, fa_1, fa_2, fa_3, fa_4, fa_5, fa_6, fa_7, fa_8, fa_9, fa_10, fa_11, fa_12⟩ := frozR HF.out.r
  obtain ⟨pa0, pa1, pa2, qa0, qa1, qa2⟩ := cells3 HR2.out
  go_enter Try.func9, Try.ntmps9
  go_wp2_with fail
  refine (cubbyholeref44_Uses.calls 10 3 true false false _ (by kernel_rfl)).mono ?_
  rintro e w2 ⟨rfl, ⟨j, rfl⟩⟩
  go_wp2_with fail
  refine (rm3a k0 k1 k2 k3 k4 k5 k6 k7 k8 k9 k10 gr cr xs th a b v nn mm A dl dc fu _ hmlo hmhi hp0.out hmm x he hx0).mono ?_
  rintro e w3 ⟨rfl, hbj⟩
  have hb := below_step (pw_below_drewN (Below.refl w1.heap.size w1) j) hbj
  obtain ⟨w4, hw4, HF4, HR4⟩ : ∃ w0, (((((((((((((w3.setCell ⟨w.heap.size, 0, none⟩ (.int .i64 k0)).setCell ⟨w.heap.size, 1, none⟩ (.int .i64 k1)).setCell ⟨w.heap.size, 2, none⟩ (.int .i64 k2)).setCell ⟨w.heap.size, 3, none⟩ (.int .i64 k3)).setCell ⟨w.heap.size, 4, none⟩ (.int .i64 k4)).setCell ⟨w.heap.size, 5, none⟩ (.int .i64 k5)).setCell ⟨w.heap.size, 6, none⟩ (.int .i64 k6)).setCell ⟨w.heap.size, 7, none⟩ (.int .i64 k7)).setCell ⟨w.heap.size, 8, none⟩ (.int .i64 k8)).setCell ⟨w.heap.size, 9, none⟩ (.int .i64 k9)).setCell ⟨w.heap.size, 10, none⟩ (.int .u64 k10)).setCell ⟨w.heap.size, 11, none⟩ (.slice none 0 0)).setCell ⟨w.heap.size, 12, none⟩ (.slice (some ⟨gr, 0, none⟩) xs.length cr)) = w0 ∧ Aside0 (MkF w w0 k0 k1 k2 k3 k4 k5 k6 k7 k8 k9 k10 (.slice none 0 0) (.slice (some ⟨gr, 0, none⟩) xs.length cr) _) ∧ Aside0 (w0.heap[w.heap.size + 1 + 1 + 1]? = some (.cells #[.int .i64 0, .int .i64 0, .slice none 0 0] 35 (0, 0))) := ⟨_, rfl, ⟨MkF.putm (MkF.below HF.out hb)⟩, ⟨blk_put13 (blk_below HR2.out hb) (by omega)⟩⟩
  have HF3 := Aside0.mk (show MkF w w3 k0 k1 k2 k3 k4 k5 k6 k7 k8 k9 k10 (.slice none 0 0) (.slice (some ⟨gr, 0, none⟩) xs.length cr) _ from MkF.below HF.out hb)
  clear hb hbj ma_0 ma_1 ma_2 ma_3 ma_4 ma_5 ma_6 ma_7 ma_8 ma_9 ma_10 ma_11 ma_12 oa_0 oa_1 oa_2 oa_3 oa_4 oa_5 oa_6 oa_7 ra_0 ra_1 ra_2 ra_3 ra_4 ra_5 ra_6 ra_7 ra_8 ra_9 ra_10 ra_11 ra_12 fa_0 fa_1 fa_2 fa_3 fa_4 fa_5 fa_6 fa_7 fa_8 fa_9 fa_10 fa_11 fa_12 pa0 pa1 pa2 qa0 qa1 qa2
  obtain ⟨mb_0, mb_1, mb_2, mb_3, mb_4, mb_5, mb_6, mb_7, mb_8, mb_9, mb_10, mb_11, mb_12⟩ := cellsR HF3.out.m
  obtain ⟨fb_0, fb_1, fb_2, fb_3, fb_4, fb_5, fb_6, fb_7, fb_8, fb_9, fb_10, fb_11, fb_12⟩ := frozR HF3.out.m
  obtain ⟨mc_0, mc_1, mc_2, mc_3, mc_4, mc_5, mc_6, mc_7, mc_8, mc_9, mc_10, mc_11, mc_12⟩ := cellsR HF4.out.m
  obtain ⟨oc_0, oc_1, oc_2, oc_3, oc_4, oc_5, oc_6, oc_7⟩ := cells8 HF4.out.op
  obtain ⟨rc_0, rc_1, rc_2, rc_3, rc_4, rc_5, rc_6, rc_7, rc_8, rc_9, rc_10, rc_11, rc_12⟩ := cellsR HF4.out.r
  obtain ⟨fc_0, fc_1, fc_2, fc_3, fc_4, fc_5, fc_6, fc_7, fc_8, fc_9, fc_10, fc_11, fc_12⟩ := frozR HF4.out.r
  obtain ⟨pc0, pc1, pc2, qc0, qc1, qc2⟩ := cells3 HR4.out
  go_wp2
  refine bodyPost_ret (retRd rfl _ _ (w.heap.size + 1 + 1) (w.heap.size + 1 + 1 + 1) #[.int .i64 k0, .int .i64 k1, .int .i64 k2, .int .i64 k3, .int .i64 k4, .int .i64 k5, .int .i64 k6, .int .i64 k7, .int .i64 k8, .int .i64 k9, .int .u64 k10, .slice none 0 0, .slice (some ⟨gr, 0, none⟩) xs.length cr] #[.int .i64 x, .int .i64 0, .slice none 0 0] rfl rfl rfl rfl (by first | (with_reducible exact blk_put3 (put13 _ _ _ _ _ _ _ _ _ _ _ _ _  HF4.out.r) n1) | exact blk_put3 (put13 _ _ _ _ _ _ _ _ _ _ _ _ _  (HF4.out.drewN _).r) n1) (by first | (with_reducible exact put3 _ _ _ (blk_put13 HR4.out n2)) | exact put3 _ _ _ (blk_put13 (blk_drewN HR4.out _) n2))) rfl ?_
  exact ⟨rfl, by repeat (first | (with_reducible exact HF4.out.b) | (with_reducible apply below_drew1) | (with_reducible apply pw_below_drewN) | (with_reducible refine below_set ?_ (by omega)))⟩

end Go.Proofs.Ytneejihmakfaoaa.OwnModel
