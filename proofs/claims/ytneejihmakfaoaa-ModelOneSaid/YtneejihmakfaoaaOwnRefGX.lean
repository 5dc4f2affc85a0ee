/- Walks of the reference's functions by hand: Do. Conditions: the reference's model is empty. Printed by gen_ref.py. -/
import Derived.Test.YtneejihmakfaoaaOwnRefF
import Derived.BigQuiet
import Derived.Deep.RegionLaw
import Derived.ArgAppend
namespace Go.Proofs.Ytneejihmakfaoaa.OwnModel
open Go.RowKit Go.Proofs.Ytneejihmakfaoaa.OwnMask Go.Proofs.Ytneejihmakfaoaa.QModelOne Go.Proofs.YtneejihmakfaoaaW.PrintWords Go.Proofs.YtneejihmakfaoaaW.PrintLast Go.Proofs.YtneejihmakfaoaaW.PrintMore
set_option linter.unusedVariables false
set_option linter.unusedSimpArgs false
set_option maxHeartbeats 8000000 in
set_option maxRecDepth 100000 in
theorem rDoRegX (k0 k1 k2 k3 k4 k5 k6 k7 k8 k9 k10 : Int) (gr cr : Nat) (t0 : TypeId) (xs : List S51) (kd th a b v nn mm : Int) (A : Option Addr) (dl dc : Nat) (fu : Bool) (w : World) (hx : w.heap[gr]? = some (.cells (cells51 xs) t0 (0, 0))) (hz : ∀ j, j < xs.length → xs[j]? = some z51) (hn : xs.length ≤ 64) (k : Nat) (ua ub uv : Bool) (hU : cubbyholeref44_Uses.f k kd = some (ua, ub, uv)) (hk1 : 1 ≤ kd) (hk2 : kd ≤ 18) (hbad : (ua = true ∧ (a < 0 ∨ (xs.length : Int) ≤ a)) ∨ (ub = true ∧ (b < 0 ∨ (xs.length : Int) ≤ b)) ∨ (uv = true ∧ (v < 0 ∨ (xs.length : Int) ≤ v))) :
    Calls Try.prog 9 #[.agg #[.int .i64 k0, .int .i64 k1, .int .i64 k2, .int .i64 k3, .int .i64 k4, .int .i64 k5, .int .i64 k6, .int .i64 k7, .int .i64 k8, .int .i64 k9, .int .u64 k10, .slice none 0 0, .slice (some ⟨gr, 0, none⟩) xs.length cr], .agg #[.int .i64 kd, .int .i64 th, .int .i64 a, .int .i64 b, .int .i64 v, .int .i64 nn, .int .i64 mm, .slice A dl dc], .bool fu] w fun e w' => e = .returned (.tuple #[.agg #[.int .i64 k0, .int .i64 k1, .int .i64 k2, .int .i64 k3, .int .i64 k4, .int .i64 k5, .int .i64 k6, .int .i64 k7, .int .i64 k8, .int .i64 k9, .int .u64 k10, .slice none 0 0, .slice (some ⟨gr, 0, none⟩) xs.length cr], .agg #[.int .i64 15, .int .i64 0, .slice none 0 0]]) ∧ Below w.heap.size w w' := by
  have hu25 := Try.underlying25
  have hu40 := Try.underlying40
  have hu51 := Try.underlying51
  have hu35 := Try.underlying35
  obtain ⟨w1, hw1, HF, HR2⟩ : ∃ w1, (((w.alloc (.cells #[.int .i64 k0, .int .i64 k1, .int .i64 k2, .int .i64 k3, .int .i64 k4, .int .i64 k5, .int .i64 k6, .int .i64 k7, .int .i64 k8, .int .i64 k9, .int .u64 k10, .slice none 0 0, .slice (some ⟨gr, 0, none⟩) xs.length cr] 40)).alloc (.cells #[.int .i64 kd, .int .i64 th, .int .i64 a, .int .i64 b, .int .i64 v, .int .i64 nn, .int .i64 mm, .slice A dl dc] 25)).alloc (.cells #[.int .i64 0, .int .i64 0, .int .i64 0, .int .i64 0, .int .i64 0, .int .i64 0, .int .i64 0, .int .i64 0, .int .i64 0, .int .i64 0, .int .u64 0, .slice none 0 0, .slice none 0 0] 40)).alloc (.cells #[.int .i64 0, .int .i64 0, .slice none 0 0] 35) = w1 ∧ Aside0 (MkF w w1 k0 k1 k2 k3 k4 k5 k6 k7 k8 k9 k10 (.slice none 0 0) (.slice (some ⟨gr, 0, none⟩) xs.length cr) #[.int .i64 kd, .int .i64 th, .int .i64 a, .int .i64 b, .int .i64 v, .int .i64 nn, .int .i64 mm, .slice A dl dc]) ∧ Aside0 (w1.heap[w.heap.size + 1 + 1 + 1]? = some (.cells #[.int .i64 0, .int .i64 0, .slice none 0 0] 35 (0, 0))) := ⟨_, rfl, ⟨⟨blk_alloc (blk_alloc (blk_alloc (blk_new _ _) _) _) _, blk_alloc (blk_alloc (blk_new1 _ _ _) _) _, blk_alloc (blk_newb _ _ _ _) _, below_alloc (below_alloc (below_alloc (below_alloc (Below.refl _ _) _) _) _) _⟩⟩, ⟨blk_newc _ _ _ _ _⟩⟩
  have HX := Aside0.mk hx
  have HZ := Aside0.mk hz
  clear hx hz
  have n1 : w.heap.size + 1 + 1 ≠ w.heap.size + 1 + 1 + 1 := by omega
  have n2 : w.heap.size + 1 + 1 + 1 ≠ w.heap.size + 1 + 1 := by omega
  have e1 : decide (kd < 1) = false := decide_eq_false (by omega)
  have e2 : decide (18 < kd) = false := decide_eq_false (by omega)
  have HU := Aside0.mk hU
  have HBAD := Aside0.mk hbad
  clear hU hbad
  obtain ⟨ma_0, ma_1, ma_2, ma_3, ma_4, ma_5, ma_6, ma_7, ma_8, ma_9, ma_10, ma_11, ma_12⟩ := cellsR HF.out.m
  obtain ⟨oa_0, oa_1, oa_2, oa_3, oa_4, oa_5, oa_6, oa_7⟩ := cells8 HF.out.op
  obtain ⟨ra_0, ra_1, ra_2, ra_3, ra_4, ra_5, ra_6, ra_7, ra_8, ra_9, ra_10, ra_11, ra_12⟩ := cellsR HF.out.r
  obtain ⟨fa_0, fa_1, fa_2, fa_3, fa_4, fa_5, fa_6, fa_7, fa_8, fa_9, fa_10, fa_11, fa_12⟩ := frozR HF.out.r
  obtain ⟨pa0, pa1, pa2, qa0, qa1, qa2⟩ := cells3 HR2.out
  cases ua with
  | true =>
    by_cases c0a : a < 0
    · have d0a : decide (a < 0) = true := decide_eq_true c0a
      go_enter Try.func9, Try.ntmps9
      go_wp2_with fail
      refine (cubbyholeref44_Uses.calls k kd _ _ _ _ HU.out).mono ?_
      rintro e w2 ⟨rfl, ⟨j, rfl⟩⟩
      go_wp2
      refine bodyPost_ret (retRd rfl _ _ (w.heap.size + 1 + 1) (w.heap.size + 1 + 1 + 1) #[.int .i64 k0, .int .i64 k1, .int .i64 k2, .int .i64 k3, .int .i64 k4, .int .i64 k5, .int .i64 k6, .int .i64 k7, .int .i64 k8, .int .i64 k9, .int .u64 k10, .slice none 0 0, .slice (some ⟨gr, 0, none⟩) xs.length cr] #[.int .i64 15, .int .i64 0, .slice none 0 0] rfl rfl rfl rfl (by first | (with_reducible exact blk_put3 (put13 _ _ _ _ _ _ _ _ _ _ _ _ _  HF.out.r) n1) | exact blk_put3 (put13 _ _ _ _ _ _ _ _ _ _ _ _ _  (HF.out.drewN _).r) n1) (by first | (with_reducible exact put3 _ _ _ (blk_put13 HR2.out n2)) | exact put3 _ _ _ (blk_put13 (blk_drewN HR2.out _) n2))) rfl ?_
      exact ⟨rfl, by repeat (first | (with_reducible exact HF.out.b) | (with_reducible apply below_drew1) | (with_reducible apply pw_below_drewN) | (with_reducible refine below_set ?_ (by omega)))⟩
    have d0a : decide (a < 0) = false := decide_eq_false c0a
    by_cases c0b : (xs.length : Int) ≤ a
    · have d0b : decide ((xs.length : Int) ≤ a) = true := decide_eq_true c0b
      go_enter Try.func9, Try.ntmps9
      go_wp2_with fail
      refine (cubbyholeref44_Uses.calls k kd _ _ _ _ HU.out).mono ?_
      rintro e w2 ⟨rfl, ⟨j, rfl⟩⟩
      go_wp2
      refine bodyPost_ret (retRd rfl _ _ (w.heap.size + 1 + 1) (w.heap.size + 1 + 1 + 1) #[.int .i64 k0, .int .i64 k1, .int .i64 k2, .int .i64 k3, .int .i64 k4, .int .i64 k5, .int .i64 k6, .int .i64 k7, .int .i64 k8, .int .i64 k9, .int .u64 k10, .slice none 0 0, .slice (some ⟨gr, 0, none⟩) xs.length cr] #[.int .i64 15, .int .i64 0, .slice none 0 0] rfl rfl rfl rfl (by first | (with_reducible exact blk_put3 (put13 _ _ _ _ _ _ _ _ _ _ _ _ _  HF.out.r) n1) | exact blk_put3 (put13 _ _ _ _ _ _ _ _ _ _ _ _ _  (HF.out.drewN _).r) n1) (by first | (with_reducible exact put3 _ _ _ (blk_put13 HR2.out n2)) | exact put3 _ _ _ (blk_put13 (blk_drewN HR2.out _) n2))) rfl ?_
      exact ⟨rfl, by repeat (first | (with_reducible exact HF.out.b) | (with_reducible apply below_drew1) | (with_reducible apply pw_below_drewN) | (with_reducible refine below_set ?_ (by omega)))⟩
    have d0b : decide ((xs.length : Int) ≤ a) = false := decide_eq_false c0b
    cases ub with
    | true =>
      by_cases c1a : b < 0
      · have d1a : decide (b < 0) = true := decide_eq_true c1a
        go_enter Try.func9, Try.ntmps9
        go_wp2_with fail
        refine (cubbyholeref44_Uses.calls k kd _ _ _ _ HU.out).mono ?_
        rintro e w2 ⟨rfl, ⟨j, rfl⟩⟩
        go_wp2
        refine bodyPost_ret (retRd rfl _ _ (w.heap.size + 1 + 1) (w.heap.size + 1 + 1 + 1) #[.int .i64 k0, .int .i64 k1, .int .i64 k2, .int .i64 k3, .int .i64 k4, .int .i64 k5, .int .i64 k6, .int .i64 k7, .int .i64 k8, .int .i64 k9, .int .u64 k10, .slice none 0 0, .slice (some ⟨gr, 0, none⟩) xs.length cr] #[.int .i64 15, .int .i64 0, .slice none 0 0] rfl rfl rfl rfl (by first | (with_reducible exact blk_put3 (put13 _ _ _ _ _ _ _ _ _ _ _ _ _  HF.out.r) n1) | exact blk_put3 (put13 _ _ _ _ _ _ _ _ _ _ _ _ _  (HF.out.drewN _).r) n1) (by first | (with_reducible exact put3 _ _ _ (blk_put13 HR2.out n2)) | exact put3 _ _ _ (blk_put13 (blk_drewN HR2.out _) n2))) rfl ?_
        exact ⟨rfl, by repeat (first | (with_reducible exact HF.out.b) | (with_reducible apply below_drew1) | (with_reducible apply pw_below_drewN) | (with_reducible refine below_set ?_ (by omega)))⟩
      have d1a : decide (b < 0) = false := decide_eq_false c1a
      by_cases c1b : (xs.length : Int) ≤ b
      · have d1b : decide ((xs.length : Int) ≤ b) = true := decide_eq_true c1b
        go_enter Try.func9, Try.ntmps9
        go_wp2_with fail
        refine (cubbyholeref44_Uses.calls k kd _ _ _ _ HU.out).mono ?_
        rintro e w2 ⟨rfl, ⟨j, rfl⟩⟩
        go_wp2
        refine bodyPost_ret (retRd rfl _ _ (w.heap.size + 1 + 1) (w.heap.size + 1 + 1 + 1) #[.int .i64 k0, .int .i64 k1, .int .i64 k2, .int .i64 k3, .int .i64 k4, .int .i64 k5, .int .i64 k6, .int .i64 k7, .int .i64 k8, .int .i64 k9, .int .u64 k10, .slice none 0 0, .slice (some ⟨gr, 0, none⟩) xs.length cr] #[.int .i64 15, .int .i64 0, .slice none 0 0] rfl rfl rfl rfl (by first | (with_reducible exact blk_put3 (put13 _ _ _ _ _ _ _ _ _ _ _ _ _  HF.out.r) n1) | exact blk_put3 (put13 _ _ _ _ _ _ _ _ _ _ _ _ _  (HF.out.drewN _).r) n1) (by first | (with_reducible exact put3 _ _ _ (blk_put13 HR2.out n2)) | exact put3 _ _ _ (blk_put13 (blk_drewN HR2.out _) n2))) rfl ?_
        exact ⟨rfl, by repeat (first | (with_reducible exact HF.out.b) | (with_reducible apply below_drew1) | (with_reducible apply pw_below_drewN) | (with_reducible refine below_set ?_ (by omega)))⟩
      have d1b : decide ((xs.length : Int) ≤ b) = false := decide_eq_false c1b
      cases uv with
      | true =>
        by_cases c2a : v < 0
        · have d2a : decide (v < 0) = true := decide_eq_true c2a
          go_enter Try.func9, Try.ntmps9
          go_wp2_with fail
          refine (cubbyholeref44_Uses.calls k kd _ _ _ _ HU.out).mono ?_
          rintro e w2 ⟨rfl, ⟨j, rfl⟩⟩
          go_wp2
          refine bodyPost_ret (retRd rfl _ _ (w.heap.size + 1 + 1) (w.heap.size + 1 + 1 + 1) #[.int .i64 k0, .int .i64 k1, .int .i64 k2, .int .i64 k3, .int .i64 k4, .int .i64 k5, .int .i64 k6, .int .i64 k7, .int .i64 k8, .int .i64 k9, .int .u64 k10, .slice none 0 0, .slice (some ⟨gr, 0, none⟩) xs.length cr] #[.int .i64 15, .int .i64 0, .slice none 0 0] rfl rfl rfl rfl (by first | (with_reducible exact blk_put3 (put13 _ _ _ _ _ _ _ _ _ _ _ _ _  HF.out.r) n1) | exact blk_put3 (put13 _ _ _ _ _ _ _ _ _ _ _ _ _  (HF.out.drewN _).r) n1) (by first | (with_reducible exact put3 _ _ _ (blk_put13 HR2.out n2)) | exact put3 _ _ _ (blk_put13 (blk_drewN HR2.out _) n2))) rfl ?_
          exact ⟨rfl, by repeat (first | (with_reducible exact HF.out.b) | (with_reducible apply below_drew1) | (with_reducible apply pw_below_drewN) | (with_reducible refine below_set ?_ (by omega)))⟩
        have d2a : decide (v < 0) = false := decide_eq_false c2a
        by_cases c2b : (xs.length : Int) ≤ v
        · have d2b : decide ((xs.length : Int) ≤ v) = true := decide_eq_true c2b
          go_enter Try.func9, Try.ntmps9
          go_wp2_with fail
          refine (cubbyholeref44_Uses.calls k kd _ _ _ _ HU.out).mono ?_
          rintro e w2 ⟨rfl, ⟨j, rfl⟩⟩
          go_wp2
          refine bodyPost_ret (retRd rfl _ _ (w.heap.size + 1 + 1) (w.heap.size + 1 + 1 + 1) #[.int .i64 k0, .int .i64 k1, .int .i64 k2, .int .i64 k3, .int .i64 k4, .int .i64 k5, .int .i64 k6, .int .i64 k7, .int .i64 k8, .int .i64 k9, .int .u64 k10, .slice none 0 0, .slice (some ⟨gr, 0, none⟩) xs.length cr] #[.int .i64 15, .int .i64 0, .slice none 0 0] rfl rfl rfl rfl (by first | (with_reducible exact blk_put3 (put13 _ _ _ _ _ _ _ _ _ _ _ _ _  HF.out.r) n1) | exact blk_put3 (put13 _ _ _ _ _ _ _ _ _ _ _ _ _  (HF.out.drewN _).r) n1) (by first | (with_reducible exact put3 _ _ _ (blk_put13 HR2.out n2)) | exact put3 _ _ _ (blk_put13 (blk_drewN HR2.out _) n2))) rfl ?_
          exact ⟨rfl, by repeat (first | (with_reducible exact HF.out.b) | (with_reducible apply below_drew1) | (with_reducible apply pw_below_drewN) | (with_reducible refine below_set ?_ (by omega)))⟩
        have d2b : decide ((xs.length : Int) ≤ v) = false := decide_eq_false c2b
        exfalso
        have hq := HBAD.out
        simp at hq
        try omega
      | false =>
        exfalso
        have hq := HBAD.out
        simp at hq
        try omega
    | false =>
      cases uv with
      | true =>
        by_cases c2a : v < 0
        · have d2a : decide (v < 0) = true := decide_eq_true c2a
          go_enter Try.func9, Try.ntmps9
          go_wp2_with fail
          refine (cubbyholeref44_Uses.calls k kd _ _ _ _ HU.out).mono ?_
          rintro e w2 ⟨rfl, ⟨j, rfl⟩⟩
          go_wp2
          refine bodyPost_ret (retRd rfl _ _ (w.heap.size + 1 + 1) (w.heap.size + 1 + 1 + 1) #[.int .i64 k0, .int .i64 k1, .int .i64 k2, .int .i64 k3, .int .i64 k4, .int .i64 k5, .int .i64 k6, .int .i64 k7, .int .i64 k8, .int .i64 k9, .int .u64 k10, .slice none 0 0, .slice (some ⟨gr, 0, none⟩) xs.length cr] #[.int .i64 15, .int .i64 0, .slice none 0 0] rfl rfl rfl rfl (by first | (with_reducible exact blk_put3 (put13 _ _ _ _ _ _ _ _ _ _ _ _ _  HF.out.r) n1) | exact blk_put3 (put13 _ _ _ _ _ _ _ _ _ _ _ _ _  (HF.out.drewN _).r) n1) (by first | (with_reducible exact put3 _ _ _ (blk_put13 HR2.out n2)) | exact put3 _ _ _ (blk_put13 (blk_drewN HR2.out _) n2))) rfl ?_
          exact ⟨rfl, by repeat (first | (with_reducible exact HF.out.b) | (with_reducible apply below_drew1) | (with_reducible apply pw_below_drewN) | (with_reducible refine below_set ?_ (by omega)))⟩
        have d2a : decide (v < 0) = false := decide_eq_false c2a
        by_cases c2b : (xs.length : Int) ≤ v
        · have d2b : decide ((xs.length : Int) ≤ v) = true := decide_eq_true c2b
          go_enter Try.func9, Try.ntmps9
          go_wp2_with fail
          refine (cubbyholeref44_Uses.calls k kd _ _ _ _ HU.out).mono ?_
          rintro e w2 ⟨rfl, ⟨j, rfl⟩⟩
          go_wp2
          refine bodyPost_ret (retRd rfl _ _ (w.heap.size + 1 + 1) (w.heap.size + 1 + 1 + 1) #[.int .i64 k0, .int .i64 k1, .int .i64 k2, .int .i64 k3, .int .i64 k4, .int .i64 k5, .int .i64 k6, .int .i64 k7, .int .i64 k8, .int .i64 k9, .int .u64 k10, .slice none 0 0, .slice (some ⟨gr, 0, none⟩) xs.length cr] #[.int .i64 15, .int .i64 0, .slice none 0 0] rfl rfl rfl rfl (by first | (with_reducible exact blk_put3 (put13 _ _ _ _ _ _ _ _ _ _ _ _ _  HF.out.r) n1) | exact blk_put3 (put13 _ _ _ _ _ _ _ _ _ _ _ _ _  (HF.out.drewN _).r) n1) (by first | (with_reducible exact put3 _ _ _ (blk_put13 HR2.out n2)) | exact put3 _ _ _ (blk_put13 (blk_drewN HR2.out _) n2))) rfl ?_
          exact ⟨rfl, by repeat (first | (with_reducible exact HF.out.b) | (with_reducible apply below_drew1) | (with_reducible apply pw_below_drewN) | (with_reducible refine below_set ?_ (by omega)))⟩
        have d2b : decide ((xs.length : Int) ≤ v) = false := decide_eq_false c2b
        exfalso
        have hq := HBAD.out
        simp at hq
        try omega
      | false =>
        exfalso
        have hq := HBAD.out
        simp at hq
        try omega
  | false =>
    cases ub with
    | true =>
      by_cases c1a : b < 0
      · have d1a : decide (b < 0) = true := decide_eq_true c1a
        go_enter Try.func9, Try.ntmps9
        go_wp2_with fail
        refine (cubbyholeref44_Uses.calls k kd _ _ _ _ HU.out).mono ?_
        rintro e w2 ⟨rfl, ⟨j, rfl⟩⟩
        go_wp2
        refine bodyPost_ret (retRd rfl _ _ (w.heap.size + 1 + 1) (w.heap.size + 1 + 1 + 1) #[.int .i64 k0, .int .i64 k1, .int .i64 k2, .int .i64 k3, .int .i64 k4, .int .i64 k5, .int .i64 k6, .int .i64 k7, .int .i64 k8, .int .i64 k9, .int .u64 k10, .slice none 0 0, .slice (some ⟨gr, 0, none⟩) xs.length cr] #[.int .i64 15, .int .i64 0, .slice none 0 0] rfl rfl rfl rfl (by first | (with_reducible exact blk_put3 (put13 _ _ _ _ _ _ _ _ _ _ _ _ _  HF.out.r) n1) | exact blk_put3 (put13 _ _ _ _ _ _ _ _ _ _ _ _ _  (HF.out.drewN _).r) n1) (by first | (with_reducible exact put3 _ _ _ (blk_put13 HR2.out n2)) | exact put3 _ _ _ (blk_put13 (blk_drewN HR2.out _) n2))) rfl ?_
        exact ⟨rfl, by repeat (first | (with_reducible exact HF.out.b) | (with_reducible apply below_drew1) | (with_reducible apply pw_below_drewN) | (with_reducible refine below_set ?_ (by omega)))⟩
      have d1a : decide (b < 0) = false := decide_eq_false c1a
      by_cases c1b : (xs.length : Int) ≤ b
      · have d1b : decide ((xs.length : Int) ≤ b) = true := decide_eq_true c1b
        go_enter Try.func9, Try.ntmps9
        go_wp2_with fail
        refine (cubbyholeref44_Uses.calls k kd _ _ _ _ HU.out).mono ?_
        rintro e w2 ⟨rfl, ⟨j, rfl⟩⟩
        go_wp2
        refine bodyPost_ret (retRd rfl _ _ (w.heap.size + 1 + 1) (w.heap.size + 1 + 1 + 1) #[.int .i64 k0, .int .i64 k1, .int .i64 k2, .int .i64 k3, .int .i64 k4, .int .i64 k5, .int .i64 k6, .int .i64 k7, .int .i64 k8, .int .i64 k9, .int .u64 k10, .slice none 0 0, .slice (some ⟨gr, 0, none⟩) xs.length cr] #[.int .i64 15, .int .i64 0, .slice none 0 0] rfl rfl rfl rfl (by first | (with_reducible exact blk_put3 (put13 _ _ _ _ _ _ _ _ _ _ _ _ _  HF.out.r) n1) | exact blk_put3 (put13 _ _ _ _ _ _ _ _ _ _ _ _ _  (HF.out.drewN _).r) n1) (by first | (with_reducible exact put3 _ _ _ (blk_put13 HR2.out n2)) | exact put3 _ _ _ (blk_put13 (blk_drewN HR2.out _) n2))) rfl ?_
        exact ⟨rfl, by repeat (first | (with_reducible exact HF.out.b) | (with_reducible apply below_drew1) | (with_reducible apply pw_below_drewN) | (with_reducible refine below_set ?_ (by omega)))⟩
      have d1b : decide ((xs.length : Int) ≤ b) = false := decide_eq_false c1b
      cases uv with
      | true =>
        by_cases c2a : v < 0
        · have d2a : decide (v < 0) = true := decide_eq_true c2a
          go_enter Try.func9, Try.ntmps9
          go_wp2_with fail
          refine (cubbyholeref44_Uses.calls k kd _ _ _ _ HU.out).mono ?_
          rintro e w2 ⟨rfl, ⟨j, rfl⟩⟩
          go_wp2
          refine bodyPost_ret (retRd rfl _ _ (w.heap.size + 1 + 1) (w.heap.size + 1 + 1 + 1) #[.int .i64 k0, .int .i64 k1, .int .i64 k2, .int .i64 k3, .int .i64 k4, .int .i64 k5, .int .i64 k6, .int .i64 k7, .int .i64 k8, .int .i64 k9, .int .u64 k10, .slice none 0 0, .slice (some ⟨gr, 0, none⟩) xs.length cr] #[.int .i64 15, .int .i64 0, .slice none 0 0] rfl rfl rfl rfl (by first | (with_reducible exact blk_put3 (put13 _ _ _ _ _ _ _ _ _ _ _ _ _  HF.out.r) n1) | exact blk_put3 (put13 _ _ _ _ _ _ _ _ _ _ _ _ _  (HF.out.drewN _).r) n1) (by first | (with_reducible exact put3 _ _ _ (blk_put13 HR2.out n2)) | exact put3 _ _ _ (blk_put13 (blk_drewN HR2.out _) n2))) rfl ?_
          exact ⟨rfl, by repeat (first | (with_reducible exact HF.out.b) | (with_reducible apply below_drew1) | (with_reducible apply pw_below_drewN) | (with_reducible refine below_set ?_ (by omega)))⟩
        have d2a : decide (v < 0) = false := decide_eq_false c2a
        by_cases c2b : (xs.length : Int) ≤ v
        · have d2b : decide ((xs.length : Int) ≤ v) = true := decide_eq_true c2b
          go_enter Try.func9, Try.ntmps9
          go_wp2_with fail
          refine (cubbyholeref44_Uses.calls k kd _ _ _ _ HU.out).mono ?_
          rintro e w2 ⟨rfl, ⟨j, rfl⟩⟩
          go_wp2
          refine bodyPost_ret (retRd rfl _ _ (w.heap.size + 1 + 1) (w.heap.size + 1 + 1 + 1) #[.int .i64 k0, .int .i64 k1, .int .i64 k2, .int .i64 k3, .int .i64 k4, .int .i64 k5, .int .i64 k6, .int .i64 k7, .int .i64 k8, .int .i64 k9, .int .u64 k10, .slice none 0 0, .slice (some ⟨gr, 0, none⟩) xs.length cr] #[.int .i64 15, .int .i64 0, .slice none 0 0] rfl rfl rfl rfl (by first | (with_reducible exact blk_put3 (put13 _ _ _ _ _ _ _ _ _ _ _ _ _  HF.out.r) n1) | exact blk_put3 (put13 _ _ _ _ _ _ _ _ _ _ _ _ _  (HF.out.drewN _).r) n1) (by first | (with_reducible exact put3 _ _ _ (blk_put13 HR2.out n2)) | exact put3 _ _ _ (blk_put13 (blk_drewN HR2.out _) n2))) rfl ?_
          exact ⟨rfl, by repeat (first | (with_reducible exact HF.out.b) | (with_reducible apply below_drew1) | (with_reducible apply pw_below_drewN) | (with_reducible refine below_set ?_ (by omega)))⟩
        have d2b : decide ((xs.length : Int) ≤ v) = false := decide_eq_false c2b
        exfalso
        have hq := HBAD.out
        simp at hq
        try omega
      | false =>
        exfalso
        have hq := HBAD.out
        simp at hq
        try omega
    | false =>
      cases uv with
      | true =>
        by_cases c2a : v < 0
        · have d2a : decide (v < 0) = true := decide_eq_true c2a
          go_enter Try.func9, Try.ntmps9
          go_wp2_with fail
          refine (cubbyholeref44_Uses.calls k kd _ _ _ _ HU.out).mono ?_
          rintro e w2 ⟨rfl, ⟨j, rfl⟩⟩
          go_wp2
          refine bodyPost_ret (retRd rfl _ _ (w.heap.size + 1 + 1) (w.heap.size + 1 + 1 + 1) #[.int .i64 k0, .int .i64 k1, .int .i64 k2, .int .i64 k3, .int .i64 k4, .int .i64 k5, .int .i64 k6, .int .i64 k7, .int .i64 k8, .int .i64 k9, .int .u64 k10, .slice none 0 0, .slice (some ⟨gr, 0, none⟩) xs.length cr] #[.int .i64 15, .int .i64 0, .slice none 0 0] rfl rfl rfl rfl (by first | (with_reducible exact blk_put3 (put13 _ _ _ _ _ _ _ _ _ _ _ _ _  HF.out.r) n1) | exact blk_put3 (put13 _ _ _ _ _ _ _ _ _ _ _ _ _  (HF.out.drewN _).r) n1) (by first | (with_reducible exact put3 _ _ _ (blk_put13 HR2.out n2)) | exact put3 _ _ _ (blk_put13 (blk_drewN HR2.out _) n2))) rfl ?_
          exact ⟨rfl, by repeat (first | (with_reducible exact HF.out.b) | (with_reducible apply below_drew1) | (with_reducible apply pw_below_drewN) | (with_reducible refine below_set ?_ (by omega)))⟩
        have d2a : decide (v < 0) = false := decide_eq_false c2a
        by_cases c2b : (xs.length : Int) ≤ v
        · have d2b : decide ((xs.length : Int) ≤ v) = true := decide_eq_true c2b
          go_enter Try.func9, Try.ntmps9
          go_wp2_with fail
          refine (cubbyholeref44_Uses.calls k kd _ _ _ _ HU.out).mono ?_
          rintro e w2 ⟨rfl, ⟨j, rfl⟩⟩
          go_wp2
          refine bodyPost_ret (retRd rfl _ _ (w.heap.size + 1 + 1) (w.heap.size + 1 + 1 + 1) #[.int .i64 k0, .int .i64 k1, .int .i64 k2, .int .i64 k3, .int .i64 k4, .int .i64 k5, .int .i64 k6, .int .i64 k7, .int .i64 k8, .int .i64 k9, .int .u64 k10, .slice none 0 0, .slice (some ⟨gr, 0, none⟩) xs.length cr] #[.int .i64 15, .int .i64 0, .slice none 0 0] rfl rfl rfl rfl (by first | (with_reducible exact blk_put3 (put13 _ _ _ _ _ _ _ _ _ _ _ _ _  HF.out.r) n1) | exact blk_put3 (put13 _ _ _ _ _ _ _ _ _ _ _ _ _  (HF.out.drewN _).r) n1) (by first | (with_reducible exact put3 _ _ _ (blk_put13 HR2.out n2)) | exact put3 _ _ _ (blk_put13 (blk_drewN HR2.out _) n2))) rfl ?_
          exact ⟨rfl, by repeat (first | (with_reducible exact HF.out.b) | (with_reducible apply below_drew1) | (with_reducible apply pw_below_drewN) | (with_reducible refine below_set ?_ (by omega)))⟩
        have d2b : decide ((xs.length : Int) ≤ v) = false := decide_eq_false c2b
        exfalso
        have hq := HBAD.out
        simp at hq
        try omega
      | false =>
        exfalso
        have hq := HBAD.out
        simp at hq
        try omega

end Go.Proofs.Ytneejihmakfaoaa.OwnModel
