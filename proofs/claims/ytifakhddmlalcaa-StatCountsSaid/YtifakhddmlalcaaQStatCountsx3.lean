/- YtifakhddmlalcaaQStatCountsx3: the functions that the law StatCounts uses, each as a Lean function with the proof that the call tells the same. Turned out of the print of print.sh by qprint.py (own sections: bits_Len64, perm_Show). Conditions: none beyond each theorem's own. -/
import Derived.Test.YtifakhddmlalcaaQStatCountsx0
import Derived.Test.YtifakhddmlalcaaQStatCountsx1
import Derived.Test.YtifakhddmlalcaaQStatCountsx2
namespace Go.Proofs.Ytifakhddmlalcaa.QStatCounts
open Go.RowKit Go.Proofs.YtifakhddmlalcaaW.PrintWords Go.Proofs.YtifakhddmlalcaaW.PrintLast Go.Proofs.YtifakhddmlalcaaW.PrintMore
attribute [local go_sem] max2_int min2_int max_two min_two max_three min_three max_four min_four   -- for this text's walks alone
set_option linter.unusedVariables false
set_option linter.unusedSimpArgs false

attribute [local go_sem high] eqA29
/-! ### cubbyholelaw39_StatCounts: function 8 -/
theorem mxE (a b : Int) : (if a < b then b else a) = mx a b := rfl
mutual
def cubbyholelaw39_StatCounts.l0 : Nat → List (S56) → Int → List Int → Int → Int → Int → Int → Int → Int → Int → Int → Int → Int → Int → Int → Int → Option (Bool)
  | 0, _, _, _, _, _, _, _, _, _, _, _, _, _, _, _, _ => none
  | k + 1, x0, x4, x5, x7, x135000, x135001, x135002, x135003, x135004, x135005, x136000, x136001, x136002, x136003, x136004, x136005 => if x7 < (x0.length : Int) then (cubbyholelaw39_StatCounts.j1 k x0 x4 x5 x7 (decide (x7 < 40)) x135000 x135001 x135002 x135003 x135004 x135005 x136000 x136001 x136002 x136003 x136004 x136005) else (cubbyholelaw39_StatCounts.j1 k x0 x4 x5 x7 false x135000 x135001 x135002 x135003 x135004 x135005 x136000 x136001 x136002 x136003 x136004 x136005)
def cubbyholelaw39_StatCounts.j1 : Nat → List (S56) → Int → List Int → Int → Bool → Int → Int → Int → Int → Int → Int → Int → Int → Int → Int → Int → Int → Option (Bool)
  | 0, _, _, _, _, _, _, _, _, _, _, _, _, _, _, _, _, _ => none
  | k + 1, x0, x4, x5, x7, x19, x135000, x135001, x135002, x135003, x135004, x135005, x136000, x136001, x136002, x136003, x136004, x136005 => if x19 = true then (if 0 ≤ x7 then (if x7 < (x0.length : Int) then (if (Go.bits .and .i64 ((rd_T56 x0 x7).f0) 3) = 0 then ((stat_Get.f x135000 x135001 x135002 x135003 x135004 x135005 (wrap64 ((Go.bits .and .i64 ((rd_T56 x0 x7).f1) 65535) - 5))).bind fun bt139 => (if x5.length < 17592186044416 then (cubbyholelaw39_StatCounts.j2 k x0 (wrap64 (x4 + (mx (wrap64 ((Go.bits .and .i64 ((rd_T56 x0 x7).f1) 65535) - 5)) 0))) (x5 ++ [mx (wrap64 ((Go.bits .and .i64 ((rd_T56 x0 x7).f1) 65535) - 5)) 0]) x7 bt139.1 bt139.2.1 bt139.2.2.1 bt139.2.2.2.1 bt139.2.2.2.2.1 bt139.2.2.2.2.2 (wrap64 (x136000 + 1)) x136001 x136002 (wrap64 (x4 + (mx (wrap64 ((Go.bits .and .i64 ((rd_T56 x0 x7).f1) 65535) - 5)) 0))) (mx x136004 (wrap64 (x4 + (mx (wrap64 ((Go.bits .and .i64 ((rd_T56 x0 x7).f1) 65535) - 5)) 0)))) x136005) else (none))) else (if (Go.bits .and .i64 ((rd_T56 x0 x7).f0) 3) = 1 then (if (x5.length : Int) > 0 then (if 0 < (x5.length : Int) then ((stat_Give.f x135000 x135001 x135002 x135003 x135004 x135005 (rd x5 0)).bind fun bt149 => (if 1 ≤ (x5.length : Int) then (cubbyholelaw39_StatCounts.j2 k x0 (wrap64 (x4 - (rd x5 0))) (x5.drop (1 : Int).toNat) x7 bt149.1 bt149.2.1 bt149.2.2.1 bt149.2.2.2.1 bt149.2.2.2.2.1 bt149.2.2.2.2.2 x136000 (wrap64 (x136001 + 1)) x136002 (wrap64 (x4 - (rd x5 0))) x136004 x136005) else (none))) else (none)) else (cubbyholelaw39_StatCounts.j2 k x0 x4 x5 x7 x135000 x135001 x135002 x135003 x135004 x135005 x136000 x136001 x136002 x136003 x136004 x136005)) else (if (Go.bits .and .i64 ((rd_T56 x0 x7).f0) 3) = 2 then (if x136002 < x136001 then ((stat_End.f x135000 x135001 x135002 x135003 x135004 x135005).bind fun bt159 => (cubbyholelaw39_StatCounts.j2 k x0 x4 x5 x7 bt159.1 bt159.2.1 bt159.2.2.1 bt159.2.2.2.1 bt159.2.2.2.2.1 bt159.2.2.2.2.2 x136000 x136001 (wrap64 (x136002 + 1)) x136003 x136004 x136005)) else (cubbyholelaw39_StatCounts.j2 k x0 x4 x5 x7 x135000 x135001 x135002 x135003 x135004 x135005 x136000 x136001 x136002 x136003 x136004 x136005)) else ((stat_Clear.f x135000 x135001 x135002 x135003 x135004 x135005 (wrap64 ((Go.bits .and .i64 ((rd_T56 x0 x7).f1) 65535) - 5))).bind fun bt165 => (cubbyholelaw39_StatCounts.j2 k x0 x4 x5 x7 bt165.1 bt165.2.1 bt165.2.2.1 bt165.2.2.2.1 bt165.2.2.2.2.1 bt165.2.2.2.2.2 x136000 x136001 x136002 x136003 x136004 (wrap64 (x136005 + (mx (wrap64 ((Go.bits .and .i64 ((rd_T56 x0 x7).f1) 65535) - 5)) 0)))))))) else (none)) else (none)) else ((cubbyholelaw39_awake.f k).bind fun t136 => (some t136))
def cubbyholelaw39_StatCounts.j2 : Nat → List (S56) → Int → List Int → Int → Int → Int → Int → Int → Int → Int → Int → Int → Int → Int → Int → Int → Option (Bool)
  | 0, _, _, _, _, _, _, _, _, _, _, _, _, _, _, _, _ => none
  | k + 1, x0, x4, x5, x7, x135000, x135001, x135002, x135003, x135004, x135005, x136000, x136001, x136002, x136003, x136004, x136005 => if (!(x135000 == x136000) || (!(x135001 == x136001) || (!(x135002 == x136002) || (!(x135003 == x136003) || (!(x135004 == x136004) || (!(x135005 == x136005))))))) = true then (some false) else ((stat_May.f x135000 x135001 x135002 x135003 x135004 x135005).bind fun t171 => (if t171 = true then ((stat_Live.f x135000 x135001 x135002 x135003 x135004 x135005).bind fun t172 => (if t172 = (x5.length : Int) then ((stat_Held.f x135000 x135001 x135002 x135003 x135004 x135005).bind fun t173 => (if t173 = (wrap64 (x136001 - x136002)) then (cubbyholelaw39_StatCounts.l0 k x0 x4 x5 (wrap64 (x7 + 1)) x135000 x135001 x135002 x135003 x135004 x135005 x136000 x136001 x136002 x136003 x136004 x136005) else (some false))) else (some false))) else (some false)))
end
def cubbyholelaw39_StatCounts.f (k : Nat) (l0 : List (S56)) : Option (Bool) := cubbyholelaw39_StatCounts.l0 k l0 0 (([] : List Int)) 0 0 0 0 0 0 0 0 0 0 0 0 0
theorem cubbyholelaw39_StatCounts.mono_l : ∀ k, (∀ y0 y1 y2 y3 y4 y5 y6 y7 y8 y9 y10 y11 y12 y13 y14 y15, LeO (cubbyholelaw39_StatCounts.l0 k y0 y1 y2 y3 y4 y5 y6 y7 y8 y9 y10 y11 y12 y13 y14 y15) (cubbyholelaw39_StatCounts.l0 (k + 1) y0 y1 y2 y3 y4 y5 y6 y7 y8 y9 y10 y11 y12 y13 y14 y15)) ∧ (∀ y0 y1 y2 y3 y4 y5 y6 y7 y8 y9 y10 y11 y12 y13 y14 y15 y16, LeO (cubbyholelaw39_StatCounts.j1 k y0 y1 y2 y3 y4 y5 y6 y7 y8 y9 y10 y11 y12 y13 y14 y15 y16) (cubbyholelaw39_StatCounts.j1 (k + 1) y0 y1 y2 y3 y4 y5 y6 y7 y8 y9 y10 y11 y12 y13 y14 y15 y16)) ∧ (∀ y0 y1 y2 y3 y4 y5 y6 y7 y8 y9 y10 y11 y12 y13 y14 y15, LeO (cubbyholelaw39_StatCounts.j2 k y0 y1 y2 y3 y4 y5 y6 y7 y8 y9 y10 y11 y12 y13 y14 y15) (cubbyholelaw39_StatCounts.j2 (k + 1) y0 y1 y2 y3 y4 y5 y6 y7 y8 y9 y10 y11 y12 y13 y14 y15))
  | 0 => ⟨fun _ _ _ _ _ _ _ _ _ _ _ _ _ _ _ _ r h => by simp [cubbyholelaw39_StatCounts.l0] at h, fun _ _ _ _ _ _ _ _ _ _ _ _ _ _ _ _ _ r h => by simp [cubbyholelaw39_StatCounts.j1] at h, fun _ _ _ _ _ _ _ _ _ _ _ _ _ _ _ _ r h => by simp [cubbyholelaw39_StatCounts.j2] at h⟩
  | k + 1 => by
    obtain ⟨ih0, ih1, ih2⟩ := cubbyholelaw39_StatCounts.mono_l k
    refine ⟨?_, ?_, ?_⟩
    · intro y0 y1 y2 y3 y4 y5 y6 y7 y8 y9 y10 y11 y12 y13 y14 y15
      unfold cubbyholelaw39_StatCounts.l0
      repeat' first
      | (with_reducible exact ih0 _ _ _ _ _ _ _ _ _ _ _ _ _ _ _ _)
      | (with_reducible exact ih1 _ _ _ _ _ _ _ _ _ _ _ _ _ _ _ _ _)
      | (with_reducible exact ih2 _ _ _ _ _ _ _ _ _ _ _ _ _ _ _ _)
      | (with_reducible exact cubbyholelaw39_awake.mono _)
      | (with_reducible exact LeO.refl _)
      | (with_reducible exact LeO.none _)
      | (with_reducible refine LeO.ite ?_ ?_)
      | (with_reducible refine LeO.bind ?_ (fun _ => ?_))
      | exact ih0 _ _ _ _ _ _ _ _ _ _ _ _ _ _ _ _
      | exact ih1 _ _ _ _ _ _ _ _ _ _ _ _ _ _ _ _ _
      | exact ih2 _ _ _ _ _ _ _ _ _ _ _ _ _ _ _ _
      | exact cubbyholelaw39_awake.mono _
      | exact LeO.none _
      | refine LeO.ite ?_ ?_
      | refine LeO.bind ?_ (fun _ => ?_)
    · intro y0 y1 y2 y3 y4 y5 y6 y7 y8 y9 y10 y11 y12 y13 y14 y15 y16
      unfold cubbyholelaw39_StatCounts.j1
      repeat' first
      | (with_reducible exact ih0 _ _ _ _ _ _ _ _ _ _ _ _ _ _ _ _)
      | (with_reducible exact ih1 _ _ _ _ _ _ _ _ _ _ _ _ _ _ _ _ _)
      | (with_reducible exact ih2 _ _ _ _ _ _ _ _ _ _ _ _ _ _ _ _)
      | (with_reducible exact cubbyholelaw39_awake.mono _)
      | (with_reducible exact LeO.refl _)
      | (with_reducible exact LeO.none _)
      | (with_reducible refine LeO.ite ?_ ?_)
      | (with_reducible refine LeO.bind ?_ (fun _ => ?_))
      | exact ih0 _ _ _ _ _ _ _ _ _ _ _ _ _ _ _ _
      | exact ih1 _ _ _ _ _ _ _ _ _ _ _ _ _ _ _ _ _
      | exact ih2 _ _ _ _ _ _ _ _ _ _ _ _ _ _ _ _
      | exact cubbyholelaw39_awake.mono _
      | exact LeO.none _
      | refine LeO.ite ?_ ?_
      | refine LeO.bind ?_ (fun _ => ?_)
    · intro y0 y1 y2 y3 y4 y5 y6 y7 y8 y9 y10 y11 y12 y13 y14 y15
      unfold cubbyholelaw39_StatCounts.j2
      repeat' first
      | (with_reducible exact ih0 _ _ _ _ _ _ _ _ _ _ _ _ _ _ _ _)
      | (with_reducible exact ih1 _ _ _ _ _ _ _ _ _ _ _ _ _ _ _ _ _)
      | (with_reducible exact ih2 _ _ _ _ _ _ _ _ _ _ _ _ _ _ _ _)
      | (with_reducible exact cubbyholelaw39_awake.mono _)
      | (with_reducible exact LeO.refl _)
      | (with_reducible exact LeO.none _)
      | (with_reducible refine LeO.ite ?_ ?_)
      | (with_reducible refine LeO.bind ?_ (fun _ => ?_))
      | exact ih0 _ _ _ _ _ _ _ _ _ _ _ _ _ _ _ _
      | exact ih1 _ _ _ _ _ _ _ _ _ _ _ _ _ _ _ _ _
      | exact ih2 _ _ _ _ _ _ _ _ _ _ _ _ _ _ _ _
      | exact cubbyholelaw39_awake.mono _
      | exact LeO.none _
      | refine LeO.ite ?_ ?_
      | refine LeO.bind ?_ (fun _ => ?_)
theorem cubbyholelaw39_StatCounts.mono : ∀ a0 k, LeO (cubbyholelaw39_StatCounts.f k a0) (cubbyholelaw39_StatCounts.f (k + 1) a0) := by
  intro a0 k
  obtain ⟨ih0, ih1, ih2⟩ := cubbyholelaw39_StatCounts.mono_l k
  unfold cubbyholelaw39_StatCounts.f
  repeat' first
      | (with_reducible exact ih0 _ _ _ _ _ _ _ _ _ _ _ _ _ _ _ _)
      | (with_reducible exact ih1 _ _ _ _ _ _ _ _ _ _ _ _ _ _ _ _ _)
      | (with_reducible exact ih2 _ _ _ _ _ _ _ _ _ _ _ _ _ _ _ _)
      | (with_reducible exact cubbyholelaw39_awake.mono _)
      | (with_reducible exact LeO.refl _)
      | (with_reducible exact LeO.none _)
      | (with_reducible refine LeO.ite ?_ ?_)
      | (with_reducible refine LeO.bind ?_ (fun _ => ?_))
      | exact ih0 _ _ _ _ _ _ _ _ _ _ _ _ _ _ _ _
      | exact ih1 _ _ _ _ _ _ _ _ _ _ _ _ _ _ _ _ _
      | exact ih2 _ _ _ _ _ _ _ _ _ _ _ _ _ _ _ _
      | exact cubbyholelaw39_awake.mono _
      | exact LeO.none _
      | refine LeO.ite ?_ ?_
      | refine LeO.bind ?_ (fun _ => ?_)
def cubbyholelaw39_StatCounts.T27 : Bool × List (List Nat × List Nat) := (true, [([], []), ([], []), ([0, 1], [0, 1]), ([2], [2]), ([3], [3]), ([4, 3, 3], [3, 4]), ([5, 3], [3, 5]), ([3, 6], [3, 6]), ([7, 5], [7]), ([8], [8]), ([9, 8, 8], [8, 9]), ([8], [8]), ([11, 8], [8, 11]), ([10, 12, 8], [8, 10, 12]), ([8, 13], [8, 13]), ([14, 10], [14]), ([15], [15]), ([16, 15, 15], [15, 16]), ([15], [15]), ([18, 15], [15, 18]), ([15], [15]), ([20, 15], [15, 20]), ([19, 21, 15], [15, 19, 21]), ([17, 22, 15], [15, 17, 22]), ([15, 23], [15, 23])])
def cubbyholelaw39_StatCounts.B27 : List Nat := [0, 0, 3, 7, 15, 31, 63, 127, 255, 511, 1023, 511, 2559, 8191, 16383, 32767, 65535, 131071, 65535, 327679, 65535, 1114111, 3997695, 8388607, 16777215]
theorem cubbyholelaw39_StatCounts.tab27 : rtab .any (opsOf Try.f8 27) = cubbyholelaw39_StatCounts.T27 := by kernel_rfl
theorem cubbyholelaw39_StatCounts.bits27 : waitsOk cubbyholelaw39_StatCounts.T27.2 cubbyholelaw39_StatCounts.B27 = true := by kernel_rfl
set_option maxHeartbeats 8000000 in
set_option maxRecDepth 100000 in
theorem cubbyholelaw39_StatCounts.calls (k : Nat) (A0 : Option Addr) (c0 : Nat) (l0 : List (S56)) (r : Bool) (hr : Aside0 (r = true)) (w : World) (hr0 : Kd.C k56 w A0 l0.length l0) (hc0 : l0.length ≤ c0) (h : cubbyholelaw39_StatCounts.f k l0 = some r) :
    Calls Try.prog 8 #[.slice A0 l0.length c0] w fun e w' => e = .returned (.bool r) ∧ Below w.heap.size w w' := by
  have hu29 := Try.underlying29
  have HR0 := Aside0.mk hr0
  have HC0 := Aside0.mk hc0
  clear hr0 hc0
  have HB := Aside0.mk (Below.refl w.heap.size w)
  have H : (cubbyholelaw39_StatCounts.l0 k l0 0 (([] : List Int)) 0 0 0 0 0 0 0 0 0 0 0 0 0) = some r := h
  clear h
  obtain ⟨y131, hy131⟩ : ∃ y_ : List Int, y_ = (([] : List Int)) := ⟨_, rfl⟩
  replace H : (cubbyholelaw39_StatCounts.l0 k l0 0 y131 0 0 0 0 0 0 0 0 0 0 0 0 0) = some r := by first | (rw [hy131]; with_reducible exact H) | (have H2_ := (Option.bind_some _ _).symm.trans H; rw [hy131]; with_reducible exact H2_) | (have H2_ := (Option.bind_some _ _).symm.trans H; with_reducible exact H2_) | with_reducible exact H | (rw [hy131]; exact H) | exact H
  have Ny131 := Aside0.mk hy131
  clear hy131
  have H' := Aside0.mk H
  clear H
  go_enter Try.func8, Try.ntmps8
  go_wp2_with (first | ((with_reducible refine gate_dst (N := 10) rfl ?_); (try (refine gate_guard (by rfl) ?_; dsimp only)); refine Kd.R_lit (Kd.int .i64) _ 3 ?hg (N := 10) ?hd (xs := ([] : List Int)) (inner := []) (ok := fun _ => True) (okp := fun _ => True) ?hr ?hp (fun _ hk => hk) trivial (Below.refl _ _) (Nat.le_refl _) (by simp) ?_; (case hd => rfl); (case hg => rfl); (case hr => first | (go_simp; done) | (go_simp; rfl)); (case hp => exact (Reps.none _ _)); intro v132 w2 ho3 hb hg_ hnew_; clear hg_ hnew_; (first | rw [← Ny131.out] at ho3 | (simp only [Int.reduceToNat] at ho3; rw [← Ny131.out] at ho3)); have n0_ := Aside0.mk (Kd.R_lower ho3 (below_size (by repeat (first | (with_reducible first | exact HB.out | apply below_alloc | apply pw_below_drewN | apply below_drew1) | exact HB.out)))); have n1_ := Aside0.mk (below_step (by repeat (first | (with_reducible first | exact HB.out | apply below_alloc | apply pw_below_drewN | apply below_drew1) | exact HB.out)) hb); clear HB; have HO133 := n0_; have HB := n1_; clear n0_ n1_; clear hb ho3) | ((with_reducible refine gate_dst (N := 3) rfl ?_); (try (refine gate_guard (by rfl) ?_; dsimp only)); refine box_event ?hg (N := 3) ?hd (cs := #[.int .i64 0, .int .i64 0, .int .i64 0, .int .i64 0, .int .i64 0, .int .i64 0]) (t := 29) ?hr ?_; (case hd => rfl); (case hg => rfl); (case hr => first | (go_simp; done) | (go_simp; rfl)); intro gb134 hg w4 hbox hb; have n0_ := Aside0.mk (Kd.R_below (by (with_reducible repeat (first | apply Kd.R_alloc | apply Kd.R_drewN | apply Kd.R_drew)); exact HO133.out) hb); have n1_ := Aside0.mk (below_step (by repeat (first | (with_reducible first | exact HB.out | apply below_alloc | apply pw_below_drewN | apply below_drew1) | exact HB.out)) hb); have n2_ := Aside0.mk (hbox); have n3_ := Aside0.mk ((by rw [hg]; exact (below_size (by repeat (first | (with_reducible first | exact HB.out | apply below_alloc | apply pw_below_drewN | apply below_drew1) | exact HB.out))) : w.heap.size ≤ gb134)); have n4_ := Aside0.mk ((by rw [hg]; exact (below_size (by repeat (first | (with_reducible first | exact HB.out | apply below_alloc | apply pw_below_drewN | apply below_drew1) | exact HB.out))) : w.heap.size ≤ gb134)); clear HO133; clear HB; have HO133 := n0_; have HB := n1_; have BK134 := n2_; have GW134 := n3_; have GE134 := n4_; clear n0_ n1_ n2_ n3_ n4_; clear hb hbox hg; have hcz5_0 : w4.cell? ⟨gb134, 0, none⟩ = some (.int .i64 0) := (blk_cell BK134.out 0).trans rfl; have hcz5_1 : w4.cell? ⟨gb134, 1, none⟩ = some (.int .i64 0) := (blk_cell BK134.out 1).trans rfl; have hcz5_2 : w4.cell? ⟨gb134, 2, none⟩ = some (.int .i64 0) := (blk_cell BK134.out 2).trans rfl; have hcz5_3 : w4.cell? ⟨gb134, 3, none⟩ = some (.int .i64 0) := (blk_cell BK134.out 3).trans rfl; have hcz5_4 : w4.cell? ⟨gb134, 4, none⟩ = some (.int .i64 0) := (blk_cell BK134.out 4).trans rfl; have hcz5_5 : w4.cell? ⟨gb134, 5, none⟩ = some (.int .i64 0) := (blk_cell BK134.out 5).trans rfl; have hfz5_0 := blk_frozen BK134.out 0; have hfz5_1 := blk_frozen BK134.out 1; have hfz5_2 := blk_frozen BK134.out 2; have hfz5_3 := blk_frozen BK134.out 3; have hfz5_4 := blk_frozen BK134.out 4; have hfz5_5 := blk_frozen BK134.out 5) | ((with_reducible refine gate_dst (N := 6) rfl ?_); (try (refine gate_guard (by rfl) ?_; dsimp only)); refine box_event ?hg (N := 6) ?hd (cs := #[.int .i64 0, .int .i64 0, .int .i64 0, .int .i64 0, .int .i64 0, .int .i64 0]) (t := 29) ?hr ?_; (case hd => rfl); (case hg => rfl); (case hr => first | (go_simp; done) | (go_simp; rfl)); intro gb135 hg w6 hbox hb; have n0_ := Aside0.mk (Kd.R_below (by (with_reducible repeat (first | apply Kd.R_alloc | apply Kd.R_drewN | apply Kd.R_drew)); exact (Kd.R_mono (Kd.R_far (p := ⟨gb134, 5, none⟩) (Kd.R_far (p := ⟨gb134, 4, none⟩) (Kd.R_far (p := ⟨gb134, 3, none⟩) (Kd.R_far (p := ⟨gb134, 2, none⟩) (Kd.R_far (p := ⟨gb134, 1, none⟩) (Kd.R_far (p := ⟨gb134, 0, none⟩) (Kd.R_types HO133.out BK134.out (by decide)) (fun _ hk => hk.2) (.int .i64 0)) (fun _ hk => hk.2) (.int .i64 0)) (fun _ hk => hk.2) (.int .i64 0)) (fun _ hk => hk.2) (.int .i64 0)) (fun _ hk => hk.2) (.int .i64 0)) (fun _ hk => hk.2) (.int .i64 0)) (fun _ h_ => h_.1))) hb); have n1_ := Aside0.mk (blk_below (g := gb134) (o := .cells #[.int .i64 0, .int .i64 0, .int .i64 0, .int .i64 0, .int .i64 0, .int .i64 0] 29 (0, 0)) (by (with_reducible repeat (first | refine blk_drewN ?_ _ | refine blk_drew ?_ | refine blk_alloc ?_ _)); refine blk_put (cs := #[.int .i64 0, .int .i64 0, .int .i64 0, .int .i64 0, .int .i64 0, .int .i64 0]) ?_ 5 _ rfl; (with_reducible repeat (first | refine blk_drewN ?_ _ | refine blk_drew ?_ | refine blk_alloc ?_ _)); refine blk_put (cs := #[.int .i64 0, .int .i64 0, .int .i64 0, .int .i64 0, .int .i64 0, .int .i64 0]) ?_ 4 _ rfl; (with_reducible repeat (first | refine blk_drewN ?_ _ | refine blk_drew ?_ | refine blk_alloc ?_ _)); refine blk_put (cs := #[.int .i64 0, .int .i64 0, .int .i64 0, .int .i64 0, .int .i64 0, .int .i64 0]) ?_ 3 _ rfl; (with_reducible repeat (first | refine blk_drewN ?_ _ | refine blk_drew ?_ | refine blk_alloc ?_ _)); refine blk_put (cs := #[.int .i64 0, .int .i64 0, .int .i64 0, .int .i64 0, .int .i64 0, .int .i64 0]) ?_ 2 _ rfl; (with_reducible repeat (first | refine blk_drewN ?_ _ | refine blk_drew ?_ | refine blk_alloc ?_ _)); refine blk_put (cs := #[.int .i64 0, .int .i64 0, .int .i64 0, .int .i64 0, .int .i64 0, .int .i64 0]) ?_ 1 _ rfl; (with_reducible repeat (first | refine blk_drewN ?_ _ | refine blk_drew ?_ | refine blk_alloc ?_ _)); refine blk_put (cs := #[.int .i64 0, .int .i64 0, .int .i64 0, .int .i64 0, .int .i64 0, .int .i64 0]) ?_ 0 _ rfl; (with_reducible repeat (first | refine blk_drewN ?_ _ | refine blk_drew ?_ | refine blk_alloc ?_ _)); exact BK134.out) hb); have n2_ := Aside0.mk (below_step (by repeat (first | (with_reducible first | exact HB.out | apply below_alloc | apply pw_below_drewN | apply below_drew1 | refine below_set ?_ GE134.out) | exact HB.out)) hb); have n3_ := Aside0.mk (hbox); have n4_ := Aside0.mk ((by rw [hg]; exact (below_size (by repeat (first | (with_reducible first | exact HB.out | apply below_alloc | apply pw_below_drewN | apply below_drew1 | refine below_set ?_ GE134.out) | exact HB.out))) : w.heap.size ≤ gb135)); have n5_ := Aside0.mk ((by rw [hg]; exact (below_size (by repeat (first | (with_reducible first | exact HB.out | apply below_alloc | apply pw_below_drewN | apply below_drew1 | refine below_set ?_ GE134.out) | exact HB.out))) : w.heap.size ≤ gb135)); have n6_ := Aside0.mk ((by rw [hg]; exact Nat.ne_of_lt (blk_lt (g := gb134) (o := .cells #[.int .i64 0, .int .i64 0, .int .i64 0, .int .i64 0, .int .i64 0, .int .i64 0] 29 (0, 0)) (by (with_reducible repeat (first | refine blk_drewN ?_ _ | refine blk_drew ?_ | refine blk_alloc ?_ _)); refine blk_put (cs := #[.int .i64 0, .int .i64 0, .int .i64 0, .int .i64 0, .int .i64 0, .int .i64 0]) ?_ 5 _ rfl; (with_reducible repeat (first | refine blk_drewN ?_ _ | refine blk_drew ?_ | refine blk_alloc ?_ _)); refine blk_put (cs := #[.int .i64 0, .int .i64 0, .int .i64 0, .int .i64 0, .int .i64 0, .int .i64 0]) ?_ 4 _ rfl; (with_reducible repeat (first | refine blk_drewN ?_ _ | refine blk_drew ?_ | refine blk_alloc ?_ _)); refine blk_put (cs := #[.int .i64 0, .int .i64 0, .int .i64 0, .int .i64 0, .int .i64 0, .int .i64 0]) ?_ 3 _ rfl; (with_reducible repeat (first | refine blk_drewN ?_ _ | refine blk_drew ?_ | refine blk_alloc ?_ _)); refine blk_put (cs := #[.int .i64 0, .int .i64 0, .int .i64 0, .int .i64 0, .int .i64 0, .int .i64 0]) ?_ 2 _ rfl; (with_reducible repeat (first | refine blk_drewN ?_ _ | refine blk_drew ?_ | refine blk_alloc ?_ _)); refine blk_put (cs := #[.int .i64 0, .int .i64 0, .int .i64 0, .int .i64 0, .int .i64 0, .int .i64 0]) ?_ 1 _ rfl; (with_reducible repeat (first | refine blk_drewN ?_ _ | refine blk_drew ?_ | refine blk_alloc ?_ _)); refine blk_put (cs := #[.int .i64 0, .int .i64 0, .int .i64 0, .int .i64 0, .int .i64 0, .int .i64 0]) ?_ 0 _ rfl; (with_reducible repeat (first | refine blk_drewN ?_ _ | refine blk_drew ?_ | refine blk_alloc ?_ _)); exact BK134.out)) : gb134 ≠ gb135)); have n7_ := Aside0.mk ((by rw [hg]; exact Nat.ne_of_gt (blk_lt (g := gb134) (o := .cells #[.int .i64 0, .int .i64 0, .int .i64 0, .int .i64 0, .int .i64 0, .int .i64 0] 29 (0, 0)) (by (with_reducible repeat (first | refine blk_drewN ?_ _ | refine blk_drew ?_ | refine blk_alloc ?_ _)); refine blk_put (cs := #[.int .i64 0, .int .i64 0, .int .i64 0, .int .i64 0, .int .i64 0, .int .i64 0]) ?_ 5 _ rfl; (with_reducible repeat (first | refine blk_drewN ?_ _ | refine blk_drew ?_ | refine blk_alloc ?_ _)); refine blk_put (cs := #[.int .i64 0, .int .i64 0, .int .i64 0, .int .i64 0, .int .i64 0, .int .i64 0]) ?_ 4 _ rfl; (with_reducible repeat (first | refine blk_drewN ?_ _ | refine blk_drew ?_ | refine blk_alloc ?_ _)); refine blk_put (cs := #[.int .i64 0, .int .i64 0, .int .i64 0, .int .i64 0, .int .i64 0, .int .i64 0]) ?_ 3 _ rfl; (with_reducible repeat (first | refine blk_drewN ?_ _ | refine blk_drew ?_ | refine blk_alloc ?_ _)); refine blk_put (cs := #[.int .i64 0, .int .i64 0, .int .i64 0, .int .i64 0, .int .i64 0, .int .i64 0]) ?_ 2 _ rfl; (with_reducible repeat (first | refine blk_drewN ?_ _ | refine blk_drew ?_ | refine blk_alloc ?_ _)); refine blk_put (cs := #[.int .i64 0, .int .i64 0, .int .i64 0, .int .i64 0, .int .i64 0, .int .i64 0]) ?_ 1 _ rfl; (with_reducible repeat (first | refine blk_drewN ?_ _ | refine blk_drew ?_ | refine blk_alloc ?_ _)); refine blk_put (cs := #[.int .i64 0, .int .i64 0, .int .i64 0, .int .i64 0, .int .i64 0, .int .i64 0]) ?_ 0 _ rfl; (with_reducible repeat (first | refine blk_drewN ?_ _ | refine blk_drew ?_ | refine blk_alloc ?_ _)); exact BK134.out)) : gb135 ≠ gb134)); clear HO133; clear BK134; clear HB; have HO133 := n0_; have BK134 := n1_; have HB := n2_; have BK135 := n3_; have GW135 := n4_; have GE135 := n5_; have NB134_135 := n6_; have NB135_134 := n7_; clear n0_ n1_ n2_ n3_ n4_ n5_ n6_ n7_; clear hb hbox hg; have hnb7 := NB135_134.out; have hnc7 := NB134_135.out; have hcz8_0 : w6.cell? ⟨gb135, 0, none⟩ = some (.int .i64 0) := (blk_cell BK135.out 0).trans rfl; have hcz8_1 : w6.cell? ⟨gb135, 1, none⟩ = some (.int .i64 0) := (blk_cell BK135.out 1).trans rfl; have hcz8_2 : w6.cell? ⟨gb135, 2, none⟩ = some (.int .i64 0) := (blk_cell BK135.out 2).trans rfl; have hcz8_3 : w6.cell? ⟨gb135, 3, none⟩ = some (.int .i64 0) := (blk_cell BK135.out 3).trans rfl; have hcz8_4 : w6.cell? ⟨gb135, 4, none⟩ = some (.int .i64 0) := (blk_cell BK135.out 4).trans rfl; have hcz8_5 : w6.cell? ⟨gb135, 5, none⟩ = some (.int .i64 0) := (blk_cell BK135.out 5).trans rfl; have hfz8_0 := blk_frozen BK135.out 0; have hfz8_1 := blk_frozen BK135.out 1; have hfz8_2 := blk_frozen BK135.out 2; have hfz8_3 := blk_frozen BK135.out 3; have hfz8_4 := blk_frozen BK135.out 4; have hfz8_5 := blk_frozen BK135.out 5))
  go_loopg [4, 5, 7] k (fun kq v4 v5 v7 w' => ∃ (x4_1 : Int) (x5_1 : List Int) (x7_1 : Int) (x135000_1 : Int) (x135001_1 : Int) (x135002_1 : Int) (x135003_1 : Int) (x135004_1 : Int) (x135005_1 : Int) (x136000_1 : Int) (x136001_1 : Int) (x136002_1 : Int) (x136003_1 : Int) (x136004_1 : Int) (x136005_1 : Int), v4 = .int .i64 x4_1 ∧ v7 = .int .i64 x7_1 ∧ Aside0 (cubbyholelaw39_StatCounts.l0 kq l0 x4_1 x5_1 x7_1 x135000_1 x135001_1 x135002_1 x135003_1 x135004_1 x135005_1 x136000_1 x136001_1 x136002_1 x136003_1 x136004_1 x136005_1 = some r) ∧ Aside0 (kq ≤ k) ∧ Aside0 (Kd.Q (Kd.int .i64) 3 w' w.heap.size (fun _ => True) v5 x5_1) ∧ Aside0 (w'.heap[gb134]? = some (.cells #[.int .i64 x135000_1, .int .i64 x135001_1, .int .i64 x135002_1, .int .i64 x135003_1, .int .i64 x135004_1, .int .i64 x135005_1] 29 (0, 0))) ∧ Aside0 (w'.heap[gb135]? = some (.cells #[.int .i64 x136000_1, .int .i64 x136001_1, .int .i64 x136002_1, .int .i64 x136003_1, .int .i64 x136004_1, .int .i64 x136005_1] 29 (0, 0))) ∧ Aside0 (Below w.heap.size w w'))
  case atStart => exact ⟨(0), (y131), (0), (0), (0), (0), (0), (0), (0), (0), (0), (0), (0), (0), (0), (by first | rfl | (simp; done) | (simp [*]; done)), (by first | rfl | (simp; done) | (simp [*]; done)), H', ⟨Nat.le_refl _⟩, ⟨Kd.Q_of_R (by (with_reducible repeat (first | apply Kd.R_alloc | apply Kd.R_drewN | apply Kd.R_drew)); exact Kd.R_mono (Kd.R_far (p := ⟨gb135, 5, none⟩) (Kd.R_far (p := ⟨gb135, 4, none⟩) (Kd.R_far (p := ⟨gb135, 3, none⟩) (Kd.R_far (p := ⟨gb135, 2, none⟩) (Kd.R_far (p := ⟨gb135, 1, none⟩) (Kd.R_far (p := ⟨gb135, 0, none⟩) (Kd.R_types HO133.out BK135.out (by decide)) (fun _ hk => hk.2) (.int .i64 0)) (fun _ hk => hk.2) (.int .i64 0)) (fun _ hk => hk.2) (.int .i64 0)) (fun _ hk => hk.2) (.int .i64 0)) (fun _ hk => hk.2) (.int .i64 0)) (fun _ hk => hk.2) (.int .i64 0)) (fun _ hk => trivial))⟩, ⟨by (with_reducible repeat (first | refine blk_drewN ?_ _ | refine blk_drew ?_ | refine blk_alloc ?_ _)); refine blk_far ?_ NB134_135.out _; (with_reducible repeat (first | refine blk_drewN ?_ _ | refine blk_drew ?_ | refine blk_alloc ?_ _)); refine blk_far ?_ NB134_135.out _; (with_reducible repeat (first | refine blk_drewN ?_ _ | refine blk_drew ?_ | refine blk_alloc ?_ _)); refine blk_far ?_ NB134_135.out _; (with_reducible repeat (first | refine blk_drewN ?_ _ | refine blk_drew ?_ | refine blk_alloc ?_ _)); refine blk_far ?_ NB134_135.out _; (with_reducible repeat (first | refine blk_drewN ?_ _ | refine blk_drew ?_ | refine blk_alloc ?_ _)); refine blk_far ?_ NB134_135.out _; (with_reducible repeat (first | refine blk_drewN ?_ _ | refine blk_drew ?_ | refine blk_alloc ?_ _)); refine blk_far ?_ NB134_135.out _; (with_reducible repeat (first | refine blk_drewN ?_ _ | refine blk_drew ?_ | refine blk_alloc ?_ _)); exact BK134.out⟩, ⟨by (with_reducible repeat (first | refine blk_drewN ?_ _ | refine blk_drew ?_ | refine blk_alloc ?_ _)); refine blk_put (cs := #[.int .i64 0, .int .i64 0, .int .i64 0, .int .i64 0, .int .i64 0, .int .i64 0]) ?_ 5 _ rfl; (with_reducible repeat (first | refine blk_drewN ?_ _ | refine blk_drew ?_ | refine blk_alloc ?_ _)); refine blk_put (cs := #[.int .i64 0, .int .i64 0, .int .i64 0, .int .i64 0, .int .i64 0, .int .i64 0]) ?_ 4 _ rfl; (with_reducible repeat (first | refine blk_drewN ?_ _ | refine blk_drew ?_ | refine blk_alloc ?_ _)); refine blk_put (cs := #[.int .i64 0, .int .i64 0, .int .i64 0, .int .i64 0, .int .i64 0, .int .i64 0]) ?_ 3 _ rfl; (with_reducible repeat (first | refine blk_drewN ?_ _ | refine blk_drew ?_ | refine blk_alloc ?_ _)); refine blk_put (cs := #[.int .i64 0, .int .i64 0, .int .i64 0, .int .i64 0, .int .i64 0, .int .i64 0]) ?_ 2 _ rfl; (with_reducible repeat (first | refine blk_drewN ?_ _ | refine blk_drew ?_ | refine blk_alloc ?_ _)); refine blk_put (cs := #[.int .i64 0, .int .i64 0, .int .i64 0, .int .i64 0, .int .i64 0, .int .i64 0]) ?_ 1 _ rfl; (with_reducible repeat (first | refine blk_drewN ?_ _ | refine blk_drew ?_ | refine blk_alloc ?_ _)); refine blk_put (cs := #[.int .i64 0, .int .i64 0, .int .i64 0, .int .i64 0, .int .i64 0, .int .i64 0]) ?_ 0 _ rfl; (with_reducible repeat (first | refine blk_drewN ?_ _ | refine blk_drew ?_ | refine blk_alloc ?_ _)); exact BK135.out⟩, ⟨by repeat (first | (with_reducible first | exact HB.out | apply below_alloc | apply pw_below_drewN | apply below_drew1 | refine below_set ?_ GE134.out | refine below_set ?_ GE135.out) | exact HB.out)⟩⟩
  case round =>
    clear H'
    try clear p2
    try clear c7
    try clear c8
    try clear hcz5_0
    try clear hcz5_1
    try clear hcz5_2
    try clear hcz5_3
    try clear hcz5_4
    try clear hcz5_5
    try clear hcz8_0
    try clear hcz8_1
    try clear hcz8_2
    try clear hcz8_3
    try clear hcz8_4
    try clear hcz8_5
    try clear hfz5_0
    try clear hfz5_1
    try clear hfz5_2
    try clear hfz5_3
    try clear hfz5_4
    try clear hfz5_5
    try clear hfz8_0
    try clear hfz8_1
    try clear hfz8_2
    try clear hfz8_3
    try clear hfz8_4
    try clear hfz8_5
    obtain ⟨x4_1, x5_1, x7_1, x135000_1, x135001_1, x135002_1, x135003_1, x135004_1, x135005_1, x136000_1, x136001_1, x136002_1, x136003_1, x136004_1, x136005_1, rfl, rfl, HA, HK1, HO_5, BK134, BK135, HB⟩ := hrel
    cases gk with
    | zero => exact absurd HA.out (by simp [cubbyholelaw39_StatCounts.l0])
    | succ k1 =>
      have H := HA.out
      clear HA
      simp only [cubbyholelaw39_StatCounts.l0] at H
      have HC9 := Aside0.mk H
      clear H
      go_upto_region 4 with (fail)
      go_cut [19] (fun v19 wc => ∃ (kq : Nat) (x19_8 : Bool), v19 = .bool x19_8 ∧ Aside0 (cubbyholelaw39_StatCounts.j1 kq l0 x4_1 x5_1 x7_1 x19_8 x135000_1 x135001_1 x135002_1 x135003_1 x135004_1 x135005_1 x136000_1 x136001_1 x136002_1 x136003_1 x136004_1 x136005_1 = some r) ∧ Aside0 (kq ≤ k1) ∧ Aside0 (Kd.Q (Kd.int .i64) 3 wc w.heap.size (fun _ => True) u5 x5_1) ∧ Aside0 (wc.heap[gb134]? = some (.cells #[.int .i64 x135000_1, .int .i64 x135001_1, .int .i64 x135002_1, .int .i64 x135003_1, .int .i64 x135004_1, .int .i64 x135005_1] 29 (0, 0))) ∧ Aside0 (wc.heap[gb135]? = some (.cells #[.int .i64 x136000_1, .int .i64 x136001_1, .int .i64 x136002_1, .int .i64 x136003_1, .int .i64 x136004_1, .int .i64 x136005_1] 29 (0, 0))) ∧ Aside0 (Below w.heap.size w wc))
      case first =>
        have H := HC9.out
        clear HC9
        by_cases c10 : x7_1 < (l0.length : Int)
        · rw [if_pos c10] at H
          have c10b0 : decide (x7_1 < (l0.length : Int)) = true := decide_eq_true c10
          clear c10
          (first | rw [c10b0] | (simp only [i64_w, i32_w]; rw [c10b0]) | skip)
          have H' := Aside0.mk H
          clear H
          go_wp2
          go_meet
          case rel => exact ⟨_, (decide (x7_1 < 40)), (by first | rfl | (simp; done) | (simp [*]; done)), H', ⟨by have := HK1.out; first | omega | exact Nat.le_refl _⟩, ⟨by (with_reducible repeat (first | apply Kd.Q_alloc | apply Kd.Q_drewN | apply Kd.Q_drew)); exact HO_5.out⟩, ⟨by (with_reducible repeat (first | refine blk_drewN ?_ _ | refine blk_drew ?_ | refine blk_alloc ?_ _)); exact BK134.out⟩, ⟨by (with_reducible repeat (first | refine blk_drewN ?_ _ | refine blk_drew ?_ | refine blk_alloc ?_ _)); exact BK135.out⟩, ⟨by repeat (first | (with_reducible first | exact HB.out | apply below_alloc | apply pw_below_drewN | apply below_drew1 | refine below_set ?_ GE134.out | refine below_set ?_ GE135.out) | exact HB.out)⟩⟩
        · rw [if_neg c10] at H
          have c10b0 : decide (x7_1 < (l0.length : Int)) = false := decide_eq_false c10
          clear c10
          (first | rw [c10b0] | (simp only [i64_w, i32_w]; rw [c10b0]) | skip)
          have H' := Aside0.mk H
          clear H
          go_wp2
          go_meet
          case rel => exact ⟨_, (false), (by first | rfl | (simp; done) | (simp [*]; done)), H', ⟨by have := HK1.out; first | omega | exact Nat.le_refl _⟩, ⟨by (with_reducible repeat (first | apply Kd.Q_alloc | apply Kd.Q_drewN | apply Kd.Q_drew)); exact HO_5.out⟩, ⟨by (with_reducible repeat (first | refine blk_drewN ?_ _ | refine blk_drew ?_ | refine blk_alloc ?_ _)); exact BK134.out⟩, ⟨by (with_reducible repeat (first | refine blk_drewN ?_ _ | refine blk_drew ?_ | refine blk_alloc ?_ _)); exact BK135.out⟩, ⟨by repeat (first | (with_reducible first | exact HB.out | apply below_alloc | apply pw_below_drewN | apply below_drew1 | refine below_set ?_ GE134.out | refine below_set ?_ GE135.out) | exact HB.out)⟩⟩
      case rest =>
        clear HC9
        try clear c1
        try clear p2
        try clear c7
        try clear c8
        try clear c10
        try clear c10b0
        try clear hcz5_0
        try clear hcz5_1
        try clear hcz5_2
        try clear hcz5_3
        try clear hcz5_4
        try clear hcz5_5
        try clear hcz8_0
        try clear hcz8_1
        try clear hcz8_2
        try clear hcz8_3
        try clear hcz8_4
        try clear hcz8_5
        try clear hfz5_0
        try clear hfz5_1
        try clear hfz5_2
        try clear hfz5_3
        try clear hfz5_4
        try clear hfz5_5
        try clear hfz8_0
        try clear hfz8_1
        try clear hfz8_2
        try clear hfz8_3
        try clear hfz8_4
        try clear hfz8_5
        try clear p2
        obtain ⟨kq, x19_8, rfl, HA, HJ8, HO_5, BK134, BK135, HB⟩ := hcut
        cases kq with
        | zero => exact absurd HA.out (by simp [cubbyholelaw39_StatCounts.j1])
        | succ kj8 =>
          have H := HA.out
          clear HA
          simp only [cubbyholelaw39_StatCounts.j1] at H
          by_cases c11 : x19_8 = true
          · subst c11
            have H1 : (if 0 ≤ x7_1 then (if x7_1 < (l0.length : Int) then (if (Go.bits .and .i64 ((rd_T56 l0 x7_1).f0) 3) = 0 then ((stat_Get.f x135000_1 x135001_1 x135002_1 x135003_1 x135004_1 x135005_1 (wrap64 ((Go.bits .and .i64 ((rd_T56 l0 x7_1).f1) 65535) - 5))).bind fun bt139 => (if x5_1.length < 17592186044416 then (cubbyholelaw39_StatCounts.j2 kj8 l0 (wrap64 (x4_1 + (mx (wrap64 ((Go.bits .and .i64 ((rd_T56 l0 x7_1).f1) 65535) - 5)) 0))) (x5_1 ++ [mx (wrap64 ((Go.bits .and .i64 ((rd_T56 l0 x7_1).f1) 65535) - 5)) 0]) x7_1 bt139.1 bt139.2.1 bt139.2.2.1 bt139.2.2.2.1 bt139.2.2.2.2.1 bt139.2.2.2.2.2 (wrap64 (x136000_1 + 1)) x136001_1 x136002_1 (wrap64 (x4_1 + (mx (wrap64 ((Go.bits .and .i64 ((rd_T56 l0 x7_1).f1) 65535) - 5)) 0))) (mx x136004_1 (wrap64 (x4_1 + (mx (wrap64 ((Go.bits .and .i64 ((rd_T56 l0 x7_1).f1) 65535) - 5)) 0)))) x136005_1) else (none))) else (if (Go.bits .and .i64 ((rd_T56 l0 x7_1).f0) 3) = 1 then (if (x5_1.length : Int) > 0 then (if 0 < (x5_1.length : Int) then ((stat_Give.f x135000_1 x135001_1 x135002_1 x135003_1 x135004_1 x135005_1 (rd x5_1 0)).bind fun bt149 => (if 1 ≤ (x5_1.length : Int) then (cubbyholelaw39_StatCounts.j2 kj8 l0 (wrap64 (x4_1 - (rd x5_1 0))) (x5_1.drop (1 : Int).toNat) x7_1 bt149.1 bt149.2.1 bt149.2.2.1 bt149.2.2.2.1 bt149.2.2.2.2.1 bt149.2.2.2.2.2 x136000_1 (wrap64 (x136001_1 + 1)) x136002_1 (wrap64 (x4_1 - (rd x5_1 0))) x136004_1 x136005_1) else (none))) else (none)) else (cubbyholelaw39_StatCounts.j2 kj8 l0 x4_1 x5_1 x7_1 x135000_1 x135001_1 x135002_1 x135003_1 x135004_1 x135005_1 x136000_1 x136001_1 x136002_1 x136003_1 x136004_1 x136005_1)) else (if (Go.bits .and .i64 ((rd_T56 l0 x7_1).f0) 3) = 2 then (if x136002_1 < x136001_1 then ((stat_End.f x135000_1 x135001_1 x135002_1 x135003_1 x135004_1 x135005_1).bind fun bt159 => (cubbyholelaw39_StatCounts.j2 kj8 l0 x4_1 x5_1 x7_1 bt159.1 bt159.2.1 bt159.2.2.1 bt159.2.2.2.1 bt159.2.2.2.2.1 bt159.2.2.2.2.2 x136000_1 x136001_1 (wrap64 (x136002_1 + 1)) x136003_1 x136004_1 x136005_1)) else (cubbyholelaw39_StatCounts.j2 kj8 l0 x4_1 x5_1 x7_1 x135000_1 x135001_1 x135002_1 x135003_1 x135004_1 x135005_1 x136000_1 x136001_1 x136002_1 x136003_1 x136004_1 x136005_1)) else ((stat_Clear.f x135000_1 x135001_1 x135002_1 x135003_1 x135004_1 x135005_1 (wrap64 ((Go.bits .and .i64 ((rd_T56 l0 x7_1).f1) 65535) - 5))).bind fun bt165 => (cubbyholelaw39_StatCounts.j2 kj8 l0 x4_1 x5_1 x7_1 bt165.1 bt165.2.1 bt165.2.2.1 bt165.2.2.2.1 bt165.2.2.2.2.1 bt165.2.2.2.2.2 x136000_1 x136001_1 x136002_1 x136003_1 x136004_1 (wrap64 (x136005_1 + (mx (wrap64 ((Go.bits .and .i64 ((rd_T56 l0 x7_1).f1) 65535) - 5)) 0)))))))) else (none)) else (none)) = some r := by rw [if_pos rfl] at H; exact H
            clear H
            have H := H1
            clear H1
            by_cases c12 : 0 ≤ x7_1
            · rw [if_pos c12] at H
              have c12b0 : decide (0 ≤ x7_1) = true := decide_eq_true c12
              clear c12
              by_cases c13 : x7_1 < (l0.length : Int)
              · rw [if_pos c13] at H
                have c13b0 : decide (x7_1 < (l0.length : Int)) = true := decide_eq_true c13
                clear c13
                have HC14 := Aside0.mk H
                clear H
                have p137 : 0 ≤ (x7_1 : Int) := of_decide_eq_true (by first | (with_reducible assumption) | assumption)
                have q137 : x7_1 < (l0.length : Int) := of_decide_eq_true (by first | (with_reducible assumption) | assumption)
                obtain ⟨ad137, e137, hx137_0, hx137_1⟩ := at_T56 HR0.out x7_1 p137 q137
                cases e137
                replace hx137_0 := (HB.out.cell (World.block_lt_of_cell? w _ hx137_0)).trans hx137_0
                replace hx137_1 := (HB.out.cell (World.block_lt_of_cell? w _ hx137_1)).trans hx137_1
                replace p137 := eq_true p137
                replace q137 := eq_true q137
                have p138 : 0 ≤ (x7_1 : Int) := of_decide_eq_true (by first | (with_reducible assumption) | assumption)
                have q138 : x7_1 < (l0.length : Int) := of_decide_eq_true (by first | (with_reducible assumption) | assumption)
                obtain ⟨ad138, e138, hx138_0, hx138_1⟩ := at_T56 HR0.out x7_1 p138 q138
                obtain rfl : ad137 = ad138 := (by injection e138)
                replace hx138_0 := (HB.out.cell (World.block_lt_of_cell? w _ hx138_0)).trans hx138_0
                replace hx138_1 := (HB.out.cell (World.block_lt_of_cell? w _ hx138_1)).trans hx138_1
                replace p138 := eq_true p138
                replace q138 := eq_true q138
                go_upto_block 2 with (fail)
                go_cut [4, 5] (fun v4 v5 wc => ∃ (kq : Nat) (x4_13 : Int) (x5_13 : List Int) (x135000_13 : Int) (x135001_13 : Int) (x135002_13 : Int) (x135003_13 : Int) (x135004_13 : Int) (x135005_13 : Int) (x136000_13 : Int) (x136001_13 : Int) (x136002_13 : Int) (x136003_13 : Int) (x136004_13 : Int) (x136005_13 : Int), v4 = .int .i64 x4_13 ∧ Aside0 (cubbyholelaw39_StatCounts.j2 kq l0 x4_13 x5_13 x7_1 x135000_13 x135001_13 x135002_13 x135003_13 x135004_13 x135005_13 x136000_13 x136001_13 x136002_13 x136003_13 x136004_13 x136005_13 = some r) ∧ Aside0 (kq ≤ kj8) ∧ Aside0 (Kd.Q (Kd.int .i64) 3 wc w.heap.size (fun _ => True) v5 x5_13) ∧ Aside0 (wc.heap[gb134]? = some (.cells #[.int .i64 x135000_13, .int .i64 x135001_13, .int .i64 x135002_13, .int .i64 x135003_13, .int .i64 x135004_13, .int .i64 x135005_13] 29 (0, 0))) ∧ Aside0 (wc.heap[gb135]? = some (.cells #[.int .i64 x136000_13, .int .i64 x136001_13, .int .i64 x136002_13, .int .i64 x136003_13, .int .i64 x136004_13, .int .i64 x136005_13] 29 (0, 0))) ∧ Aside0 (Below w.heap.size w wc))
                case first =>
                  have H := HC14.out
                  clear HC14
                  by_cases c15 : (Go.bits .and .i64 ((rd_T56 l0 x7_1).f0) 3) = 0
                  · rw [if_pos c15] at H
                    have c15b0 : ((Go.bits .and .i64 ((rd_T56 l0 x7_1).f0) 3) == 0) = true := beq_iff_eq.mpr c15
                    have c15b1 : ((Go.bits .and .i64 ((rd_T56 l0 x7_1).f0) 3) != 0) = false := bne_eq_false_iff_eq.mpr c15
                    clear c15
                    (first | rw [c15b0] | (simp only [i64_w, i32_w]; rw [c15b0]) | skip)
                    replace H := Option.bind_eq_some_iff.mp H
                    obtain ⟨⟨t139, t140, t141, t142, t143, t144⟩, A160, H⟩ := H
                    replace H : (if x5_1.length < 17592186044416 then (cubbyholelaw39_StatCounts.j2 kj8 l0 (wrap64 (x4_1 + (mx (wrap64 ((Go.bits .and .i64 ((rd_T56 l0 x7_1).f1) 65535) - 5)) 0))) (x5_1 ++ [mx (wrap64 ((Go.bits .and .i64 ((rd_T56 l0 x7_1).f1) 65535) - 5)) 0]) x7_1 t139 t140 t141 t142 t143 t144 (wrap64 (x136000_1 + 1)) x136001_1 x136002_1 (wrap64 (x4_1 + (mx (wrap64 ((Go.bits .and .i64 ((rd_T56 l0 x7_1).f1) 65535) - 5)) 0))) (mx x136004_1 (wrap64 (x4_1 + (mx (wrap64 ((Go.bits .and .i64 ((rd_T56 l0 x7_1).f1) 65535) - 5)) 0)))) x136005_1) else (none)) = some r := H
                    have A16 := Aside0.mk A160
                    clear A160
                    obtain ⟨ji17, hji17⟩ : ∃ j_ : Int, (mx (wrap64 ((Go.bits .and .i64 ((rd_T56 l0 x7_1).f1) 65535) - 5)) 0) = j_ := ⟨_, rfl⟩
                    replace H : (if x5_1.length < 17592186044416 then (cubbyholelaw39_StatCounts.j2 kj8 l0 (wrap64 (x4_1 + (ji17))) (x5_1 ++ [ji17]) x7_1 t139 t140 t141 t142 t143 t144 (wrap64 (x136000_1 + 1)) x136001_1 x136002_1 (wrap64 (x4_1 + (ji17))) (mx x136004_1 (wrap64 (x4_1 + (ji17)))) x136005_1) else (none)) = some r := by first | (rw [hji17] at H; exact H) | (simp only [hji17] at H ⊢; exact H)
                    (try rw [hji17] at A16)
                    have hji17_ : (if (wrap64 ((Go.bits .and .i64 ((rd_T56 l0 x7_1).f1) 65535) - 5)) < 0 then 0 else (wrap64 ((Go.bits .and .i64 ((rd_T56 l0 x7_1).f1) 65535) - 5))) = ji17 := (mxE _ _).trans hji17
                    by_cases c19 : x5_1.length < 17592186044416
                    · rw [if_pos c19] at H
                      have LMc19 := Aside0.mk c19
                      clear c19
                      obtain ⟨y145, hy145⟩ : ∃ y_ : List Int, y_ = (x5_1 ++ [ji17]) := ⟨_, rfl⟩
                      replace H : (cubbyholelaw39_StatCounts.j2 kj8 l0 (wrap64 (x4_1 + (ji17))) y145 x7_1 t139 t140 t141 t142 t143 t144 (wrap64 (x136000_1 + 1)) x136001_1 x136002_1 (wrap64 (x4_1 + (ji17))) (mx x136004_1 (wrap64 (x4_1 + (ji17)))) x136005_1) = some r := by first | (rw [hy145]; with_reducible exact H) | (have H2_ := (Option.bind_some _ _).symm.trans H; rw [hy145]; with_reducible exact H2_) | (have H2_ := (Option.bind_some _ _).symm.trans H; with_reducible exact H2_) | with_reducible exact H | (rw [hy145]; exact H) | exact H
                      have Ny145 := Aside0.mk hy145
                      clear hy145
                      obtain ⟨ji20, hji20⟩ : ∃ j_ : Int, (mx x136004_1 (wrap64 (x4_1 + (ji17)))) = j_ := ⟨_, rfl⟩
                      replace H : (cubbyholelaw39_StatCounts.j2 kj8 l0 (wrap64 (x4_1 + (ji17))) y145 x7_1 t139 t140 t141 t142 t143 t144 (wrap64 (x136000_1 + 1)) x136001_1 x136002_1 (wrap64 (x4_1 + (ji17))) ji20 x136005_1) = some r := by first | (rw [hji20] at H; exact H) | (simp only [hji20] at H ⊢; exact H)
                      (try rw [hji20] at A16)
                      have hji20_ : (if x136004_1 < (wrap64 (x4_1 + (ji17))) then (wrap64 (x4_1 + (ji17))) else x136004_1) = ji20 := (mxE _ _).trans hji20
                      have H' := Aside0.mk H
                      clear H
                      have hnb21 := NB134_135.out
                      have hnc21 := NB135_134.out
                      have hcz22_0 : wc.cell? ⟨gb134, 0, none⟩ = some (.int .i64 x135000_1) := (blk_cell BK134.out 0).trans rfl
                      have hcz22_1 : wc.cell? ⟨gb134, 1, none⟩ = some (.int .i64 x135001_1) := (blk_cell BK134.out 1).trans rfl
                      have hcz22_2 : wc.cell? ⟨gb134, 2, none⟩ = some (.int .i64 x135002_1) := (blk_cell BK134.out 2).trans rfl
                      have hcz22_3 : wc.cell? ⟨gb134, 3, none⟩ = some (.int .i64 x135003_1) := (blk_cell BK134.out 3).trans rfl
                      have hcz22_4 : wc.cell? ⟨gb134, 4, none⟩ = some (.int .i64 x135004_1) := (blk_cell BK134.out 4).trans rfl
                      have hcz22_5 : wc.cell? ⟨gb134, 5, none⟩ = some (.int .i64 x135005_1) := (blk_cell BK134.out 5).trans rfl
                      have hfz22_0 := blk_frozen BK134.out 0
                      have hfz22_1 := blk_frozen BK134.out 1
                      have hfz22_2 := blk_frozen BK134.out 2
                      have hfz22_3 := blk_frozen BK134.out 3
                      have hfz22_4 := blk_frozen BK134.out 4
                      have hfz22_5 := blk_frozen BK134.out 5
                      go_wp2_with (first | ((with_reducible refine gate_callee (f := 31) rfl ?_); refine goesL_ (some 48) rfl rfl Try.func31 (by kernel_rfl) rfl #[.agg #[.int .i64 x135000_1, .int .i64 x135001_1, .int .i64 x135002_1, .int .i64 x135003_1, .int .i64 x135004_1, .int .i64 x135005_1], .int .i64 (wrap64 ((Go.bits .and .i64 ((rd_T56 l0 x7_1).f1) 65535) - 5))] rfl (by (try simp only [List.map_toArray, List.map_cons, List.map_nil]); first | done | rfl | (simp only [List.length_drop, List.length_take]; rfl)) ?_; (with_reducible refine (stat_Get.calls x135000_1 x135001_1 x135002_1 x135003_1 x135004_1 x135005_1 (wrap64 ((Go.bits .and .i64 ((rd_T56 l0 x7_1).f1) 65535) - 5)) t139 t140 t141 t142 t143 t144 _ A16.out).mono ?_); rintro e w23 ⟨rfl, hb⟩; refine ⟨_, rfl, ?_⟩; have n0_ := Aside0.mk (Kd.Q_below (by (with_reducible repeat (first | apply Kd.Q_alloc | apply Kd.Q_drewN | apply Kd.Q_drew)); exact HO_5.out) hb); have n1_ := Aside0.mk (blk_below (g := gb134) (o := .cells #[.int .i64 x135000_1, .int .i64 x135001_1, .int .i64 x135002_1, .int .i64 x135003_1, .int .i64 x135004_1, .int .i64 x135005_1] 29 (0, 0)) (by (with_reducible repeat (first | refine blk_drewN ?_ _ | refine blk_drew ?_ | refine blk_alloc ?_ _)); exact BK134.out) hb); have n2_ := Aside0.mk (blk_below (g := gb135) (o := .cells #[.int .i64 x136000_1, .int .i64 x136001_1, .int .i64 x136002_1, .int .i64 x136003_1, .int .i64 x136004_1, .int .i64 x136005_1] 29 (0, 0)) (by (with_reducible repeat (first | refine blk_drewN ?_ _ | refine blk_drew ?_ | refine blk_alloc ?_ _)); exact BK135.out) hb); have n3_ := Aside0.mk (below_step (by repeat (first | (with_reducible first | exact HB.out | apply below_alloc | apply pw_below_drewN | apply below_drew1 | refine below_set ?_ GE134.out | refine below_set ?_ GE135.out) | exact HB.out)) hb); clear HO_5; clear BK134; clear BK135; clear HB; have HO_5 := n0_; have BK134 := n1_; have BK135 := n2_; have HB := n3_; clear n0_ n1_ n2_ n3_; (try clear hb); (try clear hb2); (try clear hk); (try clear hi); have hcz24_0 : w23.cell? ⟨gb134, 0, none⟩ = some (.int .i64 x135000_1) := (blk_cell BK134.out 0).trans rfl; have hcz24_1 : w23.cell? ⟨gb134, 1, none⟩ = some (.int .i64 x135001_1) := (blk_cell BK134.out 1).trans rfl; have hcz24_2 : w23.cell? ⟨gb134, 2, none⟩ = some (.int .i64 x135002_1) := (blk_cell BK134.out 2).trans rfl; have hcz24_3 : w23.cell? ⟨gb134, 3, none⟩ = some (.int .i64 x135003_1) := (blk_cell BK134.out 3).trans rfl; have hcz24_4 : w23.cell? ⟨gb134, 4, none⟩ = some (.int .i64 x135004_1) := (blk_cell BK134.out 4).trans rfl; have hcz24_5 : w23.cell? ⟨gb134, 5, none⟩ = some (.int .i64 x135005_1) := (blk_cell BK134.out 5).trans rfl; have hfz24_0 := blk_frozen BK134.out 0; have hfz24_1 := blk_frozen BK134.out 1; have hfz24_2 := blk_frozen BK134.out 2; have hfz24_3 := blk_frozen BK134.out 3; have hfz24_4 := blk_frozen BK134.out 4; have hfz24_5 := blk_frozen BK134.out 5) | ((with_reducible refine gate_builtin (b := .append) (xs := #[.tmp 53, .tmp 56]) rfl ?_); (try (refine gate_guard (by rfl) ?_; dsimp only)); at_builtin; refine Kd.Q_append (Kd.int .i64) (w0 := w) w.heap.size rfl (.tmp 53) (.tmp 56) 30 3 (.int .i64 0) 8 rfl Try.underlying30 info3 rfl (by decide) (by omega) u5 x5_1 ji17 [.int .i64 ji17] (fun _ => True) (fun _ => False) rfl (by first | (go_simp; done) | (go_simp; rfl)) ?aP (fun _ hk => hk.elim) ?aF ?aO ?aB ?aS ?aL ?_; (case aP => exact rfl); (case aB => exact (by repeat (first | (with_reducible first | exact HB.out | apply below_alloc | apply pw_below_drewN | apply below_drew1 | refine below_set ?_ GE134.out | refine below_set ?_ GE135.out) | exact HB.out))); (case aF => exact (fun _ _ => trivial)); (case aO => exact (by (with_reducible repeat (first | apply Kd.Q_alloc | apply Kd.Q_drewN | apply Kd.Q_drew)); exact Kd.Q_mono (Kd.Q_far (p := ⟨gb134, 5, none⟩) (Kd.Q_far (p := ⟨gb134, 4, none⟩) (Kd.Q_far (p := ⟨gb134, 3, none⟩) (Kd.Q_far (p := ⟨gb134, 2, none⟩) (Kd.Q_far (p := ⟨gb134, 1, none⟩) (Kd.Q_far (p := ⟨gb134, 0, none⟩) (Kd.Q_types HO_5.out BK134.out (by decide)) (fun _ hk => hk.2) (.int .i64 t139)) (fun _ hk => hk.2) (.int .i64 t140)) (fun _ hk => hk.2) (.int .i64 t141)) (fun _ hk => hk.2) (.int .i64 t142)) (fun _ hk => hk.2) (.int .i64 t143)) (fun _ hk => hk.2) (.int .i64 t144)) (fun _ hk => trivial))); (case aS => exact (below_size (by repeat (first | (with_reducible first | exact HB.out | apply below_alloc | apply pw_below_drewN | apply below_drew1 | refine below_set ?_ GE134.out | refine below_set ?_ GE135.out) | exact HB.out)))); (case aL => have := LMc19.out; omega); intro v146 w25 ho hb hg hat; rw [← Ny145.out] at ho; have n0_ := Aside0.mk (blk_grown (g := gb134) (o := .cells #[.int .i64 t139, .int .i64 t140, .int .i64 t141, .int .i64 t142, .int .i64 t143, .int .i64 t144] 29 (0, 0)) (by (with_reducible repeat (first | refine blk_drewN ?_ _ | refine blk_drew ?_ | refine blk_alloc ?_ _)); refine blk_put (cs := #[.int .i64 t139, .int .i64 t140, .int .i64 t141, .int .i64 t142, .int .i64 t143, .int .i64 x135005_1]) ?_ 5 _ rfl; (with_reducible repeat (first | refine blk_drewN ?_ _ | refine blk_drew ?_ | refine blk_alloc ?_ _)); refine blk_put (cs := #[.int .i64 t139, .int .i64 t140, .int .i64 t141, .int .i64 t142, .int .i64 x135004_1, .int .i64 x135005_1]) ?_ 4 _ rfl; (with_reducible repeat (first | refine blk_drewN ?_ _ | refine blk_drew ?_ | refine blk_alloc ?_ _)); refine blk_put (cs := #[.int .i64 t139, .int .i64 t140, .int .i64 t141, .int .i64 x135003_1, .int .i64 x135004_1, .int .i64 x135005_1]) ?_ 3 _ rfl; (with_reducible repeat (first | refine blk_drewN ?_ _ | refine blk_drew ?_ | refine blk_alloc ?_ _)); refine blk_put (cs := #[.int .i64 t139, .int .i64 t140, .int .i64 x135002_1, .int .i64 x135003_1, .int .i64 x135004_1, .int .i64 x135005_1]) ?_ 2 _ rfl; (with_reducible repeat (first | refine blk_drewN ?_ _ | refine blk_drew ?_ | refine blk_alloc ?_ _)); refine blk_put (cs := #[.int .i64 t139, .int .i64 x135001_1, .int .i64 x135002_1, .int .i64 x135003_1, .int .i64 x135004_1, .int .i64 x135005_1]) ?_ 1 _ rfl; (with_reducible repeat (first | refine blk_drewN ?_ _ | refine blk_drew ?_ | refine blk_alloc ?_ _)); refine blk_put (cs := #[.int .i64 x135000_1, .int .i64 x135001_1, .int .i64 x135002_1, .int .i64 x135003_1, .int .i64 x135004_1, .int .i64 x135005_1]) ?_ 0 _ rfl; (with_reducible repeat (first | refine blk_drewN ?_ _ | refine blk_drew ?_ | refine blk_alloc ?_ _)); exact BK134.out) hg (Kd.Q_ne HO_5.out BK134.out (by decide))); have n1_ := Aside0.mk (blk_grown (g := gb135) (o := .cells #[.int .i64 x136000_1, .int .i64 x136001_1, .int .i64 x136002_1, .int .i64 x136003_1, .int .i64 x136004_1, .int .i64 x136005_1] 29 (0, 0)) (by (with_reducible repeat (first | refine blk_drewN ?_ _ | refine blk_drew ?_ | refine blk_alloc ?_ _)); refine blk_far ?_ NB135_134.out _; (with_reducible repeat (first | refine blk_drewN ?_ _ | refine blk_drew ?_ | refine blk_alloc ?_ _)); refine blk_far ?_ NB135_134.out _; (with_reducible repeat (first | refine blk_drewN ?_ _ | refine blk_drew ?_ | refine blk_alloc ?_ _)); refine blk_far ?_ NB135_134.out _; (with_reducible repeat (first | refine blk_drewN ?_ _ | refine blk_drew ?_ | refine blk_alloc ?_ _)); refine blk_far ?_ NB135_134.out _; (with_reducible repeat (first | refine blk_drewN ?_ _ | refine blk_drew ?_ | refine blk_alloc ?_ _)); refine blk_far ?_ NB135_134.out _; (with_reducible repeat (first | refine blk_drewN ?_ _ | refine blk_drew ?_ | refine blk_alloc ?_ _)); refine blk_far ?_ NB135_134.out _; (with_reducible repeat (first | refine blk_drewN ?_ _ | refine blk_drew ?_ | refine blk_alloc ?_ _)); exact BK135.out) hg (Kd.Q_ne HO_5.out BK135.out (by decide))); have n2_ := Aside0.mk (hb); have n3_ := Aside0.mk (ho); clear BK134; clear BK135; clear HB; clear HO_5; have BK134 := n0_; have BK135 := n1_; have HB := n2_; have HO147 := n3_; clear n0_ n1_ n2_ n3_; clear ho hb hg hat; have hcz26_0 : w25.cell? ⟨gb135, 0, none⟩ = some (.int .i64 x136000_1) := (blk_cell BK135.out 0).trans rfl; have hcz26_1 : w25.cell? ⟨gb135, 1, none⟩ = some (.int .i64 x136001_1) := (blk_cell BK135.out 1).trans rfl; have hcz26_2 : w25.cell? ⟨gb135, 2, none⟩ = some (.int .i64 x136002_1) := (blk_cell BK135.out 2).trans rfl; have hcz26_3 : w25.cell? ⟨gb135, 3, none⟩ = some (.int .i64 x136003_1) := (blk_cell BK135.out 3).trans rfl; have hcz26_4 : w25.cell? ⟨gb135, 4, none⟩ = some (.int .i64 x136004_1) := (blk_cell BK135.out 4).trans rfl; have hcz26_5 : w25.cell? ⟨gb135, 5, none⟩ = some (.int .i64 x136005_1) := (blk_cell BK135.out 5).trans rfl; have hfz26_0 := blk_frozen BK135.out 0; have hfz26_1 := blk_frozen BK135.out 1; have hfz26_2 := blk_frozen BK135.out 2; have hfz26_3 := blk_frozen BK135.out 3; have hfz26_4 := blk_frozen BK135.out 4; have hfz26_5 := blk_frozen BK135.out 5))
                      go_meet
                      case rel => exact ⟨_, (wrap64 (x4_1 + (ji17))), (y145), (t139), (t140), (t141), (t142), (t143), (t144), (wrap64 (x136000_1 + 1)), (x136001_1), (x136002_1), (wrap64 (x4_1 + (ji17))), (ji20), (x136005_1), (by first | rfl | (simp; done) | (simp only [← hji17] <;> (first | rfl | simp)) | (simp [*]; done)), H', ⟨by have := HK1.out; have := HJ8.out; first | omega | exact Nat.le_refl _⟩, ⟨by (with_reducible repeat (first | apply Kd.Q_alloc | apply Kd.Q_drewN | apply Kd.Q_drew)); exact Kd.Q_mono (Kd.Q_far (p := ⟨gb135, 4, none⟩) (Kd.Q_far (p := ⟨gb135, 3, none⟩) (Kd.Q_far (p := ⟨gb135, 0, none⟩) (Kd.Q_types HO147.out BK135.out (by decide)) (fun _ hk => hk.2) (.int .i64 (wrap64 (x136000_1 + 1)))) (fun _ hk => hk.2) (.int .i64 (wrap64 (x4_1 + (ji17))))) (fun _ hk => hk.2) (.int .i64 ji20)) (fun _ hk => trivial)⟩, ⟨by (with_reducible repeat (first | refine blk_drewN ?_ _ | refine blk_drew ?_ | refine blk_alloc ?_ _)); refine blk_far ?_ NB134_135.out _; (with_reducible repeat (first | refine blk_drewN ?_ _ | refine blk_drew ?_ | refine blk_alloc ?_ _)); refine blk_far ?_ NB134_135.out _; (with_reducible repeat (first | refine blk_drewN ?_ _ | refine blk_drew ?_ | refine blk_alloc ?_ _)); refine blk_far ?_ NB134_135.out _; (with_reducible repeat (first | refine blk_drewN ?_ _ | refine blk_drew ?_ | refine blk_alloc ?_ _)); exact BK134.out⟩, ⟨by (with_reducible repeat (first | refine blk_drewN ?_ _ | refine blk_drew ?_ | refine blk_alloc ?_ _)); refine blk_put (cs := #[.int .i64 (wrap64 (x136000_1 + 1)), .int .i64 x136001_1, .int .i64 x136002_1, .int .i64 (wrap64 (x4_1 + (ji17))), .int .i64 x136004_1, .int .i64 x136005_1]) ?_ 4 _ rfl; (with_reducible repeat (first | refine blk_drewN ?_ _ | refine blk_drew ?_ | refine blk_alloc ?_ _)); refine blk_put (cs := #[.int .i64 (wrap64 (x136000_1 + 1)), .int .i64 x136001_1, .int .i64 x136002_1, .int .i64 x136003_1, .int .i64 x136004_1, .int .i64 x136005_1]) ?_ 3 _ rfl; (with_reducible repeat (first | refine blk_drewN ?_ _ | refine blk_drew ?_ | refine blk_alloc ?_ _)); refine blk_put (cs := #[.int .i64 x136000_1, .int .i64 x136001_1, .int .i64 x136002_1, .int .i64 x136003_1, .int .i64 x136004_1, .int .i64 x136005_1]) ?_ 0 _ rfl; (with_reducible repeat (first | refine blk_drewN ?_ _ | refine blk_drew ?_ | refine blk_alloc ?_ _)); exact BK135.out⟩, ⟨by repeat (first | (with_reducible first | exact HB.out | apply below_alloc | apply pw_below_drewN | apply below_drew1 | refine below_set ?_ GE134.out | refine below_set ?_ GE135.out) | exact HB.out)⟩⟩
                    · rw [if_neg c19] at H
                      exact absurd H (by simp)
                  · rw [if_neg c15] at H
                    have c15b0 : ((Go.bits .and .i64 ((rd_T56 l0 x7_1).f0) 3) == 0) = false := beq_eq_false_iff_ne.mpr c15
                    have c15b1 : ((Go.bits .and .i64 ((rd_T56 l0 x7_1).f0) 3) != 0) = true := bne_iff_ne.mpr c15
                    (first | rw [c15b0] | (simp only [i64_w, i32_w]; rw [c15b0]) | skip)
                    by_cases c27 : (Go.bits .and .i64 ((rd_T56 l0 x7_1).f0) 3) = 1
                    · rw [if_pos c27] at H
                      have c27b0 : ((Go.bits .and .i64 ((rd_T56 l0 x7_1).f0) 3) == 1) = true := beq_iff_eq.mpr c27
                      have c27b1 : ((Go.bits .and .i64 ((rd_T56 l0 x7_1).f0) 3) != 1) = false := bne_eq_false_iff_eq.mpr c27
                      clear c27
                      by_cases c28 : (x5_1.length : Int) > 0
                      · rw [if_pos c28] at H
                        have c28b0 : decide (0 < (x5_1.length : Int)) = true := decide_eq_true c28
                        have c28b1 : decide (0 < x5_1.length) = true := decide_eq_true (by omega)
                        clear c28
                        by_cases c29 : 0 < (x5_1.length : Int)
                        · rw [if_pos c29] at H
                          have c29b0 : decide (0 < (x5_1.length : Int)) = true := decide_eq_true c29
                          have c29b1 : decide (0 < x5_1.length) = true := decide_eq_true (by omega)
                          clear c29
                          replace H := Option.bind_eq_some_iff.mp H
                          obtain ⟨⟨t149, t150, t151, t152, t153, t154⟩, A300, H⟩ := H
                          replace H : (if 1 ≤ (x5_1.length : Int) then (cubbyholelaw39_StatCounts.j2 kj8 l0 (wrap64 (x4_1 - (rd x5_1 0))) (x5_1.drop (1 : Int).toNat) x7_1 t149 t150 t151 t152 t153 t154 x136000_1 (wrap64 (x136001_1 + 1)) x136002_1 (wrap64 (x4_1 - (rd x5_1 0))) x136004_1 x136005_1) else (none)) = some r := H
                          have A30 := Aside0.mk A300
                          clear A300
                          by_cases c31 : 1 ≤ (x5_1.length : Int)
                          · rw [if_pos c31] at H
                            have c31b0 := eq_true c31
                            have c31b1 : decide (1 ≤ (x5_1.length : Int)) = true := decide_eq_true c31
                            clear c31
                            obtain ⟨y156, hy156⟩ : ∃ y_ : List Int, y_ = (x5_1.drop (1 : Int).toNat) := ⟨_, rfl⟩
                            replace H : (cubbyholelaw39_StatCounts.j2 kj8 l0 (wrap64 (x4_1 - (rd x5_1 0))) y156 x7_1 t149 t150 t151 t152 t153 t154 x136000_1 (wrap64 (x136001_1 + 1)) x136002_1 (wrap64 (x4_1 - (rd x5_1 0))) x136004_1 x136005_1) = some r := by first | (rw [hy156]; with_reducible exact H) | (have H2_ := (Option.bind_some _ _).symm.trans H; rw [hy156]; with_reducible exact H2_) | (have H2_ := (Option.bind_some _ _).symm.trans H; with_reducible exact H2_) | with_reducible exact H | (rw [hy156]; exact H) | exact H
                            have Ny156 := Aside0.mk hy156
                            clear hy156
                            have H' := Aside0.mk H
                            clear H
                            obtain ⟨Ao32, co32, eo32, _⟩ := Kd.Q_slice HO_5.out
                            subst eo32
                            try go_wp2
                            have n0_ := Aside0.mk (Kd.Q_drew HO_5.out)
                            have n1_ := Aside0.mk (blk_drew BK134.out)
                            have n2_ := Aside0.mk (blk_drew BK135.out)
                            have n3_ := Aside0.mk (below_drew1 HB.out)
                            clear HO_5
                            clear BK134
                            clear BK135
                            clear HB
                            have HO_5 := n0_
                            have BK134 := n1_
                            have BK135 := n2_
                            have HB := n3_
                            clear n0_ n1_ n2_ n3_
                            have p148 : 0 ≤ (0 : Int) := (by omega)
                            have q148 : 0 < (x5_1.length : Int) := of_decide_eq_true (by first | (with_reducible assumption) | assumption)
                            obtain ⟨ad148, e148, hx148_0⟩ := Kd.at_int (Kd.Q_reads' HO_5.out).2.2 0 p148 q148
                            cases e148
                            have qi148 : (0 < x5_1.length) = True := eq_true (by omega)
                            (try rw [show ((0 : Int)).toNat = 0 from rfl] at hx148_0)
                            (try rw [Addr.add_zero'] at hx148_0)
                            replace p148 := eq_true p148
                            replace q148 := eq_true q148
                            refine start_ (n := 6) (S := fun w' => w'.cell? ⟨gb134, 0, none⟩ = some (.int .i64 x135000_1) ∧ w'.cell? ⟨gb134, 1, none⟩ = some (.int .i64 x135001_1) ∧ w'.cell? ⟨gb134, 2, none⟩ = some (.int .i64 x135002_1) ∧ w'.cell? ⟨gb134, 3, none⟩ = some (.int .i64 x135003_1) ∧ w'.cell? ⟨gb134, 4, none⟩ = some (.int .i64 x135004_1) ∧ w'.cell? ⟨gb134, 5, none⟩ = some (.int .i64 x135005_1) ∧ w'.cell? ad148 = some (.int .i64 (rd x5_1 0))) (ds := [5]) #[false, false, false, false, false, false] (by kernel_rfl) rfl rfl ⟨(blk_cell BK134.out 0).trans rfl, (blk_cell BK134.out 1).trans rfl, (blk_cell BK134.out 2).trans rfl, (blk_cell BK134.out 3).trans rfl, (blk_cell BK134.out 4).trans rfl, (blk_cell BK134.out 5).trans rfl, hx148_0⟩ (fun hHeld => ?_)
                            generalize wc.drew = w33 at HO_5 BK134 BK135 HB hx148_0 hHeld ⊢
                            refine pure_ (i := 1) (N := some 75) (v := ?_) (a' := ?_) #[false, true, false, false, false, false] rfl rfl (by kernel_rfl) (fun _ _ _ h => h) (Or.inl ⟨by rfl, ?_⟩) ?_ ?_
                            rotate_left
                            · intro w'
                              go_simp
                              with_reducible rfl
                            rotate_left
                            · simp only [Act.put, List.setIfInBounds_toArray, List.set_cons_zero, List.set_cons_succ, i64_w, i32_w]
                              rfl
                            refine pure_ (i := 2) (N := some 76) (v := ?_) (a' := ?_) #[false, true, true, false, false, false] rfl rfl (by kernel_rfl) (fun _ _ _ h => h) (Or.inl ⟨by rfl, ?_⟩) ?_ ?_
                            rotate_left
                            · intro w'
                              go_simp
                              with_reducible rfl
                            rotate_left
                            · simp only [Act.put, List.setIfInBounds_toArray, List.set_cons_zero, List.set_cons_succ, i64_w, i32_w]
                              rfl
                            refine take_ (i := 0) (N := some 74) (v := ?_) (a' := ?_) #[true, true, true, false, false, false] rfl rfl (by kernel_rfl) (fun _ _ _ h => h) (Or.inl ⟨by rfl, ?_⟩) hHeld ?_ ?_
                            rotate_left
                            · rintro w' ⟨s0, s1, s2, s3, s4, s5, s6⟩
                              go_simp
                              with_reducible rfl
                            rotate_left
                            · simp only [Act.put, List.setIfInBounds_toArray, List.set_cons_zero, List.set_cons_succ, i64_w, i32_w]
                              rfl
                            refine take_ (i := 3) (N := some 77) (v := ?_) (a' := ?_) #[true, true, true, true, false, false] rfl rfl (by kernel_rfl) (fun _ _ _ h => h) (Or.inl ⟨by rfl, ?_⟩) hHeld ?_ ?_
                            rotate_left
                            · rintro w' ⟨s0, s1, s2, s3, s4, s5, s6⟩
                              go_simp
                              with_reducible rfl
                            rotate_left
                            · simp only [Act.put, List.setIfInBounds_toArray, List.set_cons_zero, List.set_cons_succ, i64_w, i32_w]
                              rfl
                            refine one_ (i := 4) (N := some 78) #[true, true, true, true, true, false] rfl rfl (by kernel_rfl) (by decide) (fun K hK => ?_)
                            refine goes_ Try.func32 (by kernel_rfl) rfl #[.agg #[.int .i64 x135000_1, .int .i64 x135001_1, .int .i64 x135002_1, .int .i64 x135003_1, .int .i64 x135004_1, .int .i64 x135005_1], .int .i64 (rd x5_1 0)] (by rfl) rfl rfl (by (try simp only [List.map_toArray, List.map_cons, List.map_nil]); first | done | rfl | (simp only [List.length_drop, List.length_take]; rfl)) ?_
                            with_reducible refine (stat_Give.calls x135000_1 x135001_1 x135002_1 x135003_1 x135004_1 x135005_1 (rd x5_1 0) t149 t150 t151 t152 t153 t154 _ A30.out).mono ?_
                            rintro e w34 ⟨rfl, hb⟩
                            have HS6_ := (hb.cell (World.block_lt_of_cell? _ _ (hHeld.2.2.2.2.2.2))).trans (hHeld.2.2.2.2.2.2)
                            refine ⟨_, rfl, ?_⟩
                            have n0_ := Aside0.mk (Kd.Q_below (by (with_reducible repeat (first | apply Kd.Q_alloc | apply Kd.Q_drewN | apply Kd.Q_drew)); exact HO_5.out) hb)
                            have n1_ := Aside0.mk (blk_below (g := gb134) (o := .cells #[.int .i64 x135000_1, .int .i64 x135001_1, .int .i64 x135002_1, .int .i64 x135003_1, .int .i64 x135004_1, .int .i64 x135005_1] 29 (0, 0)) (by (with_reducible repeat (first | refine blk_drewN ?_ _ | refine blk_drew ?_ | refine blk_alloc ?_ _)); exact BK134.out) hb)
                            have n2_ := Aside0.mk (blk_below (g := gb135) (o := .cells #[.int .i64 x136000_1, .int .i64 x136001_1, .int .i64 x136002_1, .int .i64 x136003_1, .int .i64 x136004_1, .int .i64 x136005_1] 29 (0, 0)) (by (with_reducible repeat (first | refine blk_drewN ?_ _ | refine blk_drew ?_ | refine blk_alloc ?_ _)); exact BK135.out) hb)
                            have n3_ := Aside0.mk (below_step (by repeat (first | (with_reducible first | exact HB.out | apply below_alloc | apply pw_below_drewN | apply below_drew1 | refine below_set ?_ GE134.out | refine below_set ?_ GE135.out) | exact HB.out)) hb)
                            clear HO_5
                            clear BK134
                            clear BK135
                            clear HB
                            have HO_5 := n0_
                            have BK134 := n1_
                            have BK135 := n2_
                            have HB := n3_
                            clear n0_ n1_ n2_ n3_
                            (try clear hb)
                            (try clear hb2)
                            (try clear hk)
                            (try clear hi)
                            refine hK.out _ _ ⟨(blk_cell BK134.out 0).trans rfl, (blk_cell BK134.out 1).trans rfl, (blk_cell BK134.out 2).trans rfl, (blk_cell BK134.out 3).trans rfl, (blk_cell BK134.out 4).trans rfl, (blk_cell BK134.out 5).trans rfl, HS6_⟩ (fun hHeld => ?_)
                            clear hK K
                            refine norm_ (a' := ?_) ?_ ?_
                            rotate_left
                            · show Act.put _ (some 78) _ = _
                              simp only [Act.put, List.setIfInBounds_toArray, List.set_cons_zero, List.set_cons_succ, i64_w, i32_w]
                              rfl
                            refine last_ (i := 5) (N := none) #[true, true, true, true, true, true] rfl rfl (by kernel_rfl) (by decide) (fun K hK => ?_)
                            have hs35 : w34.cell? ⟨gb134, 0, none⟩ = some (.int .i64 x135000_1) := (blk_cell BK134.out 0).trans rfl
                            have hfs35 := blk_frozen BK134.out 0
                            have hns35_1 := NB135_134.out
                            have hms35_1 := NB134_135.out
                            have hs36 : w34.cell? ⟨gb134, 1, none⟩ = some (.int .i64 x135001_1) := (blk_cell BK134.out 1).trans rfl
                            have hfs36 := blk_frozen BK134.out 1
                            have hns36_1 := NB135_134.out
                            have hms36_1 := NB134_135.out
                            have hs37 : w34.cell? ⟨gb134, 2, none⟩ = some (.int .i64 x135002_1) := (blk_cell BK134.out 2).trans rfl
                            have hfs37 := blk_frozen BK134.out 2
                            have hns37_1 := NB135_134.out
                            have hms37_1 := NB134_135.out
                            have hs38 : w34.cell? ⟨gb134, 3, none⟩ = some (.int .i64 x135003_1) := (blk_cell BK134.out 3).trans rfl
                            have hfs38 := blk_frozen BK134.out 3
                            have hns38_1 := NB135_134.out
                            have hms38_1 := NB134_135.out
                            have hs39 : w34.cell? ⟨gb134, 4, none⟩ = some (.int .i64 x135004_1) := (blk_cell BK134.out 4).trans rfl
                            have hfs39 := blk_frozen BK134.out 4
                            have hns39_1 := NB135_134.out
                            have hms39_1 := NB134_135.out
                            have hs40 : w34.cell? ⟨gb134, 5, none⟩ = some (.int .i64 x135005_1) := (blk_cell BK134.out 5).trans rfl
                            have hfs40 := blk_frozen BK134.out 5
                            have hns40_1 := NB135_134.out
                            have hms40_1 := NB134_135.out
                            refine skip_ (w1 := ?_) (by rfl) rfl ?_ ?_
                            rotate_left
                            · go_simp
                              rfl
                            refine hK.out _ _ ?_
                            clear hK K
                            refine done_ (by kernel_rfl) ?_
                            have n0_ : Aside0 (Kd.Q (Kd.int .i64) 3 ((((((w34.setCell ⟨gb134, 0, none⟩ (.int .i64 t149)).setCell ⟨gb134, 1, none⟩ (.int .i64 t150)).setCell ⟨gb134, 2, none⟩ (.int .i64 t151)).setCell ⟨gb134, 3, none⟩ (.int .i64 t152)).setCell ⟨gb134, 4, none⟩ (.int .i64 t153)).setCell ⟨gb134, 5, none⟩ (.int .i64 t154)) w.heap.size (fun _ => True) (.slice (some ad148) x5_1.length co32) x5_1) := ⟨by (with_reducible repeat (first | apply Kd.Q_alloc | apply Kd.Q_drewN | apply Kd.Q_drew)); exact Kd.Q_mono (Kd.Q_far (p := ⟨gb134, 5, none⟩) (Kd.Q_far (p := ⟨gb134, 4, none⟩) (Kd.Q_far (p := ⟨gb134, 3, none⟩) (Kd.Q_far (p := ⟨gb134, 2, none⟩) (Kd.Q_far (p := ⟨gb134, 1, none⟩) (Kd.Q_far (p := ⟨gb134, 0, none⟩) (Kd.Q_types HO_5.out BK134.out (by decide)) (fun _ hk => hk.2) (.int .i64 t149)) (fun _ hk => hk.2) (.int .i64 t150)) (fun _ hk => hk.2) (.int .i64 t151)) (fun _ hk => hk.2) (.int .i64 t152)) (fun _ hk => hk.2) (.int .i64 t153)) (fun _ hk => hk.2) (.int .i64 t154)) (fun _ hk => trivial)⟩
                            have n1_ : Aside0 (((((((w34.setCell ⟨gb134, 0, none⟩ (.int .i64 t149)).setCell ⟨gb134, 1, none⟩ (.int .i64 t150)).setCell ⟨gb134, 2, none⟩ (.int .i64 t151)).setCell ⟨gb134, 3, none⟩ (.int .i64 t152)).setCell ⟨gb134, 4, none⟩ (.int .i64 t153)).setCell ⟨gb134, 5, none⟩ (.int .i64 t154)).heap[gb134]? = some (.cells #[.int .i64 t149, .int .i64 t150, .int .i64 t151, .int .i64 t152, .int .i64 t153, .int .i64 t154] 29 (0, 0))) := ⟨by (with_reducible repeat (first | refine blk_drewN ?_ _ | refine blk_drew ?_ | refine blk_alloc ?_ _)); refine blk_put (cs := #[.int .i64 t149, .int .i64 t150, .int .i64 t151, .int .i64 t152, .int .i64 t153, .int .i64 x135005_1]) ?_ 5 _ rfl; (with_reducible repeat (first | refine blk_drewN ?_ _ | refine blk_drew ?_ | refine blk_alloc ?_ _)); refine blk_put (cs := #[.int .i64 t149, .int .i64 t150, .int .i64 t151, .int .i64 t152, .int .i64 x135004_1, .int .i64 x135005_1]) ?_ 4 _ rfl; (with_reducible repeat (first | refine blk_drewN ?_ _ | refine blk_drew ?_ | refine blk_alloc ?_ _)); refine blk_put (cs := #[.int .i64 t149, .int .i64 t150, .int .i64 t151, .int .i64 x135003_1, .int .i64 x135004_1, .int .i64 x135005_1]) ?_ 3 _ rfl; (with_reducible repeat (first | refine blk_drewN ?_ _ | refine blk_drew ?_ | refine blk_alloc ?_ _)); refine blk_put (cs := #[.int .i64 t149, .int .i64 t150, .int .i64 x135002_1, .int .i64 x135003_1, .int .i64 x135004_1, .int .i64 x135005_1]) ?_ 2 _ rfl; (with_reducible repeat (first | refine blk_drewN ?_ _ | refine blk_drew ?_ | refine blk_alloc ?_ _)); refine blk_put (cs := #[.int .i64 t149, .int .i64 x135001_1, .int .i64 x135002_1, .int .i64 x135003_1, .int .i64 x135004_1, .int .i64 x135005_1]) ?_ 1 _ rfl; (with_reducible repeat (first | refine blk_drewN ?_ _ | refine blk_drew ?_ | refine blk_alloc ?_ _)); refine blk_put (cs := #[.int .i64 x135000_1, .int .i64 x135001_1, .int .i64 x135002_1, .int .i64 x135003_1, .int .i64 x135004_1, .int .i64 x135005_1]) ?_ 0 _ rfl; (with_reducible repeat (first | refine blk_drewN ?_ _ | refine blk_drew ?_ | refine blk_alloc ?_ _)); exact BK134.out⟩
                            have n2_ : Aside0 (((((((w34.setCell ⟨gb134, 0, none⟩ (.int .i64 t149)).setCell ⟨gb134, 1, none⟩ (.int .i64 t150)).setCell ⟨gb134, 2, none⟩ (.int .i64 t151)).setCell ⟨gb134, 3, none⟩ (.int .i64 t152)).setCell ⟨gb134, 4, none⟩ (.int .i64 t153)).setCell ⟨gb134, 5, none⟩ (.int .i64 t154)).heap[gb135]? = some (.cells #[.int .i64 x136000_1, .int .i64 x136001_1, .int .i64 x136002_1, .int .i64 x136003_1, .int .i64 x136004_1, .int .i64 x136005_1] 29 (0, 0))) := ⟨by (with_reducible repeat (first | refine blk_drewN ?_ _ | refine blk_drew ?_ | refine blk_alloc ?_ _)); refine blk_far ?_ NB135_134.out _; (with_reducible repeat (first | refine blk_drewN ?_ _ | refine blk_drew ?_ | refine blk_alloc ?_ _)); refine blk_far ?_ NB135_134.out _; (with_reducible repeat (first | refine blk_drewN ?_ _ | refine blk_drew ?_ | refine blk_alloc ?_ _)); refine blk_far ?_ NB135_134.out _; (with_reducible repeat (first | refine blk_drewN ?_ _ | refine blk_drew ?_ | refine blk_alloc ?_ _)); refine blk_far ?_ NB135_134.out _; (with_reducible repeat (first | refine blk_drewN ?_ _ | refine blk_drew ?_ | refine blk_alloc ?_ _)); refine blk_far ?_ NB135_134.out _; (with_reducible repeat (first | refine blk_drewN ?_ _ | refine blk_drew ?_ | refine blk_alloc ?_ _)); refine blk_far ?_ NB135_134.out _; (with_reducible repeat (first | refine blk_drewN ?_ _ | refine blk_drew ?_ | refine blk_alloc ?_ _)); exact BK135.out⟩
                            have n3_ : Aside0 (Below w.heap.size w ((((((w34.setCell ⟨gb134, 0, none⟩ (.int .i64 t149)).setCell ⟨gb134, 1, none⟩ (.int .i64 t150)).setCell ⟨gb134, 2, none⟩ (.int .i64 t151)).setCell ⟨gb134, 3, none⟩ (.int .i64 t152)).setCell ⟨gb134, 4, none⟩ (.int .i64 t153)).setCell ⟨gb134, 5, none⟩ (.int .i64 t154))) := ⟨by repeat (first | (with_reducible first | exact HB.out | apply below_alloc | apply pw_below_drewN | apply below_drew1 | refine below_set ?_ GE134.out | refine below_set ?_ GE135.out) | exact HB.out)⟩
                            (try clear HO_5)
                            (try clear BK134)
                            (try clear BK135)
                            (try clear HB)
                            generalize ((((((w34.setCell ⟨gb134, 0, none⟩ (.int .i64 t149)).setCell ⟨gb134, 1, none⟩ (.int .i64 t150)).setCell ⟨gb134, 2, none⟩ (.int .i64 t151)).setCell ⟨gb134, 3, none⟩ (.int .i64 t152)).setCell ⟨gb134, 4, none⟩ (.int .i64 t153)).setCell ⟨gb134, 5, none⟩ (.int .i64 t154)) = w41 at n0_ n1_ n2_ n3_ ⊢
                            have HO_5 := n0_
                            have BK134 := n1_
                            have BK135 := n2_
                            have HB := n3_
                            clear n0_ n1_ n2_ n3_
                            have p155 : 0 ≤ (0 : Int) := (by omega)
                            have q155 : 0 < (x5_1.length : Int) := of_decide_eq_true (by first | (with_reducible assumption) | assumption)
                            obtain ⟨ad155, e155, hx155_0⟩ := Kd.at_int (Kd.Q_reads' HO_5.out).2.2 0 p155 q155
                            obtain rfl : ad148 = ad155 := (by injection e155)
                            have qi155 : (0 < x5_1.length) = True := eq_true (by omega)
                            (try rw [show ((0 : Int)).toNat = 0 from rfl] at hx155_0)
                            (try rw [Addr.add_zero'] at hx155_0)
                            replace p155 := eq_true p155
                            replace q155 := eq_true q155
                            have q42 : (1 : Int) ≤ ((x5_1.length : Int) : Int) := of_decide_eq_true (by first | (with_reducible assumption) | assumption)
                            obtain ⟨i042, hi042, _, hsz42, _⟩ := info_parts info3
                            have hcut42 := cut_from (P := Try.prog) 30 3 .i64 Try.underlying30 hi042 1 hsz42 (some ad148) x5_1.length co32 1 (by omega) q42
                            have hr42 := Kd.Q_drop (k := (1 : Int).toNat) HO_5.out (by omega)
                            obtain ⟨A42, hA42⟩ : ∃ A1, A1 = (if co32 = (1 : Int).toNat then (some ad148) else ((some ad148) : Option Addr).map (·.add ((1 : Int).toNat * 1))) := ⟨_, rfl⟩
                            obtain ⟨c42, hc42⟩ : ∃ c1, c1 = co32 - (1 : Int).toNat := ⟨_, rfl⟩
                            have hy42 : y156.length = x5_1.length - (1 : Int).toNat := (by rw [Ny156.out, List.length_drop])
                            rw [← Ny156.out] at hr42
                            rw [← hy42, ← hA42, ← hc42] at hcut42
                            replace hr42 : Kd.Q (Kd.int .i64) 3 w41 w.heap.size (fun _ => True) (.slice A42 y156.length c42) y156 := (by rw [hA42, hc42, hy42]; exact hr42)
                            have HE42 : Aside0 ((Value.slice A42 y156.length c42).ownBlock = (.slice (some ad148) x5_1.length co32 : Value).ownBlock) := ⟨by rw [hA42]; split <;> (cases ((some ad148) : Option Addr) <;> rfl)⟩
                            clear hy42 hi042 hsz42 HO_5 hA42 hc42
                            have HO158 := Aside0.mk hr42
                            clear hr42
                            replace q42 := eq_true q42
                            have hnb43 := NB135_134.out
                            have hnc43 := NB134_135.out
                            have hcz44_0 : w41.cell? ⟨gb135, 0, none⟩ = some (.int .i64 x136000_1) := (blk_cell BK135.out 0).trans rfl
                            have hcz44_1 : w41.cell? ⟨gb135, 1, none⟩ = some (.int .i64 x136001_1) := (blk_cell BK135.out 1).trans rfl
                            have hcz44_2 : w41.cell? ⟨gb135, 2, none⟩ = some (.int .i64 x136002_1) := (blk_cell BK135.out 2).trans rfl
                            have hcz44_3 : w41.cell? ⟨gb135, 3, none⟩ = some (.int .i64 x136003_1) := (blk_cell BK135.out 3).trans rfl
                            have hcz44_4 : w41.cell? ⟨gb135, 4, none⟩ = some (.int .i64 x136004_1) := (blk_cell BK135.out 4).trans rfl
                            have hcz44_5 : w41.cell? ⟨gb135, 5, none⟩ = some (.int .i64 x136005_1) := (blk_cell BK135.out 5).trans rfl
                            have hfz44_0 := blk_frozen BK135.out 0
                            have hfz44_1 := blk_frozen BK135.out 1
                            have hfz44_2 := blk_frozen BK135.out 2
                            have hfz44_3 := blk_frozen BK135.out 3
                            have hfz44_4 := blk_frozen BK135.out 4
                            have hfz44_5 := blk_frozen BK135.out 5
                            try go_wp2
                            go_meet
                            case rel => exact ⟨_, (wrap64 (x4_1 - (rd x5_1 0))), (y156), (t149), (t150), (t151), (t152), (t153), (t154), (x136000_1), (wrap64 (x136001_1 + 1)), (x136002_1), (wrap64 (x4_1 - (rd x5_1 0))), (x136004_1), (x136005_1), (by first | rfl | (simp; done) | (simp [*]; done)), H', ⟨by have := HK1.out; have := HJ8.out; first | omega | exact Nat.le_refl _⟩, ⟨by (with_reducible repeat (first | apply Kd.Q_alloc | apply Kd.Q_drewN | apply Kd.Q_drew)); exact Kd.Q_mono (Kd.Q_far (p := ⟨gb135, 3, none⟩) (Kd.Q_far (p := ⟨gb135, 1, none⟩) (Kd.Q_types HO158.out BK135.out (by decide)) (fun _ hk => hk.2) (.int .i64 (wrap64 (x136001_1 + 1)))) (fun _ hk => hk.2) (.int .i64 (wrap64 (x4_1 - (rd x5_1 0))))) (fun _ hk => trivial)⟩, ⟨by (with_reducible repeat (first | refine blk_drewN ?_ _ | refine blk_drew ?_ | refine blk_alloc ?_ _)); refine blk_far ?_ NB134_135.out _; (with_reducible repeat (first | refine blk_drewN ?_ _ | refine blk_drew ?_ | refine blk_alloc ?_ _)); refine blk_far ?_ NB134_135.out _; (with_reducible repeat (first | refine blk_drewN ?_ _ | refine blk_drew ?_ | refine blk_alloc ?_ _)); exact BK134.out⟩, ⟨by (with_reducible repeat (first | refine blk_drewN ?_ _ | refine blk_drew ?_ | refine blk_alloc ?_ _)); refine blk_put (cs := #[.int .i64 x136000_1, .int .i64 (wrap64 (x136001_1 + 1)), .int .i64 x136002_1, .int .i64 x136003_1, .int .i64 x136004_1, .int .i64 x136005_1]) ?_ 3 _ rfl; (with_reducible repeat (first | refine blk_drewN ?_ _ | refine blk_drew ?_ | refine blk_alloc ?_ _)); refine blk_put (cs := #[.int .i64 x136000_1, .int .i64 x136001_1, .int .i64 x136002_1, .int .i64 x136003_1, .int .i64 x136004_1, .int .i64 x136005_1]) ?_ 1 _ rfl; (with_reducible repeat (first | refine blk_drewN ?_ _ | refine blk_drew ?_ | refine blk_alloc ?_ _)); exact BK135.out⟩, ⟨by repeat (first | (with_reducible first | exact HB.out | apply below_alloc | apply pw_below_drewN | apply below_drew1 | refine below_set ?_ GE134.out | refine below_set ?_ GE135.out) | exact HB.out)⟩⟩
                          · rw [if_neg c31] at H
                            exact absurd H (by simp)
                        · rw [if_neg c29] at H
                          exact absurd H (by simp)
                      · rw [if_neg c28] at H
                        have c28b0 : decide (0 < (x5_1.length : Int)) = false := decide_eq_false c28
                        have c28b1 : decide (0 < x5_1.length) = false := decide_eq_false (by omega)
                        clear c28
                        have H' := Aside0.mk H
                        clear H
                        obtain ⟨Ao45, co45, eo45, _⟩ := Kd.Q_slice HO_5.out
                        subst eo45
                        go_wp2
                        go_meet
                        case rel => exact ⟨_, (x4_1), (x5_1), (x135000_1), (x135001_1), (x135002_1), (x135003_1), (x135004_1), (x135005_1), (x136000_1), (x136001_1), (x136002_1), (x136003_1), (x136004_1), (x136005_1), (by first | rfl | (simp; done) | (simp [*]; done)), H', ⟨by have := HK1.out; have := HJ8.out; first | omega | exact Nat.le_refl _⟩, ⟨by (with_reducible repeat (first | apply Kd.Q_alloc | apply Kd.Q_drewN | apply Kd.Q_drew)); exact HO_5.out⟩, ⟨by (with_reducible repeat (first | refine blk_drewN ?_ _ | refine blk_drew ?_ | refine blk_alloc ?_ _)); exact BK134.out⟩, ⟨by (with_reducible repeat (first | refine blk_drewN ?_ _ | refine blk_drew ?_ | refine blk_alloc ?_ _)); exact BK135.out⟩, ⟨by repeat (first | (with_reducible first | exact HB.out | apply below_alloc | apply pw_below_drewN | apply below_drew1 | refine below_set ?_ GE134.out | refine below_set ?_ GE135.out) | exact HB.out)⟩⟩
                    · rw [if_neg c27] at H
                      have c27b0 : ((Go.bits .and .i64 ((rd_T56 l0 x7_1).f0) 3) == 1) = false := beq_eq_false_iff_ne.mpr c27
                      have c27b1 : ((Go.bits .and .i64 ((rd_T56 l0 x7_1).f0) 3) != 1) = true := bne_iff_ne.mpr c27
                      by_cases c46 : (Go.bits .and .i64 ((rd_T56 l0 x7_1).f0) 3) = 2
                      · rw [if_pos c46] at H
                        have c46b0 : ((Go.bits .and .i64 ((rd_T56 l0 x7_1).f0) 3) == 2) = true := beq_iff_eq.mpr c46
                        have c46b1 : ((Go.bits .and .i64 ((rd_T56 l0 x7_1).f0) 3) != 2) = false := bne_eq_false_iff_eq.mpr c46
                        clear c46
                        by_cases c47 : x136002_1 < x136001_1
                        · rw [if_pos c47] at H
                          have c47b0 : decide (x136002_1 < x136001_1) = true := decide_eq_true c47
                          clear c47
                          replace H := Option.bind_eq_some_iff.mp H
                          obtain ⟨⟨t159, t160, t161, t162, t163, t164⟩, A480, H⟩ := H
                          replace H : (cubbyholelaw39_StatCounts.j2 kj8 l0 x4_1 x5_1 x7_1 t159 t160 t161 t162 t163 t164 x136000_1 x136001_1 (wrap64 (x136002_1 + 1)) x136003_1 x136004_1 x136005_1) = some r := H
                          have A48 := Aside0.mk A480
                          clear A480
                          have H' := Aside0.mk H
                          clear H
                          have hnb49 := NB135_134.out
                          have hnc49 := NB134_135.out
                          have hcz50_0 : wc.cell? ⟨gb135, 0, none⟩ = some (.int .i64 x136000_1) := (blk_cell BK135.out 0).trans rfl
                          have hcz50_1 : wc.cell? ⟨gb135, 1, none⟩ = some (.int .i64 x136001_1) := (blk_cell BK135.out 1).trans rfl
                          have hcz50_2 : wc.cell? ⟨gb135, 2, none⟩ = some (.int .i64 x136002_1) := (blk_cell BK135.out 2).trans rfl
                          have hcz50_3 : wc.cell? ⟨gb135, 3, none⟩ = some (.int .i64 x136003_1) := (blk_cell BK135.out 3).trans rfl
                          have hcz50_4 : wc.cell? ⟨gb135, 4, none⟩ = some (.int .i64 x136004_1) := (blk_cell BK135.out 4).trans rfl
                          have hcz50_5 : wc.cell? ⟨gb135, 5, none⟩ = some (.int .i64 x136005_1) := (blk_cell BK135.out 5).trans rfl
                          have hfz50_0 := blk_frozen BK135.out 0
                          have hfz50_1 := blk_frozen BK135.out 1
                          have hfz50_2 := blk_frozen BK135.out 2
                          have hfz50_3 := blk_frozen BK135.out 3
                          have hfz50_4 := blk_frozen BK135.out 4
                          have hfz50_5 := blk_frozen BK135.out 5
                          have hcz51_0 : wc.cell? ⟨gb134, 0, none⟩ = some (.int .i64 x135000_1) := (blk_cell BK134.out 0).trans rfl
                          have hcz51_1 : wc.cell? ⟨gb134, 1, none⟩ = some (.int .i64 x135001_1) := (blk_cell BK134.out 1).trans rfl
                          have hcz51_2 : wc.cell? ⟨gb134, 2, none⟩ = some (.int .i64 x135002_1) := (blk_cell BK134.out 2).trans rfl
                          have hcz51_3 : wc.cell? ⟨gb134, 3, none⟩ = some (.int .i64 x135003_1) := (blk_cell BK134.out 3).trans rfl
                          have hcz51_4 : wc.cell? ⟨gb134, 4, none⟩ = some (.int .i64 x135004_1) := (blk_cell BK134.out 4).trans rfl
                          have hcz51_5 : wc.cell? ⟨gb134, 5, none⟩ = some (.int .i64 x135005_1) := (blk_cell BK134.out 5).trans rfl
                          have hfz51_0 := blk_frozen BK134.out 0
                          have hfz51_1 := blk_frozen BK134.out 1
                          have hfz51_2 := blk_frozen BK134.out 2
                          have hfz51_3 := blk_frozen BK134.out 3
                          have hfz51_4 := blk_frozen BK134.out 4
                          have hfz51_5 := blk_frozen BK134.out 5
                          go_wp2_with (first | ((with_reducible refine gate_callee (f := 33) rfl ?_); refine goesL_ (some 100) rfl rfl Try.func33 (by kernel_rfl) rfl #[.agg #[.int .i64 x135000_1, .int .i64 x135001_1, .int .i64 x135002_1, .int .i64 x135003_1, .int .i64 x135004_1, .int .i64 x135005_1]] rfl (by (try simp only [List.map_toArray, List.map_cons, List.map_nil]); first | done | rfl | (simp only [List.length_drop, List.length_take]; rfl)) ?_; (with_reducible refine (stat_End.calls x135000_1 x135001_1 x135002_1 x135003_1 x135004_1 x135005_1 t159 t160 t161 t162 t163 t164 _ A48.out).mono ?_); rintro e w52 ⟨rfl, hb⟩; refine ⟨_, rfl, ?_⟩; have n0_ := Aside0.mk (Kd.Q_below (by (with_reducible repeat (first | apply Kd.Q_alloc | apply Kd.Q_drewN | apply Kd.Q_drew)); exact HO_5.out) hb); have n1_ := Aside0.mk (blk_below (g := gb134) (o := .cells #[.int .i64 x135000_1, .int .i64 x135001_1, .int .i64 x135002_1, .int .i64 x135003_1, .int .i64 x135004_1, .int .i64 x135005_1] 29 (0, 0)) (by (with_reducible repeat (first | refine blk_drewN ?_ _ | refine blk_drew ?_ | refine blk_alloc ?_ _)); exact BK134.out) hb); have n2_ := Aside0.mk (blk_below (g := gb135) (o := .cells #[.int .i64 x136000_1, .int .i64 x136001_1, .int .i64 x136002_1, .int .i64 x136003_1, .int .i64 x136004_1, .int .i64 x136005_1] 29 (0, 0)) (by (with_reducible repeat (first | refine blk_drewN ?_ _ | refine blk_drew ?_ | refine blk_alloc ?_ _)); exact BK135.out) hb); have n3_ := Aside0.mk (below_step (by repeat (first | (with_reducible first | exact HB.out | apply below_alloc | apply pw_below_drewN | apply below_drew1 | refine below_set ?_ GE134.out | refine below_set ?_ GE135.out) | exact HB.out)) hb); clear HO_5; clear BK134; clear BK135; clear HB; have HO_5 := n0_; have BK134 := n1_; have BK135 := n2_; have HB := n3_; clear n0_ n1_ n2_ n3_; (try clear hb); (try clear hb2); (try clear hk); (try clear hi); have hcz53_0 : w52.cell? ⟨gb134, 0, none⟩ = some (.int .i64 x135000_1) := (blk_cell BK134.out 0).trans rfl; have hcz53_1 : w52.cell? ⟨gb134, 1, none⟩ = some (.int .i64 x135001_1) := (blk_cell BK134.out 1).trans rfl; have hcz53_2 : w52.cell? ⟨gb134, 2, none⟩ = some (.int .i64 x135002_1) := (blk_cell BK134.out 2).trans rfl; have hcz53_3 : w52.cell? ⟨gb134, 3, none⟩ = some (.int .i64 x135003_1) := (blk_cell BK134.out 3).trans rfl; have hcz53_4 : w52.cell? ⟨gb134, 4, none⟩ = some (.int .i64 x135004_1) := (blk_cell BK134.out 4).trans rfl; have hcz53_5 : w52.cell? ⟨gb134, 5, none⟩ = some (.int .i64 x135005_1) := (blk_cell BK134.out 5).trans rfl; have hfz53_0 := blk_frozen BK134.out 0; have hfz53_1 := blk_frozen BK134.out 1; have hfz53_2 := blk_frozen BK134.out 2; have hfz53_3 := blk_frozen BK134.out 3; have hfz53_4 := blk_frozen BK134.out 4; have hfz53_5 := blk_frozen BK134.out 5; have hcz54_0 : w52.cell? ⟨gb135, 0, none⟩ = some (.int .i64 x136000_1) := (blk_cell BK135.out 0).trans rfl; have hcz54_1 : w52.cell? ⟨gb135, 1, none⟩ = some (.int .i64 x136001_1) := (blk_cell BK135.out 1).trans rfl; have hcz54_2 : w52.cell? ⟨gb135, 2, none⟩ = some (.int .i64 x136002_1) := (blk_cell BK135.out 2).trans rfl; have hcz54_3 : w52.cell? ⟨gb135, 3, none⟩ = some (.int .i64 x136003_1) := (blk_cell BK135.out 3).trans rfl; have hcz54_4 : w52.cell? ⟨gb135, 4, none⟩ = some (.int .i64 x136004_1) := (blk_cell BK135.out 4).trans rfl; have hcz54_5 : w52.cell? ⟨gb135, 5, none⟩ = some (.int .i64 x136005_1) := (blk_cell BK135.out 5).trans rfl; have hfz54_0 := blk_frozen BK135.out 0; have hfz54_1 := blk_frozen BK135.out 1; have hfz54_2 := blk_frozen BK135.out 2; have hfz54_3 := blk_frozen BK135.out 3; have hfz54_4 := blk_frozen BK135.out 4; have hfz54_5 := blk_frozen BK135.out 5))
                          go_meet
                          case rel => exact ⟨_, (x4_1), (x5_1), (t159), (t160), (t161), (t162), (t163), (t164), (x136000_1), (x136001_1), (wrap64 (x136002_1 + 1)), (x136003_1), (x136004_1), (x136005_1), (by first | rfl | (simp; done) | (simp [*]; done)), H', ⟨by have := HK1.out; have := HJ8.out; first | omega | exact Nat.le_refl _⟩, ⟨by (with_reducible repeat (first | apply Kd.Q_alloc | apply Kd.Q_drewN | apply Kd.Q_drew)); exact Kd.Q_mono (Kd.Q_far (p := ⟨gb135, 2, none⟩) (Kd.Q_far (p := ⟨gb134, 5, none⟩) (Kd.Q_far (p := ⟨gb134, 4, none⟩) (Kd.Q_far (p := ⟨gb134, 3, none⟩) (Kd.Q_far (p := ⟨gb134, 2, none⟩) (Kd.Q_far (p := ⟨gb134, 1, none⟩) (Kd.Q_far (p := ⟨gb134, 0, none⟩) (Kd.Q_types (Kd.Q_types HO_5.out BK134.out (by decide)) BK135.out (by decide)) (fun _ hk => hk.1.2) (.int .i64 t159)) (fun _ hk => hk.1.2) (.int .i64 t160)) (fun _ hk => hk.1.2) (.int .i64 t161)) (fun _ hk => hk.1.2) (.int .i64 t162)) (fun _ hk => hk.1.2) (.int .i64 t163)) (fun _ hk => hk.1.2) (.int .i64 t164)) (fun _ hk => hk.2) (.int .i64 (wrap64 (x136002_1 + 1)))) (fun _ hk => trivial)⟩, ⟨by (with_reducible repeat (first | refine blk_drewN ?_ _ | refine blk_drew ?_ | refine blk_alloc ?_ _)); refine blk_far ?_ NB134_135.out _; (with_reducible repeat (first | refine blk_drewN ?_ _ | refine blk_drew ?_ | refine blk_alloc ?_ _)); refine blk_put (cs := #[.int .i64 t159, .int .i64 t160, .int .i64 t161, .int .i64 t162, .int .i64 t163, .int .i64 x135005_1]) ?_ 5 _ rfl; (with_reducible repeat (first | refine blk_drewN ?_ _ | refine blk_drew ?_ | refine blk_alloc ?_ _)); refine blk_put (cs := #[.int .i64 t159, .int .i64 t160, .int .i64 t161, .int .i64 t162, .int .i64 x135004_1, .int .i64 x135005_1]) ?_ 4 _ rfl; (with_reducible repeat (first | refine blk_drewN ?_ _ | refine blk_drew ?_ | refine blk_alloc ?_ _)); refine blk_put (cs := #[.int .i64 t159, .int .i64 t160, .int .i64 t161, .int .i64 x135003_1, .int .i64 x135004_1, .int .i64 x135005_1]) ?_ 3 _ rfl; (with_reducible repeat (first | refine blk_drewN ?_ _ | refine blk_drew ?_ | refine blk_alloc ?_ _)); refine blk_put (cs := #[.int .i64 t159, .int .i64 t160, .int .i64 x135002_1, .int .i64 x135003_1, .int .i64 x135004_1, .int .i64 x135005_1]) ?_ 2 _ rfl; (with_reducible repeat (first | refine blk_drewN ?_ _ | refine blk_drew ?_ | refine blk_alloc ?_ _)); refine blk_put (cs := #[.int .i64 t159, .int .i64 x135001_1, .int .i64 x135002_1, .int .i64 x135003_1, .int .i64 x135004_1, .int .i64 x135005_1]) ?_ 1 _ rfl; (with_reducible repeat (first | refine blk_drewN ?_ _ | refine blk_drew ?_ | refine blk_alloc ?_ _)); refine blk_put (cs := #[.int .i64 x135000_1, .int .i64 x135001_1, .int .i64 x135002_1, .int .i64 x135003_1, .int .i64 x135004_1, .int .i64 x135005_1]) ?_ 0 _ rfl; (with_reducible repeat (first | refine blk_drewN ?_ _ | refine blk_drew ?_ | refine blk_alloc ?_ _)); exact BK134.out⟩, ⟨by (with_reducible repeat (first | refine blk_drewN ?_ _ | refine blk_drew ?_ | refine blk_alloc ?_ _)); refine blk_put (cs := #[.int .i64 x136000_1, .int .i64 x136001_1, .int .i64 x136002_1, .int .i64 x136003_1, .int .i64 x136004_1, .int .i64 x136005_1]) ?_ 2 _ rfl; (with_reducible repeat (first | refine blk_drewN ?_ _ | refine blk_drew ?_ | refine blk_alloc ?_ _)); refine blk_far ?_ NB135_134.out _; (with_reducible repeat (first | refine blk_drewN ?_ _ | refine blk_drew ?_ | refine blk_alloc ?_ _)); refine blk_far ?_ NB135_134.out _; (with_reducible repeat (first | refine blk_drewN ?_ _ | refine blk_drew ?_ | refine blk_alloc ?_ _)); refine blk_far ?_ NB135_134.out _; (with_reducible repeat (first | refine blk_drewN ?_ _ | refine blk_drew ?_ | refine blk_alloc ?_ _)); refine blk_far ?_ NB135_134.out _; (with_reducible repeat (first | refine blk_drewN ?_ _ | refine blk_drew ?_ | refine blk_alloc ?_ _)); refine blk_far ?_ NB135_134.out _; (with_reducible repeat (first | refine blk_drewN ?_ _ | refine blk_drew ?_ | refine blk_alloc ?_ _)); refine blk_far ?_ NB135_134.out _; (with_reducible repeat (first | refine blk_drewN ?_ _ | refine blk_drew ?_ | refine blk_alloc ?_ _)); exact BK135.out⟩, ⟨by repeat (first | (with_reducible first | exact HB.out | apply below_alloc | apply pw_below_drewN | apply below_drew1 | refine below_set ?_ GE134.out | refine below_set ?_ GE135.out) | exact HB.out)⟩⟩
                        · rw [if_neg c47] at H
                          have c47b0 : decide (x136002_1 < x136001_1) = false := decide_eq_false c47
                          clear c47
                          have H' := Aside0.mk H
                          clear H
                          have hnb55 := NB135_134.out
                          have hnc55 := NB134_135.out
                          have hcz56_0 : wc.cell? ⟨gb135, 0, none⟩ = some (.int .i64 x136000_1) := (blk_cell BK135.out 0).trans rfl
                          have hcz56_1 : wc.cell? ⟨gb135, 1, none⟩ = some (.int .i64 x136001_1) := (blk_cell BK135.out 1).trans rfl
                          have hcz56_2 : wc.cell? ⟨gb135, 2, none⟩ = some (.int .i64 x136002_1) := (blk_cell BK135.out 2).trans rfl
                          have hcz56_3 : wc.cell? ⟨gb135, 3, none⟩ = some (.int .i64 x136003_1) := (blk_cell BK135.out 3).trans rfl
                          have hcz56_4 : wc.cell? ⟨gb135, 4, none⟩ = some (.int .i64 x136004_1) := (blk_cell BK135.out 4).trans rfl
                          have hcz56_5 : wc.cell? ⟨gb135, 5, none⟩ = some (.int .i64 x136005_1) := (blk_cell BK135.out 5).trans rfl
                          have hfz56_0 := blk_frozen BK135.out 0
                          have hfz56_1 := blk_frozen BK135.out 1
                          have hfz56_2 := blk_frozen BK135.out 2
                          have hfz56_3 := blk_frozen BK135.out 3
                          have hfz56_4 := blk_frozen BK135.out 4
                          have hfz56_5 := blk_frozen BK135.out 5
                          go_wp2
                          go_meet
                          case rel => exact ⟨_, (x4_1), (x5_1), (x135000_1), (x135001_1), (x135002_1), (x135003_1), (x135004_1), (x135005_1), (x136000_1), (x136001_1), (x136002_1), (x136003_1), (x136004_1), (x136005_1), (by first | rfl | (simp; done) | (simp [*]; done)), H', ⟨by have := HK1.out; have := HJ8.out; first | omega | exact Nat.le_refl _⟩, ⟨by (with_reducible repeat (first | apply Kd.Q_alloc | apply Kd.Q_drewN | apply Kd.Q_drew)); exact HO_5.out⟩, ⟨by (with_reducible repeat (first | refine blk_drewN ?_ _ | refine blk_drew ?_ | refine blk_alloc ?_ _)); exact BK134.out⟩, ⟨by (with_reducible repeat (first | refine blk_drewN ?_ _ | refine blk_drew ?_ | refine blk_alloc ?_ _)); exact BK135.out⟩, ⟨by repeat (first | (with_reducible first | exact HB.out | apply below_alloc | apply pw_below_drewN | apply below_drew1 | refine below_set ?_ GE134.out | refine below_set ?_ GE135.out) | exact HB.out)⟩⟩
                      · rw [if_neg c46] at H
                        have c46b0 : ((Go.bits .and .i64 ((rd_T56 l0 x7_1).f0) 3) == 2) = false := beq_eq_false_iff_ne.mpr c46
                        have c46b1 : ((Go.bits .and .i64 ((rd_T56 l0 x7_1).f0) 3) != 2) = true := bne_iff_ne.mpr c46
                        replace H := Option.bind_eq_some_iff.mp H
                        obtain ⟨⟨t165, t166, t167, t168, t169, t170⟩, A570, H⟩ := H
                        replace H : (cubbyholelaw39_StatCounts.j2 kj8 l0 x4_1 x5_1 x7_1 t165 t166 t167 t168 t169 t170 x136000_1 x136001_1 x136002_1 x136003_1 x136004_1 (wrap64 (x136005_1 + (mx (wrap64 ((Go.bits .and .i64 ((rd_T56 l0 x7_1).f1) 65535) - 5)) 0)))) = some r := H
                        have A57 := Aside0.mk A570
                        clear A570
                        obtain ⟨ji58, hji58⟩ : ∃ j_ : Int, (mx (wrap64 ((Go.bits .and .i64 ((rd_T56 l0 x7_1).f1) 65535) - 5)) 0) = j_ := ⟨_, rfl⟩
                        replace H : (cubbyholelaw39_StatCounts.j2 kj8 l0 x4_1 x5_1 x7_1 t165 t166 t167 t168 t169 t170 x136000_1 x136001_1 x136002_1 x136003_1 x136004_1 (wrap64 (x136005_1 + (ji58)))) = some r := by first | (rw [hji58] at H; exact H) | (simp only [hji58] at H ⊢; exact H)
                        (try rw [hji58] at A57)
                        have hji58_ : (if (wrap64 ((Go.bits .and .i64 ((rd_T56 l0 x7_1).f1) 65535) - 5)) < 0 then 0 else (wrap64 ((Go.bits .and .i64 ((rd_T56 l0 x7_1).f1) 65535) - 5))) = ji58 := (mxE _ _).trans hji58
                        have H' := Aside0.mk H
                        clear H
                        have hnb59 := NB134_135.out
                        have hnc59 := NB135_134.out
                        have hcz60_0 : wc.cell? ⟨gb134, 0, none⟩ = some (.int .i64 x135000_1) := (blk_cell BK134.out 0).trans rfl
                        have hcz60_1 : wc.cell? ⟨gb134, 1, none⟩ = some (.int .i64 x135001_1) := (blk_cell BK134.out 1).trans rfl
                        have hcz60_2 : wc.cell? ⟨gb134, 2, none⟩ = some (.int .i64 x135002_1) := (blk_cell BK134.out 2).trans rfl
                        have hcz60_3 : wc.cell? ⟨gb134, 3, none⟩ = some (.int .i64 x135003_1) := (blk_cell BK134.out 3).trans rfl
                        have hcz60_4 : wc.cell? ⟨gb134, 4, none⟩ = some (.int .i64 x135004_1) := (blk_cell BK134.out 4).trans rfl
                        have hcz60_5 : wc.cell? ⟨gb134, 5, none⟩ = some (.int .i64 x135005_1) := (blk_cell BK134.out 5).trans rfl
                        have hfz60_0 := blk_frozen BK134.out 0
                        have hfz60_1 := blk_frozen BK134.out 1
                        have hfz60_2 := blk_frozen BK134.out 2
                        have hfz60_3 := blk_frozen BK134.out 3
                        have hfz60_4 := blk_frozen BK134.out 4
                        have hfz60_5 := blk_frozen BK134.out 5
                        go_wp2_with (first | ((with_reducible refine gate_callee (f := 34) rfl ?_); refine goesL_ (some 37) rfl rfl Try.func34 (by kernel_rfl) rfl #[.agg #[.int .i64 x135000_1, .int .i64 x135001_1, .int .i64 x135002_1, .int .i64 x135003_1, .int .i64 x135004_1, .int .i64 x135005_1], .int .i64 (wrap64 ((Go.bits .and .i64 ((rd_T56 l0 x7_1).f1) 65535) - 5))] rfl (by (try simp only [List.map_toArray, List.map_cons, List.map_nil]); first | done | rfl | (simp only [List.length_drop, List.length_take]; rfl)) ?_; (with_reducible refine (stat_Clear.calls x135000_1 x135001_1 x135002_1 x135003_1 x135004_1 x135005_1 (wrap64 ((Go.bits .and .i64 ((rd_T56 l0 x7_1).f1) 65535) - 5)) t165 t166 t167 t168 t169 t170 _ A57.out).mono ?_); rintro e w61 ⟨rfl, hb⟩; refine ⟨_, rfl, ?_⟩; have n0_ := Aside0.mk (Kd.Q_below (by (with_reducible repeat (first | apply Kd.Q_alloc | apply Kd.Q_drewN | apply Kd.Q_drew)); exact HO_5.out) hb); have n1_ := Aside0.mk (blk_below (g := gb134) (o := .cells #[.int .i64 x135000_1, .int .i64 x135001_1, .int .i64 x135002_1, .int .i64 x135003_1, .int .i64 x135004_1, .int .i64 x135005_1] 29 (0, 0)) (by (with_reducible repeat (first | refine blk_drewN ?_ _ | refine blk_drew ?_ | refine blk_alloc ?_ _)); exact BK134.out) hb); have n2_ := Aside0.mk (blk_below (g := gb135) (o := .cells #[.int .i64 x136000_1, .int .i64 x136001_1, .int .i64 x136002_1, .int .i64 x136003_1, .int .i64 x136004_1, .int .i64 x136005_1] 29 (0, 0)) (by (with_reducible repeat (first | refine blk_drewN ?_ _ | refine blk_drew ?_ | refine blk_alloc ?_ _)); exact BK135.out) hb); have n3_ := Aside0.mk (below_step (by repeat (first | (with_reducible first | exact HB.out | apply below_alloc | apply pw_below_drewN | apply below_drew1 | refine below_set ?_ GE134.out | refine below_set ?_ GE135.out) | exact HB.out)) hb); clear HO_5; clear BK134; clear BK135; clear HB; have HO_5 := n0_; have BK134 := n1_; have BK135 := n2_; have HB := n3_; clear n0_ n1_ n2_ n3_; (try clear hb); (try clear hb2); (try clear hk); (try clear hi); have hcz62_0 : w61.cell? ⟨gb134, 0, none⟩ = some (.int .i64 x135000_1) := (blk_cell BK134.out 0).trans rfl; have hcz62_1 : w61.cell? ⟨gb134, 1, none⟩ = some (.int .i64 x135001_1) := (blk_cell BK134.out 1).trans rfl; have hcz62_2 : w61.cell? ⟨gb134, 2, none⟩ = some (.int .i64 x135002_1) := (blk_cell BK134.out 2).trans rfl; have hcz62_3 : w61.cell? ⟨gb134, 3, none⟩ = some (.int .i64 x135003_1) := (blk_cell BK134.out 3).trans rfl; have hcz62_4 : w61.cell? ⟨gb134, 4, none⟩ = some (.int .i64 x135004_1) := (blk_cell BK134.out 4).trans rfl; have hcz62_5 : w61.cell? ⟨gb134, 5, none⟩ = some (.int .i64 x135005_1) := (blk_cell BK134.out 5).trans rfl; have hfz62_0 := blk_frozen BK134.out 0; have hfz62_1 := blk_frozen BK134.out 1; have hfz62_2 := blk_frozen BK134.out 2; have hfz62_3 := blk_frozen BK134.out 3; have hfz62_4 := blk_frozen BK134.out 4; have hfz62_5 := blk_frozen BK134.out 5; have hcz63_0 : w61.cell? ⟨gb135, 0, none⟩ = some (.int .i64 x136000_1) := (blk_cell BK135.out 0).trans rfl; have hcz63_1 : w61.cell? ⟨gb135, 1, none⟩ = some (.int .i64 x136001_1) := (blk_cell BK135.out 1).trans rfl; have hcz63_2 : w61.cell? ⟨gb135, 2, none⟩ = some (.int .i64 x136002_1) := (blk_cell BK135.out 2).trans rfl; have hcz63_3 : w61.cell? ⟨gb135, 3, none⟩ = some (.int .i64 x136003_1) := (blk_cell BK135.out 3).trans rfl; have hcz63_4 : w61.cell? ⟨gb135, 4, none⟩ = some (.int .i64 x136004_1) := (blk_cell BK135.out 4).trans rfl; have hcz63_5 : w61.cell? ⟨gb135, 5, none⟩ = some (.int .i64 x136005_1) := (blk_cell BK135.out 5).trans rfl; have hfz63_0 := blk_frozen BK135.out 0; have hfz63_1 := blk_frozen BK135.out 1; have hfz63_2 := blk_frozen BK135.out 2; have hfz63_3 := blk_frozen BK135.out 3; have hfz63_4 := blk_frozen BK135.out 4; have hfz63_5 := blk_frozen BK135.out 5))
                        go_meet
                        case rel => exact ⟨_, (x4_1), (x5_1), (t165), (t166), (t167), (t168), (t169), (t170), (x136000_1), (x136001_1), (x136002_1), (x136003_1), (x136004_1), (wrap64 (x136005_1 + (ji58))), (by first | rfl | (simp; done) | (simp [*]; done)), H', ⟨by have := HK1.out; have := HJ8.out; first | omega | exact Nat.le_refl _⟩, ⟨by (with_reducible repeat (first | apply Kd.Q_alloc | apply Kd.Q_drewN | apply Kd.Q_drew)); exact Kd.Q_mono (Kd.Q_far (p := ⟨gb135, 5, none⟩) (Kd.Q_far (p := ⟨gb134, 5, none⟩) (Kd.Q_far (p := ⟨gb134, 4, none⟩) (Kd.Q_far (p := ⟨gb134, 3, none⟩) (Kd.Q_far (p := ⟨gb134, 2, none⟩) (Kd.Q_far (p := ⟨gb134, 1, none⟩) (Kd.Q_far (p := ⟨gb134, 0, none⟩) (Kd.Q_types (Kd.Q_types HO_5.out BK134.out (by decide)) BK135.out (by decide)) (fun _ hk => hk.1.2) (.int .i64 t165)) (fun _ hk => hk.1.2) (.int .i64 t166)) (fun _ hk => hk.1.2) (.int .i64 t167)) (fun _ hk => hk.1.2) (.int .i64 t168)) (fun _ hk => hk.1.2) (.int .i64 t169)) (fun _ hk => hk.1.2) (.int .i64 t170)) (fun _ hk => hk.2) (.int .i64 (wrap64 (x136005_1 + (ji58))))) (fun _ hk => trivial)⟩, ⟨by (with_reducible repeat (first | refine blk_drewN ?_ _ | refine blk_drew ?_ | refine blk_alloc ?_ _)); refine blk_far ?_ NB134_135.out _; (with_reducible repeat (first | refine blk_drewN ?_ _ | refine blk_drew ?_ | refine blk_alloc ?_ _)); refine blk_put (cs := #[.int .i64 t165, .int .i64 t166, .int .i64 t167, .int .i64 t168, .int .i64 t169, .int .i64 x135005_1]) ?_ 5 _ rfl; (with_reducible repeat (first | refine blk_drewN ?_ _ | refine blk_drew ?_ | refine blk_alloc ?_ _)); refine blk_put (cs := #[.int .i64 t165, .int .i64 t166, .int .i64 t167, .int .i64 t168, .int .i64 x135004_1, .int .i64 x135005_1]) ?_ 4 _ rfl; (with_reducible repeat (first | refine blk_drewN ?_ _ | refine blk_drew ?_ | refine blk_alloc ?_ _)); refine blk_put (cs := #[.int .i64 t165, .int .i64 t166, .int .i64 t167, .int .i64 x135003_1, .int .i64 x135004_1, .int .i64 x135005_1]) ?_ 3 _ rfl; (with_reducible repeat (first | refine blk_drewN ?_ _ | refine blk_drew ?_ | refine blk_alloc ?_ _)); refine blk_put (cs := #[.int .i64 t165, .int .i64 t166, .int .i64 x135002_1, .int .i64 x135003_1, .int .i64 x135004_1, .int .i64 x135005_1]) ?_ 2 _ rfl; (with_reducible repeat (first | refine blk_drewN ?_ _ | refine blk_drew ?_ | refine blk_alloc ?_ _)); refine blk_put (cs := #[.int .i64 t165, .int .i64 x135001_1, .int .i64 x135002_1, .int .i64 x135003_1, .int .i64 x135004_1, .int .i64 x135005_1]) ?_ 1 _ rfl; (with_reducible repeat (first | refine blk_drewN ?_ _ | refine blk_drew ?_ | refine blk_alloc ?_ _)); refine blk_put (cs := #[.int .i64 x135000_1, .int .i64 x135001_1, .int .i64 x135002_1, .int .i64 x135003_1, .int .i64 x135004_1, .int .i64 x135005_1]) ?_ 0 _ rfl; (with_reducible repeat (first | refine blk_drewN ?_ _ | refine blk_drew ?_ | refine blk_alloc ?_ _)); exact BK134.out⟩, ⟨by (with_reducible repeat (first | refine blk_drewN ?_ _ | refine blk_drew ?_ | refine blk_alloc ?_ _)); refine blk_put (cs := #[.int .i64 x136000_1, .int .i64 x136001_1, .int .i64 x136002_1, .int .i64 x136003_1, .int .i64 x136004_1, .int .i64 x136005_1]) ?_ 5 _ rfl; (with_reducible repeat (first | refine blk_drewN ?_ _ | refine blk_drew ?_ | refine blk_alloc ?_ _)); refine blk_far ?_ NB135_134.out _; (with_reducible repeat (first | refine blk_drewN ?_ _ | refine blk_drew ?_ | refine blk_alloc ?_ _)); refine blk_far ?_ NB135_134.out _; (with_reducible repeat (first | refine blk_drewN ?_ _ | refine blk_drew ?_ | refine blk_alloc ?_ _)); refine blk_far ?_ NB135_134.out _; (with_reducible repeat (first | refine blk_drewN ?_ _ | refine blk_drew ?_ | refine blk_alloc ?_ _)); refine blk_far ?_ NB135_134.out _; (with_reducible repeat (first | refine blk_drewN ?_ _ | refine blk_drew ?_ | refine blk_alloc ?_ _)); refine blk_far ?_ NB135_134.out _; (with_reducible repeat (first | refine blk_drewN ?_ _ | refine blk_drew ?_ | refine blk_alloc ?_ _)); refine blk_far ?_ NB135_134.out _; (with_reducible repeat (first | refine blk_drewN ?_ _ | refine blk_drew ?_ | refine blk_alloc ?_ _)); exact BK135.out⟩, ⟨by repeat (first | (with_reducible first | exact HB.out | apply below_alloc | apply pw_below_drewN | apply below_drew1 | refine below_set ?_ GE134.out | refine below_set ?_ GE135.out) | exact HB.out)⟩⟩
                case rest =>
                  clear HC14
                  try clear c1
                  try clear p1
                  try clear q1
                  try clear hx1
                  try clear qi1
                  try clear c2
                  try clear p2
                  try clear c3
                  try clear c4
                  try clear q4
                  try clear c5
                  try clear p6
                  try clear c7
                  try clear c8
                  try clear c10
                  try clear c10b0
                  try clear c11
                  try clear c12
                  try clear c12b0
                  try clear c13
                  try clear c13b0
                  try clear p13
                  try clear q13
                  try clear hx13
                  try clear p14
                  try clear q14
                  try clear hx14
                  try clear qi14
                  try clear c15
                  try clear c15b0
                  try clear c15b1
                  try clear p15
                  try clear q15
                  try clear hx15
                  try clear qi15
                  try clear c18
                  try clear c18b0
                  try clear c19
                  try clear c21
                  try clear c27
                  try clear c27b0
                  try clear c27b1
                  try clear c28
                  try clear c28b0
                  try clear c28b1
                  try clear c29
                  try clear c29b0
                  try clear c29b1
                  try clear c31
                  try clear c31b0
                  try clear c31b1
                  try clear c32
                  try clear c33
                  try clear c34
                  try clear c42
                  try clear q42
                  try clear c43
                  try clear c46
                  try clear c46b0
                  try clear c46b1
                  try clear c47
                  try clear c47b0
                  try clear c49
                  try clear c55
                  try clear c59
                  try clear hcz22_0
                  try clear hcz22_1
                  try clear hcz22_2
                  try clear hcz22_3
                  try clear hcz22_4
                  try clear hcz22_5
                  try clear hcz24_0
                  try clear hcz24_1
                  try clear hcz24_2
                  try clear hcz24_3
                  try clear hcz24_4
                  try clear hcz24_5
                  try clear hcz26_0
                  try clear hcz26_1
                  try clear hcz26_2
                  try clear hcz26_3
                  try clear hcz26_4
                  try clear hcz26_5
                  try clear hcz44_0
                  try clear hcz44_1
                  try clear hcz44_2
                  try clear hcz44_3
                  try clear hcz44_4
                  try clear hcz44_5
                  try clear hcz50_0
                  try clear hcz50_1
                  try clear hcz50_2
                  try clear hcz50_3
                  try clear hcz50_4
                  try clear hcz50_5
                  try clear hcz51_0
                  try clear hcz51_1
                  try clear hcz51_2
                  try clear hcz51_3
                  try clear hcz51_4
                  try clear hcz51_5
                  try clear hcz53_0
                  try clear hcz53_1
                  try clear hcz53_2
                  try clear hcz53_3
                  try clear hcz53_4
                  try clear hcz53_5
                  try clear hcz54_0
                  try clear hcz54_1
                  try clear hcz54_2
                  try clear hcz54_3
                  try clear hcz54_4
                  try clear hcz54_5
                  try clear hcz56_0
                  try clear hcz56_1
                  try clear hcz56_2
                  try clear hcz56_3
                  try clear hcz56_4
                  try clear hcz56_5
                  try clear hcz5_0
                  try clear hcz5_1
                  try clear hcz5_2
                  try clear hcz5_3
                  try clear hcz5_4
                  try clear hcz5_5
                  try clear hcz60_0
                  try clear hcz60_1
                  try clear hcz60_2
                  try clear hcz60_3
                  try clear hcz60_4
                  try clear hcz60_5
                  try clear hcz62_0
                  try clear hcz62_1
                  try clear hcz62_2
                  try clear hcz62_3
                  try clear hcz62_4
                  try clear hcz62_5
                  try clear hcz63_0
                  try clear hcz63_1
                  try clear hcz63_2
                  try clear hcz63_3
                  try clear hcz63_4
                  try clear hcz63_5
                  try clear hcz8_0
                  try clear hcz8_1
                  try clear hcz8_2
                  try clear hcz8_3
                  try clear hcz8_4
                  try clear hcz8_5
                  try clear hfz22_0
                  try clear hfz22_1
                  try clear hfz22_2
                  try clear hfz22_3
                  try clear hfz22_4
                  try clear hfz22_5
                  try clear hfz24_0
                  try clear hfz24_1
                  try clear hfz24_2
                  try clear hfz24_3
                  try clear hfz24_4
                  try clear hfz24_5
                  try clear hfz26_0
                  try clear hfz26_1
                  try clear hfz26_2
                  try clear hfz26_3
                  try clear hfz26_4
                  try clear hfz26_5
                  try clear hfz44_0
                  try clear hfz44_1
                  try clear hfz44_2
                  try clear hfz44_3
                  try clear hfz44_4
                  try clear hfz44_5
                  try clear hfz50_0
                  try clear hfz50_1
                  try clear hfz50_2
                  try clear hfz50_3
                  try clear hfz50_4
                  try clear hfz50_5
                  try clear hfz51_0
                  try clear hfz51_1
                  try clear hfz51_2
                  try clear hfz51_3
                  try clear hfz51_4
                  try clear hfz51_5
                  try clear hfz53_0
                  try clear hfz53_1
                  try clear hfz53_2
                  try clear hfz53_3
                  try clear hfz53_4
                  try clear hfz53_5
                  try clear hfz54_0
                  try clear hfz54_1
                  try clear hfz54_2
                  try clear hfz54_3
                  try clear hfz54_4
                  try clear hfz54_5
                  try clear hfz56_0
                  try clear hfz56_1
                  try clear hfz56_2
                  try clear hfz56_3
                  try clear hfz56_4
                  try clear hfz56_5
                  try clear hfz5_0
                  try clear hfz5_1
                  try clear hfz5_2
                  try clear hfz5_3
                  try clear hfz5_4
                  try clear hfz5_5
                  try clear hfz60_0
                  try clear hfz60_1
                  try clear hfz60_2
                  try clear hfz60_3
                  try clear hfz60_4
                  try clear hfz60_5
                  try clear hfz62_0
                  try clear hfz62_1
                  try clear hfz62_2
                  try clear hfz62_3
                  try clear hfz62_4
                  try clear hfz62_5
                  try clear hfz63_0
                  try clear hfz63_1
                  try clear hfz63_2
                  try clear hfz63_3
                  try clear hfz63_4
                  try clear hfz63_5
                  try clear hfz8_0
                  try clear hfz8_1
                  try clear hfz8_2
                  try clear hfz8_3
                  try clear hfz8_4
                  try clear hfz8_5
                  try clear hx137_0
                  try clear hx137_1
                  try clear hx138_0
                  try clear hx138_1
                  try clear hx148_0
                  try clear hx155_0
                  try clear p137
                  try clear p138
                  try clear p148
                  try clear p155
                  try clear p2
                  try clear q137
                  try clear q138
                  try clear q148
                  try clear q155
                  try clear q42
                  obtain ⟨kq, x4_13, x5_13, x135000_13, x135001_13, x135002_13, x135003_13, x135004_13, x135005_13, x136000_13, x136001_13, x136002_13, x136003_13, x136004_13, x136005_13, rfl, HA, HJ13, HO_5, BK134, BK135, HB⟩ := hcut
                  cases kq with
                  | zero => exact absurd HA.out (by simp [cubbyholelaw39_StatCounts.j2])
                  | succ kj13 =>
                    have H := HA.out
                    clear HA
                    simp only [cubbyholelaw39_StatCounts.j2] at H
                    by_cases c64 : (!(x135000_13 == x136000_13) || (!(x135001_13 == x136001_13) || (!(x135002_13 == x136002_13) || (!(x135003_13 == x136003_13) || (!(x135004_13 == x136004_13) || (!(x135005_13 == x136005_13))))))) = true
                    · rw [if_pos c64] at H
                      have c64b0 : (!(x135000_13 == x136000_13) || (!(x135001_13 == x136001_13) || (!(x135002_13 == x136002_13) || (!(x135003_13 == x136003_13) || (!(x135004_13 == x136004_13) || (!(x135005_13 == x136005_13))))))) = true := c64
                      clear c64
                      exact absurd (H.trans (congrArg some hr.out)) (by simp)
                    · rw [if_neg c64] at H
                      have c64b0 : (!(x135000_13 == x136000_13) || (!(x135001_13 == x136001_13) || (!(x135002_13 == x136002_13) || (!(x135003_13 == x136003_13) || (!(x135004_13 == x136004_13) || (!(x135005_13 == x136005_13))))))) = false := by simpa using c64
                      clear c64
                      replace H := Option.bind_eq_some_iff.mp H
                      obtain ⟨t171, A660, H⟩ := H
                      replace H : (if t171 = true then ((stat_Live.f x135000_13 x135001_13 x135002_13 x135003_13 x135004_13 x135005_13).bind fun t172 => (if t172 = (x5_13.length : Int) then ((stat_Held.f x135000_13 x135001_13 x135002_13 x135003_13 x135004_13 x135005_13).bind fun t173 => (if t173 = (wrap64 (x136001_13 - x136002_13)) then (cubbyholelaw39_StatCounts.l0 kj13 l0 x4_13 x5_13 (wrap64 (x7_1 + 1)) x135000_13 x135001_13 x135002_13 x135003_13 x135004_13 x135005_13 x136000_13 x136001_13 x136002_13 x136003_13 x136004_13 x136005_13) else (some false))) else (some false))) else (some false)) = some r := H
                      have A66 := Aside0.mk A660
                      clear A660
                      by_cases c67 : t171 = true
                      · subst c67
                        have H1 : ((stat_Live.f x135000_13 x135001_13 x135002_13 x135003_13 x135004_13 x135005_13).bind fun t172 => (if t172 = (x5_13.length : Int) then ((stat_Held.f x135000_13 x135001_13 x135002_13 x135003_13 x135004_13 x135005_13).bind fun t173 => (if t173 = (wrap64 (x136001_13 - x136002_13)) then (cubbyholelaw39_StatCounts.l0 kj13 l0 x4_13 x5_13 (wrap64 (x7_1 + 1)) x135000_13 x135001_13 x135002_13 x135003_13 x135004_13 x135005_13 x136000_13 x136001_13 x136002_13 x136003_13 x136004_13 x136005_13) else (some false))) else (some false))) = some r := by rw [if_pos rfl] at H; exact H
                        clear H
                        have H := H1
                        clear H1
                        replace H := Option.bind_eq_some_iff.mp H
                        obtain ⟨t172, A680, H⟩ := H
                        replace H : (if t172 = (x5_13.length : Int) then ((stat_Held.f x135000_13 x135001_13 x135002_13 x135003_13 x135004_13 x135005_13).bind fun t173 => (if t173 = (wrap64 (x136001_13 - x136002_13)) then (cubbyholelaw39_StatCounts.l0 kj13 l0 x4_13 x5_13 (wrap64 (x7_1 + 1)) x135000_13 x135001_13 x135002_13 x135003_13 x135004_13 x135005_13 x136000_13 x136001_13 x136002_13 x136003_13 x136004_13 x136005_13) else (some false))) else (some false)) = some r := H
                        have A68 := Aside0.mk A680
                        clear A680
                        by_cases c69 : t172 = (x5_13.length : Int)
                        · rw [if_pos c69] at H
                          have c69b0 : (t172 == (x5_13.length : Int)) = true := beq_iff_eq.mpr c69
                          have c69b1 : (t172 != (x5_13.length : Int)) = false := bne_eq_false_iff_eq.mpr c69
                          clear c69
                          replace H := Option.bind_eq_some_iff.mp H
                          obtain ⟨t173, A700, H⟩ := H
                          replace H : (if t173 = (wrap64 (x136001_13 - x136002_13)) then (cubbyholelaw39_StatCounts.l0 kj13 l0 x4_13 x5_13 (wrap64 (x7_1 + 1)) x135000_13 x135001_13 x135002_13 x135003_13 x135004_13 x135005_13 x136000_13 x136001_13 x136002_13 x136003_13 x136004_13 x136005_13) else (some false)) = some r := H
                          have A70 := Aside0.mk A700
                          clear A700
                          by_cases c71 : t173 = (wrap64 (x136001_13 - x136002_13))
                          · rw [if_pos c71] at H
                            have c71b0 : (t173 == (wrap64 (x136001_13 - x136002_13))) = true := beq_iff_eq.mpr c71
                            have c71b1 : (t173 != (wrap64 (x136001_13 - x136002_13))) = false := bne_eq_false_iff_eq.mpr c71
                            clear c71
                            have H' := Aside0.mk H
                            clear H
                            try go_wp2
                            have n0_ := Aside0.mk (Kd.Q_drew HO_5.out)
                            have n1_ := Aside0.mk (blk_drew BK134.out)
                            have n2_ := Aside0.mk (blk_drew BK135.out)
                            have n3_ := Aside0.mk (below_drew1 HB.out)
                            clear HO_5
                            clear BK134
                            clear BK135
                            clear HB
                            have HO_5 := n0_
                            have BK134 := n1_
                            have BK135 := n2_
                            have HB := n3_
                            clear n0_ n1_ n2_ n3_
                            refine start_ (n := 25) (S := fun w' => w'.cell? ⟨gb134, 0, none⟩ = some (.int .i64 x135000_13) ∧ w'.cell? ⟨gb134, 1, none⟩ = some (.int .i64 x135001_13) ∧ w'.cell? ⟨gb134, 2, none⟩ = some (.int .i64 x135002_13) ∧ w'.cell? ⟨gb134, 3, none⟩ = some (.int .i64 x135003_13) ∧ w'.cell? ⟨gb134, 4, none⟩ = some (.int .i64 x135004_13) ∧ w'.cell? ⟨gb134, 5, none⟩ = some (.int .i64 x135005_13) ∧ w'.cell? ⟨gb135, 0, none⟩ = some (.int .i64 x136000_13) ∧ w'.cell? ⟨gb135, 1, none⟩ = some (.int .i64 x136001_13) ∧ w'.cell? ⟨gb135, 2, none⟩ = some (.int .i64 x136002_13) ∧ w'.cell? ⟨gb135, 3, none⟩ = some (.int .i64 x136003_13) ∧ w'.cell? ⟨gb135, 4, none⟩ = some (.int .i64 x136004_13) ∧ w'.cell? ⟨gb135, 5, none⟩ = some (.int .i64 x136005_13)) (ds := []) #[false, false, false, false, false, false, false, false, false, false, false, false, false, false, false, false, false, false, false, false, false, false, false, false, false] (by kernel_rfl) rfl rfl ⟨(blk_cell BK134.out 0).trans rfl, (blk_cell BK134.out 1).trans rfl, (blk_cell BK134.out 2).trans rfl, (blk_cell BK134.out 3).trans rfl, (blk_cell BK134.out 4).trans rfl, (blk_cell BK134.out 5).trans rfl, (blk_cell BK135.out 0).trans rfl, (blk_cell BK135.out 1).trans rfl, (blk_cell BK135.out 2).trans rfl, (blk_cell BK135.out 3).trans rfl, (blk_cell BK135.out 4).trans rfl, (blk_cell BK135.out 5).trans rfl⟩ (fun hHeld => ?_); refine with_tabW cubbyholelaw39_StatCounts.tab27 cubbyholelaw39_StatCounts.bits27 (fun HT_ HW_ => ?_)
                            generalize wc.drew = w72 at HO_5 BK134 BK135 HB hHeld ⊢
                            refine take_ (i := 0) (N := some 105) (v := ?_) (a' := ?_) #[true, false, false, false, false, false, false, false, false, false, false, false, false, false, false, false, false, false, false, false, false, false, false, false, false] rfl rfl (take_ofW HT_.out HW_.out (by kernel_rfl)) (fun _ _ _ h => h) (Or.inl ⟨by rfl, ?_⟩) hHeld ?_ ?_
                            rotate_left
                            · rintro w' ⟨s0, s1, s2, s3, s4, s5, s6, s7, s8, s9, s10, s11⟩
                              go_simp
                              with_reducible rfl
                            rotate_left
                            · simp only [Act.put, List.setIfInBounds_toArray, List.set_cons_zero, List.set_cons_succ, i64_w, i32_w]
                              rfl
                            refine take_ (i := 1) (N := some 106) (v := ?_) (a' := ?_) #[true, true, false, false, false, false, false, false, false, false, false, false, false, false, false, false, false, false, false, false, false, false, false, false, false] rfl rfl (take_ofW HT_.out HW_.out (by kernel_rfl)) (fun _ _ _ h => h) (Or.inl ⟨by rfl, ?_⟩) hHeld ?_ ?_
                            rotate_left
                            · rintro w' ⟨s0, s1, s2, s3, s4, s5, s6, s7, s8, s9, s10, s11⟩
                              go_simp
                              with_reducible rfl
                            rotate_left
                            · simp only [Act.put, List.setIfInBounds_toArray, List.set_cons_zero, List.set_cons_succ, i64_w, i32_w]
                              rfl
                            refine pure_ (i := 2) (N := some 107) (v := ?_) (a' := ?_) #[true, true, true, false, false, false, false, false, false, false, false, false, false, false, false, false, false, false, false, false, false, false, false, false, false] rfl rfl (any_of HT_.out (by kernel_rfl)) (fun _ _ _ h => h) (Or.inl ⟨by rfl, ?_⟩) ?_ ?_
                            rotate_left
                            · intro w'
                              go_simp
                              with_reducible rfl
                            rotate_left
                            · simp only [Act.put, List.setIfInBounds_toArray, List.set_cons_zero, List.set_cons_succ, i64_w, i32_w]
                              rfl
                            refine pure_ (i := 3) (N := some 108) (v := ?_) (a' := ?_) #[true, true, true, true, false, false, false, false, false, false, false, false, false, false, false, false, false, false, false, false, false, false, false, false, false] rfl rfl (any_of HT_.out (by kernel_rfl)) (fun _ _ _ h => h) (Or.inl ⟨by rfl, ?_⟩) ?_ ?_
                            rotate_left
                            · intro w'
                              go_simp
                              with_reducible rfl
                            rotate_left
                            · simp only [Act.put, List.setIfInBounds_toArray, List.set_cons_zero, List.set_cons_succ, i64_w, i32_w]
                              rfl
                            refine take_ (i := 4) (N := some 109) (v := ?_) (a' := ?_) #[true, true, true, true, true, false, false, false, false, false, false, false, false, false, false, false, false, false, false, false, false, false, false, false, false] rfl rfl (take_ofW HT_.out HW_.out (by kernel_rfl)) (fun _ _ _ h => h) (Or.inl ⟨by rfl, ?_⟩) hHeld ?_ ?_
                            rotate_left
                            · rintro w' ⟨s0, s1, s2, s3, s4, s5, s6, s7, s8, s9, s10, s11⟩
                              go_simp
                              with_reducible rfl
                            rotate_left
                            · simp only [Act.put, List.setIfInBounds_toArray, List.set_cons_zero, List.set_cons_succ, i64_w, i32_w]
                              rfl
                            refine one_ (i := 5) (N := some 110) #[true, true, true, true, true, true, false, false, false, false, false, false, false, false, false, false, false, false, false, false, false, false, false, false, false] rfl rfl (one_of HT_.out (by kernel_rfl)) (by decide) (fun K hK => ?_)
                            refine goes_ Try.func21 (by kernel_rfl) rfl #[.agg #[.int .i64 x135000_13, .int .i64 x135001_13, .int .i64 x135002_13, .int .i64 x135003_13, .int .i64 x135004_13, .int .i64 x135005_13]] (by rfl) rfl rfl (by (try simp only [List.map_toArray, List.map_cons, List.map_nil]); first | done | rfl | (simp only [List.length_drop, List.length_take]; rfl)) ?_
                            with_reducible refine (stat_May.calls x135000_13 x135001_13 x135002_13 x135003_13 x135004_13 x135005_13 true _ A66.out).mono ?_
                            rintro e w73 ⟨rfl, hb⟩
                            refine ⟨_, rfl, ?_⟩
                            have n0_ := Aside0.mk (Kd.Q_below (by (with_reducible repeat (first | apply Kd.Q_alloc | apply Kd.Q_drewN | apply Kd.Q_drew)); exact HO_5.out) hb)
                            have n1_ := Aside0.mk (blk_below (g := gb134) (o := .cells #[.int .i64 x135000_13, .int .i64 x135001_13, .int .i64 x135002_13, .int .i64 x135003_13, .int .i64 x135004_13, .int .i64 x135005_13] 29 (0, 0)) (by (with_reducible repeat (first | refine blk_drewN ?_ _ | refine blk_drew ?_ | refine blk_alloc ?_ _)); exact BK134.out) hb)
                            have n2_ := Aside0.mk (blk_below (g := gb135) (o := .cells #[.int .i64 x136000_13, .int .i64 x136001_13, .int .i64 x136002_13, .int .i64 x136003_13, .int .i64 x136004_13, .int .i64 x136005_13] 29 (0, 0)) (by (with_reducible repeat (first | refine blk_drewN ?_ _ | refine blk_drew ?_ | refine blk_alloc ?_ _)); exact BK135.out) hb)
                            have n3_ := Aside0.mk (below_step (by repeat (first | (with_reducible first | exact HB.out | apply below_alloc | apply pw_below_drewN | apply below_drew1 | refine below_set ?_ GE134.out | refine below_set ?_ GE135.out) | exact HB.out)) hb)
                            clear HO_5
                            clear BK134
                            clear BK135
                            clear HB
                            have HO_5 := n0_
                            have BK134 := n1_
                            have BK135 := n2_
                            have HB := n3_
                            clear n0_ n1_ n2_ n3_
                            (try clear hb)
                            (try clear hb2)
                            (try clear hk)
                            (try clear hi)
                            refine hK.out _ _ ⟨(blk_cell BK134.out 0).trans rfl, (blk_cell BK134.out 1).trans rfl, (blk_cell BK134.out 2).trans rfl, (blk_cell BK134.out 3).trans rfl, (blk_cell BK134.out 4).trans rfl, (blk_cell BK134.out 5).trans rfl, (blk_cell BK135.out 0).trans rfl, (blk_cell BK135.out 1).trans rfl, (blk_cell BK135.out 2).trans rfl, (blk_cell BK135.out 3).trans rfl, (blk_cell BK135.out 4).trans rfl, (blk_cell BK135.out 5).trans rfl⟩ (fun hHeld => ?_)
                            clear hK K
                            refine norm_ (a' := ?_) ?_ ?_
                            rotate_left
                            · show Act.put _ (some 110) _ = _
                              simp only [Act.put, List.setIfInBounds_toArray, List.set_cons_zero, List.set_cons_succ, i64_w, i32_w]
                              rfl
                            refine pure_ (i := 6) (N := some 111) (v := ?_) (a' := ?_) #[true, true, true, true, true, true, true, false, false, false, false, false, false, false, false, false, false, false, false, false, false, false, false, false, false] rfl rfl (any_of HT_.out (by kernel_rfl)) (fun _ _ _ h => h) (Or.inl ⟨by rfl, ?_⟩) ?_ ?_
                            rotate_left
                            · intro w'
                              go_simp
                              with_reducible rfl
                            rotate_left
                            · simp only [Act.put, List.setIfInBounds_toArray, List.set_cons_zero, List.set_cons_succ, i64_w, i32_w]
                              rfl
                            refine pure_ (i := 7) (N := some 112) (v := ?_) (a' := ?_) #[true, true, true, true, true, true, true, true, false, false, false, false, false, false, false, false, false, false, false, false, false, false, false, false, false] rfl rfl (any_of HT_.out (by kernel_rfl)) (fun _ _ _ h => h) (Or.inl ⟨by rfl, ?_⟩) ?_ ?_
                            rotate_left
                            · intro w'
                              go_simp
                              with_reducible rfl
                            rotate_left
                            · simp only [Act.put, List.setIfInBounds_toArray, List.set_cons_zero, List.set_cons_succ, i64_w, i32_w]
                              rfl
                            refine pure_ (i := 8) (N := some 113) (v := ?_) (a' := ?_) #[true, true, true, true, true, true, true, true, true, false, false, false, false, false, false, false, false, false, false, false, false, false, false, false, false] rfl rfl (any_of HT_.out (by kernel_rfl)) (fun _ _ _ h => h) (Or.inl ⟨by rfl, ?_⟩) ?_ ?_
                            rotate_left
                            · intro w'
                              go_simp
                              with_reducible rfl
                            rotate_left
                            · simp only [Act.put, List.setIfInBounds_toArray, List.set_cons_zero, List.set_cons_succ, i64_w, i32_w]
                              rfl
                            refine pure_ (i := 11) (N := some 116) (v := ?_) (a' := ?_) #[true, true, true, true, true, true, true, true, true, false, false, true, false, false, false, false, false, false, false, false, false, false, false, false, false] rfl rfl (any_of HT_.out (by kernel_rfl)) (fun _ _ _ h => h) (Or.inl ⟨by rfl, ?_⟩) ?_ ?_
                            rotate_left
                            · intro w'
                              go_simp
                              with_reducible rfl
                            rotate_left
                            · simp only [Act.put, List.setIfInBounds_toArray, List.set_cons_zero, List.set_cons_succ, i64_w, i32_w]
                              rfl
                            obtain ⟨Ao175, co175, eo175, _⟩ := Kd.Q_slice HO_5.out
                            subst eo175
                            refine pure_ (i := 12) (N := some 117) (v := ?_) (a' := ?_) #[true, true, true, true, true, true, true, true, true, false, false, true, true, false, false, false, false, false, false, false, false, false, false, false, false] rfl rfl (any_of HT_.out (by kernel_rfl)) (fun _ _ _ h => h) (Or.inl ⟨by rfl, ?_⟩) ?_ ?_
                            rotate_left
                            · intro w'
                              go_simp
                              with_reducible rfl
                            rotate_left
                            · simp only [Act.put, List.setIfInBounds_toArray, List.set_cons_zero, List.set_cons_succ, i64_w, i32_w]
                              rfl
                            refine take_ (i := 9) (N := some 114) (v := ?_) (a' := ?_) #[true, true, true, true, true, true, true, true, true, true, false, true, true, false, false, false, false, false, false, false, false, false, false, false, false] rfl rfl (take_ofW HT_.out HW_.out (by kernel_rfl)) (fun _ _ _ h => h) (Or.inl ⟨by rfl, ?_⟩) hHeld ?_ ?_
                            rotate_left
                            · rintro w' ⟨s0, s1, s2, s3, s4, s5, s6, s7, s8, s9, s10, s11⟩
                              go_simp
                              with_reducible rfl
                            rotate_left
                            · simp only [Act.put, List.setIfInBounds_toArray, List.set_cons_zero, List.set_cons_succ, i64_w, i32_w]
                              rfl
                            refine one_ (i := 10) (N := some 115) #[true, true, true, true, true, true, true, true, true, true, true, true, true, false, false, false, false, false, false, false, false, false, false, false, false] rfl rfl (one_of HT_.out (by kernel_rfl)) (by decide) (fun K hK => ?_)
                            refine goes_ Try.func35 (by kernel_rfl) rfl #[.agg #[.int .i64 x135000_13, .int .i64 x135001_13, .int .i64 x135002_13, .int .i64 x135003_13, .int .i64 x135004_13, .int .i64 x135005_13]] (by rfl) rfl rfl (by (try simp only [List.map_toArray, List.map_cons, List.map_nil]); first | done | rfl | (simp only [List.length_drop, List.length_take]; rfl)) ?_
                            with_reducible refine (stat_Live.calls x135000_13 x135001_13 x135002_13 x135003_13 x135004_13 x135005_13 t172 _ A68.out).mono ?_
                            rintro e w74 ⟨rfl, hb⟩
                            refine ⟨_, rfl, ?_⟩
                            have n0_ := Aside0.mk (Kd.Q_below (by (with_reducible repeat (first | apply Kd.Q_alloc | apply Kd.Q_drewN | apply Kd.Q_drew)); exact HO_5.out) hb)
                            have n1_ := Aside0.mk (blk_below (g := gb134) (o := .cells #[.int .i64 x135000_13, .int .i64 x135001_13, .int .i64 x135002_13, .int .i64 x135003_13, .int .i64 x135004_13, .int .i64 x135005_13] 29 (0, 0)) (by (with_reducible repeat (first | refine blk_drewN ?_ _ | refine blk_drew ?_ | refine blk_alloc ?_ _)); exact BK134.out) hb)
                            have n2_ := Aside0.mk (blk_below (g := gb135) (o := .cells #[.int .i64 x136000_13, .int .i64 x136001_13, .int .i64 x136002_13, .int .i64 x136003_13, .int .i64 x136004_13, .int .i64 x136005_13] 29 (0, 0)) (by (with_reducible repeat (first | refine blk_drewN ?_ _ | refine blk_drew ?_ | refine blk_alloc ?_ _)); exact BK135.out) hb)
                            have n3_ := Aside0.mk (below_step (by repeat (first | (with_reducible first | exact HB.out | apply below_alloc | apply pw_below_drewN | apply below_drew1 | refine below_set ?_ GE134.out | refine below_set ?_ GE135.out) | exact HB.out)) hb)
                            clear HO_5
                            clear BK134
                            clear BK135
                            clear HB
                            have HO_5 := n0_
                            have BK134 := n1_
                            have BK135 := n2_
                            have HB := n3_
                            clear n0_ n1_ n2_ n3_
                            (try clear hb)
                            (try clear hb2)
                            (try clear hk)
                            (try clear hi)
                            obtain ⟨Ao75, co75, eo75, _⟩ := Kd.Q_slice HO_5.out
                            (first | subst eo75 | (injection eo75 with f1_ f2_ f3_; have f4_ := f1_.symm; have f5_ := f3_.symm; clear f1_ f2_ f3_; subst f4_; subst f5_))
                            refine hK.out _ _ ⟨(blk_cell BK134.out 0).trans rfl, (blk_cell BK134.out 1).trans rfl, (blk_cell BK134.out 2).trans rfl, (blk_cell BK134.out 3).trans rfl, (blk_cell BK134.out 4).trans rfl, (blk_cell BK134.out 5).trans rfl, (blk_cell BK135.out 0).trans rfl, (blk_cell BK135.out 1).trans rfl, (blk_cell BK135.out 2).trans rfl, (blk_cell BK135.out 3).trans rfl, (blk_cell BK135.out 4).trans rfl, (blk_cell BK135.out 5).trans rfl⟩ (fun hHeld => ?_)
                            clear hK K
                            refine norm_ (a' := ?_) ?_ ?_
                            rotate_left
                            · show Act.put _ (some 115) _ = _
                              simp only [Act.put, List.setIfInBounds_toArray, List.set_cons_zero, List.set_cons_succ, i64_w, i32_w]
                              rfl
                            refine pure_ (i := 13) (N := some 118) (v := ?_) (a' := ?_) #[true, true, true, true, true, true, true, true, true, true, true, true, true, true, false, false, false, false, false, false, false, false, false, false, false] rfl rfl (any_of HT_.out (by kernel_rfl)) (fun _ _ _ h => h) (Or.inl ⟨by rfl, ?_⟩) ?_ ?_
                            rotate_left
                            · intro w'
                              go_simp
                              with_reducible rfl
                            rotate_left
                            · simp only [Act.put, List.setIfInBounds_toArray, List.set_cons_zero, List.set_cons_succ, i64_w, i32_w]
                              rfl
                            refine pure_ (i := 14) (N := some 119) (v := ?_) (a' := ?_) #[true, true, true, true, true, true, true, true, true, true, true, true, true, true, true, false, false, false, false, false, false, false, false, false, false] rfl rfl (any_of HT_.out (by kernel_rfl)) (fun _ _ _ h => h) (Or.inl ⟨by rfl, ?_⟩) ?_ ?_
                            rotate_left
                            · intro w'
                              go_simp
                              with_reducible rfl
                            rotate_left
                            · simp only [Act.put, List.setIfInBounds_toArray, List.set_cons_zero, List.set_cons_succ, i64_w, i32_w]
                              rfl
                            refine pure_ (i := 15) (N := some 120) (v := ?_) (a' := ?_) #[true, true, true, true, true, true, true, true, true, true, true, true, true, true, true, true, false, false, false, false, false, false, false, false, false] rfl rfl (any_of HT_.out (by kernel_rfl)) (fun _ _ _ h => h) (Or.inl ⟨by rfl, ?_⟩) ?_ ?_
                            rotate_left
                            · intro w'
                              go_simp
                              with_reducible rfl
                            rotate_left
                            · simp only [Act.put, List.setIfInBounds_toArray, List.set_cons_zero, List.set_cons_succ, i64_w, i32_w]
                              rfl
                            refine pure_ (i := 18) (N := some 123) (v := ?_) (a' := ?_) #[true, true, true, true, true, true, true, true, true, true, true, true, true, true, true, true, false, false, true, false, false, false, false, false, false] rfl rfl (any_of HT_.out (by kernel_rfl)) (fun _ _ _ h => h) (Or.inl ⟨by rfl, ?_⟩) ?_ ?_
                            rotate_left
                            · intro w'
                              go_simp
                              with_reducible rfl
                            rotate_left
                            · simp only [Act.put, List.setIfInBounds_toArray, List.set_cons_zero, List.set_cons_succ, i64_w, i32_w]
                              rfl
                            refine pure_ (i := 20) (N := some 125) (v := ?_) (a' := ?_) #[true, true, true, true, true, true, true, true, true, true, true, true, true, true, true, true, false, false, true, false, true, false, false, false, false] rfl rfl (any_of HT_.out (by kernel_rfl)) (fun _ _ _ h => h) (Or.inl ⟨by rfl, ?_⟩) ?_ ?_
                            rotate_left
                            · intro w'
                              go_simp
                              with_reducible rfl
                            rotate_left
                            · simp only [Act.put, List.setIfInBounds_toArray, List.set_cons_zero, List.set_cons_succ, i64_w, i32_w]
                              rfl
                            refine take_ (i := 16) (N := some 121) (v := ?_) (a' := ?_) #[true, true, true, true, true, true, true, true, true, true, true, true, true, true, true, true, true, false, true, false, true, false, false, false, false] rfl rfl (take_ofW HT_.out HW_.out (by kernel_rfl)) (fun _ _ _ h => h) (Or.inl ⟨by rfl, ?_⟩) hHeld ?_ ?_
                            rotate_left
                            · rintro w' ⟨s0, s1, s2, s3, s4, s5, s6, s7, s8, s9, s10, s11⟩
                              go_simp
                              with_reducible rfl
                            rotate_left
                            · simp only [Act.put, List.setIfInBounds_toArray, List.set_cons_zero, List.set_cons_succ, i64_w, i32_w]
                              rfl
                            refine take_ (i := 19) (N := some 124) (v := ?_) (a' := ?_) #[true, true, true, true, true, true, true, true, true, true, true, true, true, true, true, true, true, false, true, true, true, false, false, false, false] rfl rfl (take_ofW HT_.out HW_.out (by kernel_rfl)) (fun _ _ _ h => h) (Or.inl ⟨by rfl, ?_⟩) hHeld ?_ ?_
                            rotate_left
                            · rintro w' ⟨s0, s1, s2, s3, s4, s5, s6, s7, s8, s9, s10, s11⟩
                              go_simp
                              with_reducible rfl
                            rotate_left
                            · simp only [Act.put, List.setIfInBounds_toArray, List.set_cons_zero, List.set_cons_succ, i64_w, i32_w]
                              rfl
                            refine take_ (i := 21) (N := some 126) (v := ?_) (a' := ?_) #[true, true, true, true, true, true, true, true, true, true, true, true, true, true, true, true, true, false, true, true, true, true, false, false, false] rfl rfl (take_ofW HT_.out HW_.out (by kernel_rfl)) (fun _ _ _ h => h) (Or.inl ⟨by rfl, ?_⟩) hHeld ?_ ?_
                            rotate_left
                            · rintro w' ⟨s0, s1, s2, s3, s4, s5, s6, s7, s8, s9, s10, s11⟩
                              go_simp
                              with_reducible rfl
                            rotate_left
                            · simp only [Act.put, List.setIfInBounds_toArray, List.set_cons_zero, List.set_cons_succ, i64_w, i32_w]
                              rfl
                            refine pure_ (i := 22) (N := some 127) (v := ?_) (a' := ?_) #[true, true, true, true, true, true, true, true, true, true, true, true, true, true, true, true, true, false, true, true, true, true, true, false, false] rfl rfl (any_of HT_.out (by kernel_rfl)) (fun _ _ _ h => h) (Or.inl ⟨by rfl, ?_⟩) ?_ ?_
                            rotate_left
                            · intro w'
                              go_simp
                              with_reducible rfl
                            rotate_left
                            · simp only [Act.put, List.setIfInBounds_toArray, List.set_cons_zero, List.set_cons_succ, i64_w, i32_w]
                              rfl
                            refine one_ (i := 17) (N := some 122) #[true, true, true, true, true, true, true, true, true, true, true, true, true, true, true, true, true, true, true, true, true, true, true, false, false] rfl rfl (one_of HT_.out (by kernel_rfl)) (by decide) (fun K hK => ?_)
                            refine goes_ Try.func36 (by kernel_rfl) rfl #[.agg #[.int .i64 x135000_13, .int .i64 x135001_13, .int .i64 x135002_13, .int .i64 x135003_13, .int .i64 x135004_13, .int .i64 x135005_13]] (by rfl) rfl rfl (by (try simp only [List.map_toArray, List.map_cons, List.map_nil]); first | done | rfl | (simp only [List.length_drop, List.length_take]; rfl)) ?_
                            with_reducible refine (stat_Held.calls x135000_13 x135001_13 x135002_13 x135003_13 x135004_13 x135005_13 t173 _ A70.out).mono ?_
                            rintro e w76 ⟨rfl, hb⟩
                            refine ⟨_, rfl, ?_⟩
                            have n0_ := Aside0.mk (Kd.Q_below (by (with_reducible repeat (first | apply Kd.Q_alloc | apply Kd.Q_drewN | apply Kd.Q_drew)); exact HO_5.out) hb)
                            have n1_ := Aside0.mk (blk_below (g := gb134) (o := .cells #[.int .i64 x135000_13, .int .i64 x135001_13, .int .i64 x135002_13, .int .i64 x135003_13, .int .i64 x135004_13, .int .i64 x135005_13] 29 (0, 0)) (by (with_reducible repeat (first | refine blk_drewN ?_ _ | refine blk_drew ?_ | refine blk_alloc ?_ _)); exact BK134.out) hb)
                            have n2_ := Aside0.mk (blk_below (g := gb135) (o := .cells #[.int .i64 x136000_13, .int .i64 x136001_13, .int .i64 x136002_13, .int .i64 x136003_13, .int .i64 x136004_13, .int .i64 x136005_13] 29 (0, 0)) (by (with_reducible repeat (first | refine blk_drewN ?_ _ | refine blk_drew ?_ | refine blk_alloc ?_ _)); exact BK135.out) hb)
                            have n3_ := Aside0.mk (below_step (by repeat (first | (with_reducible first | exact HB.out | apply below_alloc | apply pw_below_drewN | apply below_drew1 | refine below_set ?_ GE134.out | refine below_set ?_ GE135.out) | exact HB.out)) hb)
                            clear HO_5
                            clear BK134
                            clear BK135
                            clear HB
                            have HO_5 := n0_
                            have BK134 := n1_
                            have BK135 := n2_
                            have HB := n3_
                            clear n0_ n1_ n2_ n3_
                            (try clear hb)
                            (try clear hb2)
                            (try clear hk)
                            (try clear hi)
                            refine hK.out _ _ ⟨(blk_cell BK134.out 0).trans rfl, (blk_cell BK134.out 1).trans rfl, (blk_cell BK134.out 2).trans rfl, (blk_cell BK134.out 3).trans rfl, (blk_cell BK134.out 4).trans rfl, (blk_cell BK134.out 5).trans rfl, (blk_cell BK135.out 0).trans rfl, (blk_cell BK135.out 1).trans rfl, (blk_cell BK135.out 2).trans rfl, (blk_cell BK135.out 3).trans rfl, (blk_cell BK135.out 4).trans rfl, (blk_cell BK135.out 5).trans rfl⟩ (fun hHeld => ?_)
                            clear hK K
                            refine norm_ (a' := ?_) ?_ ?_
                            rotate_left
                            · show Act.put _ (some 122) _ = _
                              simp only [Act.put, List.setIfInBounds_toArray, List.set_cons_zero, List.set_cons_succ, i64_w, i32_w]
                              rfl
                            refine pure_ (i := 23) (N := some 128) (v := ?_) (a' := ?_) #[true, true, true, true, true, true, true, true, true, true, true, true, true, true, true, true, true, true, true, true, true, true, true, true, false] rfl rfl (any_of HT_.out (by kernel_rfl)) (fun _ _ _ h => h) (Or.inl ⟨by rfl, ?_⟩) ?_ ?_
                            rotate_left
                            · intro w'
                              go_simp
                              with_reducible rfl
                            rotate_left
                            · simp only [Act.put, List.setIfInBounds_toArray, List.set_cons_zero, List.set_cons_succ, i64_w, i32_w]
                              rfl
                            refine pure_ (i := 24) (N := some 129) (v := ?_) (a' := ?_) #[true, true, true, true, true, true, true, true, true, true, true, true, true, true, true, true, true, true, true, true, true, true, true, true, true] rfl rfl (any_of HT_.out (by kernel_rfl)) (fun _ _ _ h => h) (Or.inl ⟨by rfl, ?_⟩) ?_ ?_
                            rotate_left
                            · intro w'
                              go_simp
                              with_reducible rfl
                            rotate_left
                            · simp only [Act.put, List.setIfInBounds_toArray, List.set_cons_zero, List.set_cons_succ, i64_w, i32_w]
                              rfl
                            refine done_ (done_of HT_.out (by kernel_rfl)) ?_
                            try go_wp2
                            go_roundg kj13
                            case measure => have := HK1.out; have := HJ8.out; have := HJ13.out; omega
                            case rel => exact ⟨(x4_13), (x5_13), (wrap64 (x7_1 + 1)), (x135000_13), (x135001_13), (x135002_13), (x135003_13), (x135004_13), (x135005_13), (x136000_13), (x136001_13), (x136002_13), (x136003_13), (x136004_13), (x136005_13), (by first | rfl | (simp; done) | (simp [*]; done)), (by first | rfl | (simp; done) | (simp [*]; done)), H', ⟨by have := HK1.out; have := HJ8.out; have := HJ13.out; omega⟩, ⟨by (with_reducible repeat (first | apply Kd.Q_alloc | apply Kd.Q_drewN | apply Kd.Q_drew)); exact HO_5.out⟩, ⟨by (with_reducible repeat (first | refine blk_drewN ?_ _ | refine blk_drew ?_ | refine blk_alloc ?_ _)); exact BK134.out⟩, ⟨by (with_reducible repeat (first | refine blk_drewN ?_ _ | refine blk_drew ?_ | refine blk_alloc ?_ _)); exact BK135.out⟩, ⟨by repeat (first | (with_reducible first | exact HB.out | apply below_alloc | apply pw_below_drewN | apply below_drew1 | refine below_set ?_ GE134.out | refine below_set ?_ GE135.out) | exact HB.out)⟩⟩
                          · rw [if_neg c71] at H
                            have c71b0 : (t173 == (wrap64 (x136001_13 - x136002_13))) = false := beq_eq_false_iff_ne.mpr c71
                            have c71b1 : (t173 != (wrap64 (x136001_13 - x136002_13))) = true := bne_iff_ne.mpr c71
                            exact absurd (H.trans (congrArg some hr.out)) (by simp)
                        · rw [if_neg c69] at H
                          have c69b0 : (t172 == (x5_13.length : Int)) = false := beq_eq_false_iff_ne.mpr c69
                          have c69b1 : (t172 != (x5_13.length : Int)) = true := bne_iff_ne.mpr c69
                          exact absurd (H.trans (congrArg some hr.out)) (by simp)
                      · replace c67 := Bool.eq_false_iff.mpr c67
                        subst c67
                        have H1 : (some false) = some r := by rw [if_neg (show ¬ (false = true) by decide)] at H; exact H
                        clear H
                        have H := H1
                        clear H1
                        exact absurd (H.trans (congrArg some hr.out)) (by simp)
              · rw [if_neg c13] at H
                exact absurd H (by simp)
            · rw [if_neg c12] at H
              exact absurd H (by simp)
          · replace c11 := Bool.eq_false_iff.mpr c11
            subst c11
            have H1 : ((cubbyholelaw39_awake.f kj8).bind fun t136 => (some t136)) = some r := by rw [if_neg (show ¬ (false = true) by decide)] at H; exact H
            clear H
            have H := H1
            clear H1
            replace H := Option.bind_eq_some_iff.mp H
            obtain ⟨t136, A880, H⟩ := H
            replace H : (some t136) = some r := H
            have A88 := Aside0.mk A880
            clear A880
            obtain rfl := Option.some.inj H
            go_wp2_with (first | ((with_reducible refine gate_callee (f := 19) rfl ?_); refine goesL_ (some 130) rfl rfl Try.func19 (by kernel_rfl) rfl #[] rfl (by (try simp only [List.map_toArray, List.map_cons, List.map_nil]); first | done | rfl | (simp only [List.length_drop, List.length_take]; rfl)) ?_; (with_reducible refine (cubbyholelaw39_awake.calls kj8  t136 _ A88.out).mono ?_); rintro e w89 ⟨rfl, hb⟩; refine ⟨_, rfl, ?_⟩; have n0_ := Aside0.mk (Kd.Q_below (by (with_reducible repeat (first | apply Kd.Q_alloc | apply Kd.Q_drewN | apply Kd.Q_drew)); exact HO_5.out) hb); have n1_ := Aside0.mk (blk_below (g := gb134) (o := .cells #[.int .i64 x135000_1, .int .i64 x135001_1, .int .i64 x135002_1, .int .i64 x135003_1, .int .i64 x135004_1, .int .i64 x135005_1] 29 (0, 0)) (by (with_reducible repeat (first | refine blk_drewN ?_ _ | refine blk_drew ?_ | refine blk_alloc ?_ _)); exact BK134.out) hb); have n2_ := Aside0.mk (blk_below (g := gb135) (o := .cells #[.int .i64 x136000_1, .int .i64 x136001_1, .int .i64 x136002_1, .int .i64 x136003_1, .int .i64 x136004_1, .int .i64 x136005_1] 29 (0, 0)) (by (with_reducible repeat (first | refine blk_drewN ?_ _ | refine blk_drew ?_ | refine blk_alloc ?_ _)); exact BK135.out) hb); have n3_ := Aside0.mk (below_step (by repeat (first | (with_reducible first | exact HB.out | apply below_alloc | apply pw_below_drewN | apply below_drew1 | refine below_set ?_ GE134.out | refine below_set ?_ GE135.out) | exact HB.out)) hb); clear HO_5; clear BK134; clear BK135; clear HB; have HO_5 := n0_; have BK134 := n1_; have BK135 := n2_; have HB := n3_; clear n0_ n1_ n2_ n3_; (try clear hb); (try clear hb2); (try clear hk); (try clear hi)))
            go_ret
            exact ⟨by first | rfl | (simp [errW_none, errW_some] <;> rfl) | (simp [*, errW_none, errW_some] <;> rfl), by repeat (first | (with_reducible first | exact HB.out | apply below_alloc | apply pw_below_drewN | apply below_drew1 | refine below_set ?_ GE134.out | refine below_set ?_ GE135.out) | exact HB.out)⟩

end Go.Proofs.Ytifakhddmlalcaa.QStatCounts
