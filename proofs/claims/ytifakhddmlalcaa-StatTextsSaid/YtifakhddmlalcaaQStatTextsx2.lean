/- YtifakhddmlalcaaQStatTextsx2: the functions that the law StatTexts uses, each as a Lean function with the proof that the call tells the same. Turned out of the print of print.sh by qprint.py (own sections: bits_Len64, perm_Show). Conditions: none beyond each theorem's own. -/
import Derived.Test.YtifakhddmlalcaaQStatTextsx0
import Derived.Test.YtifakhddmlalcaaQStatTextsx1
namespace Go.Proofs.Ytifakhddmlalcaa.QStatTexts
open Go.RowKit Go.Proofs.YtifakhddmlalcaaW.PrintWords Go.Proofs.YtifakhddmlalcaaW.PrintLast Go.Proofs.YtifakhddmlalcaaW.PrintMore
attribute [local go_sem] max2_int min2_int max_two min_two max_three min_three max_four min_four   -- for this text's walks alone
set_option linter.unusedVariables false
set_option linter.unusedSimpArgs false

/-! ### cubbyholelaw39_StatTexts: function 4 -/
mutual
def cubbyholelaw39_StatTexts.l0 : Nat → List Int → ByteArray → Int → Int → Int → Int → Int → Int → Int → Int → Int → Int → Int → Int → Int → Option (Bool)
  | 0, _, _, _, _, _, _, _, _, _, _, _, _, _, _, _ => none
  | k + 1, x4, x5, x6, x131000, x131001, x131002, x131003, x131004, x131005, x132000, x132001, x132002, x132003, x132004, x132005 => if x6 < 6 then ((some (([(⟨#[103, 111, 116, 32]⟩ : ByteArray), (⟨#[32, 103, 105, 118, 101, 110, 32]⟩ : ByteArray), (⟨#[32, 101, 110, 100, 101, 100, 32]⟩ : ByteArray), (⟨#[32, 108, 105, 118, 101, 32]⟩ : ByteArray), (⟨#[32, 112, 101, 97, 107, 32]⟩ : ByteArray), (⟨#[32, 99, 108, 101, 97, 114, 32]⟩ : ByteArray)] : List ByteArray) : List ByteArray)).bind fun y135 => (if 0 ≤ x6 then (if x6 < (y135.length : Int) then (if x6 < (x4.length : Int) then ((cubbyholelaw39_num.f k (rd x4 x6)).bind fun t140 => (if (rdOf ByteArray.empty y135 x6).size + t140.size ≤ 9223372036854775807 then (if x5.size + ((rdOf ByteArray.empty y135 x6) ++ t140).size ≤ 9223372036854775807 then (cubbyholelaw39_StatTexts.l0 k x4 (x5 ++ ((rdOf ByteArray.empty y135 x6) ++ t140)) (wrap64 (x6 + 1)) x131000 x131001 x131002 x131003 x131004 x131005 x132000 x132001 x132002 x132003 x132004 x132005) else (none)) else (none))) else (none)) else (none)) else (none))) else (if x132002 ≤ x132001 then (if x132001 ≤ x132000 then (cubbyholelaw39_StatTexts.j1 k x5 (decide (x132003 ≤ x132004)) x131000 x131001 x131002 x131003 x131004 x131005 x132000 x132001 x132002 x132003 x132004 x132005) else (cubbyholelaw39_StatTexts.j1 k x5 false x131000 x131001 x131002 x131003 x131004 x131005 x132000 x132001 x132002 x132003 x132004 x132005)) else (cubbyholelaw39_StatTexts.j1 k x5 false x131000 x131001 x131002 x131003 x131004 x131005 x132000 x132001 x132002 x132003 x132004 x132005))
def cubbyholelaw39_StatTexts.j1 : Nat → ByteArray → Bool → Int → Int → Int → Int → Int → Int → Int → Int → Int → Int → Int → Int → Option (Bool)
  | 0, _, _, _, _, _, _, _, _, _, _, _, _, _, _ => none
  | k + 1, x5, x7, x131000, x131001, x131002, x131003, x131004, x131005, x132000, x132001, x132002, x132003, x132004, x132005 => (cubbyholelaw39_awake.f k).bind fun t142 => (if t142 = true then ((stat_Text.f k x132000 x132001 x132002 x132003 x132004 x132005).bind fun t143 => (if t143.toList = x5.toList then ((stat_May.f x132000 x132001 x132002 x132003 x132004 x132005).bind fun t144 => (if (t144 == x7) = true then ((stat_May.f x132000 x132001 x132002 x132003 x132004 (wrap64 ((-1) - (Go.bits .and .i64 x131005 255)))).bind fun t145 => (some (!t145))) else (some false))) else (some false))) else (some false))
end
def cubbyholelaw39_StatTexts.f (k : Nat) (a0_0 : Int) (a0_1 : Int) (a0_2 : Int) (a0_3 : Int) (a0_4 : Int) (a0_5 : Int) : Option (Bool) := cubbyholelaw39_StatTexts.l0 k (([Go.bits .and .i64 a0_0 65535, Go.bits .and .i64 a0_1 65535, Go.bits .and .i64 a0_2 65535, Go.bits .and .i64 a0_3 65535, Go.bits .and .i64 a0_4 65535, Go.bits .and .i64 a0_5 65535] : List Int)) (⟨#[]⟩ : ByteArray) 0 a0_0 a0_1 a0_2 a0_3 a0_4 a0_5 (Go.bits .and .i64 a0_0 65535) (Go.bits .and .i64 a0_1 65535) (Go.bits .and .i64 a0_2 65535) (Go.bits .and .i64 a0_3 65535) (Go.bits .and .i64 a0_4 65535) (Go.bits .and .i64 a0_5 65535)
theorem cubbyholelaw39_StatTexts.mono_l : ∀ k, (∀ y0 y1 y2 y3 y4 y5 y6 y7 y8 y9 y10 y11 y12 y13 y14, LeO (cubbyholelaw39_StatTexts.l0 k y0 y1 y2 y3 y4 y5 y6 y7 y8 y9 y10 y11 y12 y13 y14) (cubbyholelaw39_StatTexts.l0 (k + 1) y0 y1 y2 y3 y4 y5 y6 y7 y8 y9 y10 y11 y12 y13 y14)) ∧ (∀ y0 y1 y2 y3 y4 y5 y6 y7 y8 y9 y10 y11 y12 y13, LeO (cubbyholelaw39_StatTexts.j1 k y0 y1 y2 y3 y4 y5 y6 y7 y8 y9 y10 y11 y12 y13) (cubbyholelaw39_StatTexts.j1 (k + 1) y0 y1 y2 y3 y4 y5 y6 y7 y8 y9 y10 y11 y12 y13))
  | 0 => ⟨fun _ _ _ _ _ _ _ _ _ _ _ _ _ _ _ r h => by simp [cubbyholelaw39_StatTexts.l0] at h, fun _ _ _ _ _ _ _ _ _ _ _ _ _ _ r h => by simp [cubbyholelaw39_StatTexts.j1] at h⟩
  | k + 1 => by
    obtain ⟨ih0, ih1⟩ := cubbyholelaw39_StatTexts.mono_l k
    refine ⟨?_, ?_⟩
    · intro y0 y1 y2 y3 y4 y5 y6 y7 y8 y9 y10 y11 y12 y13 y14
      unfold cubbyholelaw39_StatTexts.l0
      repeat' first
      | (with_reducible exact ih0 _ _ _ _ _ _ _ _ _ _ _ _ _ _ _)
      | (with_reducible exact ih1 _ _ _ _ _ _ _ _ _ _ _ _ _ _)
      | (with_reducible exact cubbyholelaw39_awake.mono _)
      | (with_reducible exact cubbyholelaw39_num.mono _ _)
      | (with_reducible exact stat_Text.mono _ _ _ _ _ _ _)
      | (with_reducible exact LeO.refl _)
      | (with_reducible exact LeO.none _)
      | (with_reducible refine LeO.ite ?_ ?_)
      | (with_reducible refine LeO.bind ?_ (fun _ => ?_))
      | exact ih0 _ _ _ _ _ _ _ _ _ _ _ _ _ _ _
      | exact ih1 _ _ _ _ _ _ _ _ _ _ _ _ _ _
      | exact cubbyholelaw39_awake.mono _
      | exact cubbyholelaw39_num.mono _ _
      | exact stat_Text.mono _ _ _ _ _ _ _
      | exact LeO.none _
      | refine LeO.ite ?_ ?_
      | refine LeO.bind ?_ (fun _ => ?_)
    · intro y0 y1 y2 y3 y4 y5 y6 y7 y8 y9 y10 y11 y12 y13
      unfold cubbyholelaw39_StatTexts.j1
      repeat' first
      | (with_reducible exact ih0 _ _ _ _ _ _ _ _ _ _ _ _ _ _ _)
      | (with_reducible exact ih1 _ _ _ _ _ _ _ _ _ _ _ _ _ _)
      | (with_reducible exact cubbyholelaw39_awake.mono _)
      | (with_reducible exact cubbyholelaw39_num.mono _ _)
      | (with_reducible exact stat_Text.mono _ _ _ _ _ _ _)
      | (with_reducible exact LeO.refl _)
      | (with_reducible exact LeO.none _)
      | (with_reducible refine LeO.ite ?_ ?_)
      | (with_reducible refine LeO.bind ?_ (fun _ => ?_))
      | exact ih0 _ _ _ _ _ _ _ _ _ _ _ _ _ _ _
      | exact ih1 _ _ _ _ _ _ _ _ _ _ _ _ _ _
      | exact cubbyholelaw39_awake.mono _
      | exact cubbyholelaw39_num.mono _ _
      | exact stat_Text.mono _ _ _ _ _ _ _
      | exact LeO.none _
      | refine LeO.ite ?_ ?_
      | refine LeO.bind ?_ (fun _ => ?_)
theorem cubbyholelaw39_StatTexts.mono : ∀ a0 a1 a2 a3 a4 a5 k, LeO (cubbyholelaw39_StatTexts.f k a0 a1 a2 a3 a4 a5) (cubbyholelaw39_StatTexts.f (k + 1) a0 a1 a2 a3 a4 a5) := by
  intro a0 a1 a2 a3 a4 a5 k
  obtain ⟨ih0, ih1⟩ := cubbyholelaw39_StatTexts.mono_l k
  unfold cubbyholelaw39_StatTexts.f
  repeat' first
      | (with_reducible exact ih0 _ _ _ _ _ _ _ _ _ _ _ _ _ _ _)
      | (with_reducible exact ih1 _ _ _ _ _ _ _ _ _ _ _ _ _ _)
      | (with_reducible exact cubbyholelaw39_awake.mono _)
      | (with_reducible exact cubbyholelaw39_num.mono _ _)
      | (with_reducible exact stat_Text.mono _ _ _ _ _ _ _)
      | (with_reducible exact LeO.refl _)
      | (with_reducible exact LeO.none _)
      | (with_reducible refine LeO.ite ?_ ?_)
      | (with_reducible refine LeO.bind ?_ (fun _ => ?_))
      | exact ih0 _ _ _ _ _ _ _ _ _ _ _ _ _ _ _
      | exact ih1 _ _ _ _ _ _ _ _ _ _ _ _ _ _
      | exact cubbyholelaw39_awake.mono _
      | exact cubbyholelaw39_num.mono _ _
      | exact stat_Text.mono _ _ _ _ _ _ _
      | exact LeO.none _
      | refine LeO.ite ?_ ?_
      | refine LeO.bind ?_ (fun _ => ?_)
def cubbyholelaw39_StatTexts.T6 : Bool × List (List Nat × List Nat) := (true, [([], []), ([], []), ([], []), ([1, 2], [1, 2]), ([3], [3]), ([], []), ([], []), ([5, 6], [5, 6]), ([7], [7]), ([8], [8]), ([4, 9], [4, 9]), ([0, 10], [0, 10]), ([11, 9, 0, 1, 2, 3, 4, 5, 6, 7, 8, 9, 10, 11], [0, 11])])
def cubbyholelaw39_StatTexts.B6 : List Nat := [0, 0, 0, 6, 14, 0, 0, 96, 224, 480, 1022, 2047, 4095]
theorem cubbyholelaw39_StatTexts.tab6 : rtab .any (opsOf Try.f4 6) = cubbyholelaw39_StatTexts.T6 := by kernel_rfl
theorem cubbyholelaw39_StatTexts.bits6 : waitsOk cubbyholelaw39_StatTexts.T6.2 cubbyholelaw39_StatTexts.B6 = true := by kernel_rfl
set_option maxHeartbeats 8000000 in
set_option maxRecDepth 100000 in
theorem cubbyholelaw39_StatTexts.calls (k : Nat) (a0_0 : Int) (a0_1 : Int) (a0_2 : Int) (a0_3 : Int) (a0_4 : Int) (a0_5 : Int) (r : Bool) (hr : Aside0 (r = true)) (w : World) (h : cubbyholelaw39_StatTexts.f k a0_0 a0_1 a0_2 a0_3 a0_4 a0_5 = some r) :
    Calls Try.prog 4 #[.agg #[.int .i64 a0_0, .int .i64 a0_1, .int .i64 a0_2, .int .i64 a0_3, .int .i64 a0_4, .int .i64 a0_5]] w fun e w' => e = .returned (.bool r) ∧ Below w.heap.size w w' := by
  have hu29 := Try.underlying29
  have HB := Aside0.mk (Below.refl w.heap.size w)
  have H : (cubbyholelaw39_StatTexts.l0 k (([Go.bits .and .i64 a0_0 65535, Go.bits .and .i64 a0_1 65535, Go.bits .and .i64 a0_2 65535, Go.bits .and .i64 a0_3 65535, Go.bits .and .i64 a0_4 65535, Go.bits .and .i64 a0_5 65535] : List Int)) (⟨#[]⟩ : ByteArray) 0 a0_0 a0_1 a0_2 a0_3 a0_4 a0_5 (Go.bits .and .i64 a0_0 65535) (Go.bits .and .i64 a0_1 65535) (Go.bits .and .i64 a0_2 65535) (Go.bits .and .i64 a0_3 65535) (Go.bits .and .i64 a0_4 65535) (Go.bits .and .i64 a0_5 65535)) = some r := h
  clear h
  obtain ⟨y132, hy132⟩ : ∃ y_ : List Int, y_ = (([Go.bits .and .i64 a0_0 65535, Go.bits .and .i64 a0_1 65535, Go.bits .and .i64 a0_2 65535, Go.bits .and .i64 a0_3 65535, Go.bits .and .i64 a0_4 65535, Go.bits .and .i64 a0_5 65535] : List Int)) := ⟨_, rfl⟩
  replace H : (cubbyholelaw39_StatTexts.l0 k y132 (⟨#[]⟩ : ByteArray) 0 a0_0 a0_1 a0_2 a0_3 a0_4 a0_5 (Go.bits .and .i64 a0_0 65535) (Go.bits .and .i64 a0_1 65535) (Go.bits .and .i64 a0_2 65535) (Go.bits .and .i64 a0_3 65535) (Go.bits .and .i64 a0_4 65535) (Go.bits .and .i64 a0_5 65535)) = some r := by first | (rw [hy132]; with_reducible exact H) | (have H2_ := (Option.bind_some _ _).symm.trans H; rw [hy132]; with_reducible exact H2_) | (have H2_ := (Option.bind_some _ _).symm.trans H; with_reducible exact H2_) | with_reducible exact H | (rw [hy132]; exact H) | exact H
  have Ny132 := Aside0.mk hy132
  clear hy132
  have H' := Aside0.mk H
  clear H
  go_enter Try.func4, Try.ntmps4
  go_wp2_with (first | ((with_reducible refine gate_dst (N := 1) rfl ?_); refine box_event ?hg (N := 1) ?hd (cs := #[.int .i64 a0_0, .int .i64 a0_1, .int .i64 a0_2, .int .i64 a0_3, .int .i64 a0_4, .int .i64 a0_5]) (t := 29) ?hr ?_; (case hd => rfl); (case hg => rfl); (case hr => first | (go_simp; done) | (go_simp; rfl)); intro gb130 hg w2 hbox hb; have n0_ := Aside0.mk (below_step (by repeat (first | (with_reducible first | exact HB.out | apply below_alloc | apply pw_below_drewN | apply below_drew1) | exact HB.out)) hb); have n1_ := Aside0.mk (hbox); have n2_ := Aside0.mk ((by rw [hg]; exact (below_size (by repeat (first | (with_reducible first | exact HB.out | apply below_alloc | apply pw_below_drewN | apply below_drew1) | exact HB.out))) : w.heap.size ≤ gb130)); have n3_ := Aside0.mk ((by rw [hg]; exact (below_size (by repeat (first | (with_reducible first | exact HB.out | apply below_alloc | apply pw_below_drewN | apply below_drew1) | exact HB.out))) : w.heap.size ≤ gb130)); clear HB; have HB := n0_; have BK130 := n1_; have GW130 := n2_; have GE130 := n3_; clear n0_ n1_ n2_ n3_; clear hb hbox hg; have hcz3_0 : w2.cell? ⟨gb130, 0, none⟩ = some (.int .i64 a0_0) := (blk_cell BK130.out 0).trans rfl; have hcz3_1 : w2.cell? ⟨gb130, 1, none⟩ = some (.int .i64 a0_1) := (blk_cell BK130.out 1).trans rfl; have hcz3_2 : w2.cell? ⟨gb130, 2, none⟩ = some (.int .i64 a0_2) := (blk_cell BK130.out 2).trans rfl; have hcz3_3 : w2.cell? ⟨gb130, 3, none⟩ = some (.int .i64 a0_3) := (blk_cell BK130.out 3).trans rfl; have hcz3_4 : w2.cell? ⟨gb130, 4, none⟩ = some (.int .i64 a0_4) := (blk_cell BK130.out 4).trans rfl; have hcz3_5 : w2.cell? ⟨gb130, 5, none⟩ = some (.int .i64 a0_5) := (blk_cell BK130.out 5).trans rfl; have hfz3_0 := blk_frozen BK130.out 0; have hfz3_1 := blk_frozen BK130.out 1; have hfz3_2 := blk_frozen BK130.out 2; have hfz3_3 := blk_frozen BK130.out 3; have hfz3_4 := blk_frozen BK130.out 4; have hfz3_5 := blk_frozen BK130.out 5) | ((with_reducible refine gate_dst (N := 3) rfl ?_); refine box_event ?hg (N := 3) ?hd (cs := #[.int .i64 0, .int .i64 0, .int .i64 0, .int .i64 0, .int .i64 0, .int .i64 0]) (t := 29) ?hr ?_; (case hd => rfl); (case hg => rfl); (case hr => first | (go_simp; done) | (go_simp; rfl)); intro gb131 hg w4 hbox hb; have n0_ := Aside0.mk (blk_below (g := gb130) (o := .cells #[.int .i64 a0_0, .int .i64 a0_1, .int .i64 a0_2, .int .i64 a0_3, .int .i64 a0_4, .int .i64 a0_5] 29 (0, 0)) (by (with_reducible repeat (first | refine blk_drewN ?_ _ | refine blk_drew ?_ | refine blk_alloc ?_ _)); exact BK130.out) hb); have n1_ := Aside0.mk (below_step (by repeat (first | (with_reducible first | exact HB.out | apply below_alloc | apply pw_below_drewN | apply below_drew1 | refine below_set ?_ GE130.out) | exact HB.out)) hb); have n2_ := Aside0.mk (hbox); have n3_ := Aside0.mk ((by rw [hg]; exact (below_size (by repeat (first | (with_reducible first | exact HB.out | apply below_alloc | apply pw_below_drewN | apply below_drew1 | refine below_set ?_ GE130.out) | exact HB.out))) : w.heap.size ≤ gb131)); have n4_ := Aside0.mk ((by rw [hg]; exact (below_size (by repeat (first | (with_reducible first | exact HB.out | apply below_alloc | apply pw_below_drewN | apply below_drew1 | refine below_set ?_ GE130.out) | exact HB.out))) : w.heap.size ≤ gb131)); have n5_ := Aside0.mk ((by rw [hg]; exact Nat.ne_of_lt (blk_lt (g := gb130) (o := .cells #[.int .i64 a0_0, .int .i64 a0_1, .int .i64 a0_2, .int .i64 a0_3, .int .i64 a0_4, .int .i64 a0_5] 29 (0, 0)) (by (with_reducible repeat (first | refine blk_drewN ?_ _ | refine blk_drew ?_ | refine blk_alloc ?_ _)); exact BK130.out)) : gb130 ≠ gb131)); have n6_ := Aside0.mk ((by rw [hg]; exact Nat.ne_of_gt (blk_lt (g := gb130) (o := .cells #[.int .i64 a0_0, .int .i64 a0_1, .int .i64 a0_2, .int .i64 a0_3, .int .i64 a0_4, .int .i64 a0_5] 29 (0, 0)) (by (with_reducible repeat (first | refine blk_drewN ?_ _ | refine blk_drew ?_ | refine blk_alloc ?_ _)); exact BK130.out)) : gb131 ≠ gb130)); clear BK130; clear HB; have BK130 := n0_; have HB := n1_; have BK131 := n2_; have GW131 := n3_; have GE131 := n4_; have NB130_131 := n5_; have NB131_130 := n6_; clear n0_ n1_ n2_ n3_ n4_ n5_ n6_; clear hb hbox hg; have hnb5 := NB131_130.out; have hnc5 := NB130_131.out; have hcz6_0 : w4.cell? ⟨gb131, 0, none⟩ = some (.int .i64 0) := (blk_cell BK131.out 0).trans rfl; have hcz6_1 : w4.cell? ⟨gb131, 1, none⟩ = some (.int .i64 0) := (blk_cell BK131.out 1).trans rfl; have hcz6_2 : w4.cell? ⟨gb131, 2, none⟩ = some (.int .i64 0) := (blk_cell BK131.out 2).trans rfl; have hcz6_3 : w4.cell? ⟨gb131, 3, none⟩ = some (.int .i64 0) := (blk_cell BK131.out 3).trans rfl; have hcz6_4 : w4.cell? ⟨gb131, 4, none⟩ = some (.int .i64 0) := (blk_cell BK131.out 4).trans rfl; have hcz6_5 : w4.cell? ⟨gb131, 5, none⟩ = some (.int .i64 0) := (blk_cell BK131.out 5).trans rfl; have hfz6_0 := blk_frozen BK131.out 0; have hfz6_1 := blk_frozen BK131.out 1; have hfz6_2 := blk_frozen BK131.out 2; have hfz6_3 := blk_frozen BK131.out 3; have hfz6_4 := blk_frozen BK131.out 4; have hfz6_5 := blk_frozen BK131.out 5) | ((with_reducible refine gate_dst (N := 40) rfl ?_); refine Kd.R_lit (Kd.int .i64) _ 3 ?hg (N := 40) ?hd (xs := ([Go.bits .and .i64 a0_0 65535, Go.bits .and .i64 a0_1 65535, Go.bits .and .i64 a0_2 65535, Go.bits .and .i64 a0_3 65535, Go.bits .and .i64 a0_4 65535, Go.bits .and .i64 a0_5 65535] : List Int)) (inner := [.int .i64 (Go.bits .and .i64 a0_0 65535), .int .i64 (Go.bits .and .i64 a0_1 65535), .int .i64 (Go.bits .and .i64 a0_2 65535), .int .i64 (Go.bits .and .i64 a0_3 65535), .int .i64 (Go.bits .and .i64 a0_4 65535), .int .i64 (Go.bits .and .i64 a0_5 65535)]) (ok := fun _ => True) (okp := fun _ => True) ?hr ?hp (fun _ hk => hk) trivial (Below.refl _ _) (Nat.le_refl _) (by simp) ?_; (case hd => rfl); (case hg => rfl); (case hr => first | (go_simp; done) | (go_simp; rfl)); (case hp => exact (Reps.one (show Kd.M (Kd.int .i64) _ _ _ (Go.bits .and .i64 a0_0 65535) [.int .i64 (Go.bits .and .i64 a0_0 65535)] from rfl) (Reps.one (show Kd.M (Kd.int .i64) _ _ _ (Go.bits .and .i64 a0_1 65535) [.int .i64 (Go.bits .and .i64 a0_1 65535)] from rfl) (Reps.one (show Kd.M (Kd.int .i64) _ _ _ (Go.bits .and .i64 a0_2 65535) [.int .i64 (Go.bits .and .i64 a0_2 65535)] from rfl) (Reps.one (show Kd.M (Kd.int .i64) _ _ _ (Go.bits .and .i64 a0_3 65535) [.int .i64 (Go.bits .and .i64 a0_3 65535)] from rfl) (Reps.one (show Kd.M (Kd.int .i64) _ _ _ (Go.bits .and .i64 a0_4 65535) [.int .i64 (Go.bits .and .i64 a0_4 65535)] from rfl) (Reps.one (show Kd.M (Kd.int .i64) _ _ _ (Go.bits .and .i64 a0_5 65535) [.int .i64 (Go.bits .and .i64 a0_5 65535)] from rfl) (Reps.none _ _)))))))); intro v133 w7 ho8 hb hg_ hnew_; clear hg_ hnew_; (first | rw [← Ny132.out] at ho8 | (simp only [Int.reduceToNat] at ho8; rw [← Ny132.out] at ho8)); have n0_ := Aside0.mk (Kd.R_lower ho8 (below_size (by repeat (first | (with_reducible first | exact HB.out | apply below_alloc | apply pw_below_drewN | apply below_drew1 | refine below_set ?_ GE130.out | refine below_set ?_ GE131.out) | exact HB.out)))); have n1_ := Aside0.mk (blk_below (g := gb130) (o := .cells #[.int .i64 a0_0, .int .i64 a0_1, .int .i64 a0_2, .int .i64 a0_3, .int .i64 a0_4, .int .i64 a0_5] 29 (0, 0)) (by (with_reducible repeat (first | refine blk_drewN ?_ _ | refine blk_drew ?_ | refine blk_alloc ?_ _)); refine blk_far ?_ NB130_131.out _; (with_reducible repeat (first | refine blk_drewN ?_ _ | refine blk_drew ?_ | refine blk_alloc ?_ _)); refine blk_far ?_ NB130_131.out _; (with_reducible repeat (first | refine blk_drewN ?_ _ | refine blk_drew ?_ | refine blk_alloc ?_ _)); refine blk_far ?_ NB130_131.out _; (with_reducible repeat (first | refine blk_drewN ?_ _ | refine blk_drew ?_ | refine blk_alloc ?_ _)); refine blk_far ?_ NB130_131.out _; (with_reducible repeat (first | refine blk_drewN ?_ _ | refine blk_drew ?_ | refine blk_alloc ?_ _)); refine blk_far ?_ NB130_131.out _; (with_reducible repeat (first | refine blk_drewN ?_ _ | refine blk_drew ?_ | refine blk_alloc ?_ _)); refine blk_far ?_ NB130_131.out _; (with_reducible repeat (first | refine blk_drewN ?_ _ | refine blk_drew ?_ | refine blk_alloc ?_ _)); exact BK130.out) hb); have n2_ := Aside0.mk (blk_below (g := gb131) (o := .cells #[.int .i64 (Go.bits .and .i64 a0_0 65535), .int .i64 (Go.bits .and .i64 a0_1 65535), .int .i64 (Go.bits .and .i64 a0_2 65535), .int .i64 (Go.bits .and .i64 a0_3 65535), .int .i64 (Go.bits .and .i64 a0_4 65535), .int .i64 (Go.bits .and .i64 a0_5 65535)] 29 (0, 0)) (by (with_reducible repeat (first | refine blk_drewN ?_ _ | refine blk_drew ?_ | refine blk_alloc ?_ _)); refine blk_put (cs := #[.int .i64 (Go.bits .and .i64 a0_0 65535), .int .i64 (Go.bits .and .i64 a0_1 65535), .int .i64 (Go.bits .and .i64 a0_2 65535), .int .i64 (Go.bits .and .i64 a0_3 65535), .int .i64 (Go.bits .and .i64 a0_4 65535), .int .i64 0]) ?_ 5 _ rfl; (with_reducible repeat (first | refine blk_drewN ?_ _ | refine blk_drew ?_ | refine blk_alloc ?_ _)); refine blk_put (cs := #[.int .i64 (Go.bits .and .i64 a0_0 65535), .int .i64 (Go.bits .and .i64 a0_1 65535), .int .i64 (Go.bits .and .i64 a0_2 65535), .int .i64 (Go.bits .and .i64 a0_3 65535), .int .i64 0, .int .i64 0]) ?_ 4 _ rfl; (with_reducible repeat (first | refine blk_drewN ?_ _ | refine blk_drew ?_ | refine blk_alloc ?_ _)); refine blk_put (cs := #[.int .i64 (Go.bits .and .i64 a0_0 65535), .int .i64 (Go.bits .and .i64 a0_1 65535), .int .i64 (Go.bits .and .i64 a0_2 65535), .int .i64 0, .int .i64 0, .int .i64 0]) ?_ 3 _ rfl; (with_reducible repeat (first | refine blk_drewN ?_ _ | refine blk_drew ?_ | refine blk_alloc ?_ _)); refine blk_put (cs := #[.int .i64 (Go.bits .and .i64 a0_0 65535), .int .i64 (Go.bits .and .i64 a0_1 65535), .int .i64 0, .int .i64 0, .int .i64 0, .int .i64 0]) ?_ 2 _ rfl; (with_reducible repeat (first | refine blk_drewN ?_ _ | refine blk_drew ?_ | refine blk_alloc ?_ _)); refine blk_put (cs := #[.int .i64 (Go.bits .and .i64 a0_0 65535), .int .i64 0, .int .i64 0, .int .i64 0, .int .i64 0, .int .i64 0]) ?_ 1 _ rfl; (with_reducible repeat (first | refine blk_drewN ?_ _ | refine blk_drew ?_ | refine blk_alloc ?_ _)); refine blk_put (cs := #[.int .i64 0, .int .i64 0, .int .i64 0, .int .i64 0, .int .i64 0, .int .i64 0]) ?_ 0 _ rfl; (with_reducible repeat (first | refine blk_drewN ?_ _ | refine blk_drew ?_ | refine blk_alloc ?_ _)); exact BK131.out) hb); have n3_ := Aside0.mk (below_step (by repeat (first | (with_reducible first | exact HB.out | apply below_alloc | apply pw_below_drewN | apply below_drew1 | refine below_set ?_ GE130.out | refine below_set ?_ GE131.out) | exact HB.out)) hb); clear BK130; clear BK131; clear HB; have HO134 := n0_; have BK130 := n1_; have BK131 := n2_; have HB := n3_; clear n0_ n1_ n2_ n3_; clear hb ho8))
  go_loopg [5, 6] k (fun kq v5 v6 w' => ∃ (x5_1 : ByteArray) (x6_1 : Int), v5 = .string x5_1 ∧ v6 = .int .i64 x6_1 ∧ Aside0 (cubbyholelaw39_StatTexts.l0 kq y132 x5_1 x6_1 a0_0 a0_1 a0_2 a0_3 a0_4 a0_5 (Go.bits .and .i64 a0_0 65535) (Go.bits .and .i64 a0_1 65535) (Go.bits .and .i64 a0_2 65535) (Go.bits .and .i64 a0_3 65535) (Go.bits .and .i64 a0_4 65535) (Go.bits .and .i64 a0_5 65535) = some r) ∧ Aside0 (kq ≤ k) ∧ Aside0 (Kd.R (Kd.int .i64) 3 w' w.heap.size (fun _ => True) v133 y132) ∧ Aside0 (w'.heap[gb130]? = some (.cells #[.int .i64 a0_0, .int .i64 a0_1, .int .i64 a0_2, .int .i64 a0_3, .int .i64 a0_4, .int .i64 a0_5] 29 (0, 0))) ∧ Aside0 (w'.heap[gb131]? = some (.cells #[.int .i64 (Go.bits .and .i64 a0_0 65535), .int .i64 (Go.bits .and .i64 a0_1 65535), .int .i64 (Go.bits .and .i64 a0_2 65535), .int .i64 (Go.bits .and .i64 a0_3 65535), .int .i64 (Go.bits .and .i64 a0_4 65535), .int .i64 (Go.bits .and .i64 a0_5 65535)] 29 (0, 0))) ∧ Aside0 (Below w.heap.size w w'))
  case atStart => exact ⟨((⟨#[]⟩ : ByteArray)), (0), (by first | rfl | (simp; done) | (simp [*]; done)), (by first | rfl | (simp; done) | (simp [*]; done)), H', ⟨Nat.le_refl _⟩, ⟨by (with_reducible repeat (first | apply Kd.R_alloc | apply Kd.R_drewN | apply Kd.R_drew)); exact HO134.out⟩, ⟨by (with_reducible repeat (first | refine blk_drewN ?_ _ | refine blk_drew ?_ | refine blk_alloc ?_ _)); exact BK130.out⟩, ⟨by (with_reducible repeat (first | refine blk_drewN ?_ _ | refine blk_drew ?_ | refine blk_alloc ?_ _)); exact BK131.out⟩, ⟨by repeat (first | (with_reducible first | exact HB.out | apply below_alloc | apply pw_below_drewN | apply below_drew1 | refine below_set ?_ GE130.out | refine below_set ?_ GE131.out) | exact HB.out)⟩⟩
  case round =>
    clear H'
    try clear p2
    try clear c4
    try clear c5
    try clear hcz3_0
    try clear hcz3_1
    try clear hcz3_2
    try clear hcz3_3
    try clear hcz3_4
    try clear hcz3_5
    try clear hcz6_0
    try clear hcz6_1
    try clear hcz6_2
    try clear hcz6_3
    try clear hcz6_4
    try clear hcz6_5
    try clear hfz3_0
    try clear hfz3_1
    try clear hfz3_2
    try clear hfz3_3
    try clear hfz3_4
    try clear hfz3_5
    try clear hfz6_0
    try clear hfz6_1
    try clear hfz6_2
    try clear hfz6_3
    try clear hfz6_4
    try clear hfz6_5
    obtain ⟨x5_1, x6_1, rfl, rfl, HA, HK1, HO_4, BK130, BK131, HB⟩ := hrel
    cases gk with
    | zero => exact absurd HA.out (by simp [cubbyholelaw39_StatTexts.l0])
    | succ k1 =>
      have H := HA.out
      clear HA
      simp only [cubbyholelaw39_StatTexts.l0] at H
      by_cases c9 : x6_1 < 6
      · rw [if_pos c9] at H
        have c9b0 : decide (x6_1 < 6) = true := decide_eq_true c9
        clear c9
        obtain ⟨y135, hy135⟩ : ∃ y_ : List ByteArray, y_ = (([(⟨#[103, 111, 116, 32]⟩ : ByteArray), (⟨#[32, 103, 105, 118, 101, 110, 32]⟩ : ByteArray), (⟨#[32, 101, 110, 100, 101, 100, 32]⟩ : ByteArray), (⟨#[32, 108, 105, 118, 101, 32]⟩ : ByteArray), (⟨#[32, 112, 101, 97, 107, 32]⟩ : ByteArray), (⟨#[32, 99, 108, 101, 97, 114, 32]⟩ : ByteArray)] : List ByteArray)) := ⟨_, rfl⟩
        replace H : (if 0 ≤ x6_1 then (if x6_1 < (y135.length : Int) then (if x6_1 < (y132.length : Int) then ((cubbyholelaw39_num.f k1 (rd y132 x6_1)).bind fun t140 => (if (rdOf ByteArray.empty y135 x6_1).size + t140.size ≤ 9223372036854775807 then (if x5_1.size + ((rdOf ByteArray.empty y135 x6_1) ++ t140).size ≤ 9223372036854775807 then (cubbyholelaw39_StatTexts.l0 k1 y132 (x5_1 ++ ((rdOf ByteArray.empty y135 x6_1) ++ t140)) (wrap64 (x6_1 + 1)) a0_0 a0_1 a0_2 a0_3 a0_4 a0_5 (Go.bits .and .i64 a0_0 65535) (Go.bits .and .i64 a0_1 65535) (Go.bits .and .i64 a0_2 65535) (Go.bits .and .i64 a0_3 65535) (Go.bits .and .i64 a0_4 65535) (Go.bits .and .i64 a0_5 65535)) else (none)) else (none))) else (none)) else (none)) else (none)) = some r := by first | (rw [hy135]; with_reducible exact H) | (have H2_ := (Option.bind_some _ _).symm.trans H; rw [hy135]; with_reducible exact H2_) | (have H2_ := (Option.bind_some _ _).symm.trans H; with_reducible exact H2_) | with_reducible exact H | (rw [hy135]; exact H) | exact H
        have Ny135 := Aside0.mk hy135
        clear hy135
        by_cases c10 : 0 ≤ x6_1
        · rw [if_pos c10] at H
          have c10b0 : decide (0 ≤ x6_1) = true := decide_eq_true c10
          clear c10
          by_cases c11 : x6_1 < (y135.length : Int)
          · rw [if_pos c11] at H
            have c11b0 : decide (x6_1 < (y135.length : Int)) = true := decide_eq_true c11
            clear c11
            by_cases c12 : x6_1 < (y132.length : Int)
            · rw [if_pos c12] at H
              have c12b0 : decide (x6_1 < (y132.length : Int)) = true := decide_eq_true c12
              clear c12
              replace H := Option.bind_eq_some_iff.mp H
              obtain ⟨t140, A130, H⟩ := H
              replace H : (if (rdOf ByteArray.empty y135 x6_1).size + t140.size ≤ 9223372036854775807 then (if x5_1.size + ((rdOf ByteArray.empty y135 x6_1) ++ t140).size ≤ 9223372036854775807 then (cubbyholelaw39_StatTexts.l0 k1 y132 (x5_1 ++ ((rdOf ByteArray.empty y135 x6_1) ++ t140)) (wrap64 (x6_1 + 1)) a0_0 a0_1 a0_2 a0_3 a0_4 a0_5 (Go.bits .and .i64 a0_0 65535) (Go.bits .and .i64 a0_1 65535) (Go.bits .and .i64 a0_2 65535) (Go.bits .and .i64 a0_3 65535) (Go.bits .and .i64 a0_4 65535) (Go.bits .and .i64 a0_5 65535)) else (none)) else (none)) = some r := H
              have A13 := Aside0.mk A130
              clear A130
              by_cases c14 : (rdOf ByteArray.empty y135 x6_1).size + t140.size ≤ 9223372036854775807
              · rw [if_pos c14] at H
                have c14b0 := eq_true c14
                have c14b1 : decide ((rdOf ByteArray.empty y135 x6_1).size + t140.size ≤ 9223372036854775807) = true := decide_eq_true c14
                try have c14b2 : (9223372036854775807 < (rdOf ByteArray.empty y135 x6_1).size + t140.size) = False := eq_false (Nat.not_lt.2 c14)
                by_cases c15 : x5_1.size + ((rdOf ByteArray.empty y135 x6_1) ++ t140).size ≤ 9223372036854775807
                · rw [if_pos c15] at H
                  have c15b0 := eq_true c15
                  have c15b1 : decide (x5_1.size + ((rdOf ByteArray.empty y135 x6_1) ++ t140).size ≤ 9223372036854775807) = true := decide_eq_true c15
                  try have c15b2 : (9223372036854775807 < x5_1.size + ((rdOf ByteArray.empty y135 x6_1) ++ t140).size) = False := eq_false (Nat.not_lt.2 c15)
                  have c15b3 := eq_true (show x5_1.size + ((rdOf ByteArray.empty y135 x6_1).size + t140.size) ≤ 9223372036854775807 by have h9_ := c15; rw [ByteArray.size_append] at h9_; exact h9_)
                  have H' := Aside0.mk H
                  clear H
                  try go_wp2
                  have pi138 : (0 ≤ (x6_1 : Int)) = True := eq_true (of_decide_eq_true (by first | (with_reducible assumption) | assumption))
                  have qi138 : (x6_1 < (y135.length : Int)) = True := eq_true (of_decide_eq_true (by first | (with_reducible assumption) | assumption))
                  have n0_ := Aside0.mk (Kd.R_drew HO_4.out)
                  have n1_ := Aside0.mk (blk_drew BK130.out)
                  have n2_ := Aside0.mk (blk_drew BK131.out)
                  have n3_ := Aside0.mk (below_drew1 HB.out)
                  clear HO_4
                  clear BK130
                  clear BK131
                  clear HB
                  have HO_4 := n0_
                  have BK130 := n1_
                  have BK131 := n2_
                  have HB := n3_
                  clear n0_ n1_ n2_ n3_
                  obtain ⟨Ao17, co17, eo17⟩ := Kd.R_slice HO_4.out
                  (first | subst eo17 | (injection eo17 with f1_ f2_ f3_; have f4_ := f1_.symm; have f5_ := f3_.symm; clear f1_ f2_ f3_; subst f4_; subst f5_))
                  have p139 : 0 ≤ (x6_1 : Int) := of_decide_eq_true (by first | (with_reducible assumption) | assumption)
                  have q139 : x6_1 < (y132.length : Int) := of_decide_eq_true (by first | (with_reducible assumption) | assumption)
                  obtain ⟨ad139, e139, hx139_0⟩ := Kd.at_int (Kd.R_reads' HO_4.out).2.2 x6_1 p139 q139
                  cases e139
                  replace p139 := eq_true p139
                  replace q139 := eq_true q139
                  refine start_ (n := 13) (S := fun w' => True) (ds := []) #[false, false, false, false, false, false, false, false, false, false, false, false, false] (by kernel_rfl) rfl rfl trivial (fun hHeld => ?_); refine with_tabW cubbyholelaw39_StatTexts.tab6 cubbyholelaw39_StatTexts.bits6 (fun HT_ HW_ => ?_)
                  generalize wr.drew = w16 at HO_4 BK130 BK131 HB hx139_0 hHeld ⊢
                  refine pure_ (i := 0) (N := some 45) (v := ?_) (a' := ?_) #[true, false, false, false, false, false, false, false, false, false, false, false, false] rfl rfl (any_of HT_.out (by kernel_rfl)) (fun _ _ _ h => h) (Or.inl ⟨by rfl, ?_⟩) ?_ ?_
                  rotate_left
                  · intro w'
                    go_simp
                    with_reducible rfl
                  rotate_left
                  · simp only [Act.put, List.setIfInBounds_toArray, List.set_cons_zero, List.set_cons_succ, i64_w, i32_w]
                    rfl
                  refine pure_ (i := 2) (N := some 47) (v := ?_) (a' := ?_) #[true, false, true, false, false, false, false, false, false, false, false, false, false] rfl rfl (any_of HT_.out (by kernel_rfl)) (fun _ _ _ h => h) (Or.inl ⟨by rfl, ?_⟩) ?_ ?_
                  rotate_left
                  · intro w'
                    go_simp
                    with_reducible rfl
                  rotate_left
                  · simp only [Act.put, List.setIfInBounds_toArray, List.set_cons_zero, List.set_cons_succ, i64_w, i32_w]
                    rfl
                  refine pure_ (i := 5) (N := some 50) (v := ?_) (a' := ?_) #[true, false, true, false, false, true, false, false, false, false, false, false, false] rfl rfl (any_of HT_.out (by kernel_rfl)) (fun _ _ _ h => h) (Or.inl ⟨by rfl, ?_⟩) ?_ ?_
                  rotate_left
                  · intro w'
                    go_simp
                    with_reducible rfl
                  rotate_left
                  · simp only [Act.put, List.setIfInBounds_toArray, List.set_cons_zero, List.set_cons_succ, i64_w, i32_w]
                    rfl
                  refine pure_ (i := 6) (N := some 51) (v := ?_) (a' := ?_) #[true, false, true, false, false, true, true, false, false, false, false, false, false] rfl rfl (any_of HT_.out (by kernel_rfl)) (fun _ _ _ h => h) (Or.inl ⟨by rfl, ?_⟩) ?_ ?_
                  rotate_left
                  · intro w'
                    go_simp
                    with_reducible rfl
                  rotate_left
                  · simp only [Act.put, List.setIfInBounds_toArray, List.set_cons_zero, List.set_cons_succ, i64_w, i32_w]
                    rfl
                  refine inv_at [1, 3, 4, 7, 8, 9, 10, 11, 12] (fun a0_ b a w' => ∃ (v136 : Value) (adz_v136 : Addr) (m3_ : Value), a = putSel a0_ b [(1, 46, v136), (3, 48, m3_), (4, 49, .string (rdOf ByteArray.empty y135 x6_1)), (7, 52, .pointer (some (ad139.add (x6_1).toNat))), (8, 53, .int .i64 (rd y132 x6_1)), (9, 54, .string t140), (10, 55, .string ((rdOf ByteArray.empty y135 x6_1) ++ t140)), (11, 56, .string (x5_1 ++ ((rdOf ByteArray.empty y135 x6_1) ++ t140))), (12, 5, .string (x5_1 ++ ((rdOf ByteArray.empty y135 x6_1) ++ t140)))] ∧ (Kd.R (Kd.int .i64) 3 w' w.heap.size (fun _ => True) (.slice (some ad139) y132.length co17) y132) ∧ (w'.heap[gb130]? = some (.cells #[.int .i64 a0_0, .int .i64 a0_1, .int .i64 a0_2, .int .i64 a0_3, .int .i64 a0_4, .int .i64 a0_5] 29 (0, 0))) ∧ (w'.heap[gb131]? = some (.cells #[.int .i64 (Go.bits .and .i64 a0_0 65535), .int .i64 (Go.bits .and .i64 a0_1 65535), .int .i64 (Go.bits .and .i64 a0_2 65535), .int .i64 (Go.bits .and .i64 a0_3 65535), .int .i64 (Go.bits .and .i64 a0_4 65535), .int .i64 (Go.bits .and .i64 a0_5 65535)] 29 (0, 0))) ∧ (Below w.heap.size w w') ∧ (b 1 = true → Kd.R Kd.string 9 w' w.heap.size (fun _ => True) v136 y135) ∧ (b 1 = true → ∃ c_, (v136 : Value) = .slice (some adz_v136) y135.length c_) ∧ (b 3 = true → (m3_ : Value) = .pointer (some (adz_v136.add (x6_1).toNat)))) HT_.out HW_.out (by kernel_rfl) (by kernel_rfl) ?_ ?_ ?_
                  · exact ⟨.bool false, ⟨0, 0, none⟩, .bool false, by simp only [putSel, Bool.false_eq_true, if_false], HO_4.out, BK130.out, BK131.out, HB.out, fun h_ => absurd h_ (by decide), fun h_ => absurd h_ (by decide), fun h_ => absurd h_ (by decide)⟩
                  · skip
                    clear BK130 BK131 HB HO_4
                    refine steps_cons ?_ ?_
                    · rintro b a w' ⟨v136, adz_v136, m3_, ha, Q_HO_4, Q_BK130, Q_BK131, Q_HB, Q_HO137, Q_HA_HO137, Q_X3_⟩ hb_ hon hoff
                      refine ⟨_, rfl, fun K hK => ?_⟩
                      replace ha := Aside0.mk ha
                      have HO_4 := Aside0.mk Q_HO_4
                      have BK130 := Aside0.mk Q_BK130
                      have BK131 := Aside0.mk Q_BK131
                      have HB := Aside0.mk Q_HB
                      refine Kd.R_lit_step Kd.string _ 9 ?hg (N := 46) ?hd (xs := ([(⟨#[103, 111, 116, 32]⟩ : ByteArray), (⟨#[32, 103, 105, 118, 101, 110, 32]⟩ : ByteArray), (⟨#[32, 101, 110, 100, 101, 100, 32]⟩ : ByteArray), (⟨#[32, 108, 105, 118, 101, 32]⟩ : ByteArray), (⟨#[32, 112, 101, 97, 107, 32]⟩ : ByteArray), (⟨#[32, 99, 108, 101, 97, 114, 32]⟩ : ByteArray)] : List ByteArray)) (inner := [.string (⟨#[103, 111, 116, 32]⟩ : ByteArray), .string (⟨#[32, 103, 105, 118, 101, 110, 32]⟩ : ByteArray), .string (⟨#[32, 101, 110, 100, 101, 100, 32]⟩ : ByteArray), .string (⟨#[32, 108, 105, 118, 101, 32]⟩ : ByteArray), .string (⟨#[32, 112, 101, 97, 107, 32]⟩ : ByteArray), .string (⟨#[32, 99, 108, 101, 97, 114, 32]⟩ : ByteArray)]) (ok := fun _ => True) (okp := fun _ => True) ?hr ?hp (fun _ hk => hk) trivial (Below.refl _ _) (Nat.le_refl _) (by simp) ?_; (case hd => rfl); (case hg => rfl); (case hr => first | (go_simp; done) | (go_simp; rfl)); (case hp => exact (Reps.one (show Kd.M Kd.string _ _ _ (⟨#[103, 111, 116, 32]⟩ : ByteArray) [.string (⟨#[103, 111, 116, 32]⟩ : ByteArray)] from rfl) (Reps.one (show Kd.M Kd.string _ _ _ (⟨#[32, 103, 105, 118, 101, 110, 32]⟩ : ByteArray) [.string (⟨#[32, 103, 105, 118, 101, 110, 32]⟩ : ByteArray)] from rfl) (Reps.one (show Kd.M Kd.string _ _ _ (⟨#[32, 101, 110, 100, 101, 100, 32]⟩ : ByteArray) [.string (⟨#[32, 101, 110, 100, 101, 100, 32]⟩ : ByteArray)] from rfl) (Reps.one (show Kd.M Kd.string _ _ _ (⟨#[32, 108, 105, 118, 101, 32]⟩ : ByteArray) [.string (⟨#[32, 108, 105, 118, 101, 32]⟩ : ByteArray)] from rfl) (Reps.one (show Kd.M Kd.string _ _ _ (⟨#[32, 112, 101, 97, 107, 32]⟩ : ByteArray) [.string (⟨#[32, 112, 101, 97, 107, 32]⟩ : ByteArray)] from rfl) (Reps.one (show Kd.M Kd.string _ _ _ (⟨#[32, 99, 108, 101, 97, 114, 32]⟩ : ByteArray) [.string (⟨#[32, 99, 108, 101, 97, 114, 32]⟩ : ByteArray)] from rfl) (Reps.none _ _))))))))
                      intro v136 w18 ho19 hb hg_ hnew_
                      clear hg_ hnew_
                      (first | rw [← Ny135.out] at ho19 | (simp only [Int.reduceToNat] at ho19; rw [← Ny135.out] at ho19))
                      have n0_ := Aside0.mk (Kd.R_below (by (with_reducible repeat (first | apply Kd.R_alloc | apply Kd.R_drewN | apply Kd.R_drew)); exact HO_4.out) hb)
                      have n1_ := Aside0.mk (Kd.R_lower ho19 (below_size (by repeat (first | (with_reducible first | exact HB.out | apply below_alloc | apply pw_below_drewN | apply below_drew1 | refine below_set ?_ GE130.out | refine below_set ?_ GE131.out) | exact HB.out))))
                      have n2_ := Aside0.mk (blk_below (g := gb130) (o := .cells #[.int .i64 a0_0, .int .i64 a0_1, .int .i64 a0_2, .int .i64 a0_3, .int .i64 a0_4, .int .i64 a0_5] 29 (0, 0)) (by (with_reducible repeat (first | refine blk_drewN ?_ _ | refine blk_drew ?_ | refine blk_alloc ?_ _)); exact BK130.out) hb)
                      have n3_ := Aside0.mk (blk_below (g := gb131) (o := .cells #[.int .i64 (Go.bits .and .i64 a0_0 65535), .int .i64 (Go.bits .and .i64 a0_1 65535), .int .i64 (Go.bits .and .i64 a0_2 65535), .int .i64 (Go.bits .and .i64 a0_3 65535), .int .i64 (Go.bits .and .i64 a0_4 65535), .int .i64 (Go.bits .and .i64 a0_5 65535)] 29 (0, 0)) (by (with_reducible repeat (first | refine blk_drewN ?_ _ | refine blk_drew ?_ | refine blk_alloc ?_ _)); exact BK131.out) hb)
                      have n4_ := Aside0.mk (below_step (by repeat (first | (with_reducible first | exact HB.out | apply below_alloc | apply pw_below_drewN | apply below_drew1 | refine below_set ?_ GE130.out | refine below_set ?_ GE131.out) | exact HB.out)) hb)
                      clear HO_4
                      clear BK130
                      clear BK131
                      clear HB
                      have HO_4 := n0_
                      have HO137 := n1_
                      have BK130 := n2_
                      have BK131 := n3_
                      have HB := n4_
                      clear n0_ n1_ n2_ n3_ n4_
                      clear hb ho19
                      obtain ⟨Ao20, co20, eo20⟩ := Kd.R_slice HO137.out
                      subst eo20
                      obtain ⟨ado20, fo20, _⟩ := Kd.at_string (Kd.R_reads' HO137.out).2.2 0 (by decide) (by rw [Ny135.out]; simp)
                      cases fo20
                      refine hK.out _ _ ⟨.slice (some ado20) y135.length co20, ado20, m3_, (by rw [ha.out]; exact putSel_upk 0 hb_ rfl rfl rfl), (by (with_reducible repeat (first | apply Kd.R_alloc | apply Kd.R_drewN | apply Kd.R_drew)); exact HO_4.out), (by (with_reducible repeat (first | refine blk_drewN ?_ _ | refine blk_drew ?_ | refine blk_alloc ?_ _)); exact BK130.out), (by (with_reducible repeat (first | refine blk_drewN ?_ _ | refine blk_drew ?_ | refine blk_alloc ?_ _)); exact BK131.out), (by repeat (first | (with_reducible first | exact HB.out | apply below_alloc | apply pw_below_drewN | apply below_drew1 | refine below_set ?_ GE130.out | refine below_set ?_ GE131.out) | exact HB.out)), fun _ => (by (with_reducible repeat (first | apply Kd.R_alloc | apply Kd.R_drewN | apply Kd.R_drew)); exact HO137.out), fun _ => ⟨_, rfl⟩, fun h0_ => absurd ((hoff 3 (by kernel_rfl)).symm.trans h0_) (by decide)⟩
                    refine steps_cons ?_ ?_
                    · rintro b a w' ⟨v136, adz_v136, m3_, ha, Q_HO_4, Q_BK130, Q_BK131, Q_HB, Q_HO137, Q_HA_HO137, Q_X3_⟩ hb_ hon hoff
                      refine ⟨_, rfl, fun K hK => ?_⟩
                      have e46 : a.tmps[46]? = some (v136) := by rw [ha]; exact putSel_on (e := (1, 46, v136)) 0 rfl rfl (hon 1 (by kernel_rfl)) rfl
                      have e47 : a.tmps[47]? = some (.int .i64 x6_1) := by rw [ha]; exact (putSel_off rfl).trans rfl
                      replace ha := Aside0.mk ha
                      have HO_4 := Aside0.mk Q_HO_4
                      have BK130 := Aside0.mk Q_BK130
                      have BK131 := Aside0.mk Q_BK131
                      have HB := Aside0.mk Q_HB
                      have HO137 := Aside0.mk (Q_HO137 (hon 1 (by kernel_rfl)))
                      have HA_HO137 := Aside0.mk (Q_HA_HO137 (hon 1 (by kernel_rfl)))
                      obtain ⟨c_, hv_⟩ := HA_HO137.out
                      rw [hv_] at e46
                      refine value_ (w1 := w') (v := .pointer (some (adz_v136.add (x6_1).toNat))) (by rfl) rfl ?_ ?_
                      · go_simp
                        (try simp only [i64_w])
                        try rfl
                      refine hK.out _ _ ⟨v136, adz_v136, (.pointer (some (adz_v136.add (x6_1).toNat))), (by rw [ha.out]; exact putSel_upk 1 hb_ rfl rfl rfl), Q_HO_4, Q_BK130, Q_BK131, Q_HB, Q_HO137, Q_HA_HO137, fun _ => rfl⟩
                    refine steps_cons ?_ ?_
                    · rintro b a w' ⟨v136, adz_v136, m3_, ha, Q_HO_4, Q_BK130, Q_BK131, Q_HB, Q_HO137, Q_HA_HO137, Q_X3_⟩ hb_ hon hoff
                      refine ⟨_, rfl, fun K hK => ?_⟩
                      have e48 : a.tmps[48]? = some (m3_) := by rw [ha]; exact putSel_on (e := (3, 48, m3_)) 1 rfl rfl (hon 3 (by kernel_rfl)) rfl
                      rw [Q_X3_ (hon 3 (by kernel_rfl))] at e48
                      replace ha := Aside0.mk ha
                      have HO_4 := Aside0.mk Q_HO_4
                      have BK130 := Aside0.mk Q_BK130
                      have BK131 := Aside0.mk Q_BK131
                      have HB := Aside0.mk Q_HB
                      have HO137 := Aside0.mk (Q_HO137 (hon 1 (by kernel_rfl)))
                      have HA_HO137 := Aside0.mk (Q_HA_HO137 (hon 1 (by kernel_rfl)))
                      obtain ⟨c_, hv_⟩ := HA_HO137.out
                      have hF_ := HO137.out
                      rw [hv_] at hF_
                      obtain ⟨ad_, ea_, hx_⟩ := Kd.at_string (Kd.R_reads' hF_).2.2 x6_1 (of_eq_true pi138) (of_eq_true qi138)
                      cases ea_
                      refine value_ (w1 := w') (v := .string (rdOf ByteArray.empty y135 x6_1)) (by rfl) rfl ?_ ?_
                      · go_simp
                        (try simp only [i64_w])
                        try rfl
                      refine hK.out _ _ ⟨v136, adz_v136, m3_, (by rw [ha.out]; exact putSel_upk 2 hb_ rfl rfl rfl), Q_HO_4, Q_BK130, Q_BK131, Q_HB, Q_HO137, Q_HA_HO137, Q_X3_⟩
                    refine steps_cons ?_ ?_
                    · rintro b a w' ⟨v136, adz_v136, m3_, ha, Q_HO_4, Q_BK130, Q_BK131, Q_HB, Q_HO137, Q_HA_HO137, Q_X3_⟩ hb_ hon hoff
                      refine ⟨_, rfl, fun K hK => ?_⟩
                      have e50 : a.tmps[50]? = some (.slice (some ad139) y132.length co17) := by rw [ha]; exact (putSel_off rfl).trans rfl
                      have e51 : a.tmps[51]? = some (.int .i64 x6_1) := by rw [ha]; exact (putSel_off rfl).trans rfl
                      replace ha := Aside0.mk ha
                      have HO_4 := Aside0.mk Q_HO_4
                      have BK130 := Aside0.mk Q_BK130
                      have BK131 := Aside0.mk Q_BK131
                      have HB := Aside0.mk Q_HB
                      refine value_ (w1 := w') (v := .pointer (some (ad139.add (x6_1).toNat))) (by rfl) rfl ?_ ?_
                      · go_simp
                        (try simp only [i64_w])
                        try rfl
                      refine hK.out _ _ ⟨v136, adz_v136, m3_, (by rw [ha.out]; exact putSel_upk 3 hb_ rfl rfl rfl), Q_HO_4, Q_BK130, Q_BK131, Q_HB, Q_HO137, Q_HA_HO137, Q_X3_⟩
                    refine steps_cons ?_ ?_
                    · rintro b a w' ⟨v136, adz_v136, m3_, ha, Q_HO_4, Q_BK130, Q_BK131, Q_HB, Q_HO137, Q_HA_HO137, Q_X3_⟩ hb_ hon hoff
                      refine ⟨_, rfl, fun K hK => ?_⟩
                      have e52 : a.tmps[52]? = some (.pointer (some (ad139.add (x6_1).toNat))) := by rw [ha]; exact putSel_on (e := (7, 52, .pointer (some (ad139.add (x6_1).toNat)))) 3 rfl rfl (hon 7 (by kernel_rfl)) rfl
                      replace ha := Aside0.mk ha
                      have HO_4 := Aside0.mk Q_HO_4
                      have BK130 := Aside0.mk Q_BK130
                      have BK131 := Aside0.mk Q_BK131
                      have HB := Aside0.mk Q_HB
                      obtain ⟨ad139_z, e139_z, hx139_0_z⟩ := Kd.at_int (Kd.R_reads' HO_4.out).2.2 x6_1 (of_eq_true p139) (of_eq_true q139)
                      cases e139_z
                      have hs0_ : w'.cell? (ad139.add (x6_1).toNat) = some (.int .i64 (rd y132 x6_1)) := (by first | exact hx139_0_z | (have h_ := hx139_0_z; (try simp only [Int.reduceToNat, Nat.zero_mul, Nat.reduceMul, Nat.reduceEqDiff, Go.Addr.add, ↓reduceIte, Addr.add_zero'] at h_); exact h_))
                      refine value_ (w1 := w') (v := .int .i64 (rd y132 x6_1)) (by rfl) rfl ?_ ?_
                      · go_simp
                        (try simp only [i64_w])
                        try rfl
                      refine hK.out _ _ ⟨v136, adz_v136, m3_, (by rw [ha.out]; exact putSel_upk 4 hb_ rfl rfl rfl), Q_HO_4, Q_BK130, Q_BK131, Q_HB, Q_HO137, Q_HA_HO137, Q_X3_⟩
                    refine steps_cons ?_ ?_
                    · rintro b a w' ⟨v136, adz_v136, m3_, ha, Q_HO_4, Q_BK130, Q_BK131, Q_HB, Q_HO137, Q_HA_HO137, Q_X3_⟩ hb_ hon hoff
                      refine ⟨_, rfl, fun K hK => ?_⟩
                      have e53 : a.tmps[53]? = some (.int .i64 (rd y132 x6_1)) := by rw [ha]; exact putSel_on (e := (8, 53, .int .i64 (rd y132 x6_1))) 4 rfl rfl (hon 8 (by kernel_rfl)) rfl
                      replace ha := Aside0.mk ha
                      have HO_4 := Aside0.mk Q_HO_4
                      have BK130 := Aside0.mk Q_BK130
                      have BK131 := Aside0.mk Q_BK131
                      have HB := Aside0.mk Q_HB
                      refine goes_ Try.func18 (by kernel_rfl) rfl #[.int .i64 (rd y132 x6_1)] (by rfl) rfl rfl (by first | (simp only [List.map_toArray, List.map_cons, List.map_nil, Act.eval, Array.getD_eq_getD_getElem?, Option.getD_some, e53]; done) | (simp only [List.map_toArray, List.map_cons, List.map_nil, Act.eval, Array.getD_eq_getD_getElem?, Option.getD_some, e53]; rfl)) ?_
                      with_reducible refine (cubbyholelaw39_num.calls k1 (rd y132 x6_1) t140 _ A13.out).mono ?_
                      rintro e w18 ⟨rfl, hb⟩
                      refine ⟨_, rfl, ?_⟩
                      have n0_ := Aside0.mk (Kd.R_below (by (with_reducible repeat (first | apply Kd.R_alloc | apply Kd.R_drewN | apply Kd.R_drew)); exact HO_4.out) hb)
                      have n1_ := Aside0.mk (blk_below (g := gb130) (o := .cells #[.int .i64 a0_0, .int .i64 a0_1, .int .i64 a0_2, .int .i64 a0_3, .int .i64 a0_4, .int .i64 a0_5] 29 (0, 0)) (by (with_reducible repeat (first | refine blk_drewN ?_ _ | refine blk_drew ?_ | refine blk_alloc ?_ _)); exact BK130.out) hb)
                      have n2_ := Aside0.mk (blk_below (g := gb131) (o := .cells #[.int .i64 (Go.bits .and .i64 a0_0 65535), .int .i64 (Go.bits .and .i64 a0_1 65535), .int .i64 (Go.bits .and .i64 a0_2 65535), .int .i64 (Go.bits .and .i64 a0_3 65535), .int .i64 (Go.bits .and .i64 a0_4 65535), .int .i64 (Go.bits .and .i64 a0_5 65535)] 29 (0, 0)) (by (with_reducible repeat (first | refine blk_drewN ?_ _ | refine blk_drew ?_ | refine blk_alloc ?_ _)); exact BK131.out) hb)
                      have n3_ := Aside0.mk (below_step (by repeat (first | (with_reducible first | exact HB.out | apply below_alloc | apply pw_below_drewN | apply below_drew1 | refine below_set ?_ GE130.out | refine below_set ?_ GE131.out) | exact HB.out)) hb)
                      have z_HO137 := fun (h0_ : b 1 = true) => (show Kd.R Kd.string 9 w18 w.heap.size (fun _ => True) v136 y135 from by first | exact (Kd.R_below (by (with_reducible repeat (first | apply Kd.R_alloc | apply Kd.R_drewN | apply Kd.R_drew)); exact (Q_HO137 h0_)) hb) | exact Kd.R_mono (Kd.R_below (by (with_reducible repeat (first | apply Kd.R_alloc | apply Kd.R_drewN | apply Kd.R_drew)); exact (Q_HO137 h0_)) hb) (fun _ h_ => by first | trivial | exact h_ | exact h_.1))
                      clear HO_4
                      clear BK130
                      clear BK131
                      clear HB
                      have HO_4 := n0_
                      have BK130 := n1_
                      have BK131 := n2_
                      have HB := n3_
                      clear n0_ n1_ n2_ n3_
                      (try clear hb)
                      (try clear hb2)
                      (try clear hk)
                      (try clear hi)
                      refine hK.out _ _ ⟨v136, adz_v136, m3_, (by rw [ha.out]; exact putSel_upk 5 hb_ rfl rfl rfl), (by (with_reducible repeat (first | apply Kd.R_alloc | apply Kd.R_drewN | apply Kd.R_drew)); exact HO_4.out), (by (with_reducible repeat (first | refine blk_drewN ?_ _ | refine blk_drew ?_ | refine blk_alloc ?_ _)); exact BK130.out), (by (with_reducible repeat (first | refine blk_drewN ?_ _ | refine blk_drew ?_ | refine blk_alloc ?_ _)); exact BK131.out), (by repeat (first | (with_reducible first | exact HB.out | apply below_alloc | apply pw_below_drewN | apply below_drew1 | refine below_set ?_ GE130.out | refine below_set ?_ GE131.out) | exact HB.out)), z_HO137, Q_HA_HO137, Q_X3_⟩
                    refine steps_cons ?_ ?_
                    · rintro b a w' ⟨v136, adz_v136, m3_, ha, Q_HO_4, Q_BK130, Q_BK131, Q_HB, Q_HO137, Q_HA_HO137, Q_X3_⟩ hb_ hon hoff
                      refine ⟨_, rfl, fun K hK => ?_⟩
                      have e49 : a.tmps[49]? = some (.string (rdOf ByteArray.empty y135 x6_1)) := by rw [ha]; exact putSel_on (e := (4, 49, .string (rdOf ByteArray.empty y135 x6_1))) 2 rfl rfl (hon 4 (by kernel_rfl)) rfl
                      have e54 : a.tmps[54]? = some (.string t140) := by rw [ha]; exact putSel_on (e := (9, 54, .string t140)) 5 rfl rfl (hon 9 (by kernel_rfl)) rfl
                      replace ha := Aside0.mk ha
                      have HO_4 := Aside0.mk Q_HO_4
                      have BK130 := Aside0.mk Q_BK130
                      have BK131 := Aside0.mk Q_BK131
                      have HB := Aside0.mk Q_HB
                      have HO137 := Aside0.mk (Q_HO137 (hon 1 (by kernel_rfl)))
                      have HA_HO137 := Aside0.mk (Q_HA_HO137 (hon 1 (by kernel_rfl)))
                      refine value_ (w1 := w') (v := .string ((rdOf ByteArray.empty y135 x6_1) ++ t140)) (by rfl) rfl ?_ ?_
                      · go_simp
                        (try simp only [i64_w])
                        try rfl
                      refine hK.out _ _ ⟨v136, adz_v136, m3_, (by rw [ha.out]; exact putSel_upk 6 hb_ rfl rfl rfl), Q_HO_4, Q_BK130, Q_BK131, Q_HB, Q_HO137, Q_HA_HO137, Q_X3_⟩
                    refine steps_cons ?_ ?_
                    · rintro b a w' ⟨v136, adz_v136, m3_, ha, Q_HO_4, Q_BK130, Q_BK131, Q_HB, Q_HO137, Q_HA_HO137, Q_X3_⟩ hb_ hon hoff
                      refine ⟨_, rfl, fun K hK => ?_⟩
                      have e45 : a.tmps[45]? = some (.string x5_1) := by rw [ha]; exact (putSel_off rfl).trans rfl
                      have e55 : a.tmps[55]? = some (.string ((rdOf ByteArray.empty y135 x6_1) ++ t140)) := by rw [ha]; exact putSel_on (e := (10, 55, .string ((rdOf ByteArray.empty y135 x6_1) ++ t140))) 6 rfl rfl (hon 10 (by kernel_rfl)) rfl
                      replace ha := Aside0.mk ha
                      have HO_4 := Aside0.mk Q_HO_4
                      have BK130 := Aside0.mk Q_BK130
                      have BK131 := Aside0.mk Q_BK131
                      have HB := Aside0.mk Q_HB
                      have HO137 := Aside0.mk (Q_HO137 (hon 1 (by kernel_rfl)))
                      have HA_HO137 := Aside0.mk (Q_HA_HO137 (hon 1 (by kernel_rfl)))
                      refine value_ (w1 := w') (v := .string (x5_1 ++ ((rdOf ByteArray.empty y135 x6_1) ++ t140))) (by rfl) rfl ?_ ?_
                      · go_simp
                        (try simp only [i64_w])
                        try rfl
                      refine hK.out _ _ ⟨v136, adz_v136, m3_, (by rw [ha.out]; exact putSel_upk 7 hb_ rfl rfl rfl), Q_HO_4, Q_BK130, Q_BK131, Q_HB, Q_HO137, Q_HA_HO137, Q_X3_⟩
                    refine steps_cons ?_ ?_
                    · rintro b a w' ⟨v136, adz_v136, m3_, ha, Q_HO_4, Q_BK130, Q_BK131, Q_HB, Q_HO137, Q_HA_HO137, Q_X3_⟩ hb_ hon hoff
                      refine ⟨_, rfl, fun K hK => ?_⟩
                      have e56 : a.tmps[56]? = some (.string (x5_1 ++ ((rdOf ByteArray.empty y135 x6_1) ++ t140))) := by rw [ha]; exact putSel_on (e := (11, 56, .string (x5_1 ++ ((rdOf ByteArray.empty y135 x6_1) ++ t140)))) 7 rfl rfl (hon 11 (by kernel_rfl)) rfl
                      replace ha := Aside0.mk ha
                      have HO_4 := Aside0.mk Q_HO_4
                      have BK130 := Aside0.mk Q_BK130
                      have BK131 := Aside0.mk Q_BK131
                      have HB := Aside0.mk Q_HB
                      have HO137 := Aside0.mk (Q_HO137 (hon 1 (by kernel_rfl)))
                      have HA_HO137 := Aside0.mk (Q_HA_HO137 (hon 1 (by kernel_rfl)))
                      refine value_ (w1 := w') (v := .string (x5_1 ++ ((rdOf ByteArray.empty y135 x6_1) ++ t140))) (by rfl) rfl ?_ ?_
                      · go_simp
                        (try simp only [i64_w])
                        try rfl
                      refine hK.out _ _ ⟨v136, adz_v136, m3_, (by rw [ha.out]; exact putSel_upk 8 hb_ rfl rfl rfl), Q_HO_4, Q_BK130, Q_BK131, Q_HB, Q_HO137, Q_HA_HO137, Q_X3_⟩
                    exact steps_nil
                  rintro b a w22 hall ⟨v136, adz_v136, m3_, ha, Q_HO_4, Q_BK130, Q_BK131, Q_HB, Q_HO137, Q_HA_HO137, Q_X3_⟩
                  clear BK130 BK131 HB HO_4
                  have hb1_ := hall 1 (by kernel_rfl)
                  have hb3_ := hall 3 (by kernel_rfl)
                  have hb4_ := hall 4 (by kernel_rfl)
                  have hb7_ := hall 7 (by kernel_rfl)
                  have hb8_ := hall 8 (by kernel_rfl)
                  have hb9_ := hall 9 (by kernel_rfl)
                  have hb10_ := hall 10 (by kernel_rfl)
                  have hb11_ := hall 11 (by kernel_rfl)
                  have hb12_ := hall 12 (by kernel_rfl)
                  subst ha
                  obtain rfl := Q_X3_ hb3_
                  simp only [putSel, hb1_, hb3_, hb4_, hb7_, hb8_, hb9_, hb10_, hb11_, hb12_, if_true, Act.put, List.setIfInBounds_toArray, List.set_cons_zero, List.set_cons_succ]
                  have HO_4 := Aside0.mk Q_HO_4
                  clear Q_HO_4
                  have BK130 := Aside0.mk Q_BK130
                  clear Q_BK130
                  have BK131 := Aside0.mk Q_BK131
                  clear Q_BK131
                  have HB := Aside0.mk Q_HB
                  clear Q_HB
                  have HO137 := Aside0.mk (Q_HO137 hb1_)
                  clear Q_HO137
                  have HA_HO137 := Aside0.mk (Q_HA_HO137 hb1_)
                  clear Q_HA_HO137
                  clear hall hb1_ hb3_ hb4_ hb7_ hb8_ hb9_ hb10_ hb11_ hb12_
                  obtain ⟨co23, eo23⟩ := HA_HO137.out
                  clear HA_HO137
                  subst eo23
                  try go_wp2
                  go_roundg k1
                  case measure => have := HK1.out; omega
                  case rel => exact ⟨(x5_1 ++ ((rdOf ByteArray.empty y135 x6_1) ++ t140)), (wrap64 (x6_1 + 1)), (by first | rfl | (simp; done) | (simp [*]; done)), (by first | rfl | (simp; done) | (simp [*]; done)), H', ⟨by have := HK1.out; omega⟩, ⟨by (with_reducible repeat (first | apply Kd.R_alloc | apply Kd.R_drewN | apply Kd.R_drew)); exact HO_4.out⟩, ⟨by (with_reducible repeat (first | refine blk_drewN ?_ _ | refine blk_drew ?_ | refine blk_alloc ?_ _)); exact BK130.out⟩, ⟨by (with_reducible repeat (first | refine blk_drewN ?_ _ | refine blk_drew ?_ | refine blk_alloc ?_ _)); exact BK131.out⟩, ⟨by repeat (first | (with_reducible first | exact HB.out | apply below_alloc | apply pw_below_drewN | apply below_drew1 | refine below_set ?_ GE130.out | refine below_set ?_ GE131.out) | exact HB.out)⟩⟩
                · rw [if_neg c15] at H
                  exact absurd H (by simp)
              · rw [if_neg c14] at H
                exact absurd H (by simp)
            · rw [if_neg c12] at H
              exact absurd H (by simp)
          · rw [if_neg c11] at H
            exact absurd H (by simp)
        · rw [if_neg c10] at H
          exact absurd H (by simp)
      · rw [if_neg c9] at H
        have c9b0 : decide (x6_1 < 6) = false := decide_eq_false c9
        clear c9
        have HC24 := Aside0.mk H
        clear H
        go_upto_region 7 with (fail)
        go_cut [7] (fun v7 wc => ∃ (kq : Nat) (x7_23 : Bool), v7 = .bool x7_23 ∧ Aside0 (cubbyholelaw39_StatTexts.j1 kq x5_1 x7_23 a0_0 a0_1 a0_2 a0_3 a0_4 a0_5 (Go.bits .and .i64 a0_0 65535) (Go.bits .and .i64 a0_1 65535) (Go.bits .and .i64 a0_2 65535) (Go.bits .and .i64 a0_3 65535) (Go.bits .and .i64 a0_4 65535) (Go.bits .and .i64 a0_5 65535) = some r) ∧ Aside0 (kq ≤ k1) ∧ Aside0 (wc.heap[gb130]? = some (.cells #[.int .i64 a0_0, .int .i64 a0_1, .int .i64 a0_2, .int .i64 a0_3, .int .i64 a0_4, .int .i64 a0_5] 29 (0, 0))) ∧ Aside0 (wc.heap[gb131]? = some (.cells #[.int .i64 (Go.bits .and .i64 a0_0 65535), .int .i64 (Go.bits .and .i64 a0_1 65535), .int .i64 (Go.bits .and .i64 a0_2 65535), .int .i64 (Go.bits .and .i64 a0_3 65535), .int .i64 (Go.bits .and .i64 a0_4 65535), .int .i64 (Go.bits .and .i64 a0_5 65535)] 29 (0, 0))) ∧ Aside0 (Below w.heap.size w wc))
        case first =>
          have H := HC24.out
          clear HC24
          by_cases c25 : (Go.bits .and .i64 a0_2 65535) ≤ (Go.bits .and .i64 a0_1 65535)
          · rw [if_pos c25] at H
            have c25b0 : decide ((Go.bits .and .i64 a0_2 65535) ≤ (Go.bits .and .i64 a0_1 65535)) = true := decide_eq_true c25
            clear c25
            (first | rw [c25b0] | (simp only [i64_w, i32_w]; rw [c25b0]) | skip)
            by_cases c26 : (Go.bits .and .i64 a0_1 65535) ≤ (Go.bits .and .i64 a0_0 65535)
            · rw [if_pos c26] at H
              have c26b0 : decide ((Go.bits .and .i64 a0_1 65535) ≤ (Go.bits .and .i64 a0_0 65535)) = true := decide_eq_true c26
              clear c26
              have H' := Aside0.mk H
              clear H
              have hnb27 := NB131_130.out
              have hnc27 := NB130_131.out
              have hcz28_0 : wr.cell? ⟨gb131, 0, none⟩ = some (.int .i64 (Go.bits .and .i64 a0_0 65535)) := (blk_cell BK131.out 0).trans rfl
              have hcz28_1 : wr.cell? ⟨gb131, 1, none⟩ = some (.int .i64 (Go.bits .and .i64 a0_1 65535)) := (blk_cell BK131.out 1).trans rfl
              have hcz28_2 : wr.cell? ⟨gb131, 2, none⟩ = some (.int .i64 (Go.bits .and .i64 a0_2 65535)) := (blk_cell BK131.out 2).trans rfl
              have hcz28_3 : wr.cell? ⟨gb131, 3, none⟩ = some (.int .i64 (Go.bits .and .i64 a0_3 65535)) := (blk_cell BK131.out 3).trans rfl
              have hcz28_4 : wr.cell? ⟨gb131, 4, none⟩ = some (.int .i64 (Go.bits .and .i64 a0_4 65535)) := (blk_cell BK131.out 4).trans rfl
              have hcz28_5 : wr.cell? ⟨gb131, 5, none⟩ = some (.int .i64 (Go.bits .and .i64 a0_5 65535)) := (blk_cell BK131.out 5).trans rfl
              have hfz28_0 := blk_frozen BK131.out 0
              have hfz28_1 := blk_frozen BK131.out 1
              have hfz28_2 := blk_frozen BK131.out 2
              have hfz28_3 := blk_frozen BK131.out 3
              have hfz28_4 := blk_frozen BK131.out 4
              have hfz28_5 := blk_frozen BK131.out 5
              go_wp2
              go_meet
              case rel => exact ⟨_, (decide ((Go.bits .and .i64 a0_3 65535) ≤ (Go.bits .and .i64 a0_4 65535))), (by first | rfl | (simp; done) | (simp [*]; done)), H', ⟨by have := HK1.out; first | omega | exact Nat.le_refl _⟩, ⟨by (with_reducible repeat (first | refine blk_drewN ?_ _ | refine blk_drew ?_ | refine blk_alloc ?_ _)); exact BK130.out⟩, ⟨by (with_reducible repeat (first | refine blk_drewN ?_ _ | refine blk_drew ?_ | refine blk_alloc ?_ _)); exact BK131.out⟩, ⟨by repeat (first | (with_reducible first | exact HB.out | apply below_alloc | apply pw_below_drewN | apply below_drew1 | refine below_set ?_ GE130.out | refine below_set ?_ GE131.out) | exact HB.out)⟩⟩
            · rw [if_neg c26] at H
              have c26b0 : decide ((Go.bits .and .i64 a0_1 65535) ≤ (Go.bits .and .i64 a0_0 65535)) = false := decide_eq_false c26
              clear c26
              have H' := Aside0.mk H
              clear H
              have hnb29 := NB131_130.out
              have hnc29 := NB130_131.out
              have hcz30_0 : wr.cell? ⟨gb131, 0, none⟩ = some (.int .i64 (Go.bits .and .i64 a0_0 65535)) := (blk_cell BK131.out 0).trans rfl
              have hcz30_1 : wr.cell? ⟨gb131, 1, none⟩ = some (.int .i64 (Go.bits .and .i64 a0_1 65535)) := (blk_cell BK131.out 1).trans rfl
              have hcz30_2 : wr.cell? ⟨gb131, 2, none⟩ = some (.int .i64 (Go.bits .and .i64 a0_2 65535)) := (blk_cell BK131.out 2).trans rfl
              have hcz30_3 : wr.cell? ⟨gb131, 3, none⟩ = some (.int .i64 (Go.bits .and .i64 a0_3 65535)) := (blk_cell BK131.out 3).trans rfl
              have hcz30_4 : wr.cell? ⟨gb131, 4, none⟩ = some (.int .i64 (Go.bits .and .i64 a0_4 65535)) := (blk_cell BK131.out 4).trans rfl
              have hcz30_5 : wr.cell? ⟨gb131, 5, none⟩ = some (.int .i64 (Go.bits .and .i64 a0_5 65535)) := (blk_cell BK131.out 5).trans rfl
              have hfz30_0 := blk_frozen BK131.out 0
              have hfz30_1 := blk_frozen BK131.out 1
              have hfz30_2 := blk_frozen BK131.out 2
              have hfz30_3 := blk_frozen BK131.out 3
              have hfz30_4 := blk_frozen BK131.out 4
              have hfz30_5 := blk_frozen BK131.out 5
              go_wp2
              go_meet
              case rel => exact ⟨_, (false), (by first | rfl | (simp; done) | (simp [*]; done)), H', ⟨by have := HK1.out; first | omega | exact Nat.le_refl _⟩, ⟨by (with_reducible repeat (first | refine blk_drewN ?_ _ | refine blk_drew ?_ | refine blk_alloc ?_ _)); exact BK130.out⟩, ⟨by (with_reducible repeat (first | refine blk_drewN ?_ _ | refine blk_drew ?_ | refine blk_alloc ?_ _)); exact BK131.out⟩, ⟨by repeat (first | (with_reducible first | exact HB.out | apply below_alloc | apply pw_below_drewN | apply below_drew1 | refine below_set ?_ GE130.out | refine below_set ?_ GE131.out) | exact HB.out)⟩⟩
          · rw [if_neg c25] at H
            have c25b0 : decide ((Go.bits .and .i64 a0_2 65535) ≤ (Go.bits .and .i64 a0_1 65535)) = false := decide_eq_false c25
            clear c25
            (first | rw [c25b0] | (simp only [i64_w, i32_w]; rw [c25b0]) | skip)
            have H' := Aside0.mk H
            clear H
            have hnb31 := NB131_130.out
            have hnc31 := NB130_131.out
            have hcz32_0 : wr.cell? ⟨gb131, 0, none⟩ = some (.int .i64 (Go.bits .and .i64 a0_0 65535)) := (blk_cell BK131.out 0).trans rfl
            have hcz32_1 : wr.cell? ⟨gb131, 1, none⟩ = some (.int .i64 (Go.bits .and .i64 a0_1 65535)) := (blk_cell BK131.out 1).trans rfl
            have hcz32_2 : wr.cell? ⟨gb131, 2, none⟩ = some (.int .i64 (Go.bits .and .i64 a0_2 65535)) := (blk_cell BK131.out 2).trans rfl
            have hcz32_3 : wr.cell? ⟨gb131, 3, none⟩ = some (.int .i64 (Go.bits .and .i64 a0_3 65535)) := (blk_cell BK131.out 3).trans rfl
            have hcz32_4 : wr.cell? ⟨gb131, 4, none⟩ = some (.int .i64 (Go.bits .and .i64 a0_4 65535)) := (blk_cell BK131.out 4).trans rfl
            have hcz32_5 : wr.cell? ⟨gb131, 5, none⟩ = some (.int .i64 (Go.bits .and .i64 a0_5 65535)) := (blk_cell BK131.out 5).trans rfl
            have hfz32_0 := blk_frozen BK131.out 0
            have hfz32_1 := blk_frozen BK131.out 1
            have hfz32_2 := blk_frozen BK131.out 2
            have hfz32_3 := blk_frozen BK131.out 3
            have hfz32_4 := blk_frozen BK131.out 4
            have hfz32_5 := blk_frozen BK131.out 5
            go_wp2
            go_meet
            case rel => exact ⟨_, (false), (by first | rfl | (simp; done) | (simp [*]; done)), H', ⟨by have := HK1.out; first | omega | exact Nat.le_refl _⟩, ⟨by (with_reducible repeat (first | refine blk_drewN ?_ _ | refine blk_drew ?_ | refine blk_alloc ?_ _)); exact BK130.out⟩, ⟨by (with_reducible repeat (first | refine blk_drewN ?_ _ | refine blk_drew ?_ | refine blk_alloc ?_ _)); exact BK131.out⟩, ⟨by repeat (first | (with_reducible first | exact HB.out | apply below_alloc | apply pw_below_drewN | apply below_drew1 | refine below_set ?_ GE130.out | refine below_set ?_ GE131.out) | exact HB.out)⟩⟩
        case rest =>
          clear HC24
          try clear c1
          try clear p1
          try clear q1
          try clear hx1
          try clear qi1
          try clear c2
          try clear p2
          try clear c3
          try clear c4
          try clear c5
          try clear p6
          try clear c9
          try clear c9b0
          try clear c10
          try clear c10b0
          try clear c11
          try clear c11b0
          try clear c12
          try clear c12b0
          try clear p13
          try clear q13
          try clear hx13
          try clear qi13
          try clear c14
          try clear c14b0
          try clear c14b1
          try clear c14b2
          try clear c15
          try clear c15b0
          try clear c15b1
          try clear c15b2
          try clear c18
          try clear c25
          try clear c25b0
          try clear c26
          try clear c26b0
          try clear c27
          try clear c29
          try clear c31
          try clear hcz28_0
          try clear hcz28_1
          try clear hcz28_2
          try clear hcz28_3
          try clear hcz28_4
          try clear hcz28_5
          try clear hcz30_0
          try clear hcz30_1
          try clear hcz30_2
          try clear hcz30_3
          try clear hcz30_4
          try clear hcz30_5
          try clear hcz32_0
          try clear hcz32_1
          try clear hcz32_2
          try clear hcz32_3
          try clear hcz32_4
          try clear hcz32_5
          try clear hcz3_0
          try clear hcz3_1
          try clear hcz3_2
          try clear hcz3_3
          try clear hcz3_4
          try clear hcz3_5
          try clear hcz6_0
          try clear hcz6_1
          try clear hcz6_2
          try clear hcz6_3
          try clear hcz6_4
          try clear hcz6_5
          try clear hfz28_0
          try clear hfz28_1
          try clear hfz28_2
          try clear hfz28_3
          try clear hfz28_4
          try clear hfz28_5
          try clear hfz30_0
          try clear hfz30_1
          try clear hfz30_2
          try clear hfz30_3
          try clear hfz30_4
          try clear hfz30_5
          try clear hfz32_0
          try clear hfz32_1
          try clear hfz32_2
          try clear hfz32_3
          try clear hfz32_4
          try clear hfz32_5
          try clear hfz3_0
          try clear hfz3_1
          try clear hfz3_2
          try clear hfz3_3
          try clear hfz3_4
          try clear hfz3_5
          try clear hfz6_0
          try clear hfz6_1
          try clear hfz6_2
          try clear hfz6_3
          try clear hfz6_4
          try clear hfz6_5
          try clear hx139_0
          try clear p139
          try clear p2
          try clear q139
          obtain ⟨kq, x7_23, rfl, HA, HJ23, BK130, BK131, HB⟩ := hcut
          cases kq with
          | zero => exact absurd HA.out (by simp [cubbyholelaw39_StatTexts.j1])
          | succ kj23 =>
            have H := HA.out
            clear HA
            simp only [cubbyholelaw39_StatTexts.j1] at H
            replace H := Option.bind_eq_some_iff.mp H
            obtain ⟨t142, A330, H⟩ := H
            replace H : (if t142 = true then ((stat_Text.f kj23 (Go.bits .and .i64 a0_0 65535) (Go.bits .and .i64 a0_1 65535) (Go.bits .and .i64 a0_2 65535) (Go.bits .and .i64 a0_3 65535) (Go.bits .and .i64 a0_4 65535) (Go.bits .and .i64 a0_5 65535)).bind fun t143 => (if t143.toList = x5_1.toList then ((stat_May.f (Go.bits .and .i64 a0_0 65535) (Go.bits .and .i64 a0_1 65535) (Go.bits .and .i64 a0_2 65535) (Go.bits .and .i64 a0_3 65535) (Go.bits .and .i64 a0_4 65535) (Go.bits .and .i64 a0_5 65535)).bind fun t144 => (if (t144 == x7_23) = true then ((stat_May.f (Go.bits .and .i64 a0_0 65535) (Go.bits .and .i64 a0_1 65535) (Go.bits .and .i64 a0_2 65535) (Go.bits .and .i64 a0_3 65535) (Go.bits .and .i64 a0_4 65535) (wrap64 ((-1) - (Go.bits .and .i64 a0_5 255)))).bind fun t145 => (some (!t145))) else (some false))) else (some false))) else (some false)) = some r := H
            have A33 := Aside0.mk A330
            clear A330
            by_cases c34 : t142 = true
            · subst c34
              have H1 : ((stat_Text.f kj23 (Go.bits .and .i64 a0_0 65535) (Go.bits .and .i64 a0_1 65535) (Go.bits .and .i64 a0_2 65535) (Go.bits .and .i64 a0_3 65535) (Go.bits .and .i64 a0_4 65535) (Go.bits .and .i64 a0_5 65535)).bind fun t143 => (if t143.toList = x5_1.toList then ((stat_May.f (Go.bits .and .i64 a0_0 65535) (Go.bits .and .i64 a0_1 65535) (Go.bits .and .i64 a0_2 65535) (Go.bits .and .i64 a0_3 65535) (Go.bits .and .i64 a0_4 65535) (Go.bits .and .i64 a0_5 65535)).bind fun t144 => (if (t144 == x7_23) = true then ((stat_May.f (Go.bits .and .i64 a0_0 65535) (Go.bits .and .i64 a0_1 65535) (Go.bits .and .i64 a0_2 65535) (Go.bits .and .i64 a0_3 65535) (Go.bits .and .i64 a0_4 65535) (wrap64 ((-1) - (Go.bits .and .i64 a0_5 255)))).bind fun t145 => (some (!t145))) else (some false))) else (some false))) = some r := by rw [if_pos rfl] at H; exact H
              clear H
              have H := H1
              clear H1
              replace H := Option.bind_eq_some_iff.mp H
              obtain ⟨t143, A350, H⟩ := H
              replace H : (if t143.toList = x5_1.toList then ((stat_May.f (Go.bits .and .i64 a0_0 65535) (Go.bits .and .i64 a0_1 65535) (Go.bits .and .i64 a0_2 65535) (Go.bits .and .i64 a0_3 65535) (Go.bits .and .i64 a0_4 65535) (Go.bits .and .i64 a0_5 65535)).bind fun t144 => (if (t144 == x7_23) = true then ((stat_May.f (Go.bits .and .i64 a0_0 65535) (Go.bits .and .i64 a0_1 65535) (Go.bits .and .i64 a0_2 65535) (Go.bits .and .i64 a0_3 65535) (Go.bits .and .i64 a0_4 65535) (wrap64 ((-1) - (Go.bits .and .i64 a0_5 255)))).bind fun t145 => (some (!t145))) else (some false))) else (some false)) = some r := H
              have A35 := Aside0.mk A350
              clear A350
              by_cases c36 : t143.toList = x5_1.toList
              · rw [if_pos c36] at H
                have c36b0 : (t143.toList == x5_1.toList) = true := beq_iff_eq.mpr c36
                have c36b1 : (t143.toList != x5_1.toList) = false := bne_eq_false_iff_eq.mpr c36
                clear c36
                replace H := Option.bind_eq_some_iff.mp H
                obtain ⟨t144, A370, H⟩ := H
                replace H : (if (t144 == x7_23) = true then ((stat_May.f (Go.bits .and .i64 a0_0 65535) (Go.bits .and .i64 a0_1 65535) (Go.bits .and .i64 a0_2 65535) (Go.bits .and .i64 a0_3 65535) (Go.bits .and .i64 a0_4 65535) (wrap64 ((-1) - (Go.bits .and .i64 a0_5 255)))).bind fun t145 => (some (!t145))) else (some false)) = some r := H
                have A37 := Aside0.mk A370
                clear A370
                by_cases c38 : (t144 == x7_23) = true
                · rw [if_pos c38] at H
                  have c38b0 : (t144 == x7_23) = true := c38
                  (try (have c38b1 : decide (t144 = x7_23) = true := by simpa using c38))
                  (try (have c38b2 : (t144 == x7_23) = true := by simpa using c38))
                  clear c38
                  replace H := Option.bind_eq_some_iff.mp H
                  obtain ⟨t145, A390, H⟩ := H
                  replace H : (some (!t145)) = some r := H
                  have A39 := Aside0.mk A390
                  clear A390
                  obtain rfl := Option.some.inj H
                  have hnb40 := NB131_130.out
                  have hnc40 := NB130_131.out
                  have hcz41_0 : wc.cell? ⟨gb131, 0, none⟩ = some (.int .i64 (Go.bits .and .i64 a0_0 65535)) := (blk_cell BK131.out 0).trans rfl
                  have hcz41_1 : wc.cell? ⟨gb131, 1, none⟩ = some (.int .i64 (Go.bits .and .i64 a0_1 65535)) := (blk_cell BK131.out 1).trans rfl
                  have hcz41_2 : wc.cell? ⟨gb131, 2, none⟩ = some (.int .i64 (Go.bits .and .i64 a0_2 65535)) := (blk_cell BK131.out 2).trans rfl
                  have hcz41_3 : wc.cell? ⟨gb131, 3, none⟩ = some (.int .i64 (Go.bits .and .i64 a0_3 65535)) := (blk_cell BK131.out 3).trans rfl
                  have hcz41_4 : wc.cell? ⟨gb131, 4, none⟩ = some (.int .i64 (Go.bits .and .i64 a0_4 65535)) := (blk_cell BK131.out 4).trans rfl
                  have hcz41_5 : wc.cell? ⟨gb131, 5, none⟩ = some (.int .i64 (Go.bits .and .i64 a0_5 65535)) := (blk_cell BK131.out 5).trans rfl
                  have hfz41_0 := blk_frozen BK131.out 0
                  have hfz41_1 := blk_frozen BK131.out 1
                  have hfz41_2 := blk_frozen BK131.out 2
                  have hfz41_3 := blk_frozen BK131.out 3
                  have hfz41_4 := blk_frozen BK131.out 4
                  have hfz41_5 := blk_frozen BK131.out 5
                  go_wp2_with (first | ((with_reducible refine gate_dst (N := 8) rfl ?_); refine box_event ?hg (N := 8) ?hd (cs := #[.int .i64 0, .int .i64 0, .int .i64 0, .int .i64 0, .int .i64 0, .int .i64 0]) (t := 29) ?hr ?_; (case hd => rfl); (case hg => rfl); (case hr => first | (go_simp; done) | (go_simp; rfl)); intro gb141 hg w42 hbox hb; have n0_ := Aside0.mk (blk_below (g := gb130) (o := .cells #[.int .i64 a0_0, .int .i64 a0_1, .int .i64 a0_2, .int .i64 a0_3, .int .i64 a0_4, .int .i64 a0_5] 29 (0, 0)) (by (with_reducible repeat (first | refine blk_drewN ?_ _ | refine blk_drew ?_ | refine blk_alloc ?_ _)); exact BK130.out) hb); have n1_ := Aside0.mk (blk_below (g := gb131) (o := .cells #[.int .i64 (Go.bits .and .i64 a0_0 65535), .int .i64 (Go.bits .and .i64 a0_1 65535), .int .i64 (Go.bits .and .i64 a0_2 65535), .int .i64 (Go.bits .and .i64 a0_3 65535), .int .i64 (Go.bits .and .i64 a0_4 65535), .int .i64 (Go.bits .and .i64 a0_5 65535)] 29 (0, 0)) (by (with_reducible repeat (first | refine blk_drewN ?_ _ | refine blk_drew ?_ | refine blk_alloc ?_ _)); exact BK131.out) hb); have n2_ := Aside0.mk (below_step (by repeat (first | (with_reducible first | exact HB.out | apply below_alloc | apply pw_below_drewN | apply below_drew1 | refine below_set ?_ GE130.out | refine below_set ?_ GE131.out) | exact HB.out)) hb); have n3_ := Aside0.mk (hbox); have n4_ := Aside0.mk ((by rw [hg]; exact (below_size (by repeat (first | (with_reducible first | exact HB.out | apply below_alloc | apply pw_below_drewN | apply below_drew1 | refine below_set ?_ GE130.out | refine below_set ?_ GE131.out) | exact HB.out))) : w.heap.size ≤ gb141)); have n5_ := Aside0.mk ((by rw [hg]; exact (below_size (by repeat (first | (with_reducible first | exact HB.out | apply below_alloc | apply pw_below_drewN | apply below_drew1 | refine below_set ?_ GE130.out | refine below_set ?_ GE131.out) | exact HB.out))) : w.heap.size ≤ gb141)); have n6_ := Aside0.mk ((by rw [hg]; exact Nat.ne_of_lt (blk_lt (g := gb130) (o := .cells #[.int .i64 a0_0, .int .i64 a0_1, .int .i64 a0_2, .int .i64 a0_3, .int .i64 a0_4, .int .i64 a0_5] 29 (0, 0)) (by (with_reducible repeat (first | refine blk_drewN ?_ _ | refine blk_drew ?_ | refine blk_alloc ?_ _)); exact BK130.out)) : gb130 ≠ gb141)); have n7_ := Aside0.mk ((by rw [hg]; exact Nat.ne_of_gt (blk_lt (g := gb130) (o := .cells #[.int .i64 a0_0, .int .i64 a0_1, .int .i64 a0_2, .int .i64 a0_3, .int .i64 a0_4, .int .i64 a0_5] 29 (0, 0)) (by (with_reducible repeat (first | refine blk_drewN ?_ _ | refine blk_drew ?_ | refine blk_alloc ?_ _)); exact BK130.out)) : gb141 ≠ gb130)); have n8_ := Aside0.mk ((by rw [hg]; exact Nat.ne_of_lt (blk_lt (g := gb131) (o := .cells #[.int .i64 (Go.bits .and .i64 a0_0 65535), .int .i64 (Go.bits .and .i64 a0_1 65535), .int .i64 (Go.bits .and .i64 a0_2 65535), .int .i64 (Go.bits .and .i64 a0_3 65535), .int .i64 (Go.bits .and .i64 a0_4 65535), .int .i64 (Go.bits .and .i64 a0_5 65535)] 29 (0, 0)) (by (with_reducible repeat (first | refine blk_drewN ?_ _ | refine blk_drew ?_ | refine blk_alloc ?_ _)); exact BK131.out)) : gb131 ≠ gb141)); have n9_ := Aside0.mk ((by rw [hg]; exact Nat.ne_of_gt (blk_lt (g := gb131) (o := .cells #[.int .i64 (Go.bits .and .i64 a0_0 65535), .int .i64 (Go.bits .and .i64 a0_1 65535), .int .i64 (Go.bits .and .i64 a0_2 65535), .int .i64 (Go.bits .and .i64 a0_3 65535), .int .i64 (Go.bits .and .i64 a0_4 65535), .int .i64 (Go.bits .and .i64 a0_5 65535)] 29 (0, 0)) (by (with_reducible repeat (first | refine blk_drewN ?_ _ | refine blk_drew ?_ | refine blk_alloc ?_ _)); exact BK131.out)) : gb141 ≠ gb131)); clear BK130; clear BK131; clear HB; have BK130 := n0_; have BK131 := n1_; have HB := n2_; have BK141 := n3_; have GW141 := n4_; have GE141 := n5_; have NB130_141 := n6_; have NB141_130 := n7_; have NB131_141 := n8_; have NB141_131 := n9_; clear n0_ n1_ n2_ n3_ n4_ n5_ n6_ n7_ n8_ n9_; clear hb hbox hg; have hnb43 := NB141_130.out; have hnc43 := NB130_141.out; have hnb44 := NB141_131.out; have hnc44 := NB131_141.out; have hcz45_0 : w42.cell? ⟨gb141, 0, none⟩ = some (.int .i64 0) := (blk_cell BK141.out 0).trans rfl; have hcz45_1 : w42.cell? ⟨gb141, 1, none⟩ = some (.int .i64 0) := (blk_cell BK141.out 1).trans rfl; have hcz45_2 : w42.cell? ⟨gb141, 2, none⟩ = some (.int .i64 0) := (blk_cell BK141.out 2).trans rfl; have hcz45_3 : w42.cell? ⟨gb141, 3, none⟩ = some (.int .i64 0) := (blk_cell BK141.out 3).trans rfl; have hcz45_4 : w42.cell? ⟨gb141, 4, none⟩ = some (.int .i64 0) := (blk_cell BK141.out 4).trans rfl; have hcz45_5 : w42.cell? ⟨gb141, 5, none⟩ = some (.int .i64 0) := (blk_cell BK141.out 5).trans rfl; have hfz45_0 := blk_frozen BK141.out 0; have hfz45_1 := blk_frozen BK141.out 1; have hfz45_2 := blk_frozen BK141.out 2; have hfz45_3 := blk_frozen BK141.out 3; have hfz45_4 := blk_frozen BK141.out 4; have hfz45_5 := blk_frozen BK141.out 5; have hcz46_0 : w42.cell? ⟨gb130, 0, none⟩ = some (.int .i64 a0_0) := (blk_cell BK130.out 0).trans rfl; have hcz46_1 : w42.cell? ⟨gb130, 1, none⟩ = some (.int .i64 a0_1) := (blk_cell BK130.out 1).trans rfl; have hcz46_2 : w42.cell? ⟨gb130, 2, none⟩ = some (.int .i64 a0_2) := (blk_cell BK130.out 2).trans rfl; have hcz46_3 : w42.cell? ⟨gb130, 3, none⟩ = some (.int .i64 a0_3) := (blk_cell BK130.out 3).trans rfl; have hcz46_4 : w42.cell? ⟨gb130, 4, none⟩ = some (.int .i64 a0_4) := (blk_cell BK130.out 4).trans rfl; have hcz46_5 : w42.cell? ⟨gb130, 5, none⟩ = some (.int .i64 a0_5) := (blk_cell BK130.out 5).trans rfl; have hfz46_0 := blk_frozen BK130.out 0; have hfz46_1 := blk_frozen BK130.out 1; have hfz46_2 := blk_frozen BK130.out 2; have hfz46_3 := blk_frozen BK130.out 3; have hfz46_4 := blk_frozen BK130.out 4; have hfz46_5 := blk_frozen BK130.out 5) | ((with_reducible refine gate_callee (f := 19) rfl ?_); refine goesL_ (some 82) rfl rfl Try.func19 (by kernel_rfl) rfl #[] rfl (by (try simp only [List.map_toArray, List.map_cons, List.map_nil]); first | done | rfl | (simp only [List.length_drop, List.length_take]; rfl)) ?_; (with_reducible refine (cubbyholelaw39_awake.calls kj23  true _ A33.out).mono ?_); rintro e w47 ⟨rfl, hb⟩; refine ⟨_, rfl, ?_⟩; have n0_ := Aside0.mk (blk_below (g := gb130) (o := .cells #[.int .i64 a0_0, .int .i64 a0_1, .int .i64 a0_2, .int .i64 a0_3, .int .i64 a0_4, .int .i64 a0_5] 29 (0, 0)) (by (with_reducible repeat (first | refine blk_drewN ?_ _ | refine blk_drew ?_ | refine blk_alloc ?_ _)); refine blk_far ?_ NB130_141.out _; (with_reducible repeat (first | refine blk_drewN ?_ _ | refine blk_drew ?_ | refine blk_alloc ?_ _)); refine blk_far ?_ NB130_141.out _; (with_reducible repeat (first | refine blk_drewN ?_ _ | refine blk_drew ?_ | refine blk_alloc ?_ _)); refine blk_far ?_ NB130_141.out _; (with_reducible repeat (first | refine blk_drewN ?_ _ | refine blk_drew ?_ | refine blk_alloc ?_ _)); refine blk_far ?_ NB130_141.out _; (with_reducible repeat (first | refine blk_drewN ?_ _ | refine blk_drew ?_ | refine blk_alloc ?_ _)); refine blk_far ?_ NB130_141.out _; (with_reducible repeat (first | refine blk_drewN ?_ _ | refine blk_drew ?_ | refine blk_alloc ?_ _)); refine blk_far ?_ NB130_141.out _; (with_reducible repeat (first | refine blk_drewN ?_ _ | refine blk_drew ?_ | refine blk_alloc ?_ _)); refine blk_far ?_ NB130_141.out _; (with_reducible repeat (first | refine blk_drewN ?_ _ | refine blk_drew ?_ | refine blk_alloc ?_ _)); exact BK130.out) hb); have n1_ := Aside0.mk (blk_below (g := gb131) (o := .cells #[.int .i64 (Go.bits .and .i64 a0_0 65535), .int .i64 (Go.bits .and .i64 a0_1 65535), .int .i64 (Go.bits .and .i64 a0_2 65535), .int .i64 (Go.bits .and .i64 a0_3 65535), .int .i64 (Go.bits .and .i64 a0_4 65535), .int .i64 (Go.bits .and .i64 a0_5 65535)] 29 (0, 0)) (by (with_reducible repeat (first | refine blk_drewN ?_ _ | refine blk_drew ?_ | refine blk_alloc ?_ _)); refine blk_far ?_ NB131_141.out _; (with_reducible repeat (first | refine blk_drewN ?_ _ | refine blk_drew ?_ | refine blk_alloc ?_ _)); refine blk_far ?_ NB131_141.out _; (with_reducible repeat (first | refine blk_drewN ?_ _ | refine blk_drew ?_ | refine blk_alloc ?_ _)); refine blk_far ?_ NB131_141.out _; (with_reducible repeat (first | refine blk_drewN ?_ _ | refine blk_drew ?_ | refine blk_alloc ?_ _)); refine blk_far ?_ NB131_141.out _; (with_reducible repeat (first | refine blk_drewN ?_ _ | refine blk_drew ?_ | refine blk_alloc ?_ _)); refine blk_far ?_ NB131_141.out _; (with_reducible repeat (first | refine blk_drewN ?_ _ | refine blk_drew ?_ | refine blk_alloc ?_ _)); refine blk_far ?_ NB131_141.out _; (with_reducible repeat (first | refine blk_drewN ?_ _ | refine blk_drew ?_ | refine blk_alloc ?_ _)); refine blk_far ?_ NB131_141.out _; (with_reducible repeat (first | refine blk_drewN ?_ _ | refine blk_drew ?_ | refine blk_alloc ?_ _)); exact BK131.out) hb); have n2_ := Aside0.mk (blk_below (g := gb141) (o := .cells #[.int .i64 (Go.bits .and .i64 a0_0 65535), .int .i64 (Go.bits .and .i64 a0_1 65535), .int .i64 (Go.bits .and .i64 a0_2 65535), .int .i64 (Go.bits .and .i64 a0_3 65535), .int .i64 (Go.bits .and .i64 a0_4 65535), .int .i64 (wrap64 ((-1) - (Go.bits .and .i64 a0_5 255)))] 29 (0, 0)) (by (with_reducible repeat (first | refine blk_drewN ?_ _ | refine blk_drew ?_ | refine blk_alloc ?_ _)); refine blk_put (cs := #[.int .i64 (Go.bits .and .i64 a0_0 65535), .int .i64 (Go.bits .and .i64 a0_1 65535), .int .i64 (Go.bits .and .i64 a0_2 65535), .int .i64 (Go.bits .and .i64 a0_3 65535), .int .i64 (Go.bits .and .i64 a0_4 65535), .int .i64 (Go.bits .and .i64 a0_5 65535)]) ?_ 5 _ rfl; (with_reducible repeat (first | refine blk_drewN ?_ _ | refine blk_drew ?_ | refine blk_alloc ?_ _)); refine blk_put (cs := #[.int .i64 (Go.bits .and .i64 a0_0 65535), .int .i64 (Go.bits .and .i64 a0_1 65535), .int .i64 (Go.bits .and .i64 a0_2 65535), .int .i64 (Go.bits .and .i64 a0_3 65535), .int .i64 (Go.bits .and .i64 a0_4 65535), .int .i64 0]) ?_ 5 _ rfl; (with_reducible repeat (first | refine blk_drewN ?_ _ | refine blk_drew ?_ | refine blk_alloc ?_ _)); refine blk_put (cs := #[.int .i64 (Go.bits .and .i64 a0_0 65535), .int .i64 (Go.bits .and .i64 a0_1 65535), .int .i64 (Go.bits .and .i64 a0_2 65535), .int .i64 (Go.bits .and .i64 a0_3 65535), .int .i64 0, .int .i64 0]) ?_ 4 _ rfl; (with_reducible repeat (first | refine blk_drewN ?_ _ | refine blk_drew ?_ | refine blk_alloc ?_ _)); refine blk_put (cs := #[.int .i64 (Go.bits .and .i64 a0_0 65535), .int .i64 (Go.bits .and .i64 a0_1 65535), .int .i64 (Go.bits .and .i64 a0_2 65535), .int .i64 0, .int .i64 0, .int .i64 0]) ?_ 3 _ rfl; (with_reducible repeat (first | refine blk_drewN ?_ _ | refine blk_drew ?_ | refine blk_alloc ?_ _)); refine blk_put (cs := #[.int .i64 (Go.bits .and .i64 a0_0 65535), .int .i64 (Go.bits .and .i64 a0_1 65535), .int .i64 0, .int .i64 0, .int .i64 0, .int .i64 0]) ?_ 2 _ rfl; (with_reducible repeat (first | refine blk_drewN ?_ _ | refine blk_drew ?_ | refine blk_alloc ?_ _)); refine blk_put (cs := #[.int .i64 (Go.bits .and .i64 a0_0 65535), .int .i64 0, .int .i64 0, .int .i64 0, .int .i64 0, .int .i64 0]) ?_ 1 _ rfl; (with_reducible repeat (first | refine blk_drewN ?_ _ | refine blk_drew ?_ | refine blk_alloc ?_ _)); refine blk_put (cs := #[.int .i64 0, .int .i64 0, .int .i64 0, .int .i64 0, .int .i64 0, .int .i64 0]) ?_ 0 _ rfl; (with_reducible repeat (first | refine blk_drewN ?_ _ | refine blk_drew ?_ | refine blk_alloc ?_ _)); exact BK141.out) hb); have n3_ := Aside0.mk (below_step (by repeat (first | (with_reducible first | exact HB.out | apply below_alloc | apply pw_below_drewN | apply below_drew1 | refine below_set ?_ GE130.out | refine below_set ?_ GE131.out | refine below_set ?_ GE141.out) | exact HB.out)) hb); clear BK130; clear BK131; clear BK141; clear HB; have BK130 := n0_; have BK131 := n1_; have BK141 := n2_; have HB := n3_; clear n0_ n1_ n2_ n3_; (try clear hb); (try clear hb2); (try clear hk); (try clear hi); have hcz48_0 : w47.cell? ⟨gb131, 0, none⟩ = some (.int .i64 (Go.bits .and .i64 a0_0 65535)) := (blk_cell BK131.out 0).trans rfl; have hcz48_1 : w47.cell? ⟨gb131, 1, none⟩ = some (.int .i64 (Go.bits .and .i64 a0_1 65535)) := (blk_cell BK131.out 1).trans rfl; have hcz48_2 : w47.cell? ⟨gb131, 2, none⟩ = some (.int .i64 (Go.bits .and .i64 a0_2 65535)) := (blk_cell BK131.out 2).trans rfl; have hcz48_3 : w47.cell? ⟨gb131, 3, none⟩ = some (.int .i64 (Go.bits .and .i64 a0_3 65535)) := (blk_cell BK131.out 3).trans rfl; have hcz48_4 : w47.cell? ⟨gb131, 4, none⟩ = some (.int .i64 (Go.bits .and .i64 a0_4 65535)) := (blk_cell BK131.out 4).trans rfl; have hcz48_5 : w47.cell? ⟨gb131, 5, none⟩ = some (.int .i64 (Go.bits .and .i64 a0_5 65535)) := (blk_cell BK131.out 5).trans rfl; have hfz48_0 := blk_frozen BK131.out 0; have hfz48_1 := blk_frozen BK131.out 1; have hfz48_2 := blk_frozen BK131.out 2; have hfz48_3 := blk_frozen BK131.out 3; have hfz48_4 := blk_frozen BK131.out 4; have hfz48_5 := blk_frozen BK131.out 5) | (go_at_call 20; (with_reducible refine (stat_Text.calls kj23 (Go.bits .and .i64 a0_0 65535) (Go.bits .and .i64 a0_1 65535) (Go.bits .and .i64 a0_2 65535) (Go.bits .and .i64 a0_3 65535) (Go.bits .and .i64 a0_4 65535) (Go.bits .and .i64 a0_5 65535) t143 _ A35.out).mono ?_); rintro e w49 ⟨rfl, hb⟩; have n0_ := Aside0.mk (blk_below (g := gb130) (o := .cells #[.int .i64 a0_0, .int .i64 a0_1, .int .i64 a0_2, .int .i64 a0_3, .int .i64 a0_4, .int .i64 a0_5] 29 (0, 0)) (by (with_reducible repeat (first | refine blk_drewN ?_ _ | refine blk_drew ?_ | refine blk_alloc ?_ _)); exact BK130.out) hb); have n1_ := Aside0.mk (blk_below (g := gb131) (o := .cells #[.int .i64 (Go.bits .and .i64 a0_0 65535), .int .i64 (Go.bits .and .i64 a0_1 65535), .int .i64 (Go.bits .and .i64 a0_2 65535), .int .i64 (Go.bits .and .i64 a0_3 65535), .int .i64 (Go.bits .and .i64 a0_4 65535), .int .i64 (Go.bits .and .i64 a0_5 65535)] 29 (0, 0)) (by (with_reducible repeat (first | refine blk_drewN ?_ _ | refine blk_drew ?_ | refine blk_alloc ?_ _)); exact BK131.out) hb); have n2_ := Aside0.mk (blk_below (g := gb141) (o := .cells #[.int .i64 (Go.bits .and .i64 a0_0 65535), .int .i64 (Go.bits .and .i64 a0_1 65535), .int .i64 (Go.bits .and .i64 a0_2 65535), .int .i64 (Go.bits .and .i64 a0_3 65535), .int .i64 (Go.bits .and .i64 a0_4 65535), .int .i64 (wrap64 ((-1) - (Go.bits .and .i64 a0_5 255)))] 29 (0, 0)) (by (with_reducible repeat (first | refine blk_drewN ?_ _ | refine blk_drew ?_ | refine blk_alloc ?_ _)); exact BK141.out) hb); have n3_ := Aside0.mk (below_step (by repeat (first | (with_reducible first | exact HB.out | apply below_alloc | apply pw_below_drewN | apply below_drew1 | refine below_set ?_ GE130.out | refine below_set ?_ GE131.out | refine below_set ?_ GE141.out) | exact HB.out)) hb); clear BK130; clear BK131; clear BK141; clear HB; have BK130 := n0_; have BK131 := n1_; have BK141 := n2_; have HB := n3_; clear n0_ n1_ n2_ n3_; (try clear hb); (try clear hb2); (try clear hk); (try clear hi); have hcz50_0 : w49.cell? ⟨gb131, 0, none⟩ = some (.int .i64 (Go.bits .and .i64 a0_0 65535)) := (blk_cell BK131.out 0).trans rfl; have hcz50_1 : w49.cell? ⟨gb131, 1, none⟩ = some (.int .i64 (Go.bits .and .i64 a0_1 65535)) := (blk_cell BK131.out 1).trans rfl; have hcz50_2 : w49.cell? ⟨gb131, 2, none⟩ = some (.int .i64 (Go.bits .and .i64 a0_2 65535)) := (blk_cell BK131.out 2).trans rfl; have hcz50_3 : w49.cell? ⟨gb131, 3, none⟩ = some (.int .i64 (Go.bits .and .i64 a0_3 65535)) := (blk_cell BK131.out 3).trans rfl; have hcz50_4 : w49.cell? ⟨gb131, 4, none⟩ = some (.int .i64 (Go.bits .and .i64 a0_4 65535)) := (blk_cell BK131.out 4).trans rfl; have hcz50_5 : w49.cell? ⟨gb131, 5, none⟩ = some (.int .i64 (Go.bits .and .i64 a0_5 65535)) := (blk_cell BK131.out 5).trans rfl; have hfz50_0 := blk_frozen BK131.out 0; have hfz50_1 := blk_frozen BK131.out 1; have hfz50_2 := blk_frozen BK131.out 2; have hfz50_3 := blk_frozen BK131.out 3; have hfz50_4 := blk_frozen BK131.out 4; have hfz50_5 := blk_frozen BK131.out 5) | (go_at_call 21; (with_reducible refine (stat_May.calls (Go.bits .and .i64 a0_0 65535) (Go.bits .and .i64 a0_1 65535) (Go.bits .and .i64 a0_2 65535) (Go.bits .and .i64 a0_3 65535) (Go.bits .and .i64 a0_4 65535) (Go.bits .and .i64 a0_5 65535) t144 _ A37.out).mono ?_); rintro e w51 ⟨rfl, hb⟩; have n0_ := Aside0.mk (blk_below (g := gb130) (o := .cells #[.int .i64 a0_0, .int .i64 a0_1, .int .i64 a0_2, .int .i64 a0_3, .int .i64 a0_4, .int .i64 a0_5] 29 (0, 0)) (by (with_reducible repeat (first | refine blk_drewN ?_ _ | refine blk_drew ?_ | refine blk_alloc ?_ _)); exact BK130.out) hb); have n1_ := Aside0.mk (blk_below (g := gb131) (o := .cells #[.int .i64 (Go.bits .and .i64 a0_0 65535), .int .i64 (Go.bits .and .i64 a0_1 65535), .int .i64 (Go.bits .and .i64 a0_2 65535), .int .i64 (Go.bits .and .i64 a0_3 65535), .int .i64 (Go.bits .and .i64 a0_4 65535), .int .i64 (Go.bits .and .i64 a0_5 65535)] 29 (0, 0)) (by (with_reducible repeat (first | refine blk_drewN ?_ _ | refine blk_drew ?_ | refine blk_alloc ?_ _)); exact BK131.out) hb); have n2_ := Aside0.mk (blk_below (g := gb141) (o := .cells #[.int .i64 (Go.bits .and .i64 a0_0 65535), .int .i64 (Go.bits .and .i64 a0_1 65535), .int .i64 (Go.bits .and .i64 a0_2 65535), .int .i64 (Go.bits .and .i64 a0_3 65535), .int .i64 (Go.bits .and .i64 a0_4 65535), .int .i64 (wrap64 ((-1) - (Go.bits .and .i64 a0_5 255)))] 29 (0, 0)) (by (with_reducible repeat (first | refine blk_drewN ?_ _ | refine blk_drew ?_ | refine blk_alloc ?_ _)); exact BK141.out) hb); have n3_ := Aside0.mk (below_step (by repeat (first | (with_reducible first | exact HB.out | apply below_alloc | apply pw_below_drewN | apply below_drew1 | refine below_set ?_ GE130.out | refine below_set ?_ GE131.out | refine below_set ?_ GE141.out) | exact HB.out)) hb); clear BK130; clear BK131; clear BK141; clear HB; have BK130 := n0_; have BK131 := n1_; have BK141 := n2_; have HB := n3_; clear n0_ n1_ n2_ n3_; (try clear hb); (try clear hb2); (try clear hk); (try clear hi); have hcz52_0 : w51.cell? ⟨gb141, 0, none⟩ = some (.int .i64 (Go.bits .and .i64 a0_0 65535)) := (blk_cell BK141.out 0).trans rfl; have hcz52_1 : w51.cell? ⟨gb141, 1, none⟩ = some (.int .i64 (Go.bits .and .i64 a0_1 65535)) := (blk_cell BK141.out 1).trans rfl; have hcz52_2 : w51.cell? ⟨gb141, 2, none⟩ = some (.int .i64 (Go.bits .and .i64 a0_2 65535)) := (blk_cell BK141.out 2).trans rfl; have hcz52_3 : w51.cell? ⟨gb141, 3, none⟩ = some (.int .i64 (Go.bits .and .i64 a0_3 65535)) := (blk_cell BK141.out 3).trans rfl; have hcz52_4 : w51.cell? ⟨gb141, 4, none⟩ = some (.int .i64 (Go.bits .and .i64 a0_4 65535)) := (blk_cell BK141.out 4).trans rfl; have hcz52_5 : w51.cell? ⟨gb141, 5, none⟩ = some (.int .i64 (wrap64 ((-1) - (Go.bits .and .i64 a0_5 255)))) := (blk_cell BK141.out 5).trans rfl; have hfz52_0 := blk_frozen BK141.out 0; have hfz52_1 := blk_frozen BK141.out 1; have hfz52_2 := blk_frozen BK141.out 2; have hfz52_3 := blk_frozen BK141.out 3; have hfz52_4 := blk_frozen BK141.out 4; have hfz52_5 := blk_frozen BK141.out 5) | (go_at_call 21; (with_reducible refine (stat_May.calls (Go.bits .and .i64 a0_0 65535) (Go.bits .and .i64 a0_1 65535) (Go.bits .and .i64 a0_2 65535) (Go.bits .and .i64 a0_3 65535) (Go.bits .and .i64 a0_4 65535) (wrap64 ((-1) - (Go.bits .and .i64 a0_5 255))) t145 _ A39.out).mono ?_); rintro e w53 ⟨rfl, hb⟩; have n0_ := Aside0.mk (blk_below (g := gb130) (o := .cells #[.int .i64 a0_0, .int .i64 a0_1, .int .i64 a0_2, .int .i64 a0_3, .int .i64 a0_4, .int .i64 a0_5] 29 (0, 0)) (by (with_reducible repeat (first | refine blk_drewN ?_ _ | refine blk_drew ?_ | refine blk_alloc ?_ _)); exact BK130.out) hb); have n1_ := Aside0.mk (blk_below (g := gb131) (o := .cells #[.int .i64 (Go.bits .and .i64 a0_0 65535), .int .i64 (Go.bits .and .i64 a0_1 65535), .int .i64 (Go.bits .and .i64 a0_2 65535), .int .i64 (Go.bits .and .i64 a0_3 65535), .int .i64 (Go.bits .and .i64 a0_4 65535), .int .i64 (Go.bits .and .i64 a0_5 65535)] 29 (0, 0)) (by (with_reducible repeat (first | refine blk_drewN ?_ _ | refine blk_drew ?_ | refine blk_alloc ?_ _)); exact BK131.out) hb); have n2_ := Aside0.mk (blk_below (g := gb141) (o := .cells #[.int .i64 (Go.bits .and .i64 a0_0 65535), .int .i64 (Go.bits .and .i64 a0_1 65535), .int .i64 (Go.bits .and .i64 a0_2 65535), .int .i64 (Go.bits .and .i64 a0_3 65535), .int .i64 (Go.bits .and .i64 a0_4 65535), .int .i64 (wrap64 ((-1) - (Go.bits .and .i64 a0_5 255)))] 29 (0, 0)) (by (with_reducible repeat (first | refine blk_drewN ?_ _ | refine blk_drew ?_ | refine blk_alloc ?_ _)); exact BK141.out) hb); have n3_ := Aside0.mk (below_step (by repeat (first | (with_reducible first | exact HB.out | apply below_alloc | apply pw_below_drewN | apply below_drew1 | refine below_set ?_ GE130.out | refine below_set ?_ GE131.out | refine below_set ?_ GE141.out) | exact HB.out)) hb); clear BK130; clear BK131; clear BK141; clear HB; have BK130 := n0_; have BK131 := n1_; have BK141 := n2_; have HB := n3_; clear n0_ n1_ n2_ n3_; (try clear hb); (try clear hb2); (try clear hk); (try clear hi)))
                  go_ret
                  exact ⟨by first | rfl | (simp [errW_none, errW_some] <;> rfl) | (simp [*, errW_none, errW_some] <;> rfl), by repeat (first | (with_reducible first | exact HB.out | apply below_alloc | apply pw_below_drewN | apply below_drew1 | refine below_set ?_ GE130.out | refine below_set ?_ GE131.out | refine below_set ?_ GE141.out) | exact HB.out)⟩
                · rw [if_neg c38] at H
                  have c38b0 : (t144 == x7_23) = false := by simpa using c38
                  (try (have c38b1 : decide (t144 = x7_23) = false := by simpa using c38))
                  (try (have c38b2 : (t144 == x7_23) = false := by simpa using c38))
                  (try (have c38b3 : ¬ (t144 = x7_23) := by simpa using c38))
                  clear c38
                  exact absurd (H.trans (congrArg some hr.out)) (by simp)
              · rw [if_neg c36] at H
                have c36b0 : (t143.toList == x5_1.toList) = false := beq_eq_false_iff_ne.mpr c36
                have c36b1 : (t143.toList != x5_1.toList) = true := bne_iff_ne.mpr c36
                exact absurd (H.trans (congrArg some hr.out)) (by simp)
            · replace c34 := Bool.eq_false_iff.mpr c34
              subst c34
              have H1 : (some false) = some r := by rw [if_neg (show ¬ (false = true) by decide)] at H; exact H
              clear H
              have H := H1
              clear H1
              exact absurd (H.trans (congrArg some hr.out)) (by simp)
end Go.Proofs.Ytifakhddmlalcaa.QStatTexts
