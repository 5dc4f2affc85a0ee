/- Walks of the law's functions by hand: awake. Conditions: none. -/
import Derived.Test.YtneejihmakfaoaaOwnModelP
namespace Go.Proofs.Ytneejihmakfaoaa.OwnModel
open Go.RowKit Go.Proofs.Ytneejihmakfaoaa.OwnMask Go.Proofs.Ytneejihmakfaoaa.QModelOne Go.Proofs.YtneejihmakfaoaaW.PrintWords Go.Proofs.YtneejihmakfaoaaW.PrintLast Go.Proofs.YtneejihmakfaoaaW.PrintMore
set_option linter.unusedVariables false
set_option linter.unusedSimpArgs false
theorem room5 : model_room.f 100 (newN 1 5 0) (newAl 1 0) = some ((16 : Nat) : Int) := by kernel_rfl
theorem pow0 : num_Power.f 0 = some false := by kernel_rfl
theorem err5 : newErr 1 100 1 0 5 0 false false = 0 := by decide

theorem fieldLen (w : World) : (Instr.field 49 (.agg #[.int .i64 1, .int .i64 0, .int .i64 5, .int .i64 0, .int .i64 31]) 2).run Try.prog w = .ok (.int .i64 5) w := by kernel_rfl
theorem new2 (w : World) : Calls Try.prog 7 #[.agg #[.int .i64 0, .int .i64 0, .int .i64 0, .int .i64 1, .int .i64 0, .int .i64 0, .int .i64 0, .int .i64 2, .int .i64 100, .int .i64 9, .int .u64 0]] w fun e w' =>
      ∃ g gr, e = .returned (.pointer (some ⟨g, 0, none⟩)) ∧ IsM w' g 0 0 0 1 0 0 0 2 100 9 0 (.slice none 0 0) (.slice (some ⟨gr, 0, none⟩) (List.replicate 2 z51).length (List.replicate 2 z51).length) ∧ w'.heap[gr]? = some (.cells (cells51 (List.replicate 2 z51)) 49 (0, 0)) ∧ w.heap.size ≤ gr ∧ w.heap.size ≤ g ∧ Below w.heap.size w w' := by
  have h := newM 0 0 0 1 0 0 0 100 9 0 2 (by decide) w
  rw [cells_none] at h
  exact h

set_option maxHeartbeats 8000000 in
set_option maxRecDepth 100000 in
theorem awake (w : World) : Calls Try.prog 5 #[] w fun e w' => e = .returned (.bool true) ∧ Below w.heap.size w w' := by
  have hu35 := Try.underlying35
  have hu29 := Try.underlying29
  have hu25 := Try.underlying25
  have hu23 := Try.underlying23
  have hu49 := Try.underlying49
  have hf2 : ∀ w : World, (Instr.field 49 (.agg #[.int .i64 1, .int .i64 0, .int .i64 5, .int .i64 0, .int .i64 31]) 2).run Try.prog w = .ok (.int .i64 5) w := fieldLen
  go_enter Try.func5, Try.ntmps5
  go_wp2_with fail
  refine (new2 _).mono ?_
  rintro e w1 ⟨g, gr, rfl, hm, hr, hgr, hg, hb⟩
  have HM := Aside0.mk hm
  have HRG := Aside0.mk hr
  have HB := Aside0.mk (And.intro hgr (And.intro hg hb))
  clear hm hr hgr hg hb
  go_wp2_with fail
  have hd := doNewGood g 0 0 0 1 0 0 0 2 100 9 0 gr (List.replicate 2 z51) 1 0 0 0 0 5 0 none 0 0 false false w1 HM.out HRG.out (by decide) (by decide) (by decide) (by decide) pow0 (Or.inl rfl) err5 (by decide) 100 16 room5 (by decide) (by decide)
  refine hd.mono ?_
  rintro e w2 ⟨rfl, hkb, hrg, g5, cap, gt, gb, mp, sp, hm, hcap, hc, hth, hfl⟩
  have HO := Aside0.mk (show One w2 g 0 0 0 1 0 0 0 2 100 9 0 gr ((List.replicate 2 z51).set 0 ⟨1, 0, 5, 0, 31⟩) g5 cap gt gb mp sp from ⟨hm, hrg, hcap, hc, hth, hfl⟩)
  have HK := Aside0.mk hkb
  clear hm hrg hcap hc hth hfl hkb hd
  go_wp2_with fail
  obtain ⟨w3, hw3, HO3, HA3, HK3⟩ : ∃ w3, w2.alloc (.cells #[.int .i64 0, .int .i64 0, .slice none 0 0] 35) = w3 ∧ Aside0 (One w3 g 0 0 0 1 0 0 0 2 100 9 0 gr ((List.replicate 2 z51).set 0 ⟨1, 0, 5, 0, 31⟩) g5 cap gt gb mp sp) ∧ Aside0 (w3.heap[w2.heap.size]? = some (.cells #[.int .i64 0, .int .i64 0, .slice none 0 0] 35 (0, 0))) ∧ Aside0 (Below w2.heap.size w2 w3) :=
    ⟨_, rfl, ⟨HO.out.below (below_alloc (Below.refl _ _) _)⟩, ⟨blk_new _ _⟩, ⟨below_alloc (Below.refl _ _) _⟩⟩
  rw [hw3]
  refine (doR g 0 0 0 1 0 0 0 2 100 9 0 gr ((List.replicate 2 z51).set 0 ⟨1, 0, 5, 0, 31⟩) g5 cap gt gb mp sp 0 0 0 0 0 (.slice none 0 0) false w3 HO3.out (by decide) (by decide) rfl).mono ?_
  rintro e w4 ⟨gc, c2, rfl, hgc, hge, hc2, hb4⟩
  obtain ⟨w5, hw5, HO5, HA5, HB5, HG5, HK5⟩ : ∃ w5, w4.alloc (.cells #[.int .i64 0, .int .i64 0, .slice (some ⟨gc, 0, none⟩) 2 c2] 35) = w5 ∧ Aside0 (One w5 g 0 0 0 1 0 0 0 2 100 9 0 gr ((List.replicate 2 z51).set 0 ⟨1, 0, 5, 0, 31⟩) g5 cap gt gb mp sp) ∧ Aside0 (w5.heap[w2.heap.size]? = some (.cells #[.int .i64 0, .int .i64 0, .slice none 0 0] 35 (0, 0))) ∧ Aside0 (w5.heap[w4.heap.size]? = some (.cells #[.int .i64 0, .int .i64 0, .slice (some ⟨gc, 0, none⟩) 2 c2] 35 (0, 0))) ∧ Aside0 (w5.cell? ⟨gc, 0, none⟩ = some (.int .u8 9)) ∧ Aside0 (Below w2.heap.size w2 w5) :=
    ⟨_, rfl, ⟨(HO3.out.below hb4).below (below_alloc (Below.refl _ _) _)⟩, ⟨blk_alloc (blk_below HA3.out hb4) _⟩, ⟨blk_new _ _⟩, ⟨cell_alloc1 hgc _⟩, ⟨below_alloc (below_step HK3.out hb4) _⟩⟩
  obtain ⟨a0, a1, a2, _⟩ := cells3 HA5.out
  obtain ⟨b0, b1, b2, _⟩ := cells3 HB5.out
  have c0 := HG5.out
  clear hgc hge hc2 hb4
  go_wp2_with fail
  refine (live g 0 0 0 1 0 0 0 2 100 9 0 (some ⟨g5, 0, none⟩) cap _ [true] _ HO5.out.m HO5.out.lives (by decide)).mono ?_
  rintro e w6 ⟨rfl, rfl⟩
  rw [show liveOf [true] [true].length = 1 from rfl]
  go_wp2_with fail
  refine (One.get (xs := (List.replicate 2 z51).set 0 ⟨1, 0, 5, 0, 31⟩) (by decide) 0 rfl _ HO5.out).mono ?_
  rintro e w7 ⟨rfl, hb7⟩
  have HE := Aside0.mk hb7
  clear hb7
  go_wp2
  go_ret
  have hq := HB.out
  have hk := HK.out
  have hs := hq.2.2.size
  exact ⟨rfl, (((hq.2.2.trans (hk.low hs hq.2.1 hq.1)).trans (HK5.out.mono (Nat.le_trans hs hk.size))).trans (HE.out.mono (Nat.le_trans hs (Nat.le_trans hk.size HK5.out.size))))⟩

end Go.Proofs.Ytneejihmakfaoaa.OwnModel
