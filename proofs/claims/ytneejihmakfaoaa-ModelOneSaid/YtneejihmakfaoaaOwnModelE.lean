/- Walks of the model's functions by hand: New. Conditions: from 0 to 64 registers. -/
import Derived.Test.YtneejihmakfaoaaOwnModelD
import Derived.Deep.RegionHeld3
namespace Go.Proofs.Ytneejihmakfaoaa.OwnModel
open Go.RowKit Go.Proofs.Ytneejihmakfaoaa.OwnMask Go.Proofs.Ytneejihmakfaoaa.QModelOne Go.Proofs.YtneejihmakfaoaaW.PrintWords Go.Proofs.YtneejihmakfaoaaW.PrintLast Go.Proofs.YtneejihmakfaoaaW.PrintMore
set_option linter.unusedVariables false
set_option linter.unusedSimpArgs false
theorem info49 : (Try.prog.info? 49).map (fun i => (i.zero, i.size, i.bytes)) = some (some (.agg #[(.int .i64 0), (.int .i64 0), (.int .i64 0), (.int .i64 0), (.int .i64 0)]), 5, 40) := by kernel_rfl
/-- The cells of n references that are none. -/
def noneCells (n : Nat) : Array Value := madeCells #[.int .i64 0, .int .i64 0, .int .i64 0, .int .i64 0, .int .i64 0] (n * 5)
theorem run_made_refs (n : Nat) (h1 : n ≤ 1000) (W : World) : (Instr.makeSlice 59 (.int .i64 (n : Int)) (.int .i64 (n : Int))).run Try.prog W = .ok (.slice (some ⟨W.heap.size, 0, none⟩) n n) (W.alloc (.cells (noneCells n) 49)) := by
  obtain ⟨i, hi, hz, hsz, hby⟩ := info_parts info49
  have h := run_makeSlice W 59 49 i _ Try.underlying59 hi hz .i64 .i64 (n : Int) (n : Int) (by omega) (by omega) (by rw [hsz]; simp; omega) (by rw [hby]; omega) (by omega)
  rw [h, hsz]
  simp [Value.cells, noneCells]

theorem keepc2 {W w' : World} {a : Addr} {v : Value} (hb : Below W.heap.size W w') (h : W.cell? a = some v) : w'.cell? a = some v := (hb.cell (World.block_lt_of_cell? W a h)).trans h
theorem clip_in (n : Int) (h0 : 0 ≤ n) (h1 : n ≤ 64) : num_Clip.f n 0 64 = some n := by
  unfold num_Clip.f mx mn
  simp
  omega

set_option maxHeartbeats 2000000 in
set_option maxRecDepth 100000 in
theorem newM (c0 c1 c2 c3 c4 c5 c6 c8 c9 c10 : Int) (n : Nat) (hn : n ≤ 64) (w : World) :
    Calls Try.prog 7 #[.agg #[.int .i64 c0, .int .i64 c1, .int .i64 c2, .int .i64 c3, .int .i64 c4, .int .i64 c5, .int .i64 c6, .int .i64 n, .int .i64 c8, .int .i64 c9, .int .u64 c10]] w fun e w' =>
      ∃ g gr, e = .returned (.pointer (some ⟨g, 0, none⟩)) ∧ IsM w' g c0 c1 c2 c3 c4 c5 c6 n c8 c9 c10 (.slice none 0 0) (.slice (some ⟨gr, 0, none⟩) n n) ∧ w'.heap[gr]? = some (.cells (noneCells n) 49 (0, 0)) ∧ w.heap.size ≤ gr ∧ w.heap.size ≤ g ∧ Below w.heap.size w w' := by
  have hu29 := Try.underlying29
  have hu59 := Try.underlying59
  have hu63 := Try.underlying63
  have hms := run_made_refs n (by omega)
  have HCL := Aside0.mk (clip_in (n : Int) (by omega) (by omega))
  go_enter Try.func7, Try.ntmps7
  go_wp2_with fail
  obtain ⟨w1, hw1, hbx, hb1⟩ : ∃ w1, w.alloc (.cells #[.int .i64 c0, .int .i64 c1, .int .i64 c2, .int .i64 c3, .int .i64 c4, .int .i64 c5, .int .i64 c6, .int .i64 n, .int .i64 c8, .int .i64 c9, .int .u64 c10] 29) = w1 ∧ w1.heap[w.heap.size]? = some (.cells #[.int .i64 c0, .int .i64 c1, .int .i64 c2, .int .i64 c3, .int .i64 c4, .int .i64 c5, .int .i64 c6, .int .i64 n, .int .i64 c8, .int .i64 c9, .int .u64 c10] 29 (0, 0)) ∧ Below w.heap.size w w1 := ⟨_, rfl, blk_new _ _, below_alloc (Below.refl _ _) _⟩
  rw [hw1]
  clear hw1
  have z0 : w1.cell? ⟨w.heap.size, 0, none⟩ = some (.int .i64 c0) := (blk_cell hbx 0).trans rfl
  have z1 : w1.cell? ⟨w.heap.size, 1, none⟩ = some (.int .i64 c1) := (blk_cell hbx 1).trans rfl
  have z2 : w1.cell? ⟨w.heap.size, 2, none⟩ = some (.int .i64 c2) := (blk_cell hbx 2).trans rfl
  have z3 : w1.cell? ⟨w.heap.size, 3, none⟩ = some (.int .i64 c3) := (blk_cell hbx 3).trans rfl
  have z4 : w1.cell? ⟨w.heap.size, 4, none⟩ = some (.int .i64 c4) := (blk_cell hbx 4).trans rfl
  have z5 : w1.cell? ⟨w.heap.size, 5, none⟩ = some (.int .i64 c5) := (blk_cell hbx 5).trans rfl
  have z6 : w1.cell? ⟨w.heap.size, 6, none⟩ = some (.int .i64 c6) := (blk_cell hbx 6).trans rfl
  have z7 : w1.cell? ⟨w.heap.size, 7, none⟩ = some (.int .i64 (n : Int)) := (blk_cell hbx 7).trans rfl
  have z8 : w1.cell? ⟨w.heap.size, 8, none⟩ = some (.int .i64 c8) := (blk_cell hbx 8).trans rfl
  have z9 : w1.cell? ⟨w.heap.size, 9, none⟩ = some (.int .i64 c9) := (blk_cell hbx 9).trans rfl
  have z10 : w1.cell? ⟨w.heap.size, 10, none⟩ = some (.int .u64 c10) := (blk_cell hbx 10).trans rfl
  have HBX := Aside0.mk hbx
  have HB1 := Aside0.mk hb1
  clear hbx hb1
  go_region_held3 (fun w' => w'.cell? ⟨w.heap.size, 0, none⟩ = some (.int .i64 c0) ∧ w'.cell? ⟨w.heap.size, 1, none⟩ = some (.int .i64 c1) ∧ w'.cell? ⟨w.heap.size, 2, none⟩ = some (.int .i64 c2) ∧ w'.cell? ⟨w.heap.size, 3, none⟩ = some (.int .i64 c3) ∧ w'.cell? ⟨w.heap.size, 4, none⟩ = some (.int .i64 c4) ∧ w'.cell? ⟨w.heap.size, 5, none⟩ = some (.int .i64 c5) ∧ w'.cell? ⟨w.heap.size, 6, none⟩ = some (.int .i64 c6) ∧ w'.cell? ⟨w.heap.size, 7, none⟩ = some (.int .i64 (n : Int)) ∧ w'.cell? ⟨w.heap.size, 8, none⟩ = some (.int .i64 c8) ∧ w'.cell? ⟨w.heap.size, 9, none⟩ = some (.int .i64 c9) ∧ w'.cell? ⟨w.heap.size, 10, none⟩ = some (.int .u64 c10) ∧ Aside0 (Below w.heap.size w w'))
    (first | exact ⟨z0, z1, z2, z3, z4, z5, z6, z7, z8, z9, z10, ⟨below_drew HB1.out⟩⟩ | (go_split_ands; exact ⟨keepc2 hb (by assumption), keepc2 hb (by assumption), keepc2 hb (by assumption), keepc2 hb (by assumption), keepc2 hb (by assumption), keepc2 hb (by assumption), keepc2 hb (by assumption), keepc2 hb (by assumption), keepc2 hb (by assumption), keepc2 hb (by assumption), keepc2 hb (by assumption), ⟨below_step (Aside0.out (by assumption)) hb⟩⟩) | (go_split_ands; exact ⟨cell_alloc1 (by assumption) _, cell_alloc1 (by assumption) _, cell_alloc1 (by assumption) _, cell_alloc1 (by assumption) _, cell_alloc1 (by assumption) _, cell_alloc1 (by assumption) _, cell_alloc1 (by assumption) _, cell_alloc1 (by assumption) _, cell_alloc1 (by assumption) _, cell_alloc1 (by assumption) _, cell_alloc1 (by assumption) _, ⟨below_alloc (Aside0.out (by assumption)) _⟩⟩))
    (first | (go_at_call 19; refine (num_Clip.calls (n : Int) 0 64 (n : Int) _ HCL.out).mono ?_; rintro e w2 ⟨rfl, hb⟩))
  have hBF : Below w.heap.size w w2 := below_step (below_drew HB1.out) hb
  have hle := hBF.size
  go_wp2
  go_ret
  exact ⟨w2.heap.size + 1, w2.heap.size, rfl, blk_new1 _ _ _, blk_alloc (blk_new _ _) _, hle, by omega, below_alloc (below_alloc hBF _) _⟩

end Go.Proofs.Ytneejihmakfaoaa.OwnModel
