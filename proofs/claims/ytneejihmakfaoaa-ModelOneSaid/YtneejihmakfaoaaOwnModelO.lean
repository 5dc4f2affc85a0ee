/- Walks of the model's functions by hand: slices.Clone of bytes; used, where two bytes are read. Conditions: the bytes are there. -/
import Derived.Test.YtneejihmakfaoaaOwnModelN
import Derived.ArgAppend
namespace Go.Proofs.Ytneejihmakfaoaa.OwnModel
open Go.RowKit Go.Proofs.Ytneejihmakfaoaa.OwnMask Go.Proofs.Ytneejihmakfaoaa.QModelOne Go.Proofs.YtneejihmakfaoaaW.PrintWords Go.Proofs.YtneejihmakfaoaaW.PrintLast Go.Proofs.YtneejihmakfaoaaW.PrintMore
set_option linter.unusedVariables false
set_option linter.unusedSimpArgs false
theorem run_eql_some_nil23 (w : World) (a : Addr) (n c : Nat) : (binOp .eql 23 (.slice (some a) n c) (.slice none 0 0)).run Try.prog w = .ok (.bool false) w := by
  have h : ∀ d : Nat, (Op.equalIn (d + 1) 23 (.slice (some a) n c) (.slice none 0 0)).run Try.prog w = .ok false w := fun d => by
    simp [Op.equalIn, run_underlying Try.underlying23]
  simp only [binOp]
  simp [Op.equal, Op.maxDepth, h 9999]

set_option maxHeartbeats 2000000 in
set_option maxRecDepth 100000 in
theorem clone2 (ad : Addr) (c : Nat) (x y : Int) (w : World) (h0 : w.cell? ad = some (.int .u8 x)) (h1 : w.cell? (ad.add 1) = some (.int .u8 y)) :
    Calls Try.prog 43 #[.slice (some ad) 2 c] w fun e w' => ∃ gb cap, e = .returned (.slice (some ⟨gb, 0, none⟩) 2 cap) ∧ w'.cell? ⟨gb, 0, none⟩ = some (.int .u8 x) ∧ w.heap.size ≤ gb ∧ 2 ≤ cap ∧ Below w.heap.size w w' := by
  have hu23 := Try.underlying23
  have hnn : ∀ W : World, (binOp .eql 23 (.slice (some ad) 2 c) (.slice none 0 0)).run Try.prog W = .ok (.bool false) W := fun W => run_eql_some_nil23 W ad 2 c
  obtain ⟨i, hi, hz, hsz, hby⟩ := info_parts info5
  go_enter Try.func43, Try.ntmps43
  go_wp2_with (at_builtin; refine wpList_append_grows _ rfl (.tmp 5) (.tmp 6) 23 rfl 5 i (.int .u8 0) 1 1 Try.underlying23 hi hz hsz hby rfl (by decide) (some ⟨w.heap.size, 0, none⟩) 0 0 [] rfl (fun h => by cases h) rfl (by intro _ _ _ _ h; simp at h) ad 2 c [.int .u8 x, .int .u8 y] rfl rfl ?c1 ?c2 (by omega) (by unfold maxLen; omega) (by omega) ?grow)
  case c1 =>
    intro j u hj
    have e0 : (w.alloc (.cells #[] 5)).cell? ad = some (.int .u8 x) := cell_alloc1 h0 _
    have e1 : (w.alloc (.cells #[] 5)).cell? (ad.add 1) = some (.int .u8 y) := cell_alloc1 h1 _
    match j, hj with
    | 0, hj => obtain rfl := Option.some.inj hj; simpa [Addr.add] using e0
    | 1, hj => obtain rfl := Option.some.inj hj; exact e1
    | j + 2, hj => simp at hj
  case c2 => intro u hu; simp at hu; rcases hu with rfl | rfl <;> rfl
  case grow =>
    intro v' w' hown hgr
    obtain ⟨_, hown⟩ := hown
    rcases hown with ⟨_, h0⟩ | ⟨g, cap, cur, rfl, hge, hg, hle, _, hcs, htk⟩
    · cases h0
    · have hbl : Below w.heap.size w w' := by
        refine ⟨hgr.os, hgr.tape, hgr.output, Nat.le_trans ?_ hgr.size, fun k hk => (hgr.block k ?_ (by intro e; cases e)).trans ?_⟩
        · simp
        · have : w.heap.size ≤ (w.alloc (.cells #[] 5)).heap.size := by simp
          exact Nat.lt_of_lt_of_le hk this
        · exact Below.heap_alloc _ _ _ hk
      have hge2 : w.heap.size ≤ g := Nat.le_trans (by simp) hge
      have hc0 : w'.cell? ⟨g, 0, none⟩ = some (.int .u8 x) := by
        have e := blk_cell hg 0
        rw [e]
        have h2 : cur.toList = .int .u8 x :: .int .u8 y :: cur.toList.drop 2 := by
          have := (List.take_append_drop 2 cur.toList).symm
          simp only [Nat.zero_add, Nat.mul_one, List.nil_append] at htk
          rw [htk] at this
          exact this
        rw [← Array.getElem?_toList, h2]
        rfl
      have HB := Aside0.mk hbl
      clear hbl hgr hge hg hcs htk
      go_wp2
      go_ret
      exact ⟨g, cap, rfl, hc0, hge2, hle, HB.out⟩

theorem access_ok : model_access.f 1 0 5 0 31 2 1 = some 0 := by kernel_rfl
theorem fill16 {w : World} {gb : Nat} (h : w.heap[gb]? = some (.cells (fillTo 16 16 9) 5 (0, 0))) (j : Nat) (hj : j < 16) : w.cell? ⟨gb, j, none⟩ = some (.int .u8 9) := by
  rw [blk_cell h j, fill_at 16 16 j 9 hj]
set_option maxHeartbeats 8000000 in
set_option maxRecDepth 100000 in
theorem usedR (g : Nat) (k0 k1 k2 k3 k4 k5 k6 k7 k8 k9 k10 : Int) (g5 cap gt gb : Nat) (mp sp rv : Value) (th a b v mm : Int) (dv : Value) (w : World) (h : IsM w g k0 k1 k2 k3 k4 k5 k6 k7 k8 k9 k10 (.slice (some ⟨g5, 0, none⟩) 1 cap) rv)
    (hc : w.cell? ⟨g5, 0, none⟩ = some (.pointer (some ⟨gt, 0, none⟩))) (hth : w.heap[gt]? = some (.cells #[.slice (some ⟨gb, 0, none⟩) 16 16, mp, .int .i64 16, sp, .bool true] 80 (0, 0))) (hfl : w.heap[gb]? = some (.cells (fillTo 16 16 9) 5 (0, 0))) :
    Calls Try.prog 24 #[.pointer (some ⟨g, 0, none⟩), .agg #[.int .i64 11, .int .i64 th, .int .i64 a, .int .i64 b, .int .i64 v, .int .i64 2, .int .i64 mm, dv], .agg #[.int .i64 1, .int .i64 0, .int .i64 5, .int .i64 0, .int .i64 31]] w fun e w' => ∃ gc c2, e = .returned (.agg #[.int .i64 0, .int .i64 0, .slice (some ⟨gc, 0, none⟩) 2 c2]) ∧ w'.cell? ⟨gc, 0, none⟩ = some (.int .u8 9) ∧ w.heap.size ≤ gc ∧ 2 ≤ c2 ∧ Below w.heap.size w w' := by
  have hu25 := Try.underlying25
  have hu49 := Try.underlying49
  have hu35 := Try.underlying35
  have hu63 := Try.underlying63
  have hu61 := Try.underlying61
  have hu77 := Try.underlying77
  have hu80 := Try.underlying80
  have hu23 := Try.underlying23
  obtain ⟨w1, hw1, hop, hrf, HM, HB, HR, HC, HT, HF⟩ : ∃ w1, ((w.alloc (.cells #[.int .i64 11, .int .i64 th, .int .i64 a, .int .i64 b, .int .i64 v, .int .i64 2, .int .i64 mm, dv] 25)).alloc (.cells #[.int .i64 1, .int .i64 0, .int .i64 5, .int .i64 0, .int .i64 31] 49)).alloc (.cells #[.int .i64 0, .int .i64 0, .slice none 0 0] 35) = w1 ∧
      w1.heap[w.heap.size]? = some (.cells #[.int .i64 11, .int .i64 th, .int .i64 a, .int .i64 b, .int .i64 v, .int .i64 2, .int .i64 mm, dv] 25 (0, 0)) ∧
      w1.heap[w.heap.size + 1]? = some (.cells #[.int .i64 1, .int .i64 0, .int .i64 5, .int .i64 0, .int .i64 31] 49 (0, 0)) ∧
      Aside0 (IsM w1 g k0 k1 k2 k3 k4 k5 k6 k7 k8 k9 k10 (.slice (some ⟨g5, 0, none⟩) 1 cap) rv) ∧ Aside0 (Below w.heap.size w w1) ∧ Aside0 (w1.heap[w.heap.size + 1 + 1]? = some (.cells #[.int .i64 0, .int .i64 0, .slice none 0 0] 35 (0, 0))) ∧
      Aside0 (w1.cell? ⟨g5, 0, none⟩ = some (.pointer (some ⟨gt, 0, none⟩))) ∧ Aside0 (w1.heap[gt]? = some (.cells #[.slice (some ⟨gb, 0, none⟩) 16 16, mp, .int .i64 16, sp, .bool true] 80 (0, 0))) ∧ Aside0 (w1.heap[gb]? = some (.cells (fillTo 16 16 9) 5 (0, 0))) :=
    ⟨_, rfl, blk_alloc (blk_alloc (blk_new _ _) _) _, blk_alloc (blk_new1 _ _ _) _, ⟨blk_alloc (blk_alloc (blk_alloc h _) _) _⟩, ⟨below_alloc (below_alloc (below_alloc (Below.refl _ _) _) _) _⟩, ⟨blk_newb _ _ _ _⟩, ⟨cell_alloc1 (cell_alloc2 hc _ _) _⟩, ⟨blk_alloc (blk_alloc (blk_alloc hth _) _) _⟩, ⟨blk_alloc (blk_alloc (blk_alloc hfl _) _) _⟩⟩
  clear h hc hth hfl
  obtain ⟨z0, z1, z2, z3, z4, z5, z6, z7⟩ := cells8 hop
  obtain ⟨x0, x1, x2, x3, x4, _⟩ := cells5 hrf
  have HOP := Aside0.mk hop
  have HRF := Aside0.mk hrf
  clear hop hrf
  go_enter Try.func24, Try.ntmps24
  go_wp2_with fail
  refine (model_access.calls 1 0 5 0 31 2 1 0 _ access_ok).mono ?_
  rintro e w3 ⟨rfl, hb⟩
  have HB3 := Aside0.mk (below_step HB.out hb)
  have HR3 := Aside0.mk (blk_below HR.out hb)
  have HM3 := Aside0.mk (blk_below HM.out hb)
  have HC3 := Aside0.mk ((hb.cell (World.block_lt_of_cell? _ _ HC.out)).trans HC.out)
  have HT3 := Aside0.mk (blk_below HT.out hb)
  have HF3 := Aside0.mk (blk_below HF.out hb)
  obtain ⟨y0, y1, y2, y3, y4, y5, y6, y7⟩ := cells8 (blk_below HOP.out hb)
  obtain ⟨u0, u1, u2, u3, u4, _⟩ := cells5 (blk_below HRF.out hb)
  have e11 : w3.cell? ⟨g, 11, none⟩ = some (.slice (some ⟨g5, 0, none⟩) 1 cap) := (blk_cell HM3.out 11).trans rfl
  have c5 := HC3.out
  have ct : w3.cell? ⟨gt, 0, none⟩ = some (.slice (some ⟨gb, 0, none⟩) 16 16) := (blk_cell HT3.out 0).trans rfl
  clear hb z0 z1 z2 z3 z4 z5 z6 z7 x0 x1 x2 x3 x4
  go_upto_region 21 with fail
  have hw0 : IntKind.i64.wrap 0 = 0 := by decide
  have hw2 : IntKind.i64.wrap 2 = 2 := by decide
  go_region_law (go_simp; go_at_call 43; refine (clone2 ⟨gb, 0, none⟩ 16 9 9 _ (by exact fill16 HF3.out 0 (by decide)) (by exact fill16 HF3.out 1 (by decide))).mono ?_; rintro e w5 ⟨gc, c2, rfl, hgc, hge, hc2, hb5⟩; have hsz : w3.heap.size ≤ w5.heap.size := hb5.size; have hge3 : w3.heap.size ≤ gc := hge; have HR5 := Aside0.mk (show w5.heap[w.heap.size + 1 + 1]? = some (.cells #[.int .i64 0, .int .i64 0, .slice none 0 0] 35 (0, 0)) from (by first | exact blk_below HR3.out hb5 | exact blk_below (blk_drew HR3.out) hb5)); have HB5 := Aside0.mk (show Below w.heap.size w w5 from (by first | exact below_step HB3.out hb5 | exact below_step (below_drew1 HB3.out) hb5)); obtain ⟨p0, p1, p2, q0, q1, q2⟩ := cells3 HR5.out; have HGC := Aside0.mk (And.intro hgc (And.intro hge3 hc2)); clear hb5 hge hge3 hgc hsz hc2)
  all_goals
    go_wp2
    have hrl := blk_lt HR3.out
    have hb3 := HB3.out.size
    have hge3 := HGC.out.2.1
    refine bodyPost_ret (ret3g rfl _ _ (w.heap.size + 1 + 1) (.int .i64 0) (.int .i64 0) (.slice (some ⟨gc, 0, none⟩) 2 c2) rfl (by first | (with_reducible exact put3 _ _ _ HR5.out) | exact blk_drew (put3 _ _ _ HR5.out))) rfl ?_
    exact ⟨gc, c2, rfl, by first | (with_reducible exact cell_put3 HGC.out.1 (by omega)) | exact cell_drw (cell_put3 HGC.out.1 (by omega)), by omega, HGC.out.2.2, by repeat (first | (with_reducible exact HB5.out) | (with_reducible apply below_drew1) | (with_reducible refine below_set ?_ (by omega)))⟩

end Go.Proofs.Ytneejihmakfaoaa.OwnModel
