/- Walks of the model's functions by hand: make, in an empty model. Conditions: the room is small. -/
import Derived.Test.YtneejihmakfaoaaOwnModelE
import Derived.Deep.AppendLies
import Derived.Deep.RegionLaw
import Derived.Carry
import Derived.Laws.Append
import Derived.Deep.DeepCutAuto
namespace Go.Proofs.Ytneejihmakfaoaa.OwnModel
open Go.RowKit Go.Proofs.Ytneejihmakfaoaa.OwnMask Go.Proofs.Ytneejihmakfaoaa.QModelOne Go.Proofs.YtneejihmakfaoaaW.PrintWords Go.Proofs.YtneejihmakfaoaaW.PrintLast Go.Proofs.YtneejihmakfaoaaW.PrintMore
set_option linter.unusedVariables false
set_option linter.unusedSimpArgs false
/-- All blocks but one are as they were. -/
structure KB (g : Nat) (w w' : World) : Prop where
  os : w'.os = w.os
  tape : w'.tape = w.tape
  output : w'.output = w.output
  size : w.heap.size ≤ w'.heap.size
  block : ∀ k, k < w.heap.size → k ≠ g → w'.heap[k]? = w.heap[k]?
theorem KB.of {g : Nat} {w w' : World} (h : Below w.heap.size w w') : KB g w w' := ⟨h.os, h.tape, h.output, h.size, fun k hk _ => h.block k hk⟩
theorem KB.step {g : Nat} {a b c : World} (h : KB g a b) (k : KB g b c) : KB g a c :=
  ⟨k.os.trans h.os, k.tape.trans h.tape, k.output.trans h.output, Nat.le_trans h.size k.size, fun i hi hn => (k.block i (Nat.lt_of_lt_of_le hi h.size) hn).trans (h.block i hi hn)⟩
theorem KB.set (w : World) (g j : Nat) (v : Value) : KB g w (w.setCell ⟨g, j, none⟩ v) :=
  ⟨rfl, rfl, rfl, by simp [World.setCell], fun k _ hn => Below.heap_setCell _ _ _ _ hn⟩
theorem KB.low {g B : Nat} {w w' : World} (h : KB g w w') (h1 : B ≤ w.heap.size) (h2 : B ≤ g) : Below B w w' := ⟨h.os, h.tape, h.output, h.size, fun k hk => h.block k (by omega) (by omega)⟩

theorem set_other {w : World} {g j k : Nat} {v : Value} {o : Obj} (h : w.heap[k]? = some o) (hn : k ≠ g) : (w.setCell ⟨g, j, none⟩ v).heap[k]? = some o := (Below.heap_setCell _ _ _ _ hn).trans h
theorem KB.high {g g0 j : Nat} {w W : World} {v : Value} (h : KB g w W) (h0 : w.heap.size ≤ g0) : KB g w (W.setCell ⟨g0, j, none⟩ v) :=
  ⟨h.os, h.tape, h.output, by simpa [World.setCell] using h.size, fun k hk hn => (Below.heap_setCell _ _ _ _ (by show k ≠ g0; omega)).trans (h.block k hk hn)⟩
theorem blk_put5 {W : World} {g k : Nat} {o : Obj} (b0 b1 b2 b3 b4 : Value) (h : W.heap[k]? = some o) (hn : k ≠ g) :
    (((((W.setCell ⟨g, 0, none⟩ b0).setCell ⟨g, 1, none⟩ b1).setCell ⟨g, 2, none⟩ b2).setCell ⟨g, 3, none⟩ b3).setCell ⟨g, 4, none⟩ b4).heap[k]? = some o :=
  set_other (set_other (set_other (set_other (set_other h hn) hn) hn) hn) hn
theorem cell_put5 {W : World} {g k j : Nat} {v : Value} (b0 b1 b2 b3 b4 : Value) (h : W.cell? ⟨k, j, none⟩ = some v) (hn : k ≠ g) :
    (((((W.setCell ⟨g, 0, none⟩ b0).setCell ⟨g, 1, none⟩ b1).setCell ⟨g, 2, none⟩ b2).setCell ⟨g, 3, none⟩ b3).setCell ⟨g, 4, none⟩ b4).cell? ⟨k, j, none⟩ = some v := by
  have e : ∀ (W : World) (i : Nat) (u : Value), (W.setCell ⟨g, i, none⟩ u).cell? ⟨k, j, none⟩ = W.cell? ⟨k, j, none⟩ := fun W i u => World.cell?_of_block (Below.heap_setCell _ _ _ _ hn)
  rw [e, e, e, e, e]
  exact h

theorem info77 : (Try.prog.info? 77).map (fun i => (i.zero, i.size, i.bytes)) = some (some (.pointer none), 1, 8) := by kernel_rfl

theorem blk_new2 (w : World) (o1 o2 o3 : Obj) : (((w.alloc o1).alloc o2).alloc o3).heap[w.heap.size + 1 + 1]? = some o3 := by
  have h := blk_new1 (w.alloc o1) o2 o3
  rwa [World.size_alloc] at h

/-- A pointer put behind no pointers, as a step of a region. -/
theorem step_put1 {ops : Array Oper} {o : Oper} {a : Act} {w : World} {K : Act → World → Prop} {Q : Exit → Act → World → Prop} {E : Prop} (hgd : o.guard = none) (s x : Operand)
    (ho : o.op = .call { callee := .builtin .append, args := #[s, x], argTypes := #[61, 61] })
    (B : Nat) (q : Option Addr) (hs : a.eval s = .slice none 0 0) (hx : a.eval x = .slice (some ⟨B, 0, none⟩) 1 1) (hb : w.heap[B]? = some (.cells #[.pointer q] 77 (0, 0)))
    (h : ∀ g5 cap w', Below w.heap.size w w' → 1 ≤ cap → w.heap.size ≤ g5 → w'.cell? ⟨g5, 0, none⟩ = some (.pointer q) → K (a.put o.dst (.slice (some ⟨g5, 0, none⟩) 1 cap)) w') :
    if Region.wanted o (yielded ops a.tmps) = true then Oper.wp Try.prog o a w K Q else E := by
  obtain ⟨i, hi, hz, hsz, hby⟩ := info_parts info77
  refine step_append_lies _ hgd s x 61 ho 0 77 i (.pointer none) 1 8 Try.underlying61 hi hz hsz hby rfl (by decide) (.slice none 0 0) 0 [] hs (World.ownsRow_nil _ _ _ _) _ 1 1 _ hx rfl (World.news_of_block hb) (by intro u hu; simp at hu; subst hu; rfl) (by decide) (by decide) (by decide) (Nat.zero_le _) _ rfl ?_
  intro g5 cap w' hown hgr hat hlt
  obtain ⟨_, hown⟩ := hown
  rcases hown with ⟨h0, _⟩ | ⟨g, c, cur, hv, _, hg, hle, _, hcs, htk⟩
  · cases h0
  · cases hv
    have hge : w.heap.size ≤ g5 := by
      rcases hat with h | h
      · cases h
      · omega
    refine h g5 cap w' ⟨hgr.os, hgr.tape, hgr.output, hgr.size, fun k hk => hgr.block k hk (by intro e; cases e)⟩ (by omega) hge ?_
    have e := blk_cell hg 0
    rw [e]
    have : cur.toList = .pointer q :: cur.toList.drop 1 := by
      have := (List.take_append_drop 1 cur.toList).symm
      simp only [Nat.zero_add, Nat.mul_one, List.nil_append] at htk
      rw [htk] at this
      exact this
    rw [← Array.getElem?_toList, this]
    rfl

set_option maxHeartbeats 16000000 in
set_option maxRecDepth 100000 in
theorem makeE (k : Nat) (g : Nat) (k0 k1 k2 k3 k4 k5 k6 k7 k8 k9 k10 : Int) (rv : Value) (n al f : Int) (r : Nat) (w : World) (h : IsM w g k0 k1 k2 k3 k4 k5 k6 k7 k8 k9 k10 (.slice none 0 0) rv)
    (hr : model_room.f k n al = some (r : Int)) (h1 : 1 ≤ r) (h2 : r ≤ 1000000) :
    Calls Try.prog 36 #[.pointer (some ⟨g, 0, none⟩), .int .i64 n, .int .i64 al, .int .u8 f] w fun e w' => e = .returned (refV ⟨1, 0, n, 0, 31⟩) ∧ KB g w w' ∧
      ∃ g5 cap gt gb mp sp, IsM w' g k0 k1 k2 k3 k4 k5 k6 k7 k8 k9 k10 (.slice (some ⟨g5, 0, none⟩) 1 cap) rv ∧ 1 ≤ cap ∧ w'.cell? ⟨g5, 0, none⟩ = some (.pointer (some ⟨gt, 0, none⟩)) ∧
        w'.heap[gt]? = some (.cells #[.slice (some ⟨gb, 0, none⟩) r r, mp, .int .i64 r, sp, .bool true] 80 (0, 0)) ∧ w'.heap[gb]? = some (.cells (fillTo r r f) 5 (0, 0)) ∧ w.heap.size ≤ gt ∧ w.heap.size ≤ gb ∧ w.heap.size ≤ g5 := by
  have h11 : w.cell? ⟨g, 11, none⟩ = some (.slice none 0 0) := (blk_cell h 11).trans rfl
  have hgl := blk_lt h
  have hu63 := Try.underlying63
  have hu49 := Try.underlying49
  have hu61 := Try.underlying61
  have hu77 := Try.underlying77
  have hu80 := Try.underlying80
  have HR := Aside0.mk hr
  have hM : ∀ o, IsM (w.alloc o) g k0 k1 k2 k3 k4 k5 k6 k7 k8 k9 k10 (.slice none 0 0) rv := fun o => blk_alloc h o
  clear hr
  go_enter Try.func36, Try.ntmps36
  go_wp2_with fail
  refine (model_room.calls k n al (r : Int) _ HR.out).mono ?_
  rintro e w2 ⟨rfl, ⟨j, rfl⟩⟩
  have h11b := cell_alloc1 h11
  have hfz := blk_frozen h 11
  obtain ⟨w3, hw3, g11, f11, hm3, hres, hb3⟩ : ∃ w3, (w.alloc (.cells #[.int .i64 0, .int .i64 0, .int .i64 0, .int .i64 0, .int .i64 0] 49)).drewN j = w3 ∧ w3.cell? ⟨g, 11, none⟩ = some (.slice none 0 0) ∧ w3.frozen? ⟨g, 11, none⟩ = false ∧ IsM w3 g k0 k1 k2 k3 k4 k5 k6 k7 k8 k9 k10 (.slice none 0 0) rv ∧ w3.heap[w.heap.size]? = some (.cells #[.int .i64 0, .int .i64 0, .int .i64 0, .int .i64 0, .int .i64 0] 49 (0, 0)) ∧ Below w.heap.size w w3 :=
    ⟨_, rfl, h11b _, blk_frozen (hM _) 11, hM _, blk_new _ _, pw_below_drewN (below_alloc (Below.refl _ _) _) _⟩
  go_upto_region 2 with fail
  try rw [hw3]
  clear hw3 h11b
  have HM3 := Aside0.mk hm3
  have HRES := Aside0.mk hres
  have HB3 := Aside0.mk hb3
  have HGL := Aside0.mk hgl
  clear hm3 hres hb3 hM h hfz hgl
  have g11a := cell_alloc1 g11
  have g11b := cell_alloc2 g11
  have hmk := fun W : World => run_makeMap (P := Try.prog) 78 W
  have HCL := Aside0.mk (fun W : World => (show (W.alloc (.cells #[.int .u8 f] 5)).drew.cell? ⟨W.heap.size, 0, none⟩ = some (.int .u8 f) from (blk_cell (blk_new W _) 0).trans rfl))
  have HCL2 := Aside0.mk (fun W : World => (show (W.alloc (.cells #[.int .u8 f] 5)).cell? ⟨W.heap.size, 0, none⟩ = some (.int .u8 f) from (blk_cell (blk_new W _) 0).trans rfl))
  have HCL3 := Aside0.mk (fun (W : World) (o : Obj) => (show ((W.alloc o).alloc (.cells #[.int .u8 f] 5)).drew.cell? ⟨W.heap.size + 1, 0, none⟩ = some (.int .u8 f) from (blk_cell (blk_new1 W _ _) 0).trans rfl))
  have HCL4 := Aside0.mk (fun (W : World) (o : Obj) => (show ((W.alloc (.cells #[.int .u8 f] 5)).alloc o).drew.cell? ⟨W.heap.size, 0, none⟩ = some (.int .u8 f) from (blk_cell (blk_alloc (blk_new W _) o) 0).trans rfl))
  go_cut [13] (fun v13 wx => ∃ g5 cap gt gb mp sp, Aside0 (IsM wx g k0 k1 k2 k3 k4 k5 k6 k7 k8 k9 k10 (.slice (some ⟨g5, 0, none⟩) 1 cap) rv ∧ KB g w wx ∧ wx.heap[w.heap.size]? = some (.cells #[.int .i64 0, .int .i64 0, .int .i64 0, .int .i64 0, .int .i64 0] 49 (0, 0)) ∧ wx.heap[gb]? = some (.cells (fillTo r r f) 5 (0, 0)) ∧ wx.cell? ⟨g5, 0, none⟩ = some (.pointer (some ⟨gt, 0, none⟩)) ∧ wx.heap[gt]? = some (.cells #[.slice (some ⟨gb, 0, none⟩) r r, mp, .int .i64 r, sp, .bool true] 80 (0, 0)) ∧ w.heap.size < gt ∧ w.heap.size < gb ∧ w.heap.size < g5 ∧ 1 ≤ cap))
  case first =>
    go_region_law (first | (go_simp; go_at_call 54; refine (repeatOne _ 1 f r _ h1 h2 (by first | exact HCL.out _ | exact HCL2.out _ | exact HCL3.out _ _ | exact HCL4.out _ _)).mono ?_; rintro e w4 ⟨gb, hgb, rfl, hcs, hb⟩; have hb4 := (by first | exact below_step (below_drew1 (below_alloc HB3.out _)) hb | exact below_step (below_alloc HB3.out _) hb | exact below_step (below_drew1 (below_alloc (below_alloc HB3.out _) _)) hb | exact below_step (below_alloc (below_alloc HB3.out _) _) hb : Below w.heap.size w w4); have hk4 := (by first | exact blk_below (blk_drew (blk_alloc HM3.out _)) hb | exact blk_below (blk_alloc HM3.out _) hb | exact blk_below (blk_drew (blk_alloc (blk_alloc HM3.out _) _)) hb | exact blk_below (blk_alloc (blk_alloc HM3.out _) _) hb : IsM w4 g k0 k1 k2 k3 k4 k5 k6 k7 k8 k9 k10 (.slice none 0 0) rv); have hr4 := (by first | exact blk_below (blk_drew (blk_alloc HRES.out _)) hb | exact blk_below (blk_alloc HRES.out _) hb | exact blk_below (blk_drew (blk_alloc (blk_alloc HRES.out _) _)) hb | exact blk_below (blk_alloc (blk_alloc HRES.out _) _) hb : w4.heap[w.heap.size]? = some (.cells #[.int .i64 0, .int .i64 0, .int .i64 0, .int .i64 0, .int .i64 0] 49 (0, 0))); have hgb4 : w.heap.size < gb := (by have hq := blk_lt HRES.out; simp only [World.size_alloc, World.size_drew] at hgb; omega); have q11 : w4.cell? ⟨g, 11, none⟩ = some (.slice none 0 0) := (blk_cell hk4 11).trans rfl; have q11a := cell_alloc1 q11; have q11b := cell_alloc2 q11; have q11c := (fun o1 o2 o3 => cell_alloc1 (cell_alloc2 q11 o1 o2) o3); have qf := blk_frozen hk4 11; have HM4 := Aside0.mk hk4; have HB4 := Aside0.mk hb4; have HR4 := Aside0.mk hr4; have HCS := Aside0.mk hcs; have HGB := Aside0.mk hgb4; clear hk4 hb4 hr4 hcs hgb4 hgb hb) | (refine step_put1 rfl (.tmp 17) (.tmp 29) rfl _ _ rfl rfl (by first | exact blk_new2 _ _ _ _ | exact blk_new1 _ _ _) ?_; intro g5 cap w5 hb5 hcap hg5 hc5; have hs4 := blk_lt HR4.out; have hg5b : w.heap.size < g5 := (by simp only [World.size_alloc] at hg5; omega); have hb5b := (by first | exact below_step (below_alloc (below_alloc (below_alloc HB4.out _) _) _) hb5 | exact below_step (below_alloc (below_alloc HB4.out _) _) hb5 : Below w.heap.size w w5); have hk5 := (by first | exact blk_below (blk_alloc (blk_alloc (blk_alloc HM4.out _) _) _) hb5 | exact blk_below (blk_alloc (blk_alloc HM4.out _) _) hb5 : IsM w5 g k0 k1 k2 k3 k4 k5 k6 k7 k8 k9 k10 (.slice none 0 0) rv); have hr5 := (by first | exact blk_below (blk_alloc (blk_alloc (blk_alloc HR4.out _) _) _) hb5 | exact blk_below (blk_alloc (blk_alloc HR4.out _) _) hb5 : w5.heap[w.heap.size]? = some (.cells #[.int .i64 0, .int .i64 0, .int .i64 0, .int .i64 0, .int .i64 0] 49 (0, 0))); have hf5 := (by first | exact blk_below (blk_alloc (blk_alloc (blk_alloc HCS.out _) _) _) hb5 | exact blk_below (blk_alloc (blk_alloc HCS.out _) _) hb5 : w5.heap[gb]? = some (.cells (fillTo r r f) 5 (0, 0))); obtain ⟨gt, mp, sp, hgt, hcc, hth⟩ : ∃ gt mp sp, w.heap.size < gt ∧ w5.cell? ⟨g5, 0, none⟩ = some (.pointer (some ⟨gt, 0, none⟩)) ∧ w5.heap[gt]? = some (.cells #[.slice (some ⟨gb, 0, none⟩) r r, mp, .int .i64 r, sp, .bool true] 80 (0, 0)) := (by first | exact ⟨_, _, _, by omega, hc5, blk_below (blk_alloc (blk_new1 w4 _ _) _) hb5⟩ | exact ⟨_, _, _, by omega, hc5, blk_below (blk_alloc (blk_new w4 _) _) hb5⟩); have r11 : w5.cell? ⟨g, 11, none⟩ = some (.slice none 0 0) := (blk_cell hk5 11).trans rfl; have rf := blk_frozen hk5 11; have HALL := Aside0.mk (And.intro hk5 (And.intro hb5b (And.intro hr5 (And.intro hf5 (And.intro hgt (And.intro hcc (And.intro hth (And.intro hg5b hcap)))))))); clear hk5 hb5b hr5 hf5 hgt hcc hth hb5 hc5 hg5 hs4 hcap hg5b))
    all_goals (first | go_meet | (go_wp2_with fail; go_meet) | (go_wp2; go_meet))
    all_goals
      obtain ⟨hk5, hb5, hr5, hf5, hgt, hcc, hth, hg5, hcap⟩ := HALL.out
      have hgl := HGL.out
      have hgbl := HGB.out
      have hks : IsM (w5.setCell ⟨g, 11, none⟩ (.slice (some ⟨g5, 0, none⟩) 1 cap)) g k0 k1 k2 k3 k4 k5 k6 k7 k8 k9 k10 (.slice (some ⟨g5, 0, none⟩) 1 cap) rv := blk_put hk5 11 _ rfl
      exact ⟨g5, cap, gt, gb, mp, sp, ⟨hks, (KB.of hb5).step (KB.set _ _ _ _), set_other hr5 (by omega), set_other hf5 (by omega), (World.cell?_of_block (Below.heap_setCell _ _ _ _ (by show g5 ≠ g; omega))).trans hcc, set_other hth (by omega), hgt, hgbl, hg5, hcap⟩⟩
  case rest =>
    obtain ⟨g5, cap, gt, gb, mp, sp, HF⟩ := hcut
    obtain ⟨hks, hkb, hrs, hfs, hcs, hths, hgt, hgbl, hg5, hcap⟩ := HF.out
    have hgl := HGL.out
    have c11 : wc.cell? ⟨g, 11, none⟩ = some (.slice (some ⟨g5, 0, none⟩) 1 cap) := (blk_cell hks 11).trans rfl
    have z0 : wc.cell? ⟨w.heap.size, 0, none⟩ = some (.int .i64 0) := (blk_cell hrs 0).trans rfl
    have z1 : wc.cell? ⟨w.heap.size, 1, none⟩ = some (.int .i64 0) := (blk_cell hrs 1).trans rfl
    have z2 : wc.cell? ⟨w.heap.size, 2, none⟩ = some (.int .i64 0) := (blk_cell hrs 2).trans rfl
    have z3 : wc.cell? ⟨w.heap.size, 3, none⟩ = some (.int .i64 0) := (blk_cell hrs 3).trans rfl
    have z4 : wc.cell? ⟨w.heap.size, 4, none⟩ = some (.int .i64 0) := (blk_cell hrs 4).trans rfl
    have y0 := blk_frozen hrs 0
    have y1 := blk_frozen hrs 1
    have y2 := blk_frozen hrs 2
    have y3 := blk_frozen hrs 3
    have y4 := blk_frozen hrs 4
    clear hks hkb hrs hfs hcs hths hgt hgbl hg5 hcap hgl
    go_wp2
    obtain ⟨hks, hkb, hrs, hfs, hcs, hths, hgt, hgbl, hg5, hcap⟩ := HF.out
    refine bodyPost_ret (ret5 rfl _ _ w.heap.size (.int .i64 0) (.int .i64 0) (.int .i64 0) (.int .i64 0) (.int .i64 0) _ _ _ _ _ rfl hrs) rfl ?_
    have hgl := HGL.out
    exact ⟨rfl, ((((hkb.high (Nat.le_refl _)).high (Nat.le_refl _)).high (Nat.le_refl _)).high (Nat.le_refl _)).high (Nat.le_refl _), g5, cap, gt, gb, mp, sp, blk_put5 _ _ _ _ _ hks (by omega), hcap, cell_put5 _ _ _ _ _ hcs (by omega), blk_put5 _ _ _ _ _ hths (by omega), blk_put5 _ _ _ _ _ hfs (by omega), by omega, by omega, by omega⟩

end Go.Proofs.Ytneejihmakfaoaa.OwnModel
