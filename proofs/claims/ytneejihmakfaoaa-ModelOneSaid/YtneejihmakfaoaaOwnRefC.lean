/- Walks of the reference's functions by hand: made. Conditions: the reference's model is empty. Printed by gen_ref.py. -/
import Derived.Test.YtneejihmakfaoaaOwnRefB
import Derived.Test.YtneejihmakfaoaaQModelOnex4
import Derived.Deep.AppendLies
import Derived.Deep.DeepCutAuto
import Derived.Deep.RegionLaw
import Derived.ArgAppend
namespace Go.Proofs.Ytneejihmakfaoaa.OwnModel
open Go.RowKit Go.Proofs.Ytneejihmakfaoaa.OwnMask Go.Proofs.Ytneejihmakfaoaa.QModelOne Go.Proofs.YtneejihmakfaoaaW.PrintWords Go.Proofs.YtneejihmakfaoaaW.PrintLast Go.Proofs.YtneejihmakfaoaaW.PrintMore
set_option linter.unusedVariables false
set_option linter.unusedSimpArgs false
theorem info82 : (Try.prog.info? 82).map (fun i => (i.zero, i.size, i.bytes)) = some (some (.agg #[.slice none 0 0, .slice none 0 0, (.int .i64 0), (.bool false)]), 4, 64) := by kernel_rfl
/-- A chunk put behind no chunks, as a step of a region. -/
theorem step_put82 {ops : Array Oper} {o : Oper} {a : Act} {w : World} {K : Act → World → Prop} {Q : Exit → Act → World → Prop} {E : Prop} (hgd : o.guard = none) (s x : Operand)
    (ho : o.op = .call { callee := .builtin .append, args := #[s, x], argTypes := #[37, 37] })
    (b : Nat) (hs : a.eval s = .slice (some ⟨b, 0, none⟩) 0 0) (B : Nat) (A1 A2 : Option Addr) (n1 n2 c1 c2 : Nat) (i2 : Int) (hx : a.eval x = .slice (some ⟨B, 0, none⟩) 1 1) (hb : w.heap[B]? = some (.cells #[.slice A1 n1 c1, .slice A2 n2 c2, .int .i64 i2, .bool true] 82 (0, 0)))
    (h : ∀ g5 cap w', Below w.heap.size w w' → 1 ≤ cap → w.heap.size ≤ g5 → w'.cell? ⟨g5, 3, none⟩ = some (.bool true) → K (a.put o.dst (.slice (some ⟨g5, 0, none⟩) 1 cap)) w') :
    if Region.wanted o (yielded ops a.tmps) = true then Oper.wp Try.prog o a w K Q else E := by
  obtain ⟨i, hi, hz, hsz, hby⟩ := info_parts info82
  have hw : Region.wanted o (yielded ops a.tmps) = true := by simp [Region.wanted, hgd]
  rw [if_pos hw]
  obtain ⟨v', w', hrun, hown, hgr⟩ := run_append_arg_grows (P := Try.prog) (w := w) 37 o.type 82 i _ 4 64 Try.underlying37 hi hz hsz hby rfl (by decide) ⟨b, 0, none⟩ 0 0 [] rfl (by intro j u hj; simp at hj) ⟨B, 0, none⟩ 1 1 [.slice A1 n1 c1, .slice A2 n2 c2, .int .i64 i2, .bool true] rfl (World.news_of_block hb) (by decide) (by decide) (by decide)
  unfold Oper.wp
  simp [execOp, ho, resolve, invoke, builtin, hs, hx, hrun, Result.andThen]
  obtain ⟨_, hown⟩ := hown
  rcases hown with ⟨_, h0⟩ | ⟨g5, cap, cur, rfl, hge, hg, hle, _, hcs, htk⟩
  · omega
  · refine h g5 cap w' ⟨hgr.os, hgr.tape, hgr.output, hgr.size, fun k hk => hgr.block k hk (by intro e; cases e)⟩ (by omega) hge ?_
    rw [blk_cell hg 3]
    have h2 : cur.toList = .slice A1 n1 c1 :: .slice A2 n2 c2 :: .int .i64 i2 :: .bool true :: cur.toList.drop 4 := by
      have := (List.take_append_drop 4 cur.toList).symm
      simp only [Nat.zero_add, Nat.one_mul, List.nil_append] at htk
      rw [htk] at this
      exact this
    rw [← Array.getElem?_toList, h2]
    rfl

theorem retRc {fn : Func} {p p2 : Tmp} (h : fn.results = #[.cell p 40, .cell p2 51]) (tmps : Array Value) (W : World) (g g2 : Nat) (cs cs2 : Array Value) (hs : cs.size = 13) (hs2 : cs2.size = 5) (hp : tmps.getD p undef = .pointer (some ⟨g, 0, none⟩)) (hp2 : tmps.getD p2 undef = .pointer (some ⟨g2, 0, none⟩)) (hW : W.heap[g]? = some (.cells cs 40 (0, 0))) (hW2 : W.heap[g2]? = some (.cells cs2 51 (0, 0))) :
    (results fn tmps).run Try.prog W = .ok (.tuple #[.agg cs, .agg cs2]) W :=
  results_cc h tmps _ g g2 40 51 cs cs2 (0, 0) (0, 0) _ _ hp hW Try.underlying40 rfl (by rw [hs]; exact size40) hp2 hW2 Try.underlying51 rfl (by rw [hs2]; kernel_rfl)

/-- What made knows of memory while it works. -/
structure MdF (w W : World) (k0 k1 k2 k3 k4 k5 k6 k7 k8 k9 k10 : Int) (lv rv : Value) (p gc gB rb rk gK : Nat) (n : Int) : Prop where
  m : W.heap[p]? = some (.cells #[.int .i64 k0, .int .i64 k1, .int .i64 k2, .int .i64 k3, .int .i64 k4, .int .i64 k5, .int .i64 k6, .int .i64 k7, .int .i64 k8, .int .i64 k9, .int .u64 k10, lv, rv] 40 (0, 0))
  r1 : W.heap[p + 1]? = some (.cells #[.int .i64 0, .int .i64 0, .int .i64 0, .int .i64 0, .int .i64 0, .int .i64 0, .int .i64 0, .int .i64 0, .int .i64 0, .int .i64 0, .int .u64 0, .slice none 0 0, .slice none 0 0] 40 (0, 0))
  r2 : W.heap[p + 1 + 1]? = some (.cells #[.int .i64 0, .int .i64 0, .int .i64 0, .int .i64 0, .int .i64 0] 51 (0, 0))
  c : W.heap[gc]? = some (.cells #[.slice (some ⟨gB, 0, none⟩) rb rb, .slice (some ⟨gK, 0, none⟩) rk rk, .int .i64 n, .bool true] 82 (0, 0))
  bb : ∃ cs : Array Value, W.heap[gB]? = some (.cells cs 5 (0, 0)) ∧ cs.size = rb
  b : Below w.heap.size w W
  h1 : p + 1 + 1 < gc
  h2 : p + 1 + 1 < gB
  h3 : gc ≠ gB
  h4 : w.heap.size = p
theorem MdF.below {w W W2 : World} {k0 k1 k2 k3 k4 k5 k6 k7 k8 k9 k10 : Int} {lv rv : Value} {p gc gB rb rk gK : Nat} {n : Int} (h : MdF w W k0 k1 k2 k3 k4 k5 k6 k7 k8 k9 k10 lv rv p gc gB rb rk gK n) (hb : Below W.heap.size W W2) : MdF w W2 k0 k1 k2 k3 k4 k5 k6 k7 k8 k9 k10 lv rv p gc gB rb rk gK n := by
  obtain ⟨cs, e1, e2⟩ := h.bb
  exact ⟨blk_below h.m hb, blk_below h.r1 hb, blk_below h.r2 hb, blk_below h.c hb, ⟨cs, blk_below e1 hb, e2⟩, below_step h.b hb, h.h1, h.h2, h.h3, h.h4⟩
theorem MdF.put {w W : World} {k0 k1 k2 k3 k4 k5 k6 k7 k8 k9 k10 : Int} {lv rv : Value} {p gc gB rb rk gK : Nat} {n : Int} (h : MdF w W k0 k1 k2 k3 k4 k5 k6 k7 k8 k9 k10 lv rv p gc gB rb rk gK n) (i : Nat) (f : Int) : MdF w (W.setCell ⟨gB, i, none⟩ (.int .u8 f)) k0 k1 k2 k3 k4 k5 k6 k7 k8 k9 k10 lv rv p gc gB rb rk gK n := by
  obtain ⟨cs, e1, e2⟩ := h.bb
  have a1 := h.h1
  have a2 := h.h2
  have a3 := h.h3
  have a4 := h.h4
  exact ⟨set_other h.m (by omega), set_other h.r1 (by omega), set_other h.r2 (by omega), set_other h.c h.h3, ⟨_, blk_set e1 i _, by rw [Array.size_setIfInBounds]; exact e2⟩, below_set h.b (by omega), a1, a2, a3, a4⟩
theorem MdF.store {w W : World} {k0 k1 k2 k3 k4 k5 k6 k7 k8 k9 k10 : Int} {rv : Value} {p gc gB rb rk gK : Nat} {n : Int} (h : MdF w W k0 k1 k2 k3 k4 k5 k6 k7 k8 k9 k10 (.slice none 0 0) rv p gc gB rb rk gK n) (u : Value) : MdF w (W.setCell ⟨p, 11, none⟩ u) k0 k1 k2 k3 k4 k5 k6 k7 k8 k9 k10 u rv p gc gB rb rk gK n := by
  obtain ⟨cs, e1, e2⟩ := h.bb
  have a1 := h.h1
  have a2 := h.h2
  have a3 := h.h3
  have a4 := h.h4
  exact ⟨blk_put h.m 11 _ rfl, set_other h.r1 (by omega), set_other h.r2 (by omega), set_other h.c (by omega), ⟨_, set_other e1 (by omega), e2⟩, below_set h.b (by omega), a1, a2, a3, a4⟩
theorem MdF.drew {w W : World} {k0 k1 k2 k3 k4 k5 k6 k7 k8 k9 k10 : Int} {lv rv : Value} {p gc gB rb rk gK : Nat} {n : Int} (h : MdF w W k0 k1 k2 k3 k4 k5 k6 k7 k8 k9 k10 lv rv p gc gB rb rk gK n) : MdF w W.drew k0 k1 k2 k3 k4 k5 k6 k7 k8 k9 k10 lv rv p gc gB rb rk gK n := h.below (below_drew1 (Below.refl _ _))

theorem mdf_new {w w2 : World} {k0 k1 k2 k3 k4 k5 k6 k7 k8 k9 k10 : Int} {lv rv : Value} {gc gB r rk gK : Nat} {n : Int} {o1 o2 o3 : Obj} (hm : w2.heap[w.heap.size]? = some (.cells #[.int .i64 k0, .int .i64 k1, .int .i64 k2, .int .i64 k3, .int .i64 k4, .int .i64 k5, .int .i64 k6, .int .i64 k7, .int .i64 k8, .int .i64 k9, .int .u64 k10, lv, rv] 40 (0, 0))) (h1 : w2.heap[w.heap.size + 1]? = some (.cells #[.int .i64 0, .int .i64 0, .int .i64 0, .int .i64 0, .int .i64 0, .int .i64 0, .int .i64 0, .int .i64 0, .int .i64 0, .int .i64 0, .int .u64 0, .slice none 0 0, .slice none 0 0] 40 (0, 0))) (h2 : w2.heap[w.heap.size + 1 + 1]? = some (.cells #[.int .i64 0, .int .i64 0, .int .i64 0, .int .i64 0, .int .i64 0] 51 (0, 0))) (hb : Below w.heap.size w w2)
    (hc : (((w2.alloc o1).alloc o2).alloc o3).heap[gc]? = some (.cells #[.slice (some ⟨gB, 0, none⟩) r r, .slice (some ⟨gK, 0, none⟩) rk rk, .int .i64 n, .bool true] 82 (0, 0))) (hB : (((w2.alloc o1).alloc o2).alloc o3).heap[gB]? = some (.cells (madeCells #[.int .u8 0] r) 5 (0, 0))) (e1 : w.heap.size + 1 + 1 < gc) (e2 : w.heap.size + 1 + 1 < gB) (e3 : gc ≠ gB) : MdF w (((w2.alloc o1).alloc o2).alloc o3) k0 k1 k2 k3 k4 k5 k6 k7 k8 k9 k10 lv rv w.heap.size gc gB r rk gK n :=
  ⟨blk_alloc (blk_alloc (blk_alloc hm _) _) _, blk_alloc (blk_alloc (blk_alloc h1 _) _) _, blk_alloc (blk_alloc (blk_alloc h2 _) _) _, hc, ⟨_, hB, by simp [madeCells]⟩, below_alloc (below_alloc (below_alloc hb _) _) _, e1, e2, e3, rfl⟩

set_option maxHeartbeats 16000000 in
set_option maxRecDepth 100000 in
theorem rMade (k : Nat) (k0 k1 k2 k3 k4 k5 k6 k7 k8 k9 k10 : Int) (AR : Option Addr) (nr cr : Nat) (n al f : Int) (r : Nat) (w : World) (hr : cubbyholeref44_room.f k n al = some (r : Int)) (h1 : 1 ≤ r) (h2 : r ≤ 1000000) :
    Calls Try.prog 46 #[.agg #[.int .i64 k0, .int .i64 k1, .int .i64 k2, .int .i64 k3, .int .i64 k4, .int .i64 k5, .int .i64 k6, .int .i64 k7, .int .i64 k8, .int .i64 k9, .int .u64 k10, .slice none 0 0, .slice AR nr cr], .int .i64 n, .int .i64 al, .int .u8 f] w fun e w' => ∃ gl cap, e = .returned (.tuple #[.agg #[.int .i64 k0, .int .i64 k1, .int .i64 k2, .int .i64 k3, .int .i64 k4, .int .i64 k5, .int .i64 k6, .int .i64 k7, .int .i64 k8, .int .i64 k9, .int .u64 k10, .slice (some ⟨gl, 0, none⟩) 1 cap, .slice AR nr cr], .agg #[.int .i64 1, .int .i64 0, .int .i64 n, .int .i64 0, .int .i64 31]]) ∧ w'.cell? ⟨gl, 3, none⟩ = some (.bool true) ∧ Below w.heap.size w w' := by
  have hu40 := Try.underlying40
  have hu51 := Try.underlying51
  have hu82 := Try.underlying82
  have hu23 := Try.underlying23
  have hu37 := Try.underlying37
  have hu38 := Try.underlying38
  obtain ⟨w1, hw1, hm, HR1, HR2, HB⟩ : ∃ w1, ((w.alloc (.cells #[.int .i64 k0, .int .i64 k1, .int .i64 k2, .int .i64 k3, .int .i64 k4, .int .i64 k5, .int .i64 k6, .int .i64 k7, .int .i64 k8, .int .i64 k9, .int .u64 k10, .slice none 0 0, .slice AR nr cr] 40)).alloc (.cells #[.int .i64 0, .int .i64 0, .int .i64 0, .int .i64 0, .int .i64 0, .int .i64 0, .int .i64 0, .int .i64 0, .int .i64 0, .int .i64 0, .int .u64 0, .slice none 0 0, .slice none 0 0] 40)).alloc (.cells #[.int .i64 0, .int .i64 0, .int .i64 0, .int .i64 0, .int .i64 0] 51) = w1 ∧ w1.heap[w.heap.size]? = some (.cells #[.int .i64 k0, .int .i64 k1, .int .i64 k2, .int .i64 k3, .int .i64 k4, .int .i64 k5, .int .i64 k6, .int .i64 k7, .int .i64 k8, .int .i64 k9, .int .u64 k10, .slice none 0 0, .slice AR nr cr] 40 (0, 0)) ∧ Aside0 (w1.heap[w.heap.size + 1]? = some (.cells #[.int .i64 0, .int .i64 0, .int .i64 0, .int .i64 0, .int .i64 0, .int .i64 0, .int .i64 0, .int .i64 0, .int .i64 0, .int .i64 0, .int .u64 0, .slice none 0 0, .slice none 0 0] 40 (0, 0))) ∧ Aside0 (w1.heap[w.heap.size + 1 + 1]? = some (.cells #[.int .i64 0, .int .i64 0, .int .i64 0, .int .i64 0, .int .i64 0] 51 (0, 0))) ∧ Aside0 (Below w.heap.size w w1) := ⟨_, rfl, blk_alloc (blk_alloc (blk_new _ _) _) _, ⟨blk_alloc (blk_new1 _ _ _) _⟩, ⟨blk_newb _ _ _ _⟩, ⟨below_alloc (below_alloc (below_alloc (Below.refl _ _) _) _) _⟩⟩
  have HM := Aside0.mk hm
  have HRM := Aside0.mk hr
  clear hm hr
  go_enter Try.func46, Try.ntmps46
  go_wp2_with fail
  refine (cubbyholeref44_room.calls k n al r _ HRM.out).mono ?_
  rintro e w2 ⟨rfl, hb⟩
  have HM2 := Aside0.mk (And.intro (blk_below HM.out hb) (And.intro (blk_below HR1.out hb) (And.intro (blk_below HR2.out hb) (below_step HB.out hb))))
  clear hb
  obtain ⟨rk, hrk⟩ : ∃ rk, r / 16 = rk := ⟨_, rfl⟩
  have hq : (r : Int) / 16 = (rk : Int) := by omega
  have hq3 : IntKind.i64.wrap (rk : Int) = (rk : Int) := (i64_w _).trans (by unfold wrap64; omega)
  have hrk2 : rk ≤ 1000000 := by omega
  have hms := fun W : World => print_make 23 5 .u8 1 Try.underlying23 info5 (by decide) r (by omega) W
  have hms2 := run_made_refs51 rk hrk2
  clear hrk
  go_upto_region 2 with fail
  go_cut [11] (fun v11 wx => ∃ gc gB gK, v11 = .pointer (some ⟨gc, 0, none⟩) ∧ Aside0 (MdF w wx k0 k1 k2 k3 k4 k5 k6 k7 k8 k9 k10 (.slice none 0 0) (.slice AR nr cr) w.heap.size gc gB r rk gK n))
  case first =>
    go_region
    all_goals (first | go_meet | (go_wp2_with fail; go_meet) | (go_wp2; go_meet))
    all_goals
      have hl := blk_lt HM2.out.2.2.1
      first
        | exact ⟨_, _, _, rfl, ⟨MdF.drew (mdf_new HM2.out.1 HM2.out.2.1 HM2.out.2.2.1 HM2.out.2.2.2 (by first | exact blk_newb _ _ _ _ | exact blk_alloc (blk_new1 _ _ _) _ | exact blk_alloc (blk_alloc (blk_new _ _) _) _) (by first | exact blk_newb _ _ _ _ | exact blk_alloc (blk_new1 _ _ _) _ | exact blk_alloc (blk_alloc (blk_new _ _) _) _) (by omega) (by omega) (by omega))⟩⟩
        | exact ⟨_, _, _, rfl, ⟨mdf_new HM2.out.1 HM2.out.2.1 HM2.out.2.2.1 HM2.out.2.2.2 (by first | exact blk_newb _ _ _ _ | exact blk_alloc (blk_new1 _ _ _) _ | exact blk_alloc (blk_alloc (blk_new _ _) _) _) (by first | exact blk_newb _ _ _ _ | exact blk_alloc (blk_new1 _ _ _) _ | exact blk_alloc (blk_alloc (blk_new _ _) _) _) (by omega) (by omega) (by omega)⟩⟩
  case rest =>
    obtain ⟨gc, gB, gK, rfl, HC⟩ := hcut
    clear hms hms2 hq hq3
    go_wp2_with fail
    go_loopw [12] (fun v12 wr => ∃ i : Nat, i ≤ r ∧ v12 = .int .i64 i ∧ Aside0 (MdF w wr k0 k1 k2 k3 k4 k5 k6 k7 k8 k9 k10 (.slice none 0 0) (.slice AR nr cr) w.heap.size gc gB r rk gK n)) (fun v12 _ => r - (intOf v12).toNat)
    case atStart => exact ⟨0, by omega, rfl, HC⟩
    case round =>
      obtain ⟨i, hi, rfl, HW⟩ := hrel
      by_cases c : i < r
      · have d1 : decide ((i : Int) < (r : Int)) = true := decide_eq_true (by omega)
        have p4 : (0 ≤ (i : Int)) = True := eq_true (by omega)
        have q4 : ((i : Int) < (r : Int)) = True := eq_true (by omega)
        obtain ⟨cs, e1, e2⟩ := HW.out.bb
        have cB : wr.cell? ⟨gc, 0, none⟩ = some (.slice (some ⟨gB, 0, none⟩) r r) := (blk_cell HW.out.c 0).trans rfl
        obtain ⟨ov, hci⟩ : ∃ u, wr.cell? ⟨gB, i, none⟩ = some u := ⟨_, (blk_cell e1 i).trans (Array.getElem?_eq_getElem (by omega))⟩
        have hfi := blk_frozen e1 i
        have HW2 := Aside0.mk (HW.out.put i f)
        have hsum : IntKind.i64.wrap ((i : Int) + 1) = ((i + 1 : Nat) : Int) := (i64_w _).trans (by unfold wrap64; omega)
        clear e1 e2
        go_wp2
        exact ⟨⟨i + 1, by omega, rfl, HW2⟩, by simp only [intOf]; omega⟩
      · have d1 : decide ((i : Int) < (r : Int)) = false := decide_eq_false (by omega)
        clear HC
        go_upto_region 7 with fail
        obtain ⟨hc0, hc1, hc2, hc3, hc4, hc5, hc6, hc7, hc8, hc9, hc10, hc11, hc12⟩ := cellsR HW.out.m
        have hl1 := fun o => cell_alloc1 hc11 o
        have hl2 := fun o1 o2 => cell_alloc2 hc11 o1 o2
        have hl3 := fun o1 o2 o3 => cell_alloc1 (cell_alloc2 hc11 o1 o2) o3
        have hfz := blk_frozen HW.out.m 11
        have cc0 : wr.cell? ⟨gc, 0, none⟩ = some (.slice (some ⟨gB, 0, none⟩) r r) := (blk_cell HW.out.c 0).trans rfl
        have cc1 : wr.cell? ⟨gc, 1, none⟩ = some (.slice (some ⟨gK, 0, none⟩) rk rk) := (blk_cell HW.out.c 1).trans rfl
        have cc2 : wr.cell? ⟨gc, 2, none⟩ = some (.int .i64 n) := (blk_cell HW.out.c 2).trans rfl
        have cc3 : wr.cell? ⟨gc, 3, none⟩ = some (.bool true) := (blk_cell HW.out.c 3).trans rfl
        have cd0 := fun o => cell_alloc1 cc0 o
        have cd1 := fun o => cell_alloc1 cc1 o
        have cd2 := fun o => cell_alloc1 cc2 o
        have cd3 := fun o => cell_alloc1 cc3 o
        have ce0 := fun o1 o2 => cell_alloc2 cc0 o1 o2
        have ce1 := fun o1 o2 => cell_alloc2 cc1 o1 o2
        have ce2 := fun o1 o2 => cell_alloc2 cc2 o1 o2
        have ce3 := fun o1 o2 => cell_alloc2 cc3 o1 o2
        go_cut [40] (fun v40 wx => ∃ gl cap, Aside0 (MdF w wx k0 k1 k2 k3 k4 k5 k6 k7 k8 k9 k10 (.slice (some ⟨gl, 0, none⟩) 1 cap) (.slice AR nr cr) w.heap.size gc gB r rk gK n ∧ wx.cell? ⟨gl, 3, none⟩ = some (.bool true) ∧ w.heap.size + 1 + 1 < gl))
        case first =>
          go_region_law (refine step_put82 rfl (.tmp 36) (.tmp 38) rfl _ rfl _ _ _ _ _ _ _ _ rfl (by first | exact blk_new1 _ _ _ | exact blk_new _ _ | exact blk_alloc (blk_new _ _) _) ?_; intro gl cap w5 hb5 hcap hgl hc5; have hgs : wr.heap.size ≤ gl := (by first | exact Nat.le_trans (below_drew1 (below_alloc (below_alloc (Below.refl wr.heap.size wr) _) _)).size hgl | exact Nat.le_trans (below_alloc (below_alloc (Below.refl wr.heap.size wr) _) _).size hgl | exact Nat.le_trans (below_alloc (below_alloc (below_drew1 (Below.refl wr.heap.size wr)) _) _).size hgl); have hb6 : Below wr.heap.size wr w5 := (by first | exact below_step (below_alloc (below_alloc (Below.refl _ _) _) _) hb5 | exact below_step (below_drew1 (below_alloc (below_alloc (Below.refl _ _) _) _)) hb5 | exact below_step (below_alloc (below_alloc (below_drew1 (Below.refl _ _)) _) _) hb5 | exact below_step (below_alloc (Below.refl _ _) _) hb5); have HW5 := Aside0.mk (And.intro (HW.out.below hb6) (And.intro hc5 hgs)); have t11 : w5.cell? ⟨w.heap.size, 11, none⟩ = some (.slice none 0 0) := (hb6.cell (World.block_lt_of_cell? _ _ hc11)).trans hc11; have tf : w5.frozen? ⟨w.heap.size, 11, none⟩ = false := blk_frozen (blk_below HW.out.m hb6) 11; clear hb5 hb6 hcap hgl hc5 hgs)
          all_goals (first | go_meet | (go_wp2_with fail; go_meet) | (go_wp2; go_meet))
          all_goals
            have hl := blk_lt HW.out.r2
            have hh := HW5.out.2.2
            exact ⟨gl, cap, ⟨(HW5.out.1).store _, (World.cell?_of_block (Below.heap_setCell _ _ _ _ (by show gl ≠ w.heap.size; omega))).trans HW5.out.2.1, by omega⟩⟩
        case rest =>
          obtain ⟨gl, cap, HL⟩ := hcut
          clear hl1 hl2 hl3 hfz cc0 cc1 cc2 cc3 cd0 cd1 cd2 cd3 ce0 ce1 ce2 ce3 hc0 hc1 hc2 hc3 hc4 hc5 hc6 hc7 hc8 hc9 hc10 hc11 hc12
          obtain ⟨hc0, hc1, hc2, hc3, hc4, hc5, hc6, hc7, hc8, hc9, hc10, hc11, hc12⟩ := cellsR HL.out.1.m
          obtain ⟨rc0, rc1, rc2, rc3, rc4, rc5, rc6, rc7, rc8, rc9, rc10, rc11, rc12⟩ := cellsR HL.out.1.r1
          obtain ⟨rf0, rf1, rf2, rf3, rf4, rf5, rf6, rf7, rf8, rf9, rf10, rf11, rf12⟩ := frozR HL.out.1.r1
          obtain ⟨s0, s1, s2, s3, s4, t0, t1, t2, t3, t4⟩ := cells5 HL.out.1.r2
          go_upto_region 8 with fail
          go_region
          all_goals
            go_wp2
            have hg := HL.out.2.2
            have n1 : w.heap.size + 1 ≠ w.heap.size + 1 + 1 := by omega
            have n2 : w.heap.size + 1 + 1 ≠ w.heap.size + 1 := by omega
            refine bodyPost_ret (retRc rfl _ _ (w.heap.size + 1) (w.heap.size + 1 + 1) #[.int .i64 k0, .int .i64 k1, .int .i64 k2, .int .i64 k3, .int .i64 k4, .int .i64 k5, .int .i64 k6, .int .i64 k7, .int .i64 k8, .int .i64 k9, .int .u64 k10, .slice (some ⟨gl, 0, none⟩) 1 cap, .slice AR nr cr] #[.int .i64 1, .int .i64 0, .int .i64 n, .int .i64 0, .int .i64 31] rfl rfl rfl rfl (by first | (with_reducible exact blk_drew (blk_put5 _ _ _ _ _ (put13 _ _ _ _ _ _ _ _ _ _ _ _ _  HL.out.1.r1) n1)) | (with_reducible exact blk_drew (put13 _ _ _ _ _ _ _ _ _ _ _ _ _  (blk_put5 _ _ _ _ _ HL.out.1.r1 n1))) | exact blk_put5 _ _ _ _ _ (put13 _ _ _ _ _ _ _ _ _ _ _ _ _  HL.out.1.r1) n1 | exact put13 _ _ _ _ _ _ _ _ _ _ _ _ _  (blk_put5 _ _ _ _ _ HL.out.1.r1 n1)) (by first | (with_reducible exact blk_drew (put5 _ _ _ _ _ (blk_put13 HL.out.1.r2 n2))) | (with_reducible exact blk_drew (blk_put13 (put5 _ _ _ _ _ HL.out.1.r2) n2)) | exact put5 _ _ _ _ _ (blk_put13 HL.out.1.r2 n2) | exact blk_put13 (put5 _ _ _ _ _ HL.out.1.r2) n2)) rfl ?_
            exact ⟨gl, cap, rfl, by first | (with_reducible exact cell_drw (cell_put5 _ _ _ _ _ (cell_put13 HL.out.2.1 (by omega)) (by omega))) | (with_reducible exact cell_drw (cell_put13 (cell_put5 _ _ _ _ _ HL.out.2.1 (by omega)) (by omega))) | exact cell_put5 _ _ _ _ _ (cell_put13 HL.out.2.1 (by omega)) (by omega) | exact cell_put13 (cell_put5 _ _ _ _ _ HL.out.2.1 (by omega)) (by omega), by repeat (first | (with_reducible exact HL.out.1.b) | (with_reducible apply below_drew1) | (with_reducible refine below_set ?_ (by omega)))⟩

end Go.Proofs.Ytneejihmakfaoaa.OwnModel
