/- The walk of ModelOne. Conditions: those of the plain laws. Printed by gen_one.py. -/
import Derived.Test.YtneejihmakfaoaaOwnDefs
import Derived.Test.YtneejihmakfaoaaOwnRefB
import Derived.Test.YtneejihmakfaoaaOwnTail
import Derived.Deep.RegionHeld3
import Derived.BigQuiet
import Derived.Deep.DeepCutAuto
namespace Go.Proofs.Ytneejihmakfaoaa.OwnModel
open Go.RowKit Go.Proofs.Ytneejihmakfaoaa.OwnMask Go.Proofs.Ytneejihmakfaoaa.QModelOne Go.Proofs.YtneejihmakfaoaaW.PrintWords Go.Proofs.YtneejihmakfaoaaW.PrintLast Go.Proofs.YtneejihmakfaoaaW.PrintMore
set_option linter.unusedVariables false
set_option linter.unusedSimpArgs false
theorem RPost.slices {n gr0 wsz : Nat} {a : Int} {w : World} {lv rv : Value} {mk : Option Int} (h : RPost n gr0 wsz a w lv rv mk) : ∃ AL nl cl AR nr cr, lv = .slice AL nl cl ∧ rv = .slice AR nr cr := by
  cases mk with
  | none => obtain ⟨rfl, gR, cR, rfl, _⟩ := h; exact ⟨_, _, _, _, _, _, rfl, rfl⟩
  | some N => obtain ⟨_, _, gl, cap, gR, cR, rfl, rfl, _⟩ := h; exact ⟨_, _, _, _, _, _, rfl, rfl⟩
theorem PPost.kb {g gr : Nat} {k0 k1 k2 k3 k4 k5 k6 k7 k8 k9 k10 : Int} {xs : List S51} {a : Int} {w w' : World} {mk : Option Int} (h : PPost g gr k0 k1 k2 k3 k4 k5 k6 k7 k8 k9 k10 xs a w w' mk) : KB2 g gr w w' := by
  cases mk with
  | none => exact h.1
  | some N => exact h.1

theorem cells11 {w : World} {p : Nat} {a0 a1 a2 a3 a4 a5 a6 a7 a8 a9 a10 : Value} {t : TypeId} (h : w.heap[p]? = some (.cells #[a0, a1, a2, a3, a4, a5, a6, a7, a8, a9, a10] t (0, 0))) :
    w.cell? ⟨p, 0, none⟩ = some a0 ∧ w.cell? ⟨p, 1, none⟩ = some a1 ∧ w.cell? ⟨p, 2, none⟩ = some a2 ∧ w.cell? ⟨p, 3, none⟩ = some a3 ∧ w.cell? ⟨p, 4, none⟩ = some a4 ∧ w.cell? ⟨p, 5, none⟩ = some a5 ∧ w.cell? ⟨p, 6, none⟩ = some a6 ∧ w.cell? ⟨p, 7, none⟩ = some a7 ∧ w.cell? ⟨p, 8, none⟩ = some a8 ∧ w.cell? ⟨p, 9, none⟩ = some a9 ∧ w.cell? ⟨p, 10, none⟩ = some a10 := ⟨(blk_cell h 0).trans rfl, (blk_cell h 1).trans rfl, (blk_cell h 2).trans rfl, (blk_cell h 3).trans rfl, (blk_cell h 4).trans rfl, (blk_cell h 5).trans rfl, (blk_cell h 6).trans rfl, (blk_cell h 7).trans rfl, (blk_cell h 8).trans rfl, (blk_cell h 9).trans rfl, (blk_cell h 10).trans rfl⟩
/-- What stands behind the reference's Do: its model and its result in blocks of their own. -/
def RelOne (k0 k1 k2 k3 k4 k5 k6 k8 k9 k10 : Int) (nR : Nat) (err a : Int) (mk : Option Int) (w7 : World) (v10 v11 : Value) (wx : World) : Prop :=
  ∃ (q40 q35 : Nat) (AL : Option Addr) (nl cl : Nat) (AR : Option Addr) (nr cr : Nat) (gR wsz : Nat), v10 = .pointer (some ⟨q40, 0, none⟩) ∧ v11 = .pointer (some ⟨q35, 0, none⟩) ∧ Aside0 (wx.heap[q40]? = some (.cells #[.int .i64 k0, .int .i64 k1, .int .i64 k2, .int .i64 k3, .int .i64 k4, .int .i64 k5, .int .i64 k6, .int .i64 (nR : Int), .int .i64 k8, .int .i64 k9, .int .u64 k10, .slice AL nl cl, .slice AR nr cr] 40 (0, 0)) ∧ wx.heap[q35]? = some (.cells #[.int .i64 err, .int .i64 0, .slice none 0 0] 35 (0, 0)) ∧ Below w7.heap.size w7 wx ∧ RPost nR gR wsz a wx (.slice AL nl cl) (.slice AR nr cr) mk)
theorem RelOne.intro {k0 k1 k2 k3 k4 k5 k6 k8 k9 k10 : Int} {nR : Nat} {err a : Int} {mk : Option Int} {w7 w9 wx : World} {q40 q35 : Nat} {AL : Option Addr} {nl cl : Nat} {AR : Option Addr} {nr cr gR wsz : Nat} (hp : RPost nR gR wsz a w9 (.slice AL nl cl) (.slice AR nr cr) mk)
    (h40 : wx.heap[q40]? = some (.cells #[.int .i64 k0, .int .i64 k1, .int .i64 k2, .int .i64 k3, .int .i64 k4, .int .i64 k5, .int .i64 k6, .int .i64 (nR : Int), .int .i64 k8, .int .i64 k9, .int .u64 k10, .slice AL nl cl, .slice AR nr cr] 40 (0, 0))) (h35 : wx.heap[q35]? = some (.cells #[.int .i64 err, .int .i64 0, .slice none 0 0] 35 (0, 0))) (hb : Below w7.heap.size w7 wx)
    (hc : ∀ k j v, w9.cell? ⟨k, j, none⟩ = some v → k ≠ q40 → k ≠ q35 → wx.cell? ⟨k, j, none⟩ = some v) (e40 : q40 < w9.heap.size → q40 ≠ gR ∧ q40 < wsz ∧ ∃ i : Int, w9.cell? ⟨q40, 3, none⟩ = some (.int .i64 i)) (e35 : q35 < w9.heap.size → q35 ≠ gR ∧ q35 < wsz ∧ w9.cell? ⟨q35, 3, none⟩ = none) :
    RelOne k0 k1 k2 k3 k4 k5 k6 k8 k9 k10 nR err a mk w7 (.pointer (some ⟨q40, 0, none⟩)) (.pointer (some ⟨q35, 0, none⟩)) wx :=
  ⟨q40, q35, AL, nl, cl, AR, nr, cr, gR, wsz, rfl, rfl, ⟨h40, h35, hb, RPost.carry hp q40 q35 hc e40 e35⟩⟩

theorem rel1 {k0 k1 k2 k3 k4 k5 k6 k8 k9 k10 : Int} {nR : Nat} {err a : Int} {mk : Option Int} {w7 w9 : World} {AL : Option Addr} {nl cl : Nat} {AR : Option Addr} {nr cr gR wsz : Nat} (hp : RPost nR gR wsz a w9 (.slice AL nl cl) (.slice AR nr cr) mk)  (hb : Below w7.heap.size w7 ((w9.alloc (.cells #[.int .i64 k0, .int .i64 k1, .int .i64 k2, .int .i64 k3, .int .i64 k4, .int .i64 k5, .int .i64 k6, .int .i64 (nR : Int), .int .i64 k8, .int .i64 k9, .int .u64 k10, .slice AL nl cl, .slice AR nr cr] 40)).alloc (.cells #[.int .i64 err, .int .i64 0, .slice none 0 0] 35))) :
    RelOne k0 k1 k2 k3 k4 k5 k6 k8 k9 k10 nR err a mk w7 (.pointer (some ⟨w9.heap.size, 0, none⟩)) (.pointer (some ⟨w9.heap.size + 1, 0, none⟩)) ((w9.alloc (.cells #[.int .i64 k0, .int .i64 k1, .int .i64 k2, .int .i64 k3, .int .i64 k4, .int .i64 k5, .int .i64 k6, .int .i64 (nR : Int), .int .i64 k8, .int .i64 k9, .int .u64 k10, .slice AL nl cl, .slice AR nr cr] 40)).alloc (.cells #[.int .i64 err, .int .i64 0, .slice none 0 0] 35)) := by
  exact RelOne.intro hp (blk_alloc (blk_new _ _) _) (blk_new1 _ _ _) hb (fun k j v hv _ _ => cell_alloc2 hv _ _) (fun h => absurd h (by omega)) (fun h => absurd h (by omega))
theorem rel2 {k0 k1 k2 k3 k4 k5 k6 k8 k9 k10 : Int} {nR : Nat} {err a : Int} {mk : Option Int} {w7 w9 : World} {AL : Option Addr} {nl cl : Nat} {AR : Option Addr} {nr cr gR wsz : Nat} (hp : RPost nR gR wsz a w9 (.slice AL nl cl) (.slice AR nr cr) mk)  (hb : Below w7.heap.size w7 ((w9.alloc (.cells #[.int .i64 err, .int .i64 0, .slice none 0 0] 35)).alloc (.cells #[.int .i64 k0, .int .i64 k1, .int .i64 k2, .int .i64 k3, .int .i64 k4, .int .i64 k5, .int .i64 k6, .int .i64 (nR : Int), .int .i64 k8, .int .i64 k9, .int .u64 k10, .slice AL nl cl, .slice AR nr cr] 40))) :
    RelOne k0 k1 k2 k3 k4 k5 k6 k8 k9 k10 nR err a mk w7 (.pointer (some ⟨w9.heap.size + 1, 0, none⟩)) (.pointer (some ⟨w9.heap.size, 0, none⟩)) ((w9.alloc (.cells #[.int .i64 err, .int .i64 0, .slice none 0 0] 35)).alloc (.cells #[.int .i64 k0, .int .i64 k1, .int .i64 k2, .int .i64 k3, .int .i64 k4, .int .i64 k5, .int .i64 k6, .int .i64 (nR : Int), .int .i64 k8, .int .i64 k9, .int .u64 k10, .slice AL nl cl, .slice AR nr cr] 40)) := by
  exact RelOne.intro hp (blk_new1 _ _ _) (blk_alloc (blk_new _ _) _) hb (fun k j v hv _ _ => cell_alloc2 hv _ _) (fun h => absurd h (by omega)) (fun h => absurd h (by omega))
theorem rel3 {k0 k1 k2 k3 k4 k5 k6 k8 k9 k10 : Int} {nR : Nat} {err a : Int} {mk : Option Int} {w7 w9 : World} {AL : Option Addr} {nl cl : Nat} {AR : Option Addr} {nr cr gR wsz : Nat} (hp : RPost nR gR wsz a w9 (.slice AL nl cl) (.slice AR nr cr) mk) {q40 : Nat} (d40 : w9.heap[q40]? = some (.cells #[.int .i64 0, .int .i64 0, .int .i64 0, .int .i64 0, .int .i64 0, .int .i64 0, .int .i64 0, .int .i64 0, .int .i64 0, .int .i64 0, .int .u64 0, .slice none 0 0, .slice none 0 0] 40 (0, 0))) (e40 : q40 < w9.heap.size → q40 ≠ gR ∧ q40 < wsz ∧ ∃ i : Int, w9.cell? ⟨q40, 3, none⟩ = some (.int .i64 i)) (hb : Below w7.heap.size w7 ((((((((((((((((((w9.alloc (.cells #[.int .i64 0, .int .i64 0, .slice none 0 0] 35)).setCell ⟨q40, 0, none⟩ (.int .i64 k0)).setCell ⟨q40, 1, none⟩ (.int .i64 k1)).setCell ⟨q40, 2, none⟩ (.int .i64 k2)).setCell ⟨q40, 3, none⟩ (.int .i64 k3)).setCell ⟨q40, 4, none⟩ (.int .i64 k4)).setCell ⟨q40, 5, none⟩ (.int .i64 k5)).setCell ⟨q40, 6, none⟩ (.int .i64 k6)).setCell ⟨q40, 7, none⟩ (.int .i64 (nR : Int))).setCell ⟨q40, 8, none⟩ (.int .i64 k8)).setCell ⟨q40, 9, none⟩ (.int .i64 k9)).setCell ⟨q40, 10, none⟩ (.int .u64 k10)).setCell ⟨q40, 11, none⟩ (.slice AL nl cl)).setCell ⟨q40, 12, none⟩ (.slice AR nr cr)).setCell ⟨w9.heap.size, 0, none⟩ (.int .i64 err)).setCell ⟨w9.heap.size, 1, none⟩ (.int .i64 0)).setCell ⟨w9.heap.size, 2, none⟩ (.slice none 0 0)))) :
    RelOne k0 k1 k2 k3 k4 k5 k6 k8 k9 k10 nR err a mk w7 (.pointer (some ⟨q40, 0, none⟩)) (.pointer (some ⟨w9.heap.size, 0, none⟩)) ((((((((((((((((((w9.alloc (.cells #[.int .i64 0, .int .i64 0, .slice none 0 0] 35)).setCell ⟨q40, 0, none⟩ (.int .i64 k0)).setCell ⟨q40, 1, none⟩ (.int .i64 k1)).setCell ⟨q40, 2, none⟩ (.int .i64 k2)).setCell ⟨q40, 3, none⟩ (.int .i64 k3)).setCell ⟨q40, 4, none⟩ (.int .i64 k4)).setCell ⟨q40, 5, none⟩ (.int .i64 k5)).setCell ⟨q40, 6, none⟩ (.int .i64 k6)).setCell ⟨q40, 7, none⟩ (.int .i64 (nR : Int))).setCell ⟨q40, 8, none⟩ (.int .i64 k8)).setCell ⟨q40, 9, none⟩ (.int .i64 k9)).setCell ⟨q40, 10, none⟩ (.int .u64 k10)).setCell ⟨q40, 11, none⟩ (.slice AL nl cl)).setCell ⟨q40, 12, none⟩ (.slice AR nr cr)).setCell ⟨w9.heap.size, 0, none⟩ (.int .i64 err)).setCell ⟨w9.heap.size, 1, none⟩ (.int .i64 0)).setCell ⟨w9.heap.size, 2, none⟩ (.slice none 0 0))) := by
  have hl := blk_lt d40
  exact RelOne.intro hp (blk_put3 (put13 _ _ _ _ _ _ _ _ _ _ _ _ _  (blk_alloc d40 _)) (by omega)) (put3 _ _ _ (blk_put13 (blk_new _ _) (by omega))) hb (fun k j v hv h1 h2 => cell_put3 (cell_put13 (cell_alloc1 hv _) h1) h2) e40 (fun h => absurd h (by omega))
theorem rel4 {k0 k1 k2 k3 k4 k5 k6 k8 k9 k10 : Int} {nR : Nat} {err a : Int} {mk : Option Int} {w7 w9 : World} {AL : Option Addr} {nl cl : Nat} {AR : Option Addr} {nr cr gR wsz : Nat} (hp : RPost nR gR wsz a w9 (.slice AL nl cl) (.slice AR nr cr) mk) {q40 q35 : Nat} (d40 : w9.heap[q40]? = some (.cells #[.int .i64 0, .int .i64 0, .int .i64 0, .int .i64 0, .int .i64 0, .int .i64 0, .int .i64 0, .int .i64 0, .int .i64 0, .int .i64 0, .int .u64 0, .slice none 0 0, .slice none 0 0] 40 (0, 0))) (e40 : q40 < w9.heap.size → q40 ≠ gR ∧ q40 < wsz ∧ ∃ i : Int, w9.cell? ⟨q40, 3, none⟩ = some (.int .i64 i)) (d35 : w9.heap[q35]? = some (.cells #[.int .i64 0, .int .i64 0, .slice none 0 0] 35 (0, 0))) (e35 : q35 < w9.heap.size → q35 ≠ gR ∧ q35 < wsz ∧ w9.cell? ⟨q35, 3, none⟩ = none) (hb : Below w7.heap.size w7 (((((((((((((((((w9.setCell ⟨q40, 0, none⟩ (.int .i64 k0)).setCell ⟨q40, 1, none⟩ (.int .i64 k1)).setCell ⟨q40, 2, none⟩ (.int .i64 k2)).setCell ⟨q40, 3, none⟩ (.int .i64 k3)).setCell ⟨q40, 4, none⟩ (.int .i64 k4)).setCell ⟨q40, 5, none⟩ (.int .i64 k5)).setCell ⟨q40, 6, none⟩ (.int .i64 k6)).setCell ⟨q40, 7, none⟩ (.int .i64 (nR : Int))).setCell ⟨q40, 8, none⟩ (.int .i64 k8)).setCell ⟨q40, 9, none⟩ (.int .i64 k9)).setCell ⟨q40, 10, none⟩ (.int .u64 k10)).setCell ⟨q40, 11, none⟩ (.slice AL nl cl)).setCell ⟨q40, 12, none⟩ (.slice AR nr cr)).setCell ⟨q35, 0, none⟩ (.int .i64 err)).setCell ⟨q35, 1, none⟩ (.int .i64 0)).setCell ⟨q35, 2, none⟩ (.slice none 0 0)))) :
    RelOne k0 k1 k2 k3 k4 k5 k6 k8 k9 k10 nR err a mk w7 (.pointer (some ⟨q40, 0, none⟩)) (.pointer (some ⟨q35, 0, none⟩)) (((((((((((((((((w9.setCell ⟨q40, 0, none⟩ (.int .i64 k0)).setCell ⟨q40, 1, none⟩ (.int .i64 k1)).setCell ⟨q40, 2, none⟩ (.int .i64 k2)).setCell ⟨q40, 3, none⟩ (.int .i64 k3)).setCell ⟨q40, 4, none⟩ (.int .i64 k4)).setCell ⟨q40, 5, none⟩ (.int .i64 k5)).setCell ⟨q40, 6, none⟩ (.int .i64 k6)).setCell ⟨q40, 7, none⟩ (.int .i64 (nR : Int))).setCell ⟨q40, 8, none⟩ (.int .i64 k8)).setCell ⟨q40, 9, none⟩ (.int .i64 k9)).setCell ⟨q40, 10, none⟩ (.int .u64 k10)).setCell ⟨q40, 11, none⟩ (.slice AL nl cl)).setCell ⟨q40, 12, none⟩ (.slice AR nr cr)).setCell ⟨q35, 0, none⟩ (.int .i64 err)).setCell ⟨q35, 1, none⟩ (.int .i64 0)).setCell ⟨q35, 2, none⟩ (.slice none 0 0))) := by
  have hne : q40 ≠ q35 := blk_ne d40 d35 (by decide)
  exact RelOne.intro hp (blk_put3 (put13 _ _ _ _ _ _ _ _ _ _ _ _ _  d40) hne) (put3 _ _ _ (blk_put13 d35 hne.symm)) hb (fun k j v hv h1 h2 => cell_put3 (cell_put13 hv h1) h2) e40 e35
theorem rel5 {k0 k1 k2 k3 k4 k5 k6 k8 k9 k10 : Int} {nR : Nat} {err a : Int} {mk : Option Int} {w7 w9 : World} {AL : Option Addr} {nl cl : Nat} {AR : Option Addr} {nr cr gR wsz : Nat} (hp : RPost nR gR wsz a w9 (.slice AL nl cl) (.slice AR nr cr) mk) {q35 : Nat} (d35 : w9.heap[q35]? = some (.cells #[.int .i64 0, .int .i64 0, .slice none 0 0] 35 (0, 0))) (e35 : q35 < w9.heap.size → q35 ≠ gR ∧ q35 < wsz ∧ w9.cell? ⟨q35, 3, none⟩ = none) (hb : Below w7.heap.size w7 (((((w9.alloc (.cells #[.int .i64 k0, .int .i64 k1, .int .i64 k2, .int .i64 k3, .int .i64 k4, .int .i64 k5, .int .i64 k6, .int .i64 (nR : Int), .int .i64 k8, .int .i64 k9, .int .u64 k10, .slice AL nl cl, .slice AR nr cr] 40)).setCell ⟨q35, 0, none⟩ (.int .i64 err)).setCell ⟨q35, 1, none⟩ (.int .i64 0)).setCell ⟨q35, 2, none⟩ (.slice none 0 0)))) :
    RelOne k0 k1 k2 k3 k4 k5 k6 k8 k9 k10 nR err a mk w7 (.pointer (some ⟨w9.heap.size, 0, none⟩)) (.pointer (some ⟨q35, 0, none⟩)) (((((w9.alloc (.cells #[.int .i64 k0, .int .i64 k1, .int .i64 k2, .int .i64 k3, .int .i64 k4, .int .i64 k5, .int .i64 k6, .int .i64 (nR : Int), .int .i64 k8, .int .i64 k9, .int .u64 k10, .slice AL nl cl, .slice AR nr cr] 40)).setCell ⟨q35, 0, none⟩ (.int .i64 err)).setCell ⟨q35, 1, none⟩ (.int .i64 0)).setCell ⟨q35, 2, none⟩ (.slice none 0 0))) := by
  have hl := blk_lt d35
  exact RelOne.intro hp (blk_put3 (blk_new _ _) (by omega)) (put3 _ _ _ (blk_alloc d35 _)) hb (fun k j v hv h1 h2 => cell_put3 (cell_alloc1 hv _) h2) (fun h => absurd h (by omega)) e35
set_option maxHeartbeats 8000000 in
set_option maxRecDepth 100000 in
theorem oneWalk (n0 n1 n2 n3 : Int) (k0 k1 k2 k3 k4 k5 k6 k8 k9 k10 : Int) (nR : Nat) (hcf : cubbyholeref38_Conf.f n0 n1 n2 n3 true = some (k0, k1, k2, k3, k4, k5, k6, (nR : Int), k8, k9, k10)) (hn : nR ≤ 64) (kd th a b v nn mm : Int) (A : Option Addr) (dl dc : Nat) (fu : Bool) (hD : Dual k0 k1 k2 k3 k4 k5 k6 (nR : Int) k8 k9 k10 (List.replicate nR z51) kd th a b v nn mm A dl dc fu) (w : World) :
    Calls Try.prog 3 #[.agg #[.int .i64 n0, .int .i64 n1, .int .i64 n2, .int .i64 n3], .agg #[.int .i64 kd, .int .i64 th, .int .i64 a, .int .i64 b, .int .i64 v, .int .i64 nn, .int .i64 mm, .slice A dl dc], .bool fu] w fun e w' => e = .returned (.bool true) ∧ Below w.heap.size w w' := by
  have hu22 := Try.underlying22
  have hu25 := Try.underlying25
  have hu29 := Try.underlying29
  have hu35 := Try.underlying35
  have hu40 := Try.underlying40
  obtain ⟨err, mk, hP, hR⟩ := hD
  simp only [List.length_replicate] at hP hR
  have HP := Aside0.mk hP
  have HR := Aside0.mk hR
  have HCF := Aside0.mk hcf
  clear hP hR hcf
  obtain ⟨w1, hw1, hn4, hop, HB1⟩ : ∃ w1, (w.alloc (.cells #[.int .i64 n0, .int .i64 n1, .int .i64 n2, .int .i64 n3] 22)).alloc (.cells #[.int .i64 kd, .int .i64 th, .int .i64 a, .int .i64 b, .int .i64 v, .int .i64 nn, .int .i64 mm, .slice A dl dc] 25) = w1 ∧ Aside0 (w1.heap[w.heap.size]? = some (.cells #[.int .i64 n0, .int .i64 n1, .int .i64 n2, .int .i64 n3] 22 (0, 0))) ∧ Aside0 (w1.heap[w.heap.size + 1]? = some (.cells #[.int .i64 kd, .int .i64 th, .int .i64 a, .int .i64 b, .int .i64 v, .int .i64 nn, .int .i64 mm, .slice A dl dc] 25 (0, 0))) ∧ Aside0 (Below w.heap.size w w1) := ⟨_, rfl, ⟨blk_alloc (blk_new _ _) _⟩, ⟨blk_new1 _ _ _⟩, ⟨below_alloc (below_alloc (Below.refl _ _) _) _⟩⟩
  go_enter Try.func3, Try.ntmps3
  go_wp2_with fail
  refine (awake _).mono ?_
  rintro e w2 ⟨rfl, hb⟩
  have HN2 := blk_below hn4.out hb
  have HO2 := Aside0.mk (blk_below hop.out hb)
  have HB2 := Aside0.mk (below_step HB1.out hb)
  have x0 : w2.cell? ⟨w.heap.size, 0, none⟩ = some (.int .i64 n0) := (blk_cell HN2 0).trans rfl
  have x1 : w2.cell? ⟨w.heap.size, 1, none⟩ = some (.int .i64 n1) := (blk_cell HN2 1).trans rfl
  have x2 : w2.cell? ⟨w.heap.size, 2, none⟩ = some (.int .i64 n2) := (blk_cell HN2 2).trans rfl
  have x3 : w2.cell? ⟨w.heap.size, 3, none⟩ = some (.int .i64 n3) := (blk_cell HN2 3).trans rfl
  clear hb HN2
  go_wp2_with fail
  refine (cubbyholeref38_Conf.calls n0 n1 n2 n3 true k0 k1 k2 k3 k4 k5 k6 (nR : Int) k8 k9 k10 _ HCF.out).mono ?_
  rintro e w3 ⟨rfl, hb⟩
  have HO3 := Aside0.mk (blk_below HO2.out hb)
  have HB3 := Aside0.mk (below_step HB2.out hb)
  clear hb x0 x1 x2 x3
  go_upto_region 4 with fail
  obtain ⟨w4, hw4, HC4, HO4, HB4⟩ : ∃ w0, w3.alloc (.cells #[.int .i64 k0, .int .i64 k1, .int .i64 k2, .int .i64 k3, .int .i64 k4, .int .i64 k5, .int .i64 k6, .int .i64 (nR : Int), .int .i64 k8, .int .i64 k9, .int .u64 k10] 29) = w0 ∧ Aside0 (w0.heap[w3.heap.size]? = some (.cells #[.int .i64 k0, .int .i64 k1, .int .i64 k2, .int .i64 k3, .int .i64 k4, .int .i64 k5, .int .i64 k6, .int .i64 (nR : Int), .int .i64 k8, .int .i64 k9, .int .u64 k10] 29 (0, 0))) ∧ Aside0 (w0.heap[w.heap.size + 1]? = some (.cells #[.int .i64 kd, .int .i64 th, .int .i64 a, .int .i64 b, .int .i64 v, .int .i64 nn, .int .i64 mm, .slice A dl dc] 25 (0, 0))) ∧ Aside0 (Below w.heap.size w w0) := ⟨_, rfl, ⟨blk_new _ _⟩, ⟨blk_alloc HO3.out _⟩, ⟨below_alloc HB3.out _⟩⟩
  rw [hw4]
  clear hw4
  obtain ⟨c0, c1, c2, c3, c4, c5, c6, c7, c8, c9, c10⟩ := cells11 HC4.out
  go_wp2_with fail
  refine (newM k0 k1 k2 k3 k4 k5 k6 k8 k9 k10 nR hn _).mono ?_
  rintro e w5 ⟨g, gr, rfl, hm, hr, hgr, hg, hb⟩
  rw [cells_none] at hr
  have hlen : (List.replicate nR z51).length = nR := List.length_replicate
  have HM5 := Aside0.mk hm
  have HR5 := Aside0.mk hr
  have HG := Aside0.mk (And.intro hgr hg)
  have HC5 := Aside0.mk (blk_below HC4.out hb)
  have HO5 := Aside0.mk (blk_below HO4.out hb)
  have HB5 := Aside0.mk (below_step HB4.out hb)
  have HS5 := Aside0.mk hb.size
  clear hm hr hgr hg hb hlen c0 c1 c2 c3 c4 c5 c6 c7 c8 c9 c10
  obtain ⟨o0, o1, o2, o3, o4, o5, o6, o7⟩ := cells8 HO5.out
  go_wp2_with fail
  refine (HP.out g gr _ HM5.out HR5.out).mono ?_
  rintro e w6 ⟨rfl, hpp⟩
  have HPP := Aside0.mk hpp
  have HKB := Aside0.mk (PPost.kb hpp)
  clear hpp o0 o1 o2 o3 o4 o5 o6 o7
  have h1 := HG.out.1
  have h2 := HG.out.2
  have h3 := blk_lt HC4.out
  have h4 := blk_lt HC5.out
  have h5 := blk_lt HO4.out
  have h6 := blk_lt HO5.out
  have h7 := blk_lt HO3.out
  have HC6 := Aside0.mk ((HKB.out.block _ h4 (by omega) (by omega)).trans HC5.out)
  have HO6 := Aside0.mk ((HKB.out.block _ h6 (by omega) (by omega)).trans HO5.out)
  have HB6 := Aside0.mk (show Below w.heap.size w w6 from HB5.out.trans (HKB.out.low HB5.out.size (by have := HB4.out.size; omega) (by have := HB4.out.size; omega)))
  clear h1 h2 h3 h4 h5 h6 h7
  go_upto_region 6 with fail
  obtain ⟨w7, hw7, HC7, HO7, HA7, HS7⟩ : ∃ w0, w6.alloc (.cells #[.int .i64 err, .int .i64 0, .slice none 0 0] 35) = w0 ∧ Aside0 (w0.heap[w3.heap.size]? = some (.cells #[.int .i64 k0, .int .i64 k1, .int .i64 k2, .int .i64 k3, .int .i64 k4, .int .i64 k5, .int .i64 k6, .int .i64 (nR : Int), .int .i64 k8, .int .i64 k9, .int .u64 k10] 29 (0, 0))) ∧ Aside0 (w0.heap[w.heap.size + 1]? = some (.cells #[.int .i64 kd, .int .i64 th, .int .i64 a, .int .i64 b, .int .i64 v, .int .i64 nn, .int .i64 mm, .slice A dl dc] 25 (0, 0))) ∧ Aside0 (w0.heap[w6.heap.size]? = some (.cells #[.int .i64 err, .int .i64 0, .slice none 0 0] 35 (0, 0))) ∧ Aside0 (Below w6.heap.size w6 w0) := ⟨_, rfl, ⟨blk_alloc HC6.out _⟩, ⟨blk_alloc HO6.out _⟩, ⟨blk_new _ _⟩, ⟨below_alloc (Below.refl _ _) _⟩⟩
  rw [hw7]
  clear hw7
  have rc0 := (fun (W : World) (hB : Below w7.heap.size w7 W) => (show W.cell? ⟨w3.heap.size, 0, none⟩ = some (.int .i64 k0) from (blk_cell (blk_below HC7.out hB) 0).trans rfl))
  have rc1 := (fun (W : World) (hB : Below w7.heap.size w7 W) => (show W.cell? ⟨w3.heap.size, 1, none⟩ = some (.int .i64 k1) from (blk_cell (blk_below HC7.out hB) 1).trans rfl))
  have rc2 := (fun (W : World) (hB : Below w7.heap.size w7 W) => (show W.cell? ⟨w3.heap.size, 2, none⟩ = some (.int .i64 k2) from (blk_cell (blk_below HC7.out hB) 2).trans rfl))
  have rc3 := (fun (W : World) (hB : Below w7.heap.size w7 W) => (show W.cell? ⟨w3.heap.size, 3, none⟩ = some (.int .i64 k3) from (blk_cell (blk_below HC7.out hB) 3).trans rfl))
  have rc4 := (fun (W : World) (hB : Below w7.heap.size w7 W) => (show W.cell? ⟨w3.heap.size, 4, none⟩ = some (.int .i64 k4) from (blk_cell (blk_below HC7.out hB) 4).trans rfl))
  have rc5 := (fun (W : World) (hB : Below w7.heap.size w7 W) => (show W.cell? ⟨w3.heap.size, 5, none⟩ = some (.int .i64 k5) from (blk_cell (blk_below HC7.out hB) 5).trans rfl))
  have rc6 := (fun (W : World) (hB : Below w7.heap.size w7 W) => (show W.cell? ⟨w3.heap.size, 6, none⟩ = some (.int .i64 k6) from (blk_cell (blk_below HC7.out hB) 6).trans rfl))
  have rc7 := (fun (W : World) (hB : Below w7.heap.size w7 W) => (show W.cell? ⟨w3.heap.size, 7, none⟩ = some (.int .i64 (nR : Int)) from (blk_cell (blk_below HC7.out hB) 7).trans rfl))
  have rc8 := (fun (W : World) (hB : Below w7.heap.size w7 W) => (show W.cell? ⟨w3.heap.size, 8, none⟩ = some (.int .i64 k8) from (blk_cell (blk_below HC7.out hB) 8).trans rfl))
  have rc9 := (fun (W : World) (hB : Below w7.heap.size w7 W) => (show W.cell? ⟨w3.heap.size, 9, none⟩ = some (.int .i64 k9) from (blk_cell (blk_below HC7.out hB) 9).trans rfl))
  have rc10 := (fun (W : World) (hB : Below w7.heap.size w7 W) => (show W.cell? ⟨w3.heap.size, 10, none⟩ = some (.int .u64 k10) from (blk_cell (blk_below HC7.out hB) 10).trans rfl))
  have ro0 := (fun (W : World) (hB : Below w7.heap.size w7 W) => (show W.cell? ⟨w.heap.size + 1, 0, none⟩ = some (.int .i64 kd) from (blk_cell (blk_below HO7.out hB) 0).trans rfl))
  have ro1 := (fun (W : World) (hB : Below w7.heap.size w7 W) => (show W.cell? ⟨w.heap.size + 1, 1, none⟩ = some (.int .i64 th) from (blk_cell (blk_below HO7.out hB) 1).trans rfl))
  have ro2 := (fun (W : World) (hB : Below w7.heap.size w7 W) => (show W.cell? ⟨w.heap.size + 1, 2, none⟩ = some (.int .i64 a) from (blk_cell (blk_below HO7.out hB) 2).trans rfl))
  have ro3 := (fun (W : World) (hB : Below w7.heap.size w7 W) => (show W.cell? ⟨w.heap.size + 1, 3, none⟩ = some (.int .i64 b) from (blk_cell (blk_below HO7.out hB) 3).trans rfl))
  have ro4 := (fun (W : World) (hB : Below w7.heap.size w7 W) => (show W.cell? ⟨w.heap.size + 1, 4, none⟩ = some (.int .i64 v) from (blk_cell (blk_below HO7.out hB) 4).trans rfl))
  have ro5 := (fun (W : World) (hB : Below w7.heap.size w7 W) => (show W.cell? ⟨w.heap.size + 1, 5, none⟩ = some (.int .i64 nn) from (blk_cell (blk_below HO7.out hB) 5).trans rfl))
  have ro6 := (fun (W : World) (hB : Below w7.heap.size w7 W) => (show W.cell? ⟨w.heap.size + 1, 6, none⟩ = some (.int .i64 mm) from (blk_cell (blk_below HO7.out hB) 6).trans rfl))
  have ro7 := (fun (W : World) (hB : Below w7.heap.size w7 W) => (show W.cell? ⟨w.heap.size + 1, 7, none⟩ = some (.slice A dl dc) from (blk_cell (blk_below HO7.out hB) 7).trans rfl))
  go_cut [10, 11] (fun v10 v11 wx => RelOne k0 k1 k2 k3 k4 k5 k6 k8 k9 k10 nR err a mk w7 v10 v11 wx)
  case first =>
   go_region_held3 (fun w' => Below w7.heap.size w7 w') (first | (repeat (first | (with_reducible exact Below.refl _ _) | (with_reducible assumption) | (with_reducible exact HB9.out) | (with_reducible exact HB8.out) | (with_reducible apply below_alloc) | (with_reducible apply below_drew1) | (with_reducible refine below_set ?_ (by first | exact Nat.le_refl _ | exact Nat.le_succ _ | exact Below.size HB8.out | exact Nat.le_succ_of_le (Below.size HB8.out) | exact Below.size HB9.out | exact Nat.le_succ_of_le (Below.size HB9.out)))))) (first | (go_at_call 10; refine (rNew k0 k1 k2 k3 k4 k5 k6 k8 k9 k10 nR hn _).mono ?_; rintro e w8 ⟨gR, rfl, hgr, hb⟩; rw [cells_none] at hgr; have HGR := Aside0.mk hgr; have HB8 := Aside0.mk (show Below w7.heap.size w7 w8 from below_step (by assumption) hb); (try (have B40 := Aside0.mk (blk_below (o := .cells #[.int .i64 0, .int .i64 0, .int .i64 0, .int .i64 0, .int .i64 0, .int .i64 0, .int .i64 0, .int .i64 0, .int .i64 0, .int .i64 0, .int .u64 0, .slice none 0 0, .slice none 0 0] 40 (0, 0)) (by first | exact blk_new1 _ _ _ | exact blk_alloc (blk_new _ _) _ | exact blk_new _ _) hb); have bc40 := (fun i => blk_cell B40.out i); have bf40 := (fun i => blk_frozen B40.out i); have bg40 := (fun o i => blk_cell (blk_alloc B40.out o) i); have bh40 := (fun o i => blk_frozen (blk_alloc B40.out o) i); have bna40 := Nat.ne_of_lt (blk_lt B40.out); have bnb40 := (Nat.ne_of_lt (blk_lt B40.out)).symm)); (try (have B35 := Aside0.mk (blk_below (o := .cells #[.int .i64 0, .int .i64 0, .slice none 0 0] 35 (0, 0)) (by first | exact blk_new1 _ _ _ | exact blk_alloc (blk_new _ _) _ | exact blk_new _ _) hb); have bc35 := (fun i => blk_cell B35.out i); have bf35 := (fun i => blk_frozen B35.out i); have bg35 := (fun o i => blk_cell (blk_alloc B35.out o) i); have bh35 := (fun o i => blk_frozen (blk_alloc B35.out o) i); have bna35 := Nat.ne_of_lt (blk_lt B35.out); have bnb35 := (Nat.ne_of_lt (blk_lt B35.out)).symm))) | (go_at_call 9; refine (HR.out gR nR 51 _ (by first | exact HGR.out | exact blk_alloc HGR.out _ | exact blk_alloc (blk_alloc HGR.out _) _)).mono ?_; rintro e w9 ⟨lv, rv, rfl, hb, hpost⟩; obtain ⟨AL, nl, cl, AR, nr, cr, rfl, rfl⟩ := RPost.slices hpost; have HPO := Aside0.mk hpost; have HB9 := Aside0.mk (show Below w7.heap.size w7 w9 from below_step (by assumption) hb); (try (have D40 := Aside0.mk (blk_below (o := .cells #[.int .i64 0, .int .i64 0, .int .i64 0, .int .i64 0, .int .i64 0, .int .i64 0, .int .i64 0, .int .i64 0, .int .i64 0, .int .i64 0, .int .u64 0, .slice none 0 0, .slice none 0 0] 40 (0, 0)) (by first | exact B40.out | exact blk_alloc B40.out _ | exact blk_alloc (blk_alloc B40.out _) _ | exact blk_new1 _ _ _ | exact blk_alloc (blk_new _ _) _ | exact blk_new _ _) hb); have dc40 := (fun i => blk_cell D40.out i); have df40 := (fun i => blk_frozen D40.out i); have dg40 := (fun o i => blk_cell (blk_alloc D40.out o) i); have dh40 := (fun o i => blk_frozen (blk_alloc D40.out o) i); have dna40 := Nat.ne_of_lt (blk_lt D40.out); have dnb40 := (Nat.ne_of_lt (blk_lt D40.out)).symm)); (try (have E40 := Aside0.mk (apart40 hb (by first | exact B40.out | exact blk_alloc B40.out _ | exact blk_alloc (blk_alloc B40.out _) _ | exact blk_new1 _ _ _ | exact blk_alloc (blk_new _ _) _ | exact blk_new _ _) (by first | exact HGR.out | exact blk_alloc HGR.out _ | exact blk_alloc (blk_alloc HGR.out _) _)))); (try (have D35 := Aside0.mk (blk_below (o := .cells #[.int .i64 0, .int .i64 0, .slice none 0 0] 35 (0, 0)) (by first | exact B35.out | exact blk_alloc B35.out _ | exact blk_alloc (blk_alloc B35.out _) _ | exact blk_new1 _ _ _ | exact blk_alloc (blk_new _ _) _ | exact blk_new _ _) hb); have dc35 := (fun i => blk_cell D35.out i); have df35 := (fun i => blk_frozen D35.out i); have dg35 := (fun o i => blk_cell (blk_alloc D35.out o) i); have dh35 := (fun o i => blk_frozen (blk_alloc D35.out o) i); have dna35 := Nat.ne_of_lt (blk_lt D35.out); have dnb35 := (Nat.ne_of_lt (blk_lt D35.out)).symm)); (try (have E35 := Aside0.mk (apart35 hb (by first | exact B35.out | exact blk_alloc B35.out _ | exact blk_alloc (blk_alloc B35.out _) _ | exact blk_new1 _ _ _ | exact blk_alloc (blk_new _ _) _ | exact blk_new _ _) (by first | exact HGR.out | exact blk_alloc HGR.out _ | exact blk_alloc (blk_alloc HGR.out _) _))))))
   all_goals (first | go_meet | (go_wp2_with fail; go_meet) | (go_wp2; go_meet))
   all_goals (first | (with_reducible exact rel1 HPO.out (by assumption)) | (with_reducible exact rel2 HPO.out (by assumption)) | (with_reducible exact rel3 HPO.out D40.out E40.out (by assumption)) | (with_reducible exact rel4 HPO.out D40.out E40.out D35.out E35.out (by assumption)) | (with_reducible exact rel5 HPO.out D35.out E35.out (by assumption)))
  case rest =>
    obtain ⟨q40, q35, AL, nl, cl, AR, nr, cr, gR, wsz, rfl, rfl, HC⟩ := hcut
    obtain ⟨L, x0, x1, x2, x3, x4, ⟨tL, tG⟩, ⟨tLR, tGR⟩⟩ := tell k0 k1 k2 k3 k4 k5 k6 (nR : Int) k8 k9 k10 g gr (List.replicate nR z51) nR List.length_replicate hn a w5 w6 wc _ _ gR wsz mk HPP.out (below_step HS7.out HC.out.2.2.1) HC.out.2.2.2
    clear rc0 rc1 rc2 rc3 rc4 rc5 rc6 rc7 rc8 rc9 rc10 ro0 ro1 ro2 ro3 ro4 ro5 ro6 ro7
    have ra0 := (fun (W : World) (hB : Below wc.heap.size wc W) => (show W.cell? ⟨w6.heap.size, 0, none⟩ = some (.int .i64 err) from (blk_cell (blk_below HA7.out (below_step HC.out.2.2.1 hB)) 0).trans rfl))
    have ra1 := (fun (W : World) (hB : Below wc.heap.size wc W) => (show W.cell? ⟨w6.heap.size, 1, none⟩ = some (.int .i64 0) from (blk_cell (blk_below HA7.out (below_step HC.out.2.2.1 hB)) 1).trans rfl))
    have ra2 := (fun (W : World) (hB : Below wc.heap.size wc W) => (show W.cell? ⟨w6.heap.size, 2, none⟩ = some (.slice none 0 0) from (blk_cell (blk_below HA7.out (below_step HC.out.2.2.1 hB)) 2).trans rfl))
    have rb0 := (fun (W : World) (hB : Below wc.heap.size wc W) => (show W.cell? ⟨q35, 0, none⟩ = some (.int .i64 err) from (blk_cell (blk_below HC.out.2.1 hB) 0).trans rfl))
    have rb1 := (fun (W : World) (hB : Below wc.heap.size wc W) => (show W.cell? ⟨q35, 1, none⟩ = some (.int .i64 0) from (blk_cell (blk_below HC.out.2.1 hB) 1).trans rfl))
    have rb2 := (fun (W : World) (hB : Below wc.heap.size wc W) => (show W.cell? ⟨q35, 2, none⟩ = some (.slice none 0 0) from (blk_cell (blk_below HC.out.2.1 hB) 2).trans rfl))
    have rc0 := (fun (W : World) (hB : Below wc.heap.size wc W) => (show W.cell? ⟨q40, 0, none⟩ = some (.int .i64 k0) from (blk_cell (blk_below HC.out.1 hB) 0).trans rfl))
    have rc1 := (fun (W : World) (hB : Below wc.heap.size wc W) => (show W.cell? ⟨q40, 1, none⟩ = some (.int .i64 k1) from (blk_cell (blk_below HC.out.1 hB) 1).trans rfl))
    have rc2 := (fun (W : World) (hB : Below wc.heap.size wc W) => (show W.cell? ⟨q40, 2, none⟩ = some (.int .i64 k2) from (blk_cell (blk_below HC.out.1 hB) 2).trans rfl))
    have rc3 := (fun (W : World) (hB : Below wc.heap.size wc W) => (show W.cell? ⟨q40, 3, none⟩ = some (.int .i64 k3) from (blk_cell (blk_below HC.out.1 hB) 3).trans rfl))
    have rc4 := (fun (W : World) (hB : Below wc.heap.size wc W) => (show W.cell? ⟨q40, 4, none⟩ = some (.int .i64 k4) from (blk_cell (blk_below HC.out.1 hB) 4).trans rfl))
    have rc5 := (fun (W : World) (hB : Below wc.heap.size wc W) => (show W.cell? ⟨q40, 5, none⟩ = some (.int .i64 k5) from (blk_cell (blk_below HC.out.1 hB) 5).trans rfl))
    have rc6 := (fun (W : World) (hB : Below wc.heap.size wc W) => (show W.cell? ⟨q40, 6, none⟩ = some (.int .i64 k6) from (blk_cell (blk_below HC.out.1 hB) 6).trans rfl))
    have rc7 := (fun (W : World) (hB : Below wc.heap.size wc W) => (show W.cell? ⟨q40, 7, none⟩ = some (.int .i64 (nR : Int)) from (blk_cell (blk_below HC.out.1 hB) 7).trans rfl))
    have rc8 := (fun (W : World) (hB : Below wc.heap.size wc W) => (show W.cell? ⟨q40, 8, none⟩ = some (.int .i64 k8) from (blk_cell (blk_below HC.out.1 hB) 8).trans rfl))
    have rc9 := (fun (W : World) (hB : Below wc.heap.size wc W) => (show W.cell? ⟨q40, 9, none⟩ = some (.int .i64 k9) from (blk_cell (blk_below HC.out.1 hB) 9).trans rfl))
    have rc10 := (fun (W : World) (hB : Below wc.heap.size wc W) => (show W.cell? ⟨q40, 10, none⟩ = some (.int .u64 k10) from (blk_cell (blk_below HC.out.1 hB) 10).trans rfl))
    have rc11 := (fun (W : World) (hB : Below wc.heap.size wc W) => (show W.cell? ⟨q40, 11, none⟩ = some (.slice AL nl cl) from (blk_cell (blk_below HC.out.1 hB) 11).trans rfl))
    have rc12 := (fun (W : World) (hB : Below wc.heap.size wc W) => (show W.cell? ⟨q40, 12, none⟩ = some (.slice AR nr cr) from (blk_cell (blk_below HC.out.1 hB) 12).trans rfl))
    have ro2 := (fun (W : World) (hB : Below wc.heap.size wc W) => (show W.cell? ⟨w.heap.size + 1, 2, none⟩ = some (.int .i64 a) from (blk_cell (blk_below HO7.out (below_step HC.out.2.2.1 hB)) 2).trans rfl))
    go_upto_region 7 with fail
    go_region_held3 (fun w' => Below wc.heap.size wc w') (first | (repeat (first | (with_reducible exact Below.refl _ _) | (with_reducible assumption) | (with_reducible apply below_drew1)))) (first | (go_at_call 11; refine (sameRes err _).mono ?_; rintro e z11 ⟨rfl, hb11⟩; have Z11 : Below wc.heap.size wc z11 := below_step (by assumption) hb11; clear hb11) | (go_at_call 13; refine (tLR _ (by assumption)).mono ?_; rintro e z13 ⟨rfl, hb13⟩; have Z13 : Below wc.heap.size wc z13 := below_step (by assumption) hb13; clear hb13) | (go_at_call 15; refine (tG _ (by assumption)).mono ?_; rintro e z15 ⟨rfl, hb15⟩; have Z15 : Below wc.heap.size wc z15 := below_step (by assumption) hb15; clear hb15) | (go_at_call 16; refine (tGR _ (by assumption)).mono ?_; rintro e z16 ⟨rfl, hb16⟩; have Z16 : Below wc.heap.size wc z16 := below_step (by assumption) hb16; clear hb16) | (go_at_call 14; refine (sameRef x0 x1 x2 x3 x4 _).mono ?_; rintro e z14 ⟨rfl, hb14⟩; have Z14 : Below wc.heap.size wc z14 := below_step (by assumption) hb14; clear hb14) | (go_at_call 12; refine (tL _ (by assumption)).mono ?_; rintro e z12 ⟨rfl, rfl⟩))
    all_goals
      go_wp2
      go_ret
      exact ⟨rfl, below_step (below_step (below_step HB6.out HS7.out) HC.out.2.2.1) (by repeat (first | (with_reducible assumption) | (with_reducible apply below_drew1)))⟩

end Go.Proofs.Ytneejihmakfaoaa.OwnModel
