/- Walks of the model's small functions (ask), by hand. Conditions: the model lies in a block. -/
import Derived.Test.YtneejihmakfaoaaQModelOnex0
namespace Go.Proofs.Ytneejihmakfaoaa.OwnModel
open Go.RowKit Go.Proofs.Ytneejihmakfaoaa.QModelOne Go.Proofs.YtneejihmakfaoaaW.PrintWords Go.Proofs.YtneejihmakfaoaaW.PrintLast Go.Proofs.YtneejihmakfaoaaW.PrintMore
set_option linter.unusedVariables false
set_option linter.unusedSimpArgs false
/-- A model's block. -/
def IsM (w : World) (g : Nat) (c0 c1 c2 c3 c4 c5 c6 c7 c8 c9 c10 : Int) (lv rv : Value) : Prop :=
  w.heap[g]? = some (.cells #[.int .i64 c0, .int .i64 c1, .int .i64 c2, .int .i64 c3, .int .i64 c4, .int .i64 c5, .int .i64 c6, .int .i64 c7, .int .i64 c8, .int .i64 c9, .int .u64 c10, lv, rv] 63 (0, 0))

/-- What a new chunk is refused for. -/
def askOf (threads most a n : Int) : Int := if a < 0 ∨ a ≥ threads ∨ n < 1 then 1 else if n > most then 4 else 0
theorem askOf_one {t m a n : Int} (h : (a < 0 ∨ t ≤ a) ∨ n < 1) : askOf t m a n = 1 := by unfold askOf; rw [if_pos (by omega)]
theorem askOf_four {t m a n : Int} (h : (0 ≤ a ∧ a < t) ∧ 1 ≤ n) (h2 : m < n) : askOf t m a n = 4 := by unfold askOf; rw [if_neg (by omega), if_pos h2]
theorem askOf_nil {t m a n : Int} (h : (0 ≤ a ∧ a < t) ∧ 1 ≤ n) (h2 : n ≤ m) : askOf t m a n = 0 := by unfold askOf; rw [if_neg (by omega), if_neg (by omega)]

set_option maxHeartbeats 2000000 in
set_option maxRecDepth 100000 in
theorem ask (g : Nat) (c0 c1 c2 c3 c4 c5 c6 c7 c8 c9 c10 : Int) (lv rv : Value) (a n : Int) (w : World) (h : IsM w g c0 c1 c2 c3 c4 c5 c6 c7 c8 c9 c10 lv rv) :
    Calls Try.prog 34 #[.pointer (some ⟨g, 0, none⟩), .int .i64 a, .int .i64 n] w fun e w' => e = .returned (.int .i64 (askOf c3 c8 a n)) ∧ w' = w := by
  have h3 : w.cell? ⟨g, 3, none⟩ = some (.int .i64 c3) := (blk_cell h 3).trans rfl
  have h8 : w.cell? ⟨g, 8, none⟩ = some (.int .i64 c8) := (blk_cell h 8).trans rfl
  have hu63 := Try.underlying63
  have hu29 := Try.underlying29
  clear h
  go_enter Try.func34, Try.ntmps34
  go_wp2
  all_goals
    go_ret
    exact ⟨by first | (rw [askOf_one (by omega)]; rfl) | (rw [askOf_four (by omega) (by omega)]; rfl) | (rw [askOf_nil (by omega) (by omega)]; rfl), rfl⟩

theorem blk_new1 (w : World) (o1 o2 : Obj) : ((w.alloc o1).alloc o2).heap[w.heap.size + 1]? = some o2 := by
  have h := blk_new (w.alloc o1) o2
  rwa [World.size_alloc] at h
theorem cell_alloc1 {w : World} {a : Addr} {v : Value} (h : w.cell? a = some v) (o1 : Obj) : (w.alloc o1).cell? a = some v := ((below_alloc (Below.refl w.heap.size w) o1).cell (World.block_lt_of_cell? w a h)).trans h
theorem cell_alloc2 {w : World} {a : Addr} {v : Value} (h : w.cell? a = some v) (o1 o2 : Obj) : ((w.alloc o1).alloc o2).cell? a = some v := cell_alloc1 (cell_alloc1 h o1) o2
theorem cell_alloc2n {w : World} {a : Addr} {v : Value} (h : w.cell? a = some v) (o1 o2 : Obj) (n : Nat) : (((w.alloc o1).alloc o2).drewN n).cell? a = some v := cell_alloc2 h o1 o2
theorem put5 {W : World} {g : Nat} {t : TypeId} {a0 a1 a2 a3 a4 : Value} (b0 b1 b2 b3 b4 : Value) (h : W.heap[g]? = some (.cells #[a0, a1, a2, a3, a4] t (0, 0))) :
    (((((W.setCell ⟨g, 0, none⟩ b0).setCell ⟨g, 1, none⟩ b1).setCell ⟨g, 2, none⟩ b2).setCell ⟨g, 3, none⟩ b3).setCell ⟨g, 4, none⟩ b4).heap[g]? = some (.cells #[b0, b1, b2, b3, b4] t (0, 0)) := by
  refine blk_put (cs := #[b0, b1, b2, b3, a4]) ?_ 4 _ rfl
  refine blk_put (cs := #[b0, b1, b2, a3, a4]) ?_ 3 _ rfl
  refine blk_put (cs := #[b0, b1, a2, a3, a4]) ?_ 2 _ rfl
  refine blk_put (cs := #[b0, a1, a2, a3, a4]) ?_ 1 _ rfl
  exact blk_put h 0 _ rfl
/-- A result in a cell of five numbers. -/
theorem ret5 {fn : Func} {p : Tmp} (h : fn.results = #[.cell p 49]) (tmps : Array Value) (W : World) (g : Nat) (a0 a1 a2 a3 a4 b0 b1 b2 b3 b4 : Value) (hp : tmps.getD p undef = .pointer (some ⟨g, 0, none⟩)) (hW : W.heap[g]? = some (.cells #[a0, a1, a2, a3, a4] 49 (0, 0))) :
    (results fn tmps).run Try.prog (((((W.setCell ⟨g, 0, none⟩ b0).setCell ⟨g, 1, none⟩ b1).setCell ⟨g, 2, none⟩ b2).setCell ⟨g, 3, none⟩ b3).setCell ⟨g, 4, none⟩ b4) = .ok (.agg #[b0, b1, b2, b3, b4]) (((((W.setCell ⟨g, 0, none⟩ b0).setCell ⟨g, 1, none⟩ b1).setCell ⟨g, 2, none⟩ b2).setCell ⟨g, 3, none⟩ b3).setCell ⟨g, 4, none⟩ b4) :=
  results_cell_row h tmps _ g 49 #[b0, b1, b2, b3, b4] (0, 0) _ hp (put5 b0 b1 b2 b3 b4 hW) Try.underlying49 rfl (by kernel_rfl)

/-- The chunks' pointers, and which chunks are live. -/
def Lives (w : World) (A : Option Addr) (lives : List Bool) : Prop :=
  ∀ i : Nat, i < lives.length → ∃ ad g, A = some ad ∧ w.cell? (ad.add i) = some (.pointer (some ⟨g, 0, none⟩)) ∧ w.cell? ⟨g, 4, none⟩ = some (.bool (lives.getD i false))

def goodOf (lives : List Bool) (x : S51) : S51 := if x.f0 < 1 ∨ x.f0 > lives.length ∨ lives.getD (x.f0 - 1).toNat false = false then z51 else x
def refV (x : S51) : Value := .agg #[.int .i64 x.f0, .int .i64 x.f1, .int .i64 x.f2, .int .i64 x.f3, .int .i64 x.f4]

set_option maxHeartbeats 2000000 in
set_option maxRecDepth 100000 in
theorem good (g : Nat) (c0 c1 c2 c3 c4 c5 c6 c7 c8 c9 c10 : Int) (A : Option Addr) (cc : Nat) (rv : Value) (lives : List Bool) (x : S51) (w : World) (h : IsM w g c0 c1 c2 c3 c4 c5 c6 c7 c8 c9 c10 (.slice A lives.length cc) rv)
    (hl : Lives w A lives) (hn : lives.length ≤ 1000000000) (hlc : lives.length ≤ cc) :
    Calls Try.prog 31 #[.pointer (some ⟨g, 0, none⟩), refV x] w fun e w' => e = .returned (refV (goodOf lives x)) ∧ Below w.heap.size w w' := by
  obtain ⟨x0, x1, x2, x3, x4⟩ := x
  have h11 : w.cell? ⟨g, 11, none⟩ = some (.slice A lives.length cc) := (blk_cell h 11).trans rfl
  have hu63 := Try.underlying63
  have hu49 := Try.underlying49
  have hu61 := Try.underlying61
  have hu80 := Try.underlying80
  have hu77 := Try.underlying77
  have hu4 := Try.underlying4
  unfold refV
  by_cases c1 : x0 < 1
  · have d1 : decide (x0 < 1) = true := decide_eq_true c1
    go_enter Try.func31, Try.ntmps31
    go_wp2_with fail
    go_quiet (fail)
    go_wp2
    refine bodyPost_ret (ret5 rfl _ _ (w.heap.size + 1) (.int .i64 0) (.int .i64 0) (.int .i64 0) (.int .i64 0) (.int .i64 0) _ _ _ _ _ rfl (blk_drewN (blk_new1 _ _ _) _)) rfl ?_
    have e : goodOf lives ⟨x0, x1, x2, x3, x4⟩ = z51 := by unfold goodOf; rw [if_pos (Or.inl c1)]
    rw [e]
    exact ⟨rfl, by (repeat (first | (with_reducible exact Below.refl _ _) | (with_reducible apply below_alloc) | (with_reducible apply pw_below_drewN) | (with_reducible apply below_drew1) | (with_reducible refine below_set ?_ (by omega))))⟩
  · have d1 : decide (x0 < 1) = false := decide_eq_false c1
    have hgl := (blk_lt h)
    by_cases c2 : x0 > (lives.length : Int)
    · have d2 : decide ((lives.length : Int) < x0) = true := decide_eq_true c2
      go_enter Try.func31, Try.ntmps31
      go_wp2_with fail
      go_quiet (fail)
      go_wp2
      refine bodyPost_ret (ret5 rfl _ _ (w.heap.size + 1) (.int .i64 0) (.int .i64 0) (.int .i64 0) (.int .i64 0) (.int .i64 0) _ _ _ _ _ rfl (blk_drewN (blk_new1 _ _ _) _)) rfl ?_
      have e : goodOf lives ⟨x0, x1, x2, x3, x4⟩ = z51 := by unfold goodOf; rw [if_pos (Or.inr (Or.inl c2))]
      rw [e]
      exact ⟨rfl, by (repeat (first | (with_reducible exact Below.refl _ _) | (with_reducible apply below_alloc) | (with_reducible apply pw_below_drewN) | (with_reducible apply below_drew1) | (with_reducible refine below_set ?_ (by omega))))⟩
    · have d2 : decide ((lives.length : Int) < x0) = false := decide_eq_false c2
      obtain ⟨ji, hji⟩ : ∃ j : Int, x0 - 1 = j := ⟨_, rfl⟩
      have hjw : IntKind.i64.wrap (x0 - 1) = ji := (i64_w _).trans (by unfold wrap64; omega)
      have d3 : decide (0 ≤ ji) = true := decide_eq_true (by omega)
      have d4 : decide (ji < (lives.length : Int)) = true := decide_eq_true (by omega)
      have p4 : (0 ≤ ji) = True := eq_true (by omega)
      have q4 : (ji < (lives.length : Int)) = True := eq_true (by omega)
      obtain ⟨ad, gt, rfl, hp, hv⟩ := hl ji.toNat (by omega)
      have eG : goodOf lives ⟨x0, x1, x2, x3, x4⟩ = if lives.getD ji.toNat false = false then z51 else ⟨x0, x1, x2, x3, x4⟩ := by
        unfold goodOf
        simp only [hji]
        by_cases c : lives.getD ji.toNat false = false
        · rw [if_pos (Or.inr (Or.inr c)), if_pos c]
        · rw [if_neg (by simp only [not_or]; exact ⟨c1, c2, c⟩), if_neg c]
      rw [eG]
      clear eG hji hl
      have hp2 := cell_alloc2 hp
      have hp3 := cell_alloc2n hp
      cases hb : lives.getD ji.toNat false with
      | false =>
        rw [hb] at hv
        have hv2 := cell_alloc2 hv
        have hv3 := cell_alloc2n hv
        rw [if_pos rfl]
        clear hb
        go_enter Try.func31, Try.ntmps31
        go_wp2_with fail
        go_quiet (fail)
        go_wp2
        refine bodyPost_ret (ret5 rfl _ _ (w.heap.size + 1) (.int .i64 0) (.int .i64 0) (.int .i64 0) (.int .i64 0) (.int .i64 0) _ _ _ _ _ rfl (blk_drewN (blk_new1 _ _ _) _)) rfl ?_
        exact ⟨rfl, by (repeat (first | (with_reducible exact Below.refl _ _) | (with_reducible apply below_alloc) | (with_reducible apply pw_below_drewN) | (with_reducible apply below_drew1) | (with_reducible refine below_set ?_ (by omega))))⟩
      | true =>
        rw [hb] at hv
        have hv2 := cell_alloc2 hv
        have hv3 := cell_alloc2n hv
        rw [if_neg (by simp)]
        clear hb
        go_enter Try.func31, Try.ntmps31
        go_wp2_with fail
        go_quiet (fail)
        go_wp2
        refine bodyPost_ret (ret5 rfl _ _ (w.heap.size + 1) (.int .i64 0) (.int .i64 0) (.int .i64 0) (.int .i64 0) (.int .i64 0) _ _ _ _ _ rfl (blk_drewN (blk_new1 _ _ _) _)) rfl ?_
        exact ⟨rfl, by (repeat (first | (with_reducible exact Below.refl _ _) | (with_reducible apply below_alloc) | (with_reducible apply pw_below_drewN) | (with_reducible apply below_drew1) | (with_reducible refine below_set ?_ (by omega))))⟩

end Go.Proofs.Ytneejihmakfaoaa.OwnModel
