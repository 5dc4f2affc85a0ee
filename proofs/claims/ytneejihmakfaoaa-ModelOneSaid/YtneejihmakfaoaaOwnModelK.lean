/- Registers as rows of cells: what a row reads as, and what it reads as behind a store. Conditions: none beyond each theorem's own. -/
import Derived.Test.YtneejihmakfaoaaOwnModelJ
namespace Go.Proofs.Ytneejihmakfaoaa.OwnModel
open Go.RowKit Go.Proofs.Ytneejihmakfaoaa.OwnMask Go.Proofs.Ytneejihmakfaoaa.QModelOne Go.Proofs.YtneejihmakfaoaaW.PrintWords Go.Proofs.YtneejihmakfaoaaW.PrintLast Go.Proofs.YtneejihmakfaoaaW.PrintMore
set_option linter.unusedVariables false
set_option linter.unusedSimpArgs false
def flat51 : List S51 → List Value
  | [] => []
  | x :: xs => .int .i64 x.f0 :: .int .i64 x.f1 :: .int .i64 x.f2 :: .int .i64 x.f3 :: .int .i64 x.f4 :: flat51 xs
/-- The cells of registers. -/
def cells51 (xs : List S51) : Array Value := (flat51 xs).toArray
theorem flat_len (xs : List S51) : (flat51 xs).length = xs.length * 5 := by
  induction xs with
  | nil => rfl
  | cons x xs ih => simp only [flat51, List.length_cons, ih]; omega
theorem flat_get (xs : List S51) (j : Nat) (p : S51) (h : xs[j]? = some p) (i : Nat) (hi : i < 5) :
    (flat51 xs)[j * 5 + i]? = [Value.int .i64 p.f0, .int .i64 p.f1, .int .i64 p.f2, .int .i64 p.f3, .int .i64 p.f4][i]? := by
  induction xs generalizing j with
  | nil => simp at h
  | cons x xs ih =>
    cases j with
    | zero =>
      simp at h
      subst h
      rcases (show i = 0 ∨ i = 1 ∨ i = 2 ∨ i = 3 ∨ i = 4 by omega) with rfl | rfl | rfl | rfl | rfl <;> rfl
    | succ j =>
      rw [show (j + 1) * 5 + i = j * 5 + i + 1 + 1 + 1 + 1 + 1 by omega]
      simp only [flat51, List.getElem?_cons_succ]
      exact ih j (by simpa using h)
theorem flat_set (xs : List S51) (j : Nat) (y : S51) (h : j < xs.length) :
    (((((flat51 xs).set (j * 5) (.int .i64 y.f0)).set (j * 5 + 1) (.int .i64 y.f1)).set (j * 5 + 2) (.int .i64 y.f2)).set (j * 5 + 3) (.int .i64 y.f3)).set (j * 5 + 4) (.int .i64 y.f4) = flat51 (xs.set j y) := by
  induction xs generalizing j with
  | nil => simp at h
  | cons x xs ih =>
    cases j with
    | zero => rfl
    | succ j =>
      rw [show (j + 1) * 5 = j * 5 + 1 + 1 + 1 + 1 + 1 by omega, show j * 5 + 1 + 1 + 1 + 1 + 1 + 1 = (j * 5 + 1) + 1 + 1 + 1 + 1 + 1 by omega, show j * 5 + 1 + 1 + 1 + 1 + 1 + 2 = (j * 5 + 2) + 1 + 1 + 1 + 1 + 1 by omega, show j * 5 + 1 + 1 + 1 + 1 + 1 + 3 = (j * 5 + 3) + 1 + 1 + 1 + 1 + 1 by omega, show j * 5 + 1 + 1 + 1 + 1 + 1 + 4 = (j * 5 + 4) + 1 + 1 + 1 + 1 + 1 by omega]
      simp only [flat51, List.set_cons_succ]
      rw [ih j (by simpa using h)]
theorem cells_none (n : Nat) : noneCells n = cells51 (List.replicate n z51) := by
  have e : flat51 (List.replicate n z51) = List.replicate (n * 5) (.int .i64 0) := by
    induction n with
    | zero => rfl
    | succ n ih =>
      rw [List.replicate_succ, flat51, ih, show (n + 1) * 5 = n * 5 + 1 + 1 + 1 + 1 + 1 by omega]
      simp only [List.replicate_succ]
      rfl
  unfold cells51
  rw [e]
  apply Array.ext'
  apply List.ext_getElem
  · simp [noneCells, madeCells]
  · intro i h1 h2
    simp [noneCells, madeCells]
    have : i % 5 = 0 ∨ i % 5 = 1 ∨ i % 5 = 2 ∨ i % 5 = 3 ∨ i % 5 = 4 := by omega
    rcases this with h | h | h | h | h <;> simp [h]
theorem regs_set {w : World} {g : Nat} {t : TypeId} {xs : List S51} (h : w.heap[g]? = some (.cells (cells51 xs) t (0, 0))) (j : Nat) (y : S51) (hj : j < xs.length) :
    (((((w.setCell ⟨g, j * 5, none⟩ (.int .i64 y.f0)).setCell ⟨g, j * 5 + 1, none⟩ (.int .i64 y.f1)).setCell ⟨g, j * 5 + 2, none⟩ (.int .i64 y.f2)).setCell ⟨g, j * 5 + 3, none⟩ (.int .i64 y.f3)).setCell ⟨g, j * 5 + 4, none⟩ (.int .i64 y.f4)).heap[g]? = some (.cells (cells51 (xs.set j y)) t (0, 0)) := by
  have h2 := blk_set (blk_set (blk_set (blk_set (blk_set h (j * 5) (.int .i64 y.f0)) (j * 5 + 1) (.int .i64 y.f1)) (j * 5 + 2) (.int .i64 y.f2)) (j * 5 + 3) (.int .i64 y.f3)) (j * 5 + 4) (.int .i64 y.f4)
  rw [h2]
  unfold cells51
  simp only [List.setIfInBounds_toArray, flat_set xs j y hj]
theorem regs_cell {w : World} {g : Nat} {t : TypeId} {xs : List S51} (h : w.heap[g]? = some (.cells (cells51 xs) t (0, 0))) (j : Nat) (p : S51) (hp : xs[j]? = some p) (i : Nat) (hi : i < 5) :
    w.cell? ⟨g, j * 5 + i, none⟩ = [Value.int .i64 p.f0, .int .i64 p.f1, .int .i64 p.f2, .int .i64 p.f3, .int .i64 p.f4][i]? := by
  rw [blk_cell h, cells51, List.getElem?_toArray, flat_get xs j p hp i hi]
theorem regs_reads {w : World} {g : Nat} {t : TypeId} {xs : List S51} (h : w.heap[g]? = some (.cells (cells51 xs) t (0, 0))) (hn : xs.length ≤ 1000000) : Kd.C k51 w (some ⟨g, 0, none⟩) xs.length xs := by
  refine ⟨rfl, by omega, fun _ => ⟨_, rfl, fun j p hp => ⟨[.int .i64 p.f0, .int .i64 p.f1, .int .i64 p.f2, .int .i64 p.f3, .int .i64 p.f4], rfl, ⟨_, _, rfl, rfl, ⟨_, _, rfl, rfl, ⟨_, _, rfl, rfl, ⟨_, _, rfl, rfl, rfl⟩⟩⟩⟩, fun i u hu => ?_⟩⟩⟩
  have hi : i < 5 := by
    have := List.getElem?_eq_some_iff.1 hu
    obtain ⟨hl, _⟩ := this
    simpa using hl
  have e : (⟨g, 0, none⟩ : Addr).add (j * k51.sz + i) = ⟨g, j * 5 + i, none⟩ := by
    show (⟨g, 0, none⟩ : Addr).add (j * 5 + i) = _
    unfold Addr.add
    split <;> simp_all
  rw [e, regs_cell h j p hp i hi]
  exact hu

end Go.Proofs.Ytneejihmakfaoaa.OwnModel
