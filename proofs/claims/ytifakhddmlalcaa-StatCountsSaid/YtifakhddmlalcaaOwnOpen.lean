/- Arrays and structs of whole numbers by value, opened: their cells are whole numbers of the kind int64. Conditions: the types are such. -/
import Derived.ProofKit
import Derived.OpenShut
import Derived.Laws.IdiomArrays
namespace Go.Proofs.Ytifakhddmlalcaa.OwnOpen
open Go.ChangeShapes Go.WideShapes Go.ChangeAt Go.RowKit

section
variable {H : Type} {enc : TypeId × Value → H} {P : Program} {W : World} {base b : Nat} {spare : Nat → Bool} {held : Bool} {t e : TypeId} {v : Value} {d : DataW H} {p : List MemPlace}

theorem agg_of_array {n : Nat} (ht : P.underlying t = some (.array n e)) (h : Value.okWide P W .any base t v) : ∃ cs, v = .agg cs ∧ cs.size = P.cellsOf t := by
  have h2 : ∃ cs, v = .agg cs ∧ cs.size = P.cellsOf t ∧ Row.okWide P W .any base t cs := by simpa [Value.okWide, ht] using h
  obtain ⟨cs, h3, h4, _⟩ := h2
  exact ⟨cs, h3, h4⟩
theorem agg_of_struct {fs : Array Field} (ht : P.underlying t = some (.struct fs)) (h : Value.okWide P W .any base t v) : ∃ cs, v = .agg cs ∧ cs.size = P.cellsOf t := by
  have h2 : ∃ cs, v = .agg cs ∧ cs.size = P.cellsOf t ∧ Row.okWide P W .any base t cs := by simpa [Value.okWide, ht] using h
  obtain ⟨cs, h3, h4, _⟩ := h2
  exact ⟨cs, h3, h4⟩
theorem list2 {α : Type} (l : List α) (h : (⟨l⟩ : Array α).size = 2) : ∃ a b, l = [a, b] := by
  match l, h with
  | [a, b], _ => exact ⟨a, b, rfl⟩
theorem list4 {α : Type} (l : List α) (h : (⟨l⟩ : Array α).size = 4) : ∃ a b c d, l = [a, b, c, d] := by
  match l, h with
  | [a, b, c, d], _ => exact ⟨a, b, c, d, rfl⟩
theorem list6 {α : Type} (l : List α) (h : (⟨l⟩ : Array α).size = 6) : ∃ a b c d e f, l = [a, b, c, d, e, f] := by
  match l, h with
  | [a, b, c, d, e, f], _ => exact ⟨a, b, c, d, e, f, rfl⟩

/-- A cell of an array is a whole number. -/
theorem cell_int {n m : Nat} {l : List Value} {xs : List (DataW H × List MemPlace)} (he : P.underlying e = some (.int .i64)) (hce : P.cellsOf e = 1)
    (hel : ∀ i, i < n → DataW.trod enc P W b spare held m e ((l.drop (i * P.cellsOf e)).take (P.cellsOf e)) = xs[i]?) (hlen : xs.length = n) (i : Nat) (hi : i < n) (c : Value) (hc : l[i]? = some c) :
    ∃ x, c = .int .i64 x ∧ (Lit.int .i64 x).wf = true := by
  have h := hel i hi
  rw [hce, Nat.mul_one, List.getElem?_eq_getElem (by omega)] at h
  obtain ⟨x, hx, _, wx⟩ := DataW.trod_int he h
  have hl : i < l.length := by
    rcases Nat.lt_or_ge i l.length with h' | h'
    · exact h'
    · simp [List.getElem?_eq_none h'] at hc
  rw [List.drop_eq_getElem_cons hl, List.take_succ_cons, List.take_zero] at hx
  rw [List.getElem?_eq_getElem hl] at hc
  exact ⟨x, (Option.some.inj hc).symm.trans (List.cons.inj hx).1, wx⟩

theorem open_arr2 (ht : P.underlying t = some (.array 2 e)) (he : P.underlying e = some (.int .i64)) (hct : P.cellsOf t = 2) (hce : P.cellsOf e = 1) (hv : Value.okWide P W .any base t v) (h : DataW.Trod enc P W b spare held t v d p) :
    ∃ x0 x1, v = .agg #[.int .i64 x0, .int .i64 x1] ∧ (Lit.int .i64 x0).wf = true ∧ (Lit.int .i64 x1).wf = true := by
  obtain ⟨cs, rfl, hs⟩ := agg_of_array ht hv
  rw [hct] at hs
  obtain ⟨l⟩ := cs
  obtain ⟨c0, c1, rfl⟩ := list2 l hs
  obtain ⟨fuel, hf⟩ := h
  obtain ⟨xs, m, _, _, _, hlen, hel⟩ := DataW.trod_array ht hf
  obtain ⟨x0, rfl, w0⟩ := cell_int he hce hel hlen 0 (by omega) c0 rfl
  obtain ⟨x1, rfl, w1⟩ := cell_int he hce hel hlen 1 (by omega) c1 rfl
  exact ⟨x0, x1, rfl, w0, w1⟩

theorem open_arr4 (ht : P.underlying t = some (.array 4 e)) (he : P.underlying e = some (.int .i64)) (hct : P.cellsOf t = 4) (hce : P.cellsOf e = 1) (hv : Value.okWide P W .any base t v) (h : DataW.Trod enc P W b spare held t v d p) :
    ∃ x0 x1 x2 x3, v = .agg #[.int .i64 x0, .int .i64 x1, .int .i64 x2, .int .i64 x3] ∧ (Lit.int .i64 x0).wf = true ∧ (Lit.int .i64 x1).wf = true ∧ (Lit.int .i64 x2).wf = true ∧ (Lit.int .i64 x3).wf = true := by
  obtain ⟨cs, rfl, hs⟩ := agg_of_array ht hv
  rw [hct] at hs
  obtain ⟨l⟩ := cs
  obtain ⟨c0, c1, c2, c3, rfl⟩ := list4 l hs
  obtain ⟨fuel, hf⟩ := h
  obtain ⟨xs, m, _, _, _, hlen, hel⟩ := DataW.trod_array ht hf
  obtain ⟨x0, rfl, w0⟩ := cell_int he hce hel hlen 0 (by omega) c0 rfl
  obtain ⟨x1, rfl, w1⟩ := cell_int he hce hel hlen 1 (by omega) c1 rfl
  obtain ⟨x2, rfl, w2⟩ := cell_int he hce hel hlen 2 (by omega) c2 rfl
  obtain ⟨x3, rfl, w3⟩ := cell_int he hce hel hlen 3 (by omega) c3 rfl
  exact ⟨x0, x1, x2, x3, rfl, w0, w1, w2, w3⟩
end

end Go.Proofs.Ytifakhddmlalcaa.OwnOpen
