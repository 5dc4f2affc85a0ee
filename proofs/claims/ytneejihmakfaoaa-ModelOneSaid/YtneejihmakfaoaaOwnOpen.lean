/- Arrays and structs of whole numbers by value, opened: their cells are whole numbers of the kind int64. Conditions: the types are such. -/
import Derived.ProofKit
import Derived.OpenShut
import Derived.Laws.IdiomArrays
namespace Go.Proofs.Ytneejihmakfaoaa.OwnOpen
open Go.ChangeShapes Go.WideShapes Go.ChangeAt Go.RowKit
section
variable {H : Type} {enc : TypeId × Value → H} {P : Program} {W : World} {base b : Nat} {spare : Nat → Bool} {held : Bool} {t e : TypeId} {v : Value} {d : DataW H} {p : List MemPlace}
theorem agg_of_array {n : Nat} (ht : P.underlying t = some (.array n e)) (h : Value.okWide P W .any base t v) : ∃ cs, v = .agg cs ∧ cs.size = P.cellsOf t := by
  have h2 : ∃ cs, v = .agg cs ∧ cs.size = P.cellsOf t ∧ Row.okWide P W .any base t cs := by simpa [Value.okWide, ht] using h
  obtain ⟨cs, h3, h4, _⟩ := h2
  exact ⟨cs, h3, h4⟩
theorem agg_of_struct {fs : Array Field} (ht : P.underlying t = some (.struct fs)) (h : Value.okWide P W .any base t v) : ∃ cs, v = .agg cs ∧ cs.size = P.cellsOf t := by
  have h2 : ∃ cs, v = .agg cs ∧ cs.size = P.cellsOf t ∧ Row.okWide P W .any base t cs := by simpa [Value.okWide, ht] using h
  obtain ⟨cs, h3, h4, _⟩ := h2
  exact ⟨cs, h3, h4⟩
theorem list4 {α : Type} (l : List α) (h : (⟨l⟩ : Array α).size = 4) : ∃ a b c d, l = [a, b, c, d] := by
  match l, h with
  | [a, b, c, d], _ => exact ⟨a, b, c, d, rfl⟩
theorem list8 {α : Type} (l : List α) (h : (⟨l⟩ : Array α).size = 8) : ∃ a b c d e f g i, l = [a, b, c, d, e, f, g, i] := by
  match l, h with
  | [a, b, c, d, e, f, g, i], _ => exact ⟨a, b, c, d, e, f, g, i, rfl⟩

/-- A cell of an array is a whole number. -/
theorem cell_int {n m : Nat} {l : List Value} {xs : List (DataW H × List MemPlace)} (he : P.underlying e = some (.int .i64)) (hce : P.cellsOf e = 1)
    (hel : ∀ i, i < n → DataW.trod enc P W b spare held m e ((l.drop (i * P.cellsOf e)).take (P.cellsOf e)) = xs[i]?) (hlen : xs.length = n) (i : Nat) (hi : i < n) (c : Value) (hc : l[i]? = some c) :
    ∃ x, c = .int .i64 x ∧ (Lit.int .i64 x).wf = true := by
  have h := hel i hi
  rw [hce, Nat.mul_one, List.getElem?_eq_getElem (by omega)] at h
  obtain ⟨x, hx, _, wx⟩ := DataW.trod_int he h
  have hl : i < l.length := by
    rcases Nat.lt_or_ge i l.length with h' | h'
    · exact h'
    · simp [List.getElem?_eq_none h'] at hc
  rw [List.drop_eq_getElem_cons hl, List.take_succ_cons, List.take_zero] at hx
  rw [List.getElem?_eq_getElem hl] at hc
  exact ⟨x, (Option.some.inj hc).symm.trans (List.cons.inj hx).1, wx⟩

theorem open_arr4 (ht : P.underlying t = some (.array 4 e)) (he : P.underlying e = some (.int .i64)) (hct : P.cellsOf t = 4) (hce : P.cellsOf e = 1) (hv : Value.okWide P W .any base t v) (h : DataW.Trod enc P W b spare held t v d p) :
    ∃ x0 x1 x2 x3, v = .agg #[.int .i64 x0, .int .i64 x1, .int .i64 x2, .int .i64 x3] ∧ (Lit.int .i64 x0).wf = true ∧ (Lit.int .i64 x1).wf = true ∧ (Lit.int .i64 x2).wf = true ∧ (Lit.int .i64 x3).wf = true := by
  obtain ⟨cs, rfl, hs⟩ := agg_of_array ht hv
  rw [hct] at hs
  obtain ⟨l⟩ := cs
  obtain ⟨c0, c1, c2, c3, rfl⟩ := list4 l hs
  obtain ⟨fuel, hf⟩ := h
  obtain ⟨xs, m, _, _, _, hlen, hel⟩ := DataW.trod_array ht hf
  obtain ⟨x0, rfl, w0⟩ := cell_int he hce hel hlen 0 (by omega) c0 rfl
  obtain ⟨x1, rfl, w1⟩ := cell_int he hce hel hlen 1 (by omega) c1 rfl
  obtain ⟨x2, rfl, w2⟩ := cell_int he hce hel hlen 2 (by omega) c2 rfl
  obtain ⟨x3, rfl, w3⟩ := cell_int he hce hel hlen 3 (by omega) c3 rfl
  exact ⟨x0, x1, x2, x3, rfl, w0, w1, w2, w3⟩
/-- A struct of seven whole numbers and a slice. -/
theorem open_op {u s : TypeId} {f0 f1 f2 f3 f4 f5 f6 f7 : Field} (ht : P.underlying t = some (.struct #[f0, f1, f2, f3, f4, f5, f6, f7])) (he : P.underlying e = some (.int .i64)) (hs7 : P.underlying s = some (.slice u)) (hct : P.cellsOf t = 8) (hce : P.cellsOf e = 1) (hcs : P.cellsOf s = 1)
    (hf : (f0.type = e ∧ f1.type = e ∧ f2.type = e ∧ f3.type = e ∧ f4.type = e ∧ f5.type = e ∧ f6.type = e ∧ f7.type = s) ∧ f0.offset = 0 ∧ f1.offset = 1 ∧ f2.offset = 2 ∧ f3.offset = 3 ∧ f4.offset = 4 ∧ f5.offset = 5 ∧ f6.offset = 6 ∧ f7.offset = 7)
    (hv : Value.okWide P W .any base t v) (h : DataW.Trod enc P W b spare held t v d p) :
    ∃ x0 x1 x2 x3 x4 x5 x6 A l c, v = .agg #[.int .i64 x0, .int .i64 x1, .int .i64 x2, .int .i64 x3, .int .i64 x4, .int .i64 x5, .int .i64 x6, .slice A l c] ∧ (Lit.int .i64 x0).wf = true ∧ (Lit.int .i64 x1).wf = true ∧ (Lit.int .i64 x2).wf = true ∧ (Lit.int .i64 x3).wf = true ∧ (Lit.int .i64 x4).wf = true ∧ (Lit.int .i64 x5).wf = true ∧ (Lit.int .i64 x6).wf = true := by
  obtain ⟨cs, rfl, hs⟩ := agg_of_struct ht hv
  rw [hct] at hs
  obtain ⟨l⟩ := cs
  obtain ⟨c0, c1, c2, c3, c4, c5, c6, c7, rfl⟩ := list8 l hs
  obtain ⟨fuel, h⟩ := h
  obtain ⟨xs, m, _, _, _, hlen, hg⟩ := DataW.trod_struct ht h
  obtain ⟨⟨t0, t1, t2, t3, t4, t5, t6, t7⟩, o0, o1, o2, o3, o4, o5, o6, o7⟩ := hf
  have some_ : ∀ (i : Nat) (f : Field), (#[f0, f1, f2, f3, f4, f5, f6, f7] : Array Field).toList[i]? = some f → ∃ x, xs[i]? = some x := by
    intro i f hi
    have hl : i < xs.length := by
      have := (List.getElem?_eq_some_iff.mp hi).1
      simp at this
      simp at hlen
      omega
    exact ⟨_, List.getElem?_eq_getElem hl⟩
  have at_ : ∀ (i : Nat) (f : Field) (c : Value), (#[f0, f1, f2, f3, f4, f5, f6, f7] : Array Field).toList[i]? = some f → f.type = e → ([c0, c1, c2, c3, c4, c5, c6, c7].drop f.offset).take 1 = [c] → ∃ x, c = .int .i64 x ∧ (Lit.int .i64 x).wf = true := by
    intro i f c hi ht1 hc
    have h := hg i f (by simpa using hi)
    obtain ⟨y, hy⟩ := some_ i f hi
    rw [ht1, hce, hy] at h
    obtain ⟨x, hx, _, wx⟩ := DataW.trod_int he h
    have hc2 : ([c0, c1, c2, c3, c4, c5, c6, c7].drop f.offset).take 1 = [.int .i64 x] := hx
    rw [hc] at hc2
    exact ⟨x, (List.cons.inj hc2).1, wx⟩
  obtain ⟨x0, rfl, w0⟩ := at_ 0 f0 c0 rfl t0 (by rw [o0]; rfl)
  obtain ⟨x1, rfl, w1⟩ := at_ 1 f1 c1 rfl t1 (by rw [o1]; rfl)
  obtain ⟨x2, rfl, w2⟩ := at_ 2 f2 c2 rfl t2 (by rw [o2]; rfl)
  obtain ⟨x3, rfl, w3⟩ := at_ 3 f3 c3 rfl t3 (by rw [o3]; rfl)
  obtain ⟨x4, rfl, w4⟩ := at_ 4 f4 c4 rfl t4 (by rw [o4]; rfl)
  obtain ⟨x5, rfl, w5⟩ := at_ 5 f5 c5 rfl t5 (by rw [o5]; rfl)
  obtain ⟨x6, rfl, w6⟩ := at_ 6 f6 c6 rfl t6 (by rw [o6]; rfl)
  have h7 := hg 7 f7 rfl
  obtain ⟨y, hy⟩ := some_ 7 f7 rfl
  rw [t7, hcs, hy, o7] at h7
  have hc7 : ([.int .i64 x0, .int .i64 x1, .int .i64 x2, .int .i64 x3, .int .i64 x4, .int .i64 x5, .int .i64 x6, c7] : List Value).drop 7 = [c7] := rfl
  rcases DataW.trod_slice hs7 h7 with ⟨hq, _⟩ | ⟨a, ln, cap, _, _, _, _, hq, _⟩
  · have : [c7] = [Value.slice none 0 0] := hq
    obtain rfl := (List.cons.inj this).1
    exact ⟨x0, x1, x2, x3, x4, x5, x6, _, _, _, rfl, w0, w1, w2, w3, w4, w5, w6⟩
  · have : [c7] = [Value.slice (some a) ln cap] := hq
    obtain rfl := (List.cons.inj this).1
    exact ⟨x0, x1, x2, x3, x4, x5, x6, _, _, _, rfl, w0, w1, w2, w3, w4, w5, w6⟩
end
end Go.Proofs.Ytneejihmakfaoaa.OwnOpen
