/- A struct of six whole numbers by value, opened: its cells are whole numbers of the kind int64. Conditions: the types are such. -/
import Derived.Test.YtifakhddmlalcaaOwnOpen
namespace Go.Proofs.Ytifakhddmlalcaa.OwnOpen
open Go.ChangeShapes Go.WideShapes Go.ChangeAt Go.RowKit

section
variable {H : Type} {enc : TypeId × Value → H} {P : Program} {W : World} {base b : Nat} {spare : Nat → Bool} {held : Bool} {t e : TypeId} {v : Value} {d : DataW H} {p : List MemPlace}

theorem open_str6 {f0 f1 f2 f3 f4 f5 : Field} (ht : P.underlying t = some (.struct #[f0, f1, f2, f3, f4, f5])) (he : P.underlying e = some (.int .i64)) (hct : P.cellsOf t = 6) (hce : P.cellsOf e = 1)
    (hf : (f0.type = e ∧ f1.type = e ∧ f2.type = e ∧ f3.type = e ∧ f4.type = e ∧ f5.type = e) ∧ f0.offset = 0 ∧ f1.offset = 1 ∧ f2.offset = 2 ∧ f3.offset = 3 ∧ f4.offset = 4 ∧ f5.offset = 5)
    (hv : Value.okWide P W .any base t v) (h : DataW.Trod enc P W b spare held t v d p) :
    ∃ x0 x1 x2 x3 x4 x5, v = .agg #[.int .i64 x0, .int .i64 x1, .int .i64 x2, .int .i64 x3, .int .i64 x4, .int .i64 x5] ∧ (Lit.int .i64 x0).wf = true ∧ (Lit.int .i64 x1).wf = true ∧ (Lit.int .i64 x2).wf = true ∧ (Lit.int .i64 x3).wf = true ∧ (Lit.int .i64 x4).wf = true ∧ (Lit.int .i64 x5).wf = true := by
  obtain ⟨cs, rfl, hs⟩ := agg_of_struct ht hv
  rw [hct] at hs
  obtain ⟨l⟩ := cs
  obtain ⟨c0, c1, c2, c3, c4, c5, rfl⟩ := list6 l hs
  obtain ⟨fuel, h⟩ := h
  obtain ⟨xs, m, _, _, _, hlen, hg⟩ := DataW.trod_struct ht h
  obtain ⟨⟨t0, t1, t2, t3, t4, t5⟩, o0, o1, o2, o3, o4, o5⟩ := hf
  have at_ : ∀ (i : Nat) (f : Field) (c : Value), (#[f0, f1, f2, f3, f4, f5] : Array Field).toList[i]? = some f → f.type = e → ([c0, c1, c2, c3, c4, c5].drop f.offset).take 1 = [c] → ∃ x, c = .int .i64 x ∧ (Lit.int .i64 x).wf = true := by
    intro i f c hi ht1 hc
    have h := hg i f (by simpa using hi)
    rw [ht1, hce] at h
    have hl : i < xs.length := by
      have := (List.getElem?_eq_some_iff.mp hi).1
      simp at this
      simp at hlen
      omega
    rw [List.getElem?_eq_getElem hl] at h
    obtain ⟨x, hx, _, wx⟩ := DataW.trod_int he h
    have hc2 : ([c0, c1, c2, c3, c4, c5].drop f.offset).take 1 = [.int .i64 x] := hx
    rw [hc] at hc2
    exact ⟨x, (List.cons.inj hc2).1, wx⟩
  obtain ⟨x0, rfl, w0⟩ := at_ 0 f0 c0 rfl t0 (by rw [o0]; rfl)
  obtain ⟨x1, rfl, w1⟩ := at_ 1 f1 c1 rfl t1 (by rw [o1]; rfl)
  obtain ⟨x2, rfl, w2⟩ := at_ 2 f2 c2 rfl t2 (by rw [o2]; rfl)
  obtain ⟨x3, rfl, w3⟩ := at_ 3 f3 c3 rfl t3 (by rw [o3]; rfl)
  obtain ⟨x4, rfl, w4⟩ := at_ 4 f4 c4 rfl t4 (by rw [o4]; rfl)
  obtain ⟨x5, rfl, w5⟩ := at_ 5 f5 c5 rfl t5 (by rw [o5]; rfl)
  exact ⟨x0, x1, x2, x3, x4, x5, rfl, w0, w1, w2, w3, w4, w5⟩
end

end Go.Proofs.Ytifakhddmlalcaa.OwnOpen
