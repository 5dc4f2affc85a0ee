/- A slice of arrays of two whole numbers, opened: its cells are whole numbers of the kind int64. Conditions: the types are such. -/
import Derived.Test.YtifakhddmlalcaaOwnOpen
namespace Go.Proofs.Ytifakhddmlalcaa.OwnOpen
open Go.ChangeShapes Go.WideShapes Go.ChangeAt Go.RowKit

def numAt (w : World) (a : Addr) : Int := match w.cell? a with | some (.int _ x) => x | _ => 0

theorem cells_two {w : World} {base : Nat} {a : Addr} {l : List Value} (h : w.cells? base a 2 = some l) : ∃ u v, l = [u, v] ∧ w.cell? (a.add 0) = some u ∧ w.cell? (a.add 1) = some v := by
  unfold World.cells? at h
  split at h
  · rw [show List.range 2 = [0, 1] from rfl] at h
    cases h0 : w.cell? (a.add 0) with
    | none => simp [List.mapM_cons, h0] at h
    | some u =>
      cases h1 : w.cell? (a.add 1) with
      | none => simp [List.mapM_cons, h0, h1] at h
      | some v =>
        simp [List.mapM_cons, h0, h1] at h
        exact ⟨u, v, h.symm, rfl, rfl⟩
  · cases h

section
variable {H : Type} {enc : TypeId × Value → H} {P : Program} {W : World} {base b : Nat} {spare : Nat → Bool} {held : Bool} {t s e : TypeId} {v : Value} {d : DataW H} {p : List MemPlace}

theorem open_pairs (ht : P.underlying t = some (.slice s)) (hs : P.underlying s = some (.array 2 e)) (he : P.underlying e = some (.int .i64)) (hcs : P.cellsOf s = 2) (hce : P.cellsOf e = 1) (hv : Value.okWide P W .any base t v) (h : DataW.Trod enc P W b spare held t v d p) :
    ∃ A c, ∃ xs : List (Int × Int), v = .slice A xs.length c ∧ xs.length ≤ c ∧ xs.length ≤ maxLen ∧ (0 < xs.length → ∃ ad, A = some ad ∧ ∀ j x, xs[j]? = some x → W.cell? (ad.add (j * 2)) = some (.int .i64 x.1) ∧ W.cell? (ad.add (j * 2 + 1)) = some (.int .i64 x.2)) := by
  obtain ⟨a, len, cap, rfl⟩ := okWide_slice ht hv
  obtain ⟨fuel, h⟩ := h
  rcases DataW.trod_slice ht h with ⟨h0, _⟩ | ⟨a1, len1, cap1, elems, rest, n, _, hc, _, _, hl, hm, hlen, hel, _⟩
  · simp [Value.cells] at h0
    obtain ⟨rfl, rfl, rfl⟩ := h0
    exact ⟨none, 0, [], rfl, Nat.le_refl _, Nat.zero_le _, fun h => absurd h (by simp)⟩
  · simp [Value.cells] at hc
    obtain ⟨rfl, rfl, rfl⟩ := hc
    refine ⟨some a1, cap, (List.range len).map (fun j => (numAt W (a1.add (j * 2)), numAt W (a1.add (j * 2 + 1)))), by simp, by simpa using hl, by simp; omega, fun _ => ⟨a1, rfl, ?_⟩⟩
    intro j x hj
    have hjl : j < len := by
      have := (List.getElem?_eq_some_iff.mp hj).1
      simpa using this
    rw [List.getElem?_map, List.getElem?_range hjl] at hj
    obtain rfl := Option.some.inj hj
    have hq := hel j hjl
    rw [List.getElem?_eq_getElem (by omega), hcs, Option.bind_eq_some_iff] at hq
    obtain ⟨l, hl2, hd⟩ := hq
    obtain ⟨u, v, rfl, hu, hw⟩ := cells_two hl2
    obtain ⟨xs, m, _, _, _, hxl, hg⟩ := DataW.trod_array hs hd
    obtain ⟨x0, rfl, _⟩ := cell_int he hce hg hxl 0 (by omega) u rfl
    obtain ⟨x1, rfl, _⟩ := cell_int he hce hg hxl 1 (by omega) v rfl
    have e0 : (a1.add (j * 2)).add 0 = a1.add (j * 2) := by simp [Addr.add]
    have e1 : (a1.add (j * 2)).add 1 = a1.add (j * 2 + 1) := by unfold Addr.add; by_cases c : j * 2 = 0 <;> simp [c]; try omega
    rw [e0] at hu
    rw [e1] at hw
    have n0 : numAt W (a1.add (j * 2)) = x0 := by unfold numAt; rw [hu]
    have n1 : numAt W (a1.add (j * 2 + 1)) = x1 := by unfold numAt; rw [hw]
    show W.cell? (a1.add (j * 2)) = some (.int .i64 (numAt W (a1.add (j * 2)))) ∧ W.cell? (a1.add (j * 2 + 1)) = some (.int .i64 (numAt W (a1.add (j * 2 + 1))))
    rw [n0, n1]
    exact ⟨hu, hw⟩
end

end Go.Proofs.Ytifakhddmlalcaa.OwnOpen
