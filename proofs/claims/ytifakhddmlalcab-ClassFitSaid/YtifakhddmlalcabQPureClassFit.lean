/- The plain statement of the law ClassFit is proved: for every class and number of pages the law's Lean function answers true. Conditions: those of the statement. -/
import Derived.Test.YtifakhddmlalcabQClassFitx2
import Derived.Test.YtifakhddmlalcabOwnMask
namespace Go.Proofs.Ytifakhddmlalcab.Pure
open Go.RowKit Go.Proofs.Ytifakhddmlalcab.QClassFit Go.Proofs.Ytifakhddmlalcab.OwnMask Go.Proofs.YtifakhddmlalcabW.PrintWords Go.Proofs.YtifakhddmlalcabW.PrintLast

/-- All classes' bytes. -/
def sizes : List Int := [16, 32, 48, 64, 80, 96, 112, 128, 160, 192, 224, 256, 320, 384, 448, 512, 640, 768, 896, 1024]
/-- A chunk's bytes with its header. -/
def block (c : Int) : Int := if 0 ≤ c ∧ c < 20 then rd sizes c + 16 else 0

theorem ClassFit_awake : cubbyholelaw16_awake.f 30 = some true := by decide +kernel
theorem list_at : class_List.f 30 = some sizes := by decide +kernel
theorem block_at : ∀ n, n < 32 → class_Block.f 30 (((n : Nat) : Int) - 4) = some (block (((n : Nat) : Int) - 4)) ∧ 0 ≤ block (((n : Nat) : Int) - 4) ∧ block (((n : Nat) : Int) - 4) ≤ 1040 := by decide +kernel
theorem size_at : ∀ n, n < 20 → 16 ≤ rd sizes ((n : Nat) : Int) ∧ rd sizes ((n : Nat) : Int) ≤ 1024 := by decide +kernel

/-- How many chunks there are in pages. -/
def fits (b p : Int) : Int := if b > 0 ∧ 1 ≤ p ∧ p ≤ 1024 then p * 256 / b else 0

theorem fit_at (k : Nat) (c p b : Int) (hb : class_Block.f k c = some b) (h0 : 0 ≤ b) (h1 : b ≤ 1040) : class_Fit.f k c p = some (fits b p) := by
  unfold class_Fit.f fits
  rw [hb, Option.bind_some]
  by_cases c1 : b = 0
  · rw [if_pos c1, if_neg (by omega)]
  · rw [if_neg c1]
    by_cases c2 : p < 1
    · rw [if_pos c2, if_neg (by omega)]
    · rw [if_neg c2]
      by_cases c3 : p > 1024
      · rw [if_pos c3, if_neg (by omega)]
      · rw [if_neg c3, if_pos (by omega), w64 (x := p * 256) (by omega), Int.tdiv_eq_ediv_of_nonneg (by omega)]
        have q0 : 0 ≤ p * 256 / b := Int.ediv_nonneg (by omega) (by omega)
        have q1 : p * 256 / b ≤ p * 256 := Int.ediv_le_self _ (by omega)
        rw [w64 (by omega)]

theorem l0_all (c p b x : Int) (hb : class_Block.f 30 c = some b) (h0 : 0 ≤ b) (h1 : b ≤ 1040) (hx : x = fits b p) (d : Nat) : ∀ (i k : Nat), i + d = 20 → 30 + d < k →
    cubbyholelaw16_ClassFit.l0 k c p b x sizes sizes (i : Int) = some true := by
  induction d with
  | zero =>
    intro i k hi hk
    obtain ⟨k, rfl⟩ : ∃ m, k = m + 1 := ⟨k - 1, by omega⟩
    have ha := at_rounds (g := fun k => cubbyholelaw16_awake.f k) (fun k => cubbyholelaw16_awake.mono k) (show 30 ≤ k by omega) ClassFit_awake
    have hb' := at_rounds (g := fun k => class_Block.f k c) (fun k => class_Block.mono _ k) (show 30 ≤ k by omega) hb
    have hf := fit_at k c p b hb' h0 h1
    rw [cubbyholelaw16_ClassFit.l0, if_neg (by omega), ha, Option.bind_some, if_pos rfl, hb', Option.bind_some, if_pos rfl, hf, hx]
    simp
  | succ d ih =>
    intro i k hi hk
    obtain ⟨k, rfl⟩ : ∃ m, k = m + 1 := ⟨k - 1, by omega⟩
    have e : wrap64 ((i : Int) + 1) = ((i + 1 : Nat) : Int) := by rw [w64 (by omega)]; rfl
    have hl : (sizes.length : Int) = 20 := rfl
    rw [cubbyholelaw16_ClassFit.l0, if_pos (by omega), if_pos (by omega), if_pos (by omega), if_pos (by omega), if_pos rfl, e]
    exact ih (i + 1) k (by omega) (by omega)

theorem j3_all (c p b x : Int) (hb : class_Block.f 30 c = some b) (h0 : 0 ≤ b) (h1 : b ≤ 1040) (hx : x = fits b p) : cubbyholelaw16_ClassFit.j3 61 c p b x = some true := by
  have hl := at_rounds (g := fun k => class_List.f k) (fun k => class_List.mono k) (show 30 ≤ 60 by decide) list_at
  rw [cubbyholelaw16_ClassFit.j3, hl, Option.bind_some, show cubbyholeref16_Sizes.f = some sizes from rfl, Option.bind_some, if_pos (by decide)]
  exact l0_all c p b x hb h0 h1 hx 20 0 60 (by omega) (by omega)

theorem j1_all (c p b : Int) (hb : class_Block.f 30 c = some b) (h0 : 0 ≤ b) (h1 : b ≤ 1040) : cubbyholelaw16_ClassFit.j1 63 c p b = some true := by
  have no : ¬ (b > 0 ∧ 1 ≤ p ∧ p ≤ 1024) → cubbyholelaw16_ClassFit.j2 62 c p b 0 false = some true := by
    intro h
    rw [cubbyholelaw16_ClassFit.j2, if_neg (by decide)]
    exact j3_all c p b 0 hb h0 h1 (by unfold fits; rw [if_neg h])
  rw [cubbyholelaw16_ClassFit.j1]
  by_cases c1 : b > 0
  · rw [if_pos c1]
    by_cases c2 : p ≥ 1
    · rw [if_pos c2]
      by_cases c3 : p ≤ 1024
      · rw [decide_eq_true c3, cubbyholelaw16_ClassFit.j2, if_pos rfl, if_neg (by omega)]
        refine j3_all c p b _ hb h0 h1 ?_
        have q0 : 0 ≤ p * 256 / b := Int.ediv_nonneg (by omega) (by omega)
        have q1 : p * 256 / b ≤ p * 256 := Int.ediv_le_self _ (by omega)
        unfold fits
        rw [if_pos ⟨c1, c2, c3⟩, w64 (x := p * 256) (by omega), Int.tdiv_eq_ediv_of_nonneg (by omega), w64 (by omega)]
      · rw [decide_eq_false c3]; exact no (by omega)
    · rw [if_neg c2]; exact no (by omega)
  · rw [if_neg c1]; exact no (by omega)

theorem ClassFit : cubbyholelaw16_ClassFit.Pure := by
  intro a0 a1 _ _
  refine ⟨64, ?_⟩
  unfold cubbyholelaw16_ClassFit.f
  rw [and_31, w64 (by omega)]
  obtain ⟨n, hn⟩ := Int.eq_ofNat_of_zero_le (show 0 ≤ a0 % 32 by omega)
  rw [hn]
  obtain ⟨hb, h0, h1⟩ := block_at n (by omega)
  by_cases c : (n : Int) - 4 ≥ 0
  · rw [if_pos c]
    by_cases c2 : (n : Int) - 4 < 20
    · have hs := size_at (n - 4) (by omega)
      have hs2 : ((n - 4 : Nat) : Int) = (n : Int) - 4 := by omega
      rw [hs2] at hs
      have hbl : block ((n : Int) - 4) = rd sizes ((n : Int) - 4) + 16 := by unfold block; rw [if_pos ⟨c, c2⟩]
      rw [decide_eq_true c2, cubbyholelaw16_ClassFit.j0, if_pos rfl, show cubbyholeref16_Sizes.f = some sizes from rfl, Option.bind_some, if_pos c, if_pos (by simpa [sizes] using c2), w64 (by omega), ← hbl]
      exact j1_all _ _ _ hb h0 h1
    · have hbl : block ((n : Int) - 4) = 0 := by unfold block; rw [if_neg (by omega)]
      rw [decide_eq_false c2, cubbyholelaw16_ClassFit.j0, if_neg (by decide), ← hbl]
      exact j1_all _ _ _ hb h0 h1
  · have hbl : block ((n : Int) - 4) = 0 := by unfold block; rw [if_neg (by omega)]
    rw [if_neg c, cubbyholelaw16_ClassFit.j0, if_neg (by decide)]
    have := j1_all ((n : Int) - 4) a1 _ hb h0 h1
    rw [hbl] at this
    exact this

end Go.Proofs.Ytifakhddmlalcab.Pure
