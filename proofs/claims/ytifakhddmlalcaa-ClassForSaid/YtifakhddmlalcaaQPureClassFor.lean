/- The plain statement of the law ClassFor is proved: for every n and k the law's Lean function answers true. Conditions: those of the statement. -/
import Derived.Test.YtifakhddmlalcaaQClassForx2
import Derived.Test.YtifakhddmlalcaaOwnMask
namespace Go.Proofs.Ytifakhddmlalcaa.Pure
open Go.RowKit Go.Proofs.Ytifakhddmlalcaa.QClassFor Go.Proofs.Ytifakhddmlalcaa.OwnMask Go.Proofs.YtifakhddmlalcaaW.PrintWords Go.Proofs.YtifakhddmlalcaaW.PrintLast

set_option maxRecDepth 100000 in
theorem ClassFor_all : ∀ n, n < 64 → ∀ m, m < 32 → (class_For.f 30 ((32 * n + m : Nat) : Int) = cubbyholeref16_For.f 60 ((32 * n + m : Nat) : Int)) ∧ (class_For.f 30 ((32 * n + m : Nat) : Int)).isSome = true ∧ ((class_For.f 30 ((32 * n + m : Nat) : Int) == some (-1)) = (decide (32 * n + m < 1) || decide (1024 < 32 * n + m))) := by
  decide +kernel

theorem ClassFor_at (x : Int) (h0 : 0 ≤ x) (h1 : x < 2048) : ∃ v, class_For.f 30 x = some v ∧ cubbyholeref16_For.f 60 x = some v ∧ (v = -1 ↔ (x < 1 ∨ 1024 < x)) := by
  obtain ⟨n, rfl⟩ := Int.eq_ofNat_of_zero_le h0
  have e : n = 32 * (n / 32) + n % 32 := by omega
  have h := ClassFor_all (n / 32) (by omega) (n % 32) (by omega)
  rw [← e] at h
  obtain ⟨h2, h3, h4⟩ := h
  obtain ⟨v, hv⟩ := Option.isSome_iff_exists.1 h3
  refine ⟨v, hv, h2 ▸ hv, ?_⟩
  rw [hv] at h4
  constructor
  · intro hh
    subst hh
    simp at h4
    omega
  · intro hh
    have : (decide (n < 1) || decide (1024 < n)) = true := by simp; omega
    rw [this] at h4
    simpa using h4

theorem ClassFor_out (x : Int) (h : x < 1 ∨ 1024 < x) : class_For.f 30 x = some (-1) := by
  unfold class_For.f
  by_cases c : x < 1
  · rw [if_pos c]; rfl
  · rw [if_neg c, decide_eq_true (by omega)]; rfl

theorem ClassFor_in (x : Int) : ∃ v, class_For.f 30 x = some v ∧ (v = -1 ↔ (x < 1 ∨ 1024 < x)) := by
  by_cases h : x < 1 ∨ 1024 < x
  · exact ⟨-1, ClassFor_out x h, by simp [h]⟩
  · obtain ⟨v, hv, _, h2⟩ := ClassFor_at x (by omega) (by omega)
    exact ⟨v, hv, h2⟩

theorem ClassFor_of : ∀ n, n < 20 → class_Of.f 30 ((n : Nat) : Int) = some (rd [16, 32, 48, 64, 80, 96, 112, 128, 160, 192, 224, 256, 320, 384, 448, 512, 640, 768, 896, 1024] n) := by
  decide +kernel

theorem ClassFor_ofOut (x : Int) (h : x < 0 ∨ 20 ≤ x) : class_Of.f 30 x = some 0 := by
  unfold class_Of.f
  by_cases c : x < 0
  · rw [if_pos c]; rfl
  · rw [if_neg c, decide_eq_true (by omega)]; rfl

theorem ClassFor_awake : cubbyholelaw16_awake.f 30 = some true := by decide +kernel

theorem ClassFor_j1 (a0 a1 x7 : Int) (h : class_Of.f 30 a1 = some x7) : cubbyholelaw16_ClassFor.j1 61 a0 a1 (a0 % 2048) x7 = some true := by
  obtain ⟨v, h1, h2, _⟩ := ClassFor_at (a0 % 2048) (by omega) (by omega)
  obtain ⟨u, h3, h4⟩ := ClassFor_in a0
  have g0 := at_rounds (g := fun k => cubbyholelaw16_awake.f k) (fun k => cubbyholelaw16_awake.mono k) (show 30 ≤ 60 by decide) ClassFor_awake
  have g1 := at_rounds (g := fun k => class_For.f k (a0 % 2048)) (fun k => class_For.mono _ k) (show 30 ≤ 60 by decide) h1
  have g3 := at_rounds (g := fun k => class_For.f k a0) (fun k => class_For.mono _ k) (show 30 ≤ 60 by decide) h3
  have g4 := at_rounds (g := fun k => class_Of.f k a1) (fun k => class_Of.mono _ k) (show 30 ≤ 60 by decide) h
  simp only [cubbyholelaw16_ClassFor.j1] at *
  rw [g0, Option.bind_some, if_pos rfl, g1, Option.bind_some, h2, Option.bind_some, if_pos rfl, g4, Option.bind_some, if_pos rfl, g3, Option.bind_some]
  by_cases c : a0 < 1
  · rw [if_pos c]
    simp [h4.2 (.inl c)]
  · rw [if_neg c]
    by_cases c2 : a0 > 1024
    · simp [h4.2 (.inr c2), c2]
    · have : ¬ u = -1 := fun e => by have := h4.1 e; omega
      simp [this, c2]

theorem ClassFor : cubbyholelaw16_ClassFor.Pure := by
  intro a0 a1 _ _
  refine ⟨62, ?_⟩
  unfold cubbyholelaw16_ClassFor.f cubbyholeref16_Sizes.f
  rw [Option.bind_some, and_2047]
  by_cases c : a1 ≥ 0
  · rw [if_pos c]
    simp only [cubbyholelaw16_ClassFor.j0]
    by_cases c2 : a1 < 20
    · rw [if_pos (decide_eq_true c2), if_pos c, if_pos (by simpa using c2)]
      refine ClassFor_j1 _ _ _ ?_
      obtain ⟨n, rfl⟩ := Int.eq_ofNat_of_zero_le c
      exact ClassFor_of n (by omega)
    · rw [if_neg (by simpa using c2)]
      exact ClassFor_j1 _ _ _ (ClassFor_ofOut _ (by omega))
  · rw [if_neg c]
    simp only [cubbyholelaw16_ClassFor.j0]
    rw [if_neg (by simp)]
    exact ClassFor_j1 _ _ _ (ClassFor_ofOut _ (by omega))

end Go.Proofs.Ytifakhddmlalcaa.Pure
