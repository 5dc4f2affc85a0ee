/- The plain statement of the law NumMultiples is proved: for every number and step the law's Lean function answers true. Conditions: those of the statement. -/
import Derived.Test.YtifakhddmlalcaaQNumMultiplesx2
import Derived.Test.YtifakhddmlalcaaOwnMask
namespace Go.Proofs.Ytifakhddmlalcaa.Pure
open Go.RowKit Go.Proofs.Ytifakhddmlalcaa.QNumMultiples Go.Proofs.Ytifakhddmlalcaa.OwnMask Go.Proofs.YtifakhddmlalcaaW.PrintWords Go.Proofs.YtifakhddmlalcaaW.PrintLast

theorem NumMultiples_awake : cubbyholelaw01_awake.f 30 = some true := by decide +kernel

theorem down_low (x s : Int) (h : x < 0 ∨ s < 1) : num_Down.f x s = some 0 := by
  unfold num_Down.f
  by_cases c : x < 0
  · rw [if_pos c]
  · rw [if_neg c, if_pos (by omega)]

theorem down_at (x s : Int) (hx : 0 ≤ x) (hx2 : x ≤ 4611686018427387904) (hs : 1 ≤ s) : num_Down.f x s = some (x - x % s) := by
  unfold num_Down.f
  have h1 := Int.emod_nonneg x (show s ≠ 0 by omega)
  have h2 : x % s ≤ x := Int.emod_le x s hx
  rw [if_neg (by omega), if_neg (by omega), if_neg (by omega), Int.tmod_eq_emod_of_nonneg hx, w64 (by omega)]
where
  Int.emod_le (x s : Int) (hx : 0 ≤ x) : x % s ≤ x := by
    obtain ⟨n, rfl⟩ := Int.eq_ofNat_of_zero_le hx
    rcases Int.natAbs_eq s with h | h
    · rw [h, ← Int.natCast_emod]; exact Int.ofNat_le.2 (Nat.mod_le _ _)
    · rw [h, Int.emod_neg, ← Int.natCast_emod]; exact Int.ofNat_le.2 (Nat.mod_le _ _)

theorem up_low (x s : Int) (h : x ≤ 0 ∨ s < 1) : num_Up.f x s = some 0 := by
  unfold num_Up.f
  by_cases c : x < 0 ∨ s < 1
  · rw [down_low x s c, Option.bind_some]
    by_cases c2 : x ≤ 0
    · rw [if_pos c2]
    · rw [if_neg c2, if_pos (by omega)]
  · obtain rfl : x = 0 := by omega
    rw [down_at 0 s (by omega) (by omega) (by omega), Option.bind_some, if_pos (by omega)]
    simp

theorem up_at (x s : Int) (hx : 0 ≤ x) (hx2 : x ≤ 2305843009213693952) (hs : 1 ≤ s) (hs2 : s ≤ 2305843009213693952) : num_Up.f x s = some (if x % s = 0 then x else x - x % s + s) := by
  by_cases c : x ≤ 0
  · obtain rfl : x = 0 := by omega
    rw [up_low 0 s (by omega)]
    simp
  · unfold num_Up.f
    have h1 := Int.emod_nonneg x (show s ≠ 0 by omega)
    have h2 : x % s ≤ x := down_at.Int.emod_le x s hx
    rw [down_at x s hx (by omega) hs, Option.bind_some, if_neg c, if_neg (by omega)]
    by_cases c2 : x % s = 0
    · rw [if_pos (by omega), if_pos c2, c2]; simp
    · rw [if_neg (by omega), if_neg c2, w64 (by omega)]

theorem parts_low (x s : Int) (h : x ≤ 0 ∨ s < 1) : num_Parts.f x s = some 0 := by
  unfold num_Parts.f
  by_cases c : x ≤ 0
  · rw [if_pos c]
  · rw [if_neg c, if_pos (by omega)]

theorem parts_at (x s : Int) (hx : 1 ≤ x) (hx2 : x ≤ 4611686018427387904) (hs : 1 ≤ s) : num_Parts.f x s = some ((x - 1) / s + 1) := by
  unfold num_Parts.f
  have h1 : 0 ≤ (x - 1) / s := Int.ediv_nonneg (by omega) (by omega)
  have h2 : (x - 1) / s ≤ x - 1 := Int.ediv_le_self _ (by omega)
  rw [if_neg (by omega), if_neg (by omega), if_neg (by omega), w64 (x := x - 1) (by omega), Int.tdiv_eq_ediv_of_nonneg (by omega), w64 (x := (x - 1) / s) (by omega), w64 (by omega)]

theorem parts_mul (x s : Int) (hs : 1 ≤ s) : ((x - 1) / s + 1) * s = (if x % s = 0 then x else x - x % s + s) := by
  have h0 := Int.emod_nonneg x (show s ≠ 0 by omega)
  have h1 := Int.emod_lt_of_pos x (show 0 < s by omega)
  have h2 := Int.mul_ediv_add_emod x s
  have k0 := Int.emod_nonneg (x - 1) (show s ≠ 0 by omega)
  have k1 := Int.emod_lt_of_pos (x - 1) (show 0 < s by omega)
  have k2 := Int.mul_ediv_add_emod (x - 1) s
  by_cases c : x % s = 0
  · rw [if_pos c]
    have e : (x - 1) / s = x / s - 1 := by
      have hm : s * (x / s - 1) = s * (x / s) - s := by rw [Int.mul_sub, Int.mul_one]
      exact ((Int.ediv_emod_unique (show 0 < s by omega)).2 ⟨(show (s - 1) + s * (x / s - 1) = x - 1 by omega), by omega, by omega⟩).1
    rw [e, show x / s - 1 + 1 = x / s by omega, Int.mul_comm]; omega
  · rw [if_neg c]
    have e : (x - 1) / s = x / s :=
      ((Int.ediv_emod_unique (show 0 < s by omega)).2 ⟨(show (x % s - 1) + s * (x / s) = x - 1 by omega), by omega, by omega⟩).1
    rw [e, Int.add_mul, Int.mul_comm]; omega

theorem NumMultiples : cubbyholelaw01_NumMultiples.Pure := by
  intro a0 a1 _ _
  refine ⟨30, ?_⟩
  unfold cubbyholelaw01_NumMultiples.f
  rw [and_16777215, and_65535, and_255]
  obtain ⟨x, hx, hx0, hx1⟩ : ∃ x, a0 % 16777216 = x ∧ 0 ≤ x ∧ x < 16777216 := ⟨_, rfl, by omega, by omega⟩
  obtain ⟨s, hs, hs0, hs1⟩ : ∃ s, a1 % 65536 = s ∧ 0 ≤ s ∧ s < 65536 := ⟨_, rfl, by omega, by omega⟩
  obtain ⟨l, hl, hl1⟩ : ∃ l, wrap64 (-1 - a0 % 256) = l ∧ l < 0 := ⟨_, rfl, by rw [w64 (by omega)]; omega⟩
  rw [hx, hs, hl, NumMultiples_awake]
  by_cases c : s = 0
  · rw [down_low x s (by omega), up_low x s (by omega), parts_low x s (by omega)]
    simp [c]
  · have h0 := Int.emod_nonneg x (show s ≠ 0 by omega)
    have h1 := Int.emod_lt_of_pos x (show 0 < s by omega)
    have h3 : x % s ≤ x := down_at.Int.emod_le x s hx0
    have h2 := Int.mul_ediv_add_emod x s
    have hd : (x - x % s) % s = 0 := by
      have : x - x % s = s * (x / s) := by omega
      rw [this]; exact Int.mul_emod_right _ _
    have hu : (if x % s = 0 then x else x - x % s + s) % s = 0 := by
      split
      · assumption
      · rw [Int.add_emod_right]; exact hd
    have hu2 : x ≤ (if x % s = 0 then x else x - x % s + s) ∧ (if x % s = 0 then x else x - x % s + s) < x + s := by
      split <;> omega
    obtain ⟨p, hp, hp2⟩ : ∃ p, num_Parts.f x s = some p ∧ p * s = (if x % s = 0 then x else x - x % s + s) := by
      by_cases cx : x ≤ 0
      · obtain rfl : x = 0 := by omega
        exact ⟨0, parts_low 0 s (by omega), by simp⟩
      · exact ⟨_, parts_at x s (by omega) (by omega) (by omega), parts_mul x s (by omega)⟩
    have hup := up_at x s (by omega) (by omega) (by omega) (by omega)
    generalize (if x % s = 0 then x else x - x % s + s) = u at *
    rw [down_at x s (by omega) (by omega) (by omega), hup, hp, down_low l s (by omega), up_low l s (by omega), parts_low l s (by omega), up_low x (wrap64 (-s)) (by rw [w64 (by omega)]; omega)]
    simp only [Option.bind_some]
    rw [if_neg c, if_pos trivial, Int.tmod_eq_emod_of_nonneg (by omega), if_pos hd, if_pos (by omega), w64 (x := x - (x - x % s)) (by omega), if_pos (by omega), Int.tmod_eq_emod_of_nonneg (by omega), if_pos hu, if_pos (by omega), w64 (x := u - x) (by omega), if_pos (by omega), hp2, w64 (x := u) (by omega), if_pos rfl, if_pos trivial, if_pos trivial, if_pos trivial]
    rfl

end Go.Proofs.Ytifakhddmlalcaa.Pure
