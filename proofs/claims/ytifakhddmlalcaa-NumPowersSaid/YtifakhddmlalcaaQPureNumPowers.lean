/- The plain statement of the law NumPowers is proved: for every number the law's Lean function answers true. Conditions: those of the statement. -/
import Derived.Test.YtifakhddmlalcaaQNumPowersx2
import Derived.Test.YtifakhddmlalcaaOwnMask
import Derived.OpenShut
namespace Go.Proofs.Ytifakhddmlalcaa.Pure
open Go.RowKit Go.Proofs.Ytifakhddmlalcaa.QNumPowers Go.Proofs.Ytifakhddmlalcaa.OwnMask Go.Proofs.YtifakhddmlalcaaW.PrintWords Go.Proofs.YtifakhddmlalcaaW.PrintLast

theorem NumPowers_awake : cubbyholelaw01_awake.f 30 = some true := by decide +kernel

theorem lenTab_val' : ∀ i, i < 256 → 0 < i → bt lenTab ((i : Nat) : Int) = ((Nat.log2 i + 1 : Nat) : Int) := by decide +kernel
theorem lenTab_val (i : Nat) (h0 : 0 < i) (h1 : i < 256) : bt lenTab ((i : Nat) : Int) = ((Nat.log2 i + 1 : Nat) : Int) := lenTab_val' i h1 h0

theorem log2_shift (n s : Nat) (h : 1 ≤ n / 2 ^ s) : Nat.log2 n = Nat.log2 (n / 2 ^ s) + s := by
  have hn : n ≠ 0 := fun e => by subst e; simp at h
  have hp : 0 < 2 ^ s := Nat.two_pow_pos s
  obtain ⟨h1, h2⟩ := (Nat.log2_eq_iff (show n / 2 ^ s ≠ 0 by omega)).1 rfl
  refine (Nat.log2_eq_iff hn).2 ⟨?_, ?_⟩
  · rw [Nat.pow_add]; exact (Nat.le_div_iff_mul_le hp).1 h1
  · rw [show (n / 2 ^ s).log2 + s + 1 = ((n / 2 ^ s).log2 + 1) + s by omega, Nat.pow_add]; exact (Nat.div_lt_iff_lt_mul hp).1 h2

theorem len64_j0 (n : Nat) (h0 : 0 < n) (h : n < 4294967296) (b : Int) (hb0 : 0 ≤ b) (hb : b ≤ 32) (k : Nat) : bits_Len64.j0 (k + 1) (n : Int) b = some (b + ((Nat.log2 n + 1 : Nat) : Int)) := by
  have small : ∀ m, 0 < m → m < 256 → Nat.log2 m < 8 := fun m h1 h2 => (Nat.log2_lt (by omega)).2 (by omega)
  simp only [bits_Len64.j0]
  by_cases c1 : (n : Int) ≥ 65536
  · rw [if_pos c1]
    have hs1 := log2_shift n 16 (by omega)
    have e1 : (n : Int) / 65536 = ((n / 2 ^ 16 : Nat) : Int) := by omega
    rw [e1]
    generalize n / 2 ^ 16 = m at *
    by_cases c2 : (m : Int) ≥ 256
    · rw [if_pos c2]
      have hs2 := log2_shift m 8 (by omega)
      have e2 : (m : Int) / 256 = ((m / 2 ^ 8 : Nat) : Int) := by omega
      rw [e2]
      have hm : m / 2 ^ 8 < 256 := by omega
      have hm0 : 0 < m / 2 ^ 8 := by omega
      generalize m / 2 ^ 8 = q at *
      have e3 : (q : Int) % 256 = (q : Int) := by omega
      have := small q hm0 hm
      rw [e3, if_pos (by omega), if_pos (by omega), lenTab_val q hm0 hm, w64 (x := b + 16) (by omega), w64 (x := b + 16 + 8) (by omega), w64 (x := ((q.log2 + 1 : Nat) : Int)) (by omega), w64 (by omega)]
      congr 1; omega
    · rw [if_neg c2]
      have e3 : (m : Int) % 256 = (m : Int) := by omega
      have hm0 : 0 < m := by omega
      have := small m hm0 (by omega)
      rw [e3, if_pos (by omega), if_pos (by omega), lenTab_val m hm0 (by omega), w64 (x := b + 16) (by omega), w64 (x := ((m.log2 + 1 : Nat) : Int)) (by omega), w64 (by omega)]
      congr 1; omega
  · rw [if_neg c1]
    by_cases c2 : (n : Int) ≥ 256
    · rw [if_pos c2]
      have hs2 := log2_shift n 8 (by omega)
      have e2 : (n : Int) / 256 = ((n / 2 ^ 8 : Nat) : Int) := by omega
      rw [e2]
      have hm : n / 2 ^ 8 < 256 := by omega
      have hm0 : 0 < n / 2 ^ 8 := by omega
      generalize n / 2 ^ 8 = q at *
      have e3 : (q : Int) % 256 = (q : Int) := by omega
      have := small q hm0 hm
      rw [e3, if_pos (by omega), if_pos (by omega), lenTab_val q hm0 hm, w64 (x := b + 8) (by omega), w64 (x := ((q.log2 + 1 : Nat) : Int)) (by omega), w64 (by omega)]
      congr 1; omega
    · rw [if_neg c2]
      have e3 : (n : Int) % 256 = (n : Int) := by omega
      have := small n h0 (by omega)
      rw [e3, if_pos (by omega), if_pos (by omega), lenTab_val n h0 (by omega), w64 (x := ((n.log2 + 1 : Nat) : Int)) (by omega), w64 (by omega)]

theorem len64_at (n : Nat) (h0 : 0 < n) (h : n < 18446744073709551616) (k : Nat) : bits_Len64.f (k + 1) (n : Int) = some ((Nat.log2 n + 1 : Nat) : Int) := by
  unfold bits_Len64.f
  by_cases c : (n : Int) ≥ 4294967296
  · have hs := log2_shift n 32 (by omega)
    have e : (n : Int) / 4294967296 = ((n / 2 ^ 32 : Nat) : Int) := by omega
    rw [if_pos c, e, len64_j0 _ (by omega) (by omega) 32 (by omega) (by omega)]
    congr 1; omega
  · rw [if_neg c, len64_j0 _ h0 (by omega) 0 (by omega) (by omega)]
    simp

theorem log_at (n : Nat) (h0 : 0 < n) (h : n < 9223372036854775808) (k : Nat) : num_Log.f (k + 1) (n : Int) = some ((Nat.log2 n : Nat) : Int) := by
  unfold num_Log.f
  have hl : Nat.log2 n < 63 := (Nat.log2_lt (by omega)).2 (by omega)
  rw [if_neg (by omega), u64w (by omega), len64_at n h0 (by omega), Option.bind_some, w64 (by omega)]
  congr 1; omega

theorem power_at (n : Nat) (h0 : 0 < n) (h : n < 9223372036854775808) : num_Power.f (n : Int) = some (decide (n = 2 ^ Nat.log2 n)) := by
  unfold num_Power.f
  have e : wrap64 ((n : Int) - 1) = ((n - 1 : Nat) : Int) := by rw [w64 (by omega)]; omega
  rw [if_pos (by omega), e, (Go.bits_nat .i64 63 (by decide) (fun m h1 h2 => IntWalk.i64_in m (by omega)) n (n - 1) (by omega) (by omega)).1]
  congr 1
  rw [Bool.eq_iff_iff]
  simp only [beq_iff_eq, decide_eq_true_eq]
  constructor
  · intro hh
    obtain ⟨k, hk⟩ := (Nat.and_sub_one_eq_zero_iff_isPowerOfTwo (show n ≠ 0 by omega)).1 (by exact_mod_cast hh)
    rw [hk, Nat.log2_two_pow]
  · intro hh
    exact_mod_cast (Nat.and_sub_one_eq_zero_iff_isPowerOfTwo (show n ≠ 0 by omega)).2 ⟨_, hh⟩

theorem NumPowers_loop (n : Nat) (h0 : 0 < n) (h : n < 9223372036854775808) (d : Nat) : ∀ (i k : Nat), i + d = Nat.log2 n → 30 + d < k →
    cubbyholelaw01_NumPowers.l0 k (n : Int) (i : Int) ((2 ^ i : Nat) : Int) = some true := by
  have hl : Nat.log2 n < 63 := (Nat.log2_lt (by omega)).2 (by omega)
  obtain ⟨hlo, hhi⟩ := (Nat.log2_eq_iff (show n ≠ 0 by omega)).1 rfl
  induction d with
  | zero =>
    intro i k hi hk
    obtain ⟨k, rfl⟩ : ∃ m, k = m + 1 := ⟨k - 1, by omega⟩
    obtain ⟨k, rfl⟩ : ∃ m, k = m + 1 := ⟨k - 1, by omega⟩
    have ha := at_rounds (g := fun k => cubbyholelaw01_awake.f k) (fun k => cubbyholelaw01_awake.mono k) (show 30 ≤ k + 1 by omega) NumPowers_awake
    obtain rfl : i = Nat.log2 n := by omega
    have hs : n < 2 * 2 ^ Nat.log2 n := by rw [Nat.pow_succ] at hhi; omega
    have ep : (decide (n = 2 ^ Nat.log2 n) == (((2 ^ Nat.log2 n : Nat) : Int) == (n : Int))) = true := by
      rw [beq_iff_eq, Bool.eq_iff_iff]
      simp only [beq_iff_eq, decide_eq_true_eq]
      omega
    have hq : wrap64 (Int.tdiv (n : Int) 2) = (n : Int) / 2 := by rw [Int.tdiv_eq_ediv_of_nonneg (by omega), w64 (by omega)]
    simp only [cubbyholelaw01_NumPowers.l0]
    rw [ha, hq, log_at n h0 h, power_at n h0 h]
    simp only [Option.bind_some, if_true]
    by_cases c : ((Nat.log2 n : Nat) : Int) < 62
    · rw [if_pos c, if_pos (by omega), if_neg (by omega), ep]
    · rw [if_neg c, if_pos (by omega), ep]
  | succ d ih =>
    intro i k hi hk
    obtain ⟨k, rfl⟩ : ∃ m, k = m + 1 := ⟨k - 1, by omega⟩
    have hp : 2 ^ (i + 1) ≤ 2 ^ Nat.log2 n := Nat.pow_le_pow_right (by decide) (by omega)
    have hp2 : 2 ^ (i + 1) = 2 ^ i * 2 := Nat.pow_succ ..
    have hp3 : 2 ^ (i + 1) ≤ 2 ^ 62 := Nat.pow_le_pow_right (by decide) (by omega)
    have hq : wrap64 (Int.tdiv (n : Int) 2) = (n : Int) / 2 := by rw [Int.tdiv_eq_ediv_of_nonneg (by omega), w64 (by omega)]
    have hi1 : wrap64 ((i : Int) + 1) = ((i + 1 : Nat) : Int) := by rw [w64 (by omega)]; rfl
    have hw : wrap64 (((2 ^ i : Nat) : Int) * 2) = ((2 ^ (i + 1) : Nat) : Int) := by rw [w64 (by omega)]; omega
    simp only [cubbyholelaw01_NumPowers.l0]
    rw [if_pos (by omega), if_pos (by omega), hq, if_pos (by omega), hi1, hw]
    exact ih (i + 1) k (by omega) (by omega)

theorem NumPowers_low (x : Int) (c : x < 1) (k : Nat) (ha : cubbyholelaw01_awake.f k = some true) : cubbyholelaw01_NumPowers.l0 (k + 1) x 0 1 = some true := by
  simp only [cubbyholelaw01_NumPowers.l0]
  rw [if_pos (by decide), if_neg (by omega), ha]
  simp only [Option.bind_some, if_true]
  unfold num_Log.f num_Power.f
  rw [if_pos (by omega), if_neg (by omega)]
  rfl

theorem NumPowers : cubbyholelaw01_NumPowers.Pure := by
  intro a0 w0
  have hw : -9223372036854775808 ≤ a0 ∧ a0 ≤ 9223372036854775807 := by
    exact Go.bounds_i64 w0
  refine ⟨100, ?_⟩
  unfold cubbyholelaw01_NumPowers.f
  by_cases c : 1 ≤ a0
  · obtain ⟨n, rfl⟩ := Int.eq_ofNat_of_zero_le (show 0 ≤ a0 by omega)
    have hl : Nat.log2 n < 63 := (Nat.log2_lt (by omega)).2 (by omega)
    exact NumPowers_loop n (by omega) (by omega) (Nat.log2 n) 0 100 (by omega) (by omega)
  · have ha := at_rounds (g := fun k => cubbyholelaw01_awake.f k) (fun k => cubbyholelaw01_awake.mono k) (show 30 ≤ 99 by omega) NumPowers_awake
    exact NumPowers_low a0 (by omega) 99 ha

end Go.Proofs.Ytifakhddmlalcaa.Pure
