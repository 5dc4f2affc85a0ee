/- The plain statement of the law GuardNeed is proved: for every n and align the law's Lean function answers true. Conditions: those of the statement. -/
import Derived.Test.YtifakhddmlalcaaPGuardNeedx2
import Derived.Test.YtifakhddmlalcaaOwnMask
namespace Go.Proofs.Ytifakhddmlalcaa.Pure
open Go.RowKit Go.Proofs.Ytifakhddmlalcaa.PGuardNeed Go.Proofs.Ytifakhddmlalcaa.OwnMask Go.Proofs.YtifakhddmlalcaaW.PrintWords Go.Proofs.YtifakhddmlalcaaW.PrintLast Go.Proofs.YtifakhddmlalcaaW.PrintMore

/-- The law's loop alone: is it a power of two? -/
def lp : Nat → Bool → Int → Option Bool
  | 0, _, _ => none
  | k + 1, p, b => if b > 1 then (if p = true then lp k ((Int.tmod b 2) == 0) (wrap64 (Int.tdiv b 2)) else some p) else some p

/-- What is asked of an alignment: the code's answer is the loop's, and where it may be, the header's multiple is the greater of it and 16. -/
def fine (a : Int) : Bool :=
  match num_Power.f a with
  | some p => (lp 20 (decide (a ≥ 1)) a == some p) && (!(p && decide (a ≤ 256)) || num_Up.f 16 a == some (mx a 16)) && (!p || decide (1 ≤ a))
  | none => false

set_option maxRecDepth 100000 in
theorem fine_small : ∀ n, n < 32 → ∀ m, m < 32 → fine (wrap64 (((32 * n + m : Nat) : Int) - 20)) = true := by decide +kernel
theorem fine_pow : ∀ n, n < 16 → fine (shl .i64 1 (IntKind.u64.wrap ((n : Nat) : Int))) = true := by decide +kernel
theorem GuardNeed_awake : cubbyholelaw29_awake.f 30 = some true := by decide +kernel

theorem l0_of (x a : Int) : ∀ (m : Nat) (p : Bool) (b : Int) (q : Bool), lp m p b = some q → ∀ k, ∃ j, k ≤ j ∧ cubbyholelaw29_GuardNeed.l0 (k + m) x a p b = cubbyholelaw29_GuardNeed.j2 j x a q := by
  intro m
  induction m with
  | zero => intro p b q h; simp [lp] at h
  | succ m ih =>
    intro p b q h k
    rw [← Nat.add_assoc]
    simp only [cubbyholelaw29_GuardNeed.l0]
    simp only [lp] at h
    by_cases c : b > 1
    · rw [if_pos c] at h ⊢
      by_cases c2 : p = true
      · rw [if_pos c2] at h ⊢
        exact ih _ _ _ h k
      · rw [if_neg c2] at h ⊢
        obtain rfl := Option.some.inj h
        exact ⟨k + m, by omega, rfl⟩
    · rw [if_neg c] at h ⊢
      obtain rfl := Option.some.inj h
      exact ⟨k + m, by omega, rfl⟩

theorem need_low (k : Nat) (x a : Int) (p : Bool) (hp : num_Power.f a = some p) (h : x < 1 ∨ p = false ∨ a > 256) : guard_Need.f (k + 1) x a = some (0, 1) := by
  unfold guard_Need.f
  by_cases c : x < 1
  · rw [if_pos c]; rfl
  · rw [if_neg c, hp, Option.bind_some]
    by_cases c2 : p = true
    · rw [if_pos c2, decide_eq_true (by rcases h with h | h | h <;> simp_all)]; rfl
    · rw [if_neg c2]; rfl

theorem need_mid (k : Nat) (x a : Int) (hp : num_Power.f a = some true) (h : 1 ≤ x) (h2 : ¬ a > 256) : guard_Need.f (k + 1) x a = if x > 16384 then some (0, 4) else ((num_Up.f 16 a).bind fun t103 => ((num_Parts.f (wrap64 (t103 + x)) 256).bind fun t104 => (some (t104, 0)))) := by
  unfold guard_Need.f
  rw [if_neg (by omega), hp, Option.bind_some, if_pos rfl, decide_eq_false h2]
  simp only [guard_Need.j0]
  rfl

theorem GuardNeed_j2 (x a : Int) (hx0 : 0 ≤ x) (hx : x < 32768) (hf : fine a = true) (q : Bool) (hq : lp 20 (decide (a ≥ 1)) a = some q) (k : Nat) (hk : 40 ≤ k) :
    cubbyholelaw29_GuardNeed.j2 k x a q = some true := by
  obtain ⟨k, rfl⟩ : ∃ m, k = m + 2 := ⟨k - 2, by omega⟩
  have ha := at_rounds (g := fun k => cubbyholelaw29_awake.f k) (fun k => cubbyholelaw29_awake.mono k) (show 30 ≤ k by omega) GuardNeed_awake
  obtain ⟨k, rfl⟩ : ∃ m, k = m + 1 := ⟨k - 1, by omega⟩
  unfold fine at hf
  cases hp : num_Power.f a with
  | none => rw [hp] at hf; cases hf
  | some p =>
    rw [hp] at hf
    simp only [Bool.and_eq_true, beq_iff_eq] at hf
    obtain ⟨⟨hl, hu⟩, h1⟩ := hf
    obtain rfl : p = q := Option.some.inj (hl.symm.trans hq)
    simp only [cubbyholelaw29_GuardNeed.j2]
    by_cases c : x < 1
    · rw [need_low _ x a p hp (.inl c), Option.bind_some, if_pos c]
      simp only [cubbyholelaw29_GuardNeed.j3]
      simp [ha]
    · by_cases c2 : p = true
      · subst c2
        by_cases c3 : a > 256
        · rw [need_low _ x a true hp (.inr (.inr c3)), Option.bind_some, if_neg c, if_pos rfl, decide_eq_true c3]
          simp only [cubbyholelaw29_GuardNeed.j3]
          simp [ha]
        · have h1a : 1 ≤ a := by simpa using h1
          have hup : num_Up.f 16 a = some (mx a 16) := by
            have : decide (a ≤ 256) = true := decide_eq_true (by omega)
            simpa [this] using hu
          have hm : 16 ≤ mx a 16 ∧ mx a 16 ≤ 256 := by unfold mx; split <;> omega
          rw [need_mid _ x a hp (by omega) c3]
          by_cases c4 : x > 16384
          · rw [if_pos c4, Option.bind_some, if_neg c, if_pos rfl, decide_eq_false c3]
            simp only [cubbyholelaw29_GuardNeed.j3]
            simp [ha, c4]
          · rw [if_neg c4, hup, Option.bind_some]
            generalize hmx : mx a 16 = o at hm ⊢
            have hparts : num_Parts.f (wrap64 (o + x)) 256 = some ((o + x - 1) / 256 + 1) := by
              unfold num_Parts.f
              rw [w64 (x := o + x) (by omega), if_neg (by omega), if_neg (by decide), if_neg (by decide), w64 (x := o + x - 1) (by omega), Int.tdiv_eq_ediv_of_nonneg (by omega), w64 (x := (o + x - 1) / 256) (by omega), w64 (by omega)]
            rw [hparts, Option.bind_some, Option.bind_some, if_neg c, if_pos rfl, decide_eq_false c3]
            simp only [cubbyholelaw29_GuardNeed.j3]
            rw [if_neg (by decide), if_neg c4, need_low _ _ a true hp (.inl (by rw [w64 (by omega)]; omega)), Option.bind_some, ha, Option.bind_some, if_pos rfl, if_pos trivial]
            rw [w64 (x := 256 * ((o + x - 1) / 256 + 1)) (by omega), w64 (x := o + x) (by omega), w64 (x := (o + x - 1) / 256 + 1 - 1) (by omega), w64 (x := 256 * ((o + x - 1) / 256 + 1 - 1)) (by omega), if_pos (by omega), if_pos (by omega)]
            rfl
      · have c2' : p = false := by simpa using c2
        rw [need_low _ x a p hp (.inr (.inl c2')), Option.bind_some, if_neg c, if_neg c2]
        simp only [cubbyholelaw29_GuardNeed.j3]
        simp [ha]

theorem GuardNeed_j0 (x a : Int) (hx0 : 0 ≤ x) (hx : x < 32768) (hf : fine a = true) : cubbyholelaw29_GuardNeed.j0 101 x a = some true := by
  have hq : ∃ q, lp 20 (decide (a ≥ 1)) a = some q := by
    have hf' := hf
    unfold fine at hf'
    cases hp : num_Power.f a with
    | none => rw [hp] at hf'; cases hf'
    | some p =>
      rw [hp] at hf'
      simp only [Bool.and_eq_true, beq_iff_eq] at hf'
      exact ⟨p, hf'.1.1⟩
  obtain ⟨q, hq⟩ := hq
  obtain ⟨j, hj, e⟩ := l0_of x a 20 _ a q hq 80
  rw [cubbyholelaw29_GuardNeed.j0]
  rw [show (100 : Nat) = 80 + 20 from rfl, e]
  exact GuardNeed_j2 x a hx0 hx hf q hq j (by omega)

theorem GuardNeed : cubbyholelaw29_GuardNeed.Pure := by
  intro a0 a1 _ _
  refine ⟨101, ?_⟩
  unfold cubbyholelaw29_GuardNeed.f
  rw [and_15, and_3, and_1023, and_32767, u64w (by omega), if_pos (by omega)]
  by_cases c : a1 / 16 % 4 = 0
  · rw [if_pos c]
    obtain ⟨n, hn⟩ := Int.eq_ofNat_of_zero_le (show 0 ≤ a1 / 64 % 1024 by omega)
    have e : n = 32 * (n / 32) + n % 32 := by omega
    have h := fine_small (n / 32) (by omega) (n % 32) (by omega)
    rw [← e, ← hn] at h
    exact GuardNeed_j0 _ _ (by omega) (by omega) h
  · rw [if_neg c]
    obtain ⟨n, hn⟩ := Int.eq_ofNat_of_zero_le (show 0 ≤ a1 % 16 by omega)
    have h := fine_pow n (by omega)
    rw [← hn, u64w (by omega)] at h
    exact GuardNeed_j0 _ _ (by omega) (by omega) h

end Go.Proofs.Ytifakhddmlalcaa.Pure
