/- The plain statement of the law ConfCheck is proved, and the walk of the law's call out of it: for all numbers the law's Lean function answers true. Conditions: none beyond the numbers' kinds. -/
import Derived.Test.YtifakhddmlalcaaQConfCheckx4
import Derived.Test.YtifakhddmlalcaaOwnMask
namespace Go.Proofs.Ytifakhddmlalcaa.Pure
open Go.RowKit Go.Proofs.Ytifakhddmlalcaa.QConfCheck Go.Proofs.Ytifakhddmlalcaa.OwnMask Go.Proofs.YtifakhddmlalcaaW.PrintWords Go.Proofs.YtifakhddmlalcaaW.PrintLast Go.Proofs.YtifakhddmlalcaaW.PrintMore

theorem in_at (a b c : Int) : conf_in.f a b c = some (decide (b ≤ a ∧ a ≤ c)) := by
  unfold conf_in.f
  by_cases h : a ≥ b
  · rw [if_pos h]
    simp only [Option.some.injEq, decide_eq_decide]
    omega
  · rw [if_neg h]
    simp only [Option.some.injEq]
    rw [decide_eq_false (by omega)]

/-- An allocator that may be made, but for the sum of its pages. -/
def Fine (p r l th ca ba sh rg mo fi : Int) : Prop :=
  (1 ≤ p ∧ p ≤ 1024) ∧ (5 ≤ r ∧ r ≤ 16) ∧ (0 ≤ l ∧ l ≤ 1024) ∧ (1 ≤ th ∧ th ≤ 8) ∧ (1 ≤ ba ∧ ba ≤ 16) ∧ (ba ≤ ca ∧ ca ≤ 32) ∧ (0 ≤ sh ∧ sh ≤ 16) ∧ (1 ≤ rg ∧ rg ≤ 64) ∧ (1 ≤ mo ∧ mo ≤ 16384) ∧ (0 ≤ fi ∧ fi ≤ 255)

theorem check_fine (k : Nat) (p r l th ca ba sh rg mo fi ke : Int) (h : Fine p r l th ca ba sh rg mo fi) : conf_Check.f (k + 3) p r l th ca ba sh rg mo fi ke = some (if 20 * r + l > 1024 then 4 else 0) := by
  obtain ⟨h0, h1, h2, h3, h4, h5, h6, h7, h8, h9⟩ := h
  have e : wrap64 (wrap64 (20 * r) + l) = 20 * r + l := by rw [w64 (x := 20 * r) (by omega), w64 (by omega)]
  unfold conf_Check.f
  rw [in_at, in_at, in_at, in_at, decide_eq_true h0, decide_eq_true h1, decide_eq_true h2, decide_eq_true h3]
  simp only [Option.bind_some, if_true, conf_Check.j0, conf_Check.j1, conf_Check.j2]
  rw [in_at, in_at, in_at, in_at, in_at, in_at, decide_eq_true h4, decide_eq_true h5, decide_eq_true h6, decide_eq_true h7, decide_eq_true h8, decide_eq_true h9]
  unfold conf_Small.f conf_Large.f
  simp only [Option.bind_some, if_true, e]
  split <;> rfl

theorem check_not (k : Nat) (p r l th ca ba sh rg mo fi ke : Int) (h : ¬ Fine p r l th ca ba sh rg mo fi) : conf_Check.f (k + 3) p r l th ca ba sh rg mo fi ke = some 1 := by
  unfold conf_Check.f
  simp only [in_at, Option.bind_some, conf_Check.j0, conf_Check.j1, conf_Check.j2]
  by_cases h0 : 1 ≤ p ∧ p ≤ 1024
  · by_cases h1 : 5 ≤ r ∧ r ≤ 16
    · by_cases h2 : 0 ≤ l ∧ l ≤ 1024
      · by_cases h3 : 1 ≤ th ∧ th ≤ 8
        · by_cases h4 : 1 ≤ ba ∧ ba ≤ 16
          · by_cases h5 : ba ≤ ca ∧ ca ≤ 32
            · by_cases h6 : 0 ≤ sh ∧ sh ≤ 16
              · by_cases h7 : 1 ≤ rg ∧ rg ≤ 64
                · by_cases h8 : 1 ≤ mo ∧ mo ≤ 16384
                  · by_cases h9 : 0 ≤ fi ∧ fi ≤ 255
                    · exact absurd ⟨h0, h1, h2, h3, h4, h5, h6, h7, h8, h9⟩ h
                    · simp [h0, h1, h2, h3, h4, h5, h6, h7, h8, h9]
                  · simp [h0, h1, h2, h3, h4, h5, h6, h7, h8]
                · simp [h0, h1, h2, h3, h4, h5, h6, h7]
              · simp [h0, h1, h2, h3, h4, h5, h6]
            · simp [h0, h1, h2, h3, h4, h5]
          · simp [h0, h1, h2, h3, h4]
        · simp [h0, h1, h2, h3]
      · simp [h0, h1, h2]
    · simp [h0, h1]
  · simp [h0]

theorem most_at : ∀ n, n < 8 → 1 ≤ rd [48, 300, 1024, 3000, 8000, 1500, 20, 1] ((n : Nat) : Int) ∧ rd [48, 300, 1024, 3000, 8000, 1500, 20, 1] ((n : Nat) : Int) ≤ 8000 := by decide +kernel

/-- What the reference makes of numbers: an allocator that may be made, its pages as many as there are where it is asked for. -/
theorem conf_at (n0 n1 n2 n3 : Int) (b : Bool) : ∃ p r l th ca ba sh rg mo fi ke, cubbyholeref38_Conf.f n0 n1 n2 n3 b = some (p, r, l, th, ca, ba, sh, rg, mo, fi, ke) ∧
    (b = true → p = 20 * r + l) ∧ (3 ≤ p ∧ p ≤ 300) ∧ (5 ≤ r ∧ r ≤ 8) ∧ (12 ≤ l ∧ l ≤ 75) ∧ (1 ≤ th ∧ th ≤ 4) ∧ (1 ≤ ba ∧ ba ≤ 8) ∧ (ba ≤ ca ∧ ca ≤ 15) ∧ (0 ≤ sh ∧ sh ≤ 3) ∧ (6 ≤ rg ∧ rg ≤ 13) ∧ (1 ≤ mo ∧ mo ≤ 8000) ∧ (0 ≤ fi ∧ fi ≤ 255) := by
  unfold cubbyholeref38_Conf.f
  simp only [and_3, and_63, and_7, and_255, and_16777215, Option.bind_some]
  rw [w64 (x := 5 + n0 % 4) (by omega), w64 (x := 12 + n0 / 4 % 64) (by omega), w64 (x := 1 + n1 % 4) (by omega), w64 (x := 1 + n1 / 4 % 8) (by omega), w64 (x := 1 + n1 / 4 % 8 + n1 / 128 % 8) (by omega), w64 (x := 6 + n2 % 8) (by omega), w64 (x := 20 * (5 + n0 % 4)) (by omega), w64 (x := 20 * (5 + n0 % 4) + (12 + n0 / 4 % 64)) (by omega), w64 (x := 3 + n3 / 16777216 % 64) (by omega)]
  obtain ⟨m, hm⟩ := Int.eq_ofNat_of_zero_le (show 0 ≤ n2 / 2048 % 8 by omega)
  have hm8 := most_at m (by omega)
  rw [hm, if_pos (by omega), if_pos (by simp; omega)]
  cases b
  · rw [if_neg (by decide)]
    exact ⟨_, _, _, _, _, _, _, _, _, _, _, rfl, by simp, by omega, by omega, by omega, by omega, by omega, by omega, by omega, by omega, hm8, by omega⟩
  · rw [if_pos rfl]
    exact ⟨_, _, _, _, _, _, _, _, _, _, _, rfl, fun _ => rfl, by omega, by omega, by omega, by omega, by omega, by omega, by omega, by omega, hm8, by omega⟩

theorem ConfCheck_awake : cubbyholelaw38_awake.f 30 = some true := by decide +kernel

theorem conf_fin (k : Nat) (hk : 40 ≤ k) (want p r l th ca ba sh rg mo fi ke : Int) (hr : -100000 ≤ r ∧ r ≤ 100000) (hl : -100000 ≤ l ∧ l ≤ 100000)
    (hw : Fine p r l th ca ba sh rg mo fi ∧ want = 0 ∨ ¬ Fine p r l th ca ba sh rg mo fi ∧ want = 1) : cubbyholelaw38_ConfCheck.j0 k true want p r l th ca ba sh rg mo fi ke = some true := by
  obtain ⟨k, rfl⟩ : ∃ m, k = m + 1 + 1 + 3 := ⟨k - 5, by omega⟩
  have ha := at_rounds (g := fun k => cubbyholelaw38_awake.f k) (fun k => cubbyholelaw38_awake.mono k) (show 30 ≤ k + 3 by omega) ConfCheck_awake
  have e : wrap64 (wrap64 (20 * r) + l) = 20 * r + l := by rw [w64 (x := 20 * r) (by omega), w64 (by omega)]
  rw [show k + 1 + 1 + 3 = k + 3 + 1 + 1 by omega, cubbyholelaw38_ConfCheck.j0, e]
  rcases hw with ⟨hf, rfl⟩ | ⟨hf, rfl⟩
  · have hc := check_fine k p r l th ca ba sh rg mo fi ke hf
    have ham : conf_Ample.f (k + 3) p r l th ca ba sh rg mo fi ke = some (decide (20 * r + l ≤ 1024) && decide (p ≥ 20 * r + l)) := by
      unfold conf_Ample.f conf_Small.f conf_Large.f
      rw [hc]
      simp only [Option.bind_some, e]
      by_cases c : 20 * r + l > 1024
      · rw [if_pos c, if_neg (by decide), decide_eq_false (show ¬ 20 * r + l ≤ 1024 by omega)]; rfl
      · rw [if_neg c, if_pos rfl, decide_eq_true (show 20 * r + l ≤ 1024 by omega)]; rfl
    rw [if_pos rfl]
    by_cases c : 20 * r + l > 1024
    · rw [decide_eq_true c, cubbyholelaw38_ConfCheck.j1, if_pos rfl, ha, Option.bind_some, if_pos rfl, if_pos rfl, hc, Option.bind_some, if_pos c, if_pos rfl, ham, Option.bind_some, if_neg (by decide), decide_eq_false (show ¬ 20 * r + l ≤ 1024 by omega)]
      rfl
    · rw [decide_eq_false c, cubbyholelaw38_ConfCheck.j1, if_neg (by decide), ha, Option.bind_some, if_pos rfl, if_pos rfl, hc, Option.bind_some, if_neg c, if_pos rfl, ham, Option.bind_some, if_pos rfl, e, decide_eq_true (show 20 * r + l ≤ 1024 by omega)]
      simp
  · have hc := check_not k p r l th ca ba sh rg mo fi ke hf
    have ham : conf_Ample.f (k + 3) p r l th ca ba sh rg mo fi ke = some false := by
      unfold conf_Ample.f
      rw [hc]; rfl
    rw [if_neg (by decide), cubbyholelaw38_ConfCheck.j1, if_neg (by decide), ha, Option.bind_some, if_pos rfl, if_pos rfl, hc, Option.bind_some, if_pos rfl, ham, Option.bind_some, if_neg (by decide)]
    rfl

theorem ite_ok {α : Type} {P : Prop} [Decidable P] {a b r : α} (h1 : P → a = r) (h2 : ¬ P → b = r) : (if P then a else b) = r := by
  split
  · exact h1 ‹_›
  · exact h2 ‹_›

def ConfCheck_Pure : Prop := ∀ (a0_0 a0_1 a0_2 a0_3 a1 a2 : Int), ∃ k, cubbyholelaw38_ConfCheck.f k a0_0 a0_1 a0_2 a0_3 a1 a2 = some true

theorem ConfCheck : ConfCheck_Pure := by
  intro n0 n1 n2 n3 odd x
  refine ⟨60, ?_⟩
  unfold cubbyholelaw38_ConfCheck.f
  obtain ⟨p, r, l, th, ca, ba, sh, rg, mo, fi, ke, hc, _, hp, hr, hl, hth, hba, hca, hsh, hrg, hmo, hfi⟩ := conf_at n0 n1 n2 n3 ((Go.bits .and .i64 odd 1) == 0)
  have hfine : Fine p r l th ca ba sh rg mo fi := ⟨by omega, by omega, by omega, by omega, by omega, by omega, by omega, by omega, by omega, by omega⟩
  have hck := check_fine 57 p r l th ca ba sh rg mo fi ke hfine
  rw [if_neg (by omega)] at hck
  rw [hc, Option.bind_some]
  simp only []
  rw [hck, Option.bind_some]
  simp only [and_31, and_65535, and_2047, and_15, and_63, and_127, and_1023, beq_self_eq_true]
  generalize (Int.tmod (odd / 2 % 32) 12) = c
  rw [w64 (x := x % 65536 - 5) (by omega), w64 (x := x % 65536 % 32 - 2) (by omega), w64 (x := x % 65536 % 2048 - 5) (by omega), w64 (x := x % 65536 % 16 - 2) (by omega), w64 (x := x % 65536 % 64 - 2) (by omega), w64 (x := x % 65536 % 128 - 2) (by omega), w64 (x := x % 65536 % 1024 - 5) (by omega)]
  unfold Fine at *
  repeat' (with_reducible refine ite_ok (fun _ => ?_) (fun _ => ?_))
  all_goals
    refine conf_fin 60 (by decide) _ _ _ _ _ _ _ _ _ _ _ _ ?_ ?_ ?_
    · omega
    · omega
    unfold Fine
    first
    | (refine Or.inl ⟨?_, rfl⟩; omega)
    | (refine Or.inr ⟨?_, rfl⟩; omega)

end Go.Proofs.Ytifakhddmlalcaa.Pure
namespace Go.Proofs.Ytifakhddmlalcaa.QConfCheck
open Go.RowKit Go.Proofs.YtifakhddmlalcaaW.PrintWords Go.Proofs.YtifakhddmlalcaaW.PrintLast

theorem cubbyholelaw38_ConfCheck.walk (P : Pure.ConfCheck_Pure) (a0_0 a0_1 a0_2 a0_3 a1 a2 : Int) (w : World) (_w0 : (Lit.int .i64 a0_0).wf = true) (_w1 : (Lit.int .i64 a0_1).wf = true) (_w2 : (Lit.int .i64 a0_2).wf = true) (_w3 : (Lit.int .i64 a0_3).wf = true) (_w4 : (Lit.int .i64 a1).wf = true) (_w5 : (Lit.int .i64 a2).wf = true) :
    Calls Try.prog 7 #[.agg #[.int .i64 a0_0, .int .i64 a0_1, .int .i64 a0_2, .int .i64 a0_3], .int .i64 a1, .int .i64 a2] w fun e w' => e = .returned (.bool true) ∧ Below w.heap.size w w' := by
  obtain ⟨k, h⟩ := P a0_0 a0_1 a0_2 a0_3 a1 a2
  refine (cubbyholelaw38_ConfCheck.calls k a0_0 a0_1 a0_2 a0_3 a1 a2 true ⟨rfl⟩ w h).mono ?_
  rintro e w' ⟨rfl, hd⟩
  exact ⟨rfl, hd⟩

end Go.Proofs.Ytifakhddmlalcaa.QConfCheck
