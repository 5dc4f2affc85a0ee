/- The plain statement of the law StatTexts is proved, and the walk of the law's call out of it: for all counts the law's Lean function answers true. Conditions: none beyond the numbers' kinds. -/
import Derived.Test.YtifakhddmlalcaaQStatTextsx2
import Derived.Test.YtifakhddmlalcaaOwnMask
namespace Go.Proofs.Ytifakhddmlalcaa.Pure
open Go.RowKit Go.Proofs.Ytifakhddmlalcaa.QStatTexts Go.Proofs.Ytifakhddmlalcaa.OwnMask Go.Proofs.YtifakhddmlalcaaW.PrintWords Go.Proofs.YtifakhddmlalcaaW.PrintLast Go.Proofs.YtifakhddmlalcaaW.PrintMore

theorem StatTexts_awake : cubbyholelaw39_awake.f 30 = some true := by decide +kernel

/-- The law's digits are the program's. -/
theorem digits_same (m : Nat) (hm : m ≤ 8) : ∀ (n k : Nat), n < 10 ^ (m + 1) → m + 1 < k → ∃ t, num_digits.f k (n : Int) = some t ∧ cubbyholelaw39_num.f k (n : Int) = some t ∧ t.size ≤ m + 1 := by
  have one : ∀ n k : Nat, n < 10 → num_digits.f (k + 1) (n : Int) = some (strOfNums [48 + (n : Int)]) ∧ cubbyholelaw39_num.f (k + 1) (n : Int) = some (strOfNums [48 + (n : Int)]) := by
    intro n k h
    constructor
    · rw [num_digits.f, if_pos (by omega), u64w (by omega), show (48 + (n : Int)) % 256 = 48 + n by omega]
    · rw [cubbyholelaw39_num.f, if_pos (by omega), w64 (by omega), show (48 + (n : Int)) % 256 = 48 + n by omega]
  have sz : ∀ x : Int, (strOfNums [x]).size = 1 := fun x => by rw [strOfNums_size]; rfl
  induction m with
  | zero =>
    intro n k h hk
    obtain ⟨k, rfl⟩ : ∃ j, k = j + 1 := ⟨k - 1, by omega⟩
    obtain ⟨h1, h2⟩ := one n k (by simpa using h)
    exact ⟨_, h1, h2, by rw [sz]; omega⟩
  | succ m ih =>
    intro n k h hk
    obtain ⟨k, rfl⟩ : ∃ j, k = j + 1 := ⟨k - 1, by omega⟩
    by_cases c : n < 10
    · obtain ⟨h1, h2⟩ := one n k c
      exact ⟨_, h1, h2, by rw [sz]; omega⟩
    · have hp : 10 ^ (m + 1 + 1) = 10 ^ (m + 1) * 10 := Nat.pow_succ ..
      have hp2 : 10 ^ (m + 1 + 1) ≤ 10 ^ 9 := Nat.pow_le_pow_right (by decide) (by omega)
      obtain ⟨t, h1, h2, h3⟩ := ih (by omega) (n / 10) k (by omega) (by omega)
      obtain ⟨k, rfl⟩ : ∃ j, k = j + 1 := ⟨k - 1, by omega⟩
      have e1 : IntKind.u64.wrap (Int.tdiv (n : Int) 10) = ((n / 10 : Nat) : Int) := by
        rw [Int.tdiv_eq_ediv_of_nonneg (by omega), u64w (by omega)]; omega
      have e2 : (IntKind.u64.wrap (48 + Int.tmod (n : Int) 10)) % 256 = 48 + ((n % 10 : Nat) : Int) := by
        rw [Int.tmod_eq_emod_of_nonneg (by omega), u64w (by omega)]; omega
      have e3 : wrap64 (Int.tdiv (n : Int) 10) = ((n / 10 : Nat) : Int) := by
        rw [Int.tdiv_eq_ediv_of_nonneg (by omega), w64 (by omega)]; omega
      have e4 : Int.tmod (n : Int) 10 = ((n % 10 : Nat) : Int) := by
        rw [Int.tmod_eq_emod_of_nonneg (by omega)]; omega
      have hs := sz (48 + ((n % 10 : Nat) : Int))
      refine ⟨t ++ strOfNums [48 + ((n % 10 : Nat) : Int)], ?_, ?_, ?_⟩
      · rw [num_digits.f, if_neg (by omega), e1, h1, Option.bind_some, e2, Option.bind_some, if_pos (by omega)]
      · rw [cubbyholelaw39_num.f, if_neg (by omega), e3, h2, Option.bind_some, e4, (one (n % 10) k (by omega)).2, Option.bind_some, if_pos (by omega)]
      · rw [ByteArray.size_append]; omega

theorem text_same (x : Int) (h0 : 0 ≤ x) (h1 : x < 65536) (k : Nat) (hk : 10 ≤ k) : ∃ t, num_Digits.f k x = some t ∧ cubbyholelaw39_num.f k x = some t ∧ t.size ≤ 9 := by
  obtain ⟨n, rfl⟩ := Int.eq_ofNat_of_zero_le h0
  obtain ⟨t, h2, h3, h4⟩ := digits_same 8 (by omega) n k (by omega) (by omega)
  refine ⟨t, ?_, h3, h4⟩
  unfold num_Digits.f
  rw [if_neg (by omega), u64w (by omega), h2]
  rfl

/-- The names between the numbers. -/
def names : List ByteArray := [⟨#[103, 111, 116, 32]⟩, ⟨#[32, 103, 105, 118, 101, 110, 32]⟩, ⟨#[32, 101, 110, 100, 101, 100, 32]⟩, ⟨#[32, 108, 105, 118, 101, 32]⟩, ⟨#[32, 112, 101, 97, 107, 32]⟩, ⟨#[32, 99, 108, 101, 97, 114, 32]⟩]
/-- The law's own line. -/
def lawLine (D : Nat → ByteArray) : Nat → ByteArray
  | 0 => ⟨#[]⟩
  | i + 1 => lawLine D i ++ (rdOf ByteArray.empty names (i : Int) ++ D i)
theorem name_0 : rdOf ByteArray.empty names 0 = nameOf 0 ++ ⟨#[32]⟩ := by decide +kernel
theorem name_i : ∀ i, i < 6 → 0 < i → rdOf ByteArray.empty names ((i : Nat) : Int) = ⟨#[32]⟩ ++ (nameOf i ++ ⟨#[32]⟩) := by decide +kernel
theorem name_size : ∀ i, i < 6 → (rdOf ByteArray.empty names ((i : Nat) : Int)).size ≤ 7 := by decide +kernel
theorem line_same (D : Nat → ByteArray) (i : Nat) : i ≤ 6 → lineOf D i = lawLine D i := by
  induction i with
  | zero => intro _; rfl
  | succ i ih =>
    intro h
    simp only [lineOf, lawLine]
    by_cases c : i = 0
    · subst c
      rw [if_pos rfl, show ((0 : Nat) : Int) = 0 from rfl, name_0, ih (by omega)]
    · rw [if_neg c, name_i i (by omega) (by omega), ih (by omega)]
      simp only [ByteArray.append_assoc]
theorem lawLine_size (D : Nat → ByteArray) (hD : ∀ i, (D i).size ≤ 9) (i : Nat) : i ≤ 6 → (lawLine D i).size ≤ i * 16 := by
  induction i with
  | zero => intro _; exact Nat.le_refl _
  | succ i ih =>
    intro h
    have h1 := ih (by omega)
    have h2 := hD i
    have h3 := name_size i (by omega)
    simp only [lawLine, ByteArray.size_append]
    omega

theorem loop_all (xs : List Int) (hlen : xs.length = 6) (D : Nat → ByteArray) (hD : ∀ i, (D i).size ≤ 9) (hn : ∀ i k : Nat, i < 6 → 10 ≤ k → cubbyholelaw39_num.f k (rd xs (i : Int)) = some (D i))
    (y0 y1 y2 y3 y4 y5 z0 z1 z2 z3 z4 z5 : Int) (d : Nat) : ∀ (i k : Nat), i + d = 6 → 10 ≤ k →
    cubbyholelaw39_StatTexts.l0 (k + d) xs (lawLine D i) (i : Int) y0 y1 y2 y3 y4 y5 z0 z1 z2 z3 z4 z5 = cubbyholelaw39_StatTexts.l0 k xs (lawLine D 6) 6 y0 y1 y2 y3 y4 y5 z0 z1 z2 z3 z4 z5 := by
  induction d with
  | zero =>
    intro i k hi hk
    obtain rfl : i = 6 := by omega
    rfl
  | succ d ih =>
    intro i k hi hk
    have e : wrap64 ((i : Int) + 1) = ((i + 1 : Nat) : Int) := by rw [w64 (by omega)]; rfl
    have hl : ((names.length : Nat) : Int) = 6 := rfl
    have h1 := lawLine_size D hD i (by omega)
    have h2 := hD i
    have h3 := name_size i (by omega)
    rw [← Nat.add_assoc, cubbyholelaw39_StatTexts.l0, if_pos (by omega)]
    have hx : (some (([(⟨#[103, 111, 116, 32]⟩ : ByteArray), (⟨#[32, 103, 105, 118, 101, 110, 32]⟩ : ByteArray), (⟨#[32, 101, 110, 100, 101, 100, 32]⟩ : ByteArray), (⟨#[32, 108, 105, 118, 101, 32]⟩ : ByteArray), (⟨#[32, 112, 101, 97, 107, 32]⟩ : ByteArray), (⟨#[32, 99, 108, 101, 97, 114, 32]⟩ : ByteArray)] : List ByteArray) : List ByteArray)) = some names := rfl
    rw [hx, Option.bind_some, if_pos (by omega), if_pos (by omega), if_pos (by omega), hn i (k + d) (by omega) (by omega), Option.bind_some, if_pos (by omega), if_pos (by rw [ByteArray.size_append]; omega), e]
    exact ih (i + 1) k (by omega) hk

def StatTexts_Pure : Prop := ∀ (a0 a1 a2 a3 a4 a5 : Int), ∃ k, cubbyholelaw39_StatTexts.f k a0 a1 a2 a3 a4 a5 = some true

theorem may_at (a b c d e f : Int) (hc : 0 ≤ c) (hd : 0 ≤ d) : stat_May.f a b c d e f = some (decide (c ≤ b ∧ b ≤ a ∧ d ≤ e) && decide (0 ≤ f)) := by
  unfold stat_May.f
  by_cases c1 : c ≤ b <;> by_cases c2 : b ≤ a <;> by_cases c3 : d ≤ e <;> simp [hc, hd, c1, c2, c3]

theorem StatTexts : StatTexts_Pure := by
  intro a0 a1 a2 a3 a4 a5
  refine ⟨46, ?_⟩
  unfold cubbyholelaw39_StatTexts.f
  simp only [and_65535]
  obtain ⟨x0, e0, l0, u0⟩ : ∃ x, a0 % 65536 = x ∧ 0 ≤ x ∧ x < 65536 := ⟨_, rfl, by omega, by omega⟩
  obtain ⟨x1, e1, l1, u1⟩ : ∃ x, a1 % 65536 = x ∧ 0 ≤ x ∧ x < 65536 := ⟨_, rfl, by omega, by omega⟩
  obtain ⟨x2, e2, l2, u2⟩ : ∃ x, a2 % 65536 = x ∧ 0 ≤ x ∧ x < 65536 := ⟨_, rfl, by omega, by omega⟩
  obtain ⟨x3, e3, l3, u3⟩ : ∃ x, a3 % 65536 = x ∧ 0 ≤ x ∧ x < 65536 := ⟨_, rfl, by omega, by omega⟩
  obtain ⟨x4, e4, l4, u4⟩ : ∃ x, a4 % 65536 = x ∧ 0 ≤ x ∧ x < 65536 := ⟨_, rfl, by omega, by omega⟩
  obtain ⟨x5, e5, l5, u5⟩ : ∃ x, a5 % 65536 = x ∧ 0 ≤ x ∧ x < 65536 := ⟨_, rfl, by omega, by omega⟩
  rw [e0, e1, e2, e3, e4, e5]
  obtain ⟨d0, p0, q0, s0⟩ := text_same x0 l0 u0 10 (by decide)
  obtain ⟨d1, p1, q1, s1⟩ := text_same x1 l1 u1 10 (by decide)
  obtain ⟨d2, p2, q2, s2⟩ := text_same x2 l2 u2 10 (by decide)
  obtain ⟨d3, p3, q3, s3⟩ := text_same x3 l3 u3 10 (by decide)
  obtain ⟨d4, p4, q4, s4⟩ := text_same x4 l4 u4 10 (by decide)
  obtain ⟨d5, p5, q5, s5⟩ := text_same x5 l5 u5 10 (by decide)
  have hD : ∀ i, (six d0 d1 d2 d3 d4 d5 i).size ≤ 9 := by
    intro i
    unfold six
    split <;> assumption
  have up : ∀ (x : Int) (d : ByteArray) (k : Nat), 10 ≤ k → cubbyholelaw39_num.f 10 x = some d → cubbyholelaw39_num.f k x = some d := fun x d k hk h => at_rounds (g := fun k => cubbyholelaw39_num.f k x) (fun k => cubbyholelaw39_num.mono x k) hk h
  have up2 : ∀ (x : Int) (d : ByteArray) (k : Nat), 10 ≤ k → num_Digits.f 10 x = some d → num_Digits.f k x = some d := fun x d k hk h => at_rounds (g := fun k => num_Digits.f k x) (fun k => num_Digits.mono x k) hk h
  have hn : ∀ i k : Nat, i < 6 → 10 ≤ k → cubbyholelaw39_num.f k (rd [x0, x1, x2, x3, x4, x5] (i : Int)) = some (six d0 d1 d2 d3 d4 d5 i) := by
    intro i k hi hk
    match i, hi with
    | 0, _ => exact up _ _ k hk q0
    | 1, _ => exact up _ _ k hk q1
    | 2, _ => exact up _ _ k hk q2
    | 3, _ => exact up _ _ k hk q3
    | 4, _ => exact up _ _ k hk q4
    | 5, _ => exact up _ _ k hk q5
  have hloop := loop_all [x0, x1, x2, x3, x4, x5] rfl (six d0 d1 d2 d3 d4 d5) hD hn a0 a1 a2 a3 a4 a5 x0 x1 x2 x3 x4 x5 6 0 40 (by omega) (by omega)
  refine hloop.trans ?_
  have ha := at_rounds (g := fun k => cubbyholelaw39_awake.f k) (fun k => cubbyholelaw39_awake.mono k) (show 30 ≤ 38 by decide) StatTexts_awake
  have htext : stat_Text.f 38 x0 x1 x2 x3 x4 x5 = some (lineOf (six d0 d1 d2 d3 d4 d5) 6) := by
    unfold stat_Text.f
    rw [up2 _ _ 38 (by decide) p0, Option.bind_some, up2 _ _ 38 (by decide) p1, Option.bind_some, up2 _ _ 38 (by decide) p2, Option.bind_some, up2 _ _ 38 (by decide) p3, Option.bind_some, up2 _ _ 38 (by decide) p4, Option.bind_some, up2 _ _ 38 (by decide) p5, Option.bind_some, if_pos (by omega)]
  have fin : ∀ b, b = decide (x2 ≤ x1 ∧ x1 ≤ x0 ∧ x3 ≤ x4) → cubbyholelaw39_StatTexts.j1 39 (lawLine (six d0 d1 d2 d3 d4 d5) 6) b a0 a1 a2 a3 a4 a5 x0 x1 x2 x3 x4 x5 = some true := by
    rintro b rfl
    rw [cubbyholelaw39_StatTexts.j1, ha, Option.bind_some, if_pos rfl, htext, Option.bind_some, line_same _ 6 (by omega), if_pos rfl, may_at _ _ _ _ _ _ l2 l3, Option.bind_some, decide_eq_true l5, Bool.and_true, if_pos (by simp), and_255, w64 (by omega), may_at _ _ _ _ _ _ l2 l3, decide_eq_false (show ¬ 0 ≤ -1 - a5 % 256 by omega)]
    simp
  rw [cubbyholelaw39_StatTexts.l0, if_neg (by decide)]
  by_cases c1 : x2 ≤ x1
  · rw [if_pos c1]
    by_cases c2 : x1 ≤ x0
    · rw [if_pos c2]; exact fin _ (by simp [c1, c2])
    · rw [if_neg c2]; exact fin _ (by simp [c2])
  · rw [if_neg c1]; exact fin _ (by simp [c1])

end Go.Proofs.Ytifakhddmlalcaa.Pure
namespace Go.Proofs.Ytifakhddmlalcaa.QStatTexts
open Go.RowKit Go.Proofs.YtifakhddmlalcaaW.PrintWords Go.Proofs.YtifakhddmlalcaaW.PrintLast

theorem cubbyholelaw39_StatTexts.walk (P : Pure.StatTexts_Pure) (a0 a1 a2 a3 a4 a5 : Int) (w : World) (_w0 : (Lit.int .i64 a0).wf = true) (_w1 : (Lit.int .i64 a1).wf = true) (_w2 : (Lit.int .i64 a2).wf = true) (_w3 : (Lit.int .i64 a3).wf = true) (_w4 : (Lit.int .i64 a4).wf = true) (_w5 : (Lit.int .i64 a5).wf = true) :
    Calls Try.prog 4 #[.agg #[.int .i64 a0, .int .i64 a1, .int .i64 a2, .int .i64 a3, .int .i64 a4, .int .i64 a5]] w fun e w' => e = .returned (.bool true) ∧ Below w.heap.size w w' := by
  obtain ⟨k, h⟩ := P a0 a1 a2 a3 a4 a5
  refine (cubbyholelaw39_StatTexts.calls k a0 a1 a2 a3 a4 a5 true ⟨rfl⟩ w h).mono ?_
  rintro e w' ⟨rfl, hd⟩
  exact ⟨rfl, hd⟩

end Go.Proofs.Ytifakhddmlalcaa.QStatTexts
