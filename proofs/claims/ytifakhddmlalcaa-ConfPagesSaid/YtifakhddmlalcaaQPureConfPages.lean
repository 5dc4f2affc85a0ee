/- The plain statement of the law ConfPages is proved, and the walk of the law's call out of it: for all numbers the law's Lean function answers true. Conditions: none beyond the numbers' kinds. -/
import Derived.Test.YtifakhddmlalcaaQConfPagesx6
import Derived.Test.YtifakhddmlalcaaOwnMask
namespace Go.Proofs.Ytifakhddmlalcaa.Pure
open Go.RowKit Go.Proofs.Ytifakhddmlalcaa.QConfPages Go.Proofs.Ytifakhddmlalcaa.OwnMask Go.Proofs.YtifakhddmlalcaaW.PrintWords Go.Proofs.YtifakhddmlalcaaW.PrintLast Go.Proofs.YtifakhddmlalcaaW.PrintMore

theorem in_at (a b c : Int) : conf_in.f a b c = some (decide (b ≤ a ∧ a ≤ c)) := by
  unfold conf_in.f
  by_cases h : a ≥ b
  · rw [if_pos h]
    simp only [Option.some.injEq, decide_eq_decide]
    omega
  · rw [if_neg h]
    simp only [Option.some.injEq]
    rw [decide_eq_false (by omega)]

/-- An allocator that may be made, but for the sum of its pages. -/
def Fine (p r l th ca ba sh rg mo fi : Int) : Prop :=
  (1 ≤ p ∧ p ≤ 1024) ∧ (5 ≤ r ∧ r ≤ 16) ∧ (0 ≤ l ∧ l ≤ 1024) ∧ (1 ≤ th ∧ th ≤ 8) ∧ (1 ≤ ba ∧ ba ≤ 16) ∧ (ba ≤ ca ∧ ca ≤ 32) ∧ (0 ≤ sh ∧ sh ≤ 16) ∧ (1 ≤ rg ∧ rg ≤ 64) ∧ (1 ≤ mo ∧ mo ≤ 16384) ∧ (0 ≤ fi ∧ fi ≤ 255)

theorem check_fine (k : Nat) (p r l th ca ba sh rg mo fi ke : Int) (h : Fine p r l th ca ba sh rg mo fi) : conf_Check.f (k + 3) p r l th ca ba sh rg mo fi ke = some (if 20 * r + l > 1024 then 4 else 0) := by
  obtain ⟨h0, h1, h2, h3, h4, h5, h6, h7, h8, h9⟩ := h
  have e : wrap64 (wrap64 (20 * r) + l) = 20 * r + l := by rw [w64 (x := 20 * r) (by omega), w64 (by omega)]
  unfold conf_Check.f
  rw [in_at, in_at, in_at, in_at, decide_eq_true h0, decide_eq_true h1, decide_eq_true h2, decide_eq_true h3]
  simp only [Option.bind_some, if_true, conf_Check.j0, conf_Check.j1, conf_Check.j2]
  rw [in_at, in_at, in_at, in_at, in_at, in_at, decide_eq_true h4, decide_eq_true h5, decide_eq_true h6, decide_eq_true h7, decide_eq_true h8, decide_eq_true h9]
  unfold conf_Small.f conf_Large.f
  simp only [Option.bind_some, if_true, e]
  split <;> rfl

theorem check_not (k : Nat) (p r l th ca ba sh rg mo fi ke : Int) (h : ¬ Fine p r l th ca ba sh rg mo fi) : conf_Check.f (k + 3) p r l th ca ba sh rg mo fi ke = some 1 := by
  unfold conf_Check.f
  simp only [in_at, Option.bind_some, conf_Check.j0, conf_Check.j1, conf_Check.j2]
  by_cases h0 : 1 ≤ p ∧ p ≤ 1024
  · by_cases h1 : 5 ≤ r ∧ r ≤ 16
    · by_cases h2 : 0 ≤ l ∧ l ≤ 1024
      · by_cases h3 : 1 ≤ th ∧ th ≤ 8
        · by_cases h4 : 1 ≤ ba ∧ ba ≤ 16
          · by_cases h5 : ba ≤ ca ∧ ca ≤ 32
            · by_cases h6 : 0 ≤ sh ∧ sh ≤ 16
              · by_cases h7 : 1 ≤ rg ∧ rg ≤ 64
                · by_cases h8 : 1 ≤ mo ∧ mo ≤ 16384
                  · by_cases h9 : 0 ≤ fi ∧ fi ≤ 255
                    · exact absurd ⟨h0, h1, h2, h3, h4, h5, h6, h7, h8, h9⟩ h
                    · simp [h0, h1, h2, h3, h4, h5, h6, h7, h8, h9]
                  · simp [h0, h1, h2, h3, h4, h5, h6, h7, h8]
                · simp [h0, h1, h2, h3, h4, h5, h6, h7]
              · simp [h0, h1, h2, h3, h4, h5, h6]
            · simp [h0, h1, h2, h3, h4, h5]
          · simp [h0, h1, h2, h3, h4]
        · simp [h0, h1, h2, h3]
      · simp [h0, h1, h2]
    · simp [h0, h1]
  · simp [h0]

theorem most_at : ∀ n, n < 8 → 1 ≤ rd [48, 300, 1024, 3000, 8000, 1500, 20, 1] ((n : Nat) : Int) ∧ rd [48, 300, 1024, 3000, 8000, 1500, 20, 1] ((n : Nat) : Int) ≤ 8000 := by decide +kernel

/-- What the reference makes of numbers: an allocator that may be made, its pages as many as there are where it is asked for. -/
theorem conf_at (n0 n1 n2 n3 : Int) (b : Bool) : ∃ p r l th ca ba sh rg mo fi ke, cubbyholeref38_Conf.f n0 n1 n2 n3 b = some (p, r, l, th, ca, ba, sh, rg, mo, fi, ke) ∧
    (b = true → p = 20 * r + l) ∧ (3 ≤ p ∧ p ≤ 300) ∧ (5 ≤ r ∧ r ≤ 8) ∧ (12 ≤ l ∧ l ≤ 75) ∧ (1 ≤ th ∧ th ≤ 4) ∧ (1 ≤ ba ∧ ba ≤ 8) ∧ (ba ≤ ca ∧ ca ≤ 15) ∧ (0 ≤ sh ∧ sh ≤ 3) ∧ (6 ≤ rg ∧ rg ≤ 13) ∧ (1 ≤ mo ∧ mo ≤ 8000) ∧ (0 ≤ fi ∧ fi ≤ 255) := by
  unfold cubbyholeref38_Conf.f
  simp only [and_3, and_63, and_7, and_255, and_16777215, Option.bind_some]
  rw [w64 (x := 5 + n0 % 4) (by omega), w64 (x := 12 + n0 / 4 % 64) (by omega), w64 (x := 1 + n1 % 4) (by omega), w64 (x := 1 + n1 / 4 % 8) (by omega), w64 (x := 1 + n1 / 4 % 8 + n1 / 128 % 8) (by omega), w64 (x := 6 + n2 % 8) (by omega), w64 (x := 20 * (5 + n0 % 4)) (by omega), w64 (x := 20 * (5 + n0 % 4) + (12 + n0 / 4 % 64)) (by omega), w64 (x := 3 + n3 / 16777216 % 64) (by omega)]
  obtain ⟨m, hm⟩ := Int.eq_ofNat_of_zero_le (show 0 ≤ n2 / 2048 % 8 by omega)
  have hm8 := most_at m (by omega)
  rw [hm, if_pos (by omega), if_pos (by simp; omega)]
  cases b
  · rw [if_neg (by decide)]
    exact ⟨_, _, _, _, _, _, _, _, _, _, _, rfl, by simp, by omega, by omega, by omega, by omega, by omega, by omega, by omega, by omega, hm8, by omega⟩
  · rw [if_pos rfl]
    exact ⟨_, _, _, _, _, _, _, _, _, _, _, rfl, fun _ => rfl, by omega, by omega, by omega, by omega, by omega, by omega, by omega, by omega, hm8, by omega⟩

/-- All classes' bytes. -/
def sizes : List Int := [16, 32, 48, 64, 80, 96, 112, 128, 160, 192, 224, 256, 320, 384, 448, 512, 640, 768, 896, 1024]
theorem ConfPages_awake : cubbyholelaw38_awake.f 30 = some true := by decide +kernel
theorem of_in : ∀ n, n < 20 → class_Of.f 30 ((n : Nat) : Int) = some (rd sizes n) ∧ 16 ≤ rd sizes ((n : Nat) : Int) ∧ rd sizes ((n : Nat) : Int) ≤ 1024 := by decide +kernel
theorem of_out (x : Int) (h : x < 0 ∨ 20 ≤ x) (k : Nat) : class_Of.f (k + 1) x = some 0 := by
  unfold class_Of.f
  by_cases c : x < 0
  · rw [if_pos c]; rfl
  · rw [if_neg c, decide_eq_true (by omega)]; rfl

/-- How many chunks of a class there are. -/
def fits (x r : Int) : Int := if 0 ≤ x ∧ x < 20 then r * 256 / (rd sizes x + 16) else 0

theorem fit_at (x r : Int) (hr : 5 ≤ r ∧ r ≤ 8) (k : Nat) (hk : 30 ≤ k) : class_Fit.f k x r = some (fits x r) := by
  unfold class_Fit.f class_Block.f fits
  by_cases c : 0 ≤ x ∧ x < 20
  · obtain ⟨n, rfl⟩ := Int.eq_ofNat_of_zero_le c.1
    obtain ⟨h1, h2, h3⟩ := of_in n (by omega)
    have h1' := at_rounds (g := fun k => class_Of.f k (n : Int)) (fun k => class_Of.mono _ k) hk h1
    generalize rd sizes (n : Int) = z at *
    have q0 : 0 ≤ r * 256 / (16 + z) := Int.ediv_nonneg (by omega) (by omega)
    have q1 : r * 256 / (16 + z) ≤ r * 256 := Int.ediv_le_self _ (by omega)
    rw [if_pos c, h1', Option.bind_some, if_neg (by omega), Option.bind_some, w64 (x := 16 + z) (by omega), Option.bind_some, if_neg (by omega), if_neg (by omega), if_neg (by omega), w64 (x := r * 256) (by omega), Int.tdiv_eq_ediv_of_nonneg (by omega), w64 (by omega), Int.add_comm z 16]
  · obtain ⟨k, rfl⟩ : ∃ m, k = m + 1 := ⟨k - 1, by omega⟩
    rw [if_neg c, of_out x (by omega), Option.bind_some, if_pos rfl, Option.bind_some, if_pos rfl]

section
variable (p r l th ca ba sh rg mo fi ke : Int) (hf : Fine p r l th ca ba sh rg mo fi) (hr : 5 ≤ r ∧ r ≤ 8) (hl : 12 ≤ l ∧ l ≤ 75)
include hf hr hl

theorem check_ok (k : Nat) (hk : 5 ≤ k) : conf_Check.f k p r l th ca ba sh rg mo fi ke = some 0 := by
  obtain ⟨k, rfl⟩ : ∃ m, k = m + 3 := ⟨k - 3, by omega⟩
  rw [check_fine k p r l th ca ba sh rg mo fi ke hf, if_neg (by omega)]

theorem of_bad (k : Nat) (hk : 5 ≤ k) (x : Int) (h : x < 0 ∨ 262144 ≤ x) : conf_Of.f k p r l th ca ba sh rg mo fi ke x = some (0, false) := by
  unfold conf_Of.f
  rw [check_ok p r l th ca ba sh rg mo fi ke hf hr hl k hk, Option.bind_some, if_pos rfl]
  obtain ⟨k, rfl⟩ : ∃ m, k = m + 1 := ⟨k - 1, by omega⟩
  by_cases c : x < 0
  · rw [if_pos c]; rfl
  · rw [if_neg c, decide_eq_true (by omega)]; rfl

theorem of_good (k : Nat) (hk : 5 ≤ k) (x : Int) (h0 : 0 ≤ x) (h1 : x < 262144) : conf_Of.f k p r l th ca ba sh rg mo fi ke x = some (if x / 256 < 20 * r then (x / 256 / r, true) else (-1, decide (x / 256 < 20 * r + l))) := by
  unfold conf_Of.f
  rw [check_ok p r l th ca ba sh rg mo fi ke hf hr hl k hk, Option.bind_some, if_pos rfl, if_neg (by omega), decide_eq_false (by omega)]
  obtain ⟨k, rfl⟩ : ∃ m, k = m + 1 := ⟨k - 1, by omega⟩
  have e : wrap64 (Int.tdiv x 256) = x / 256 := by rw [Int.tdiv_eq_ediv_of_nonneg h0, w64 (by omega)]
  rw [conf_Of.j0, if_neg (by decide)]
  unfold conf_Small.f
  rw [Option.bind_some, Option.bind_some, e, w64 (x := 20 * r) (by omega)]
  simp only []
  by_cases c : x / 256 < 20 * r
  · have q0 : 0 ≤ x / 256 / r := Int.ediv_nonneg (by omega) (by omega)
    have q1 : x / 256 / r ≤ x / 256 := Int.ediv_le_self _ (by omega)
    rw [if_pos c, if_pos c, if_neg (by omega), Int.tdiv_eq_ediv_of_nonneg (by omega), w64 (by omega)]
  · rw [if_neg c, if_neg c, w64 (x := 20 * r + l) (by omega)]

theorem pages_j0 (x y : Int) (h0 : 0 ≤ x) (h1 : x < 262144) : cubbyholelaw38_ConfPages.j0 60 y x (if x / 256 < 20 * r then x / 256 / r else -1) (decide (x / 256 < 20 * r + l)) p r l th ca ba sh rg mo fi ke = some true := by
  have e20 : wrap64 (20 * r) = 20 * r := w64 (by omega)
  have fin : ∀ fit, fit = fits y r → cubbyholelaw38_ConfPages.j2 58 y (if x / 256 < 20 * r then x / 256 / r else -1) (decide (x / 256 < 20 * r + l)) (if x / 256 < 20 * r then (x / 256 / r, true) else ((-1 : Int), decide (x / 256 < 20 * r + l))).1 (if x / 256 < 20 * r then (x / 256 / r, true) else ((-1 : Int), decide (x / 256 < 20 * r + l))).2 0 false 0 false fit p r l th ca ba sh rg mo fi ke = some true := by
    rintro fit rfl
    have ha := at_rounds (g := fun k => cubbyholelaw38_awake.f k) (fun k => cubbyholelaw38_awake.mono k) (show 30 ≤ 57 by decide) ConfPages_awake
    have hfit : conf_Fit.f 57 p r l th ca ba sh rg mo fi ke y = some (fits y r) := by
      unfold conf_Fit.f
      rw [check_ok p r l th ca ba sh rg mo fi ke hf hr hl 57 (by decide), Option.bind_some, if_pos rfl, fit_at y r hr 57 (by decide)]; rfl
    have hz : conf_Fit.f 57 0 0 0 0 0 0 0 0 0 0 0 0 = some 0 := by
      unfold conf_Fit.f
      rw [show (57 : Nat) = 54 + 3 from rfl, check_not 54 0 0 0 0 0 0 0 0 0 0 0 (by unfold Fine; omega)]; rfl
    rw [cubbyholelaw38_ConfPages.j2]
    unfold conf_Small.f conf_Large.f
    rw [ha, Option.bind_some, if_pos rfl]
    have hfst : (if x / 256 < 20 * r then (x / 256 / r, true) else ((-1 : Int), decide (x / 256 < 20 * r + l))).1 = (if x / 256 < 20 * r then x / 256 / r else -1) := by split <;> rfl
    have hsnd : (if x / 256 < 20 * r then (x / 256 / r, true) else ((-1 : Int), decide (x / 256 < 20 * r + l))).2 = decide (x / 256 < 20 * r + l) := by
      split
      · rw [decide_eq_true (by omega)]
      · rfl
    rw [hfst, hsnd, if_pos rfl, if_pos (by simp), if_pos rfl, if_neg (by decide), if_pos rfl, if_neg (by decide), hfit, Option.bind_some, if_pos rfl, hz, Option.bind_some, if_pos rfl, Option.bind_some, if_pos (by simp), Option.bind_some]
    simp
  have eneg : wrap64 (-1 - x) = -1 - x := w64 (by omega)
  have epos : wrap64 (262144 + x) = 262144 + x := w64 (by omega)
  have j1 : ∀ b, b = decide (0 ≤ y ∧ y < 20) → cubbyholelaw38_ConfPages.j1 59 y (if x / 256 < 20 * r then x / 256 / r else -1) (decide (x / 256 < 20 * r + l)) (if x / 256 < 20 * r then (x / 256 / r, true) else ((-1 : Int), decide (x / 256 < 20 * r + l))).1 (if x / 256 < 20 * r then (x / 256 / r, true) else ((-1 : Int), decide (x / 256 < 20 * r + l))).2 0 false 0 false 0 b p r l th ca ba sh rg mo fi ke = some true := by
    rintro b rfl
    rw [cubbyholelaw38_ConfPages.j1]
    by_cases c : 0 ≤ y ∧ y < 20
    · obtain ⟨n, rfl⟩ := Int.eq_ofNat_of_zero_le c.1
      obtain ⟨_, h2, h3⟩ := of_in n (by omega)
      rw [decide_eq_true c, if_pos rfl, show cubbyholeref16_Sizes.f = some sizes from rfl, Option.bind_some, if_pos c.1, if_pos (by simpa [sizes] using c.2)]
      have hfit : fits (n : Int) r = r * 256 / (rd sizes (n : Int) + 16) := by unfold fits; rw [if_pos c]
      rw [← show fits (n : Int) r = wrap64 (Int.tdiv (wrap64 (r * 256)) (wrap64 (rd sizes (n : Int) + 16))) from ?_]
      · generalize rd sizes (n : Int) = z at *
        rw [w64 (x := z + 16) (by omega), if_neg (by omega)]
        exact fin _ rfl
      · rw [hfit]
        generalize rd sizes (n : Int) = z at *
        have q0 : 0 ≤ r * 256 / (z + 16) := Int.ediv_nonneg (by omega) (by omega)
        have q1 : r * 256 / (z + 16) ≤ r * 256 := Int.ediv_le_self _ (by omega)
        rw [w64 (x := z + 16) (by omega), w64 (x := r * 256) (by omega), Int.tdiv_eq_ediv_of_nonneg (by omega), w64 (by omega)]
    · rw [decide_eq_false c, if_neg (by decide)]
      exact fin 0 (by unfold fits; rw [if_neg c])
  rw [cubbyholelaw38_ConfPages.j0, of_good p r l th ca ba sh rg mo fi ke hf hr hl 59 (by decide) x h0 h1, Option.bind_some, eneg, of_bad p r l th ca ba sh rg mo fi ke hf hr hl 59 (by decide) _ (by omega), Option.bind_some, epos, of_bad p r l th ca ba sh rg mo fi ke hf hr hl 59 (by decide) _ (by omega), Option.bind_some]
  by_cases c : y ≥ 0
  · rw [if_pos c]
    exact j1 _ (by simp only [decide_eq_decide]; omega)
  · rw [if_neg c]
    exact j1 _ (by rw [decide_eq_false (by omega)])
end

def ConfPages_Pure : Prop := ∀ (a0_0 a0_1 a0_2 a0_3 a1 a2 : Int), ∃ k, cubbyholelaw38_ConfPages.f k a0_0 a0_1 a0_2 a0_3 a1 a2 = some true

theorem ConfPages : ConfPages_Pure := by
  intro n0 n1 n2 n3 at_ y
  refine ⟨60, ?_⟩
  unfold cubbyholelaw38_ConfPages.f
  obtain ⟨p, r, l, th, ca, ba, sh, rg, mo, fi, ke, hc, _, hp, hr, hl, hth, hba, hca, hsh, hrg, hmo, hfi⟩ := conf_at n0 n1 n2 n3 true
  have hfine : Fine p r l th ca ba sh rg mo fi := ⟨by omega, by omega, by omega, by omega, by omega, by omega, by omega, by omega, by omega, by omega⟩
  rw [hc, Option.bind_some]
  simp only [and_262143]
  obtain ⟨x, hx, h0, h1⟩ : ∃ x, at_ % 262144 = x ∧ 0 ≤ x ∧ x < 262144 := ⟨_, rfl, by omega, by omega⟩
  have e : wrap64 (Int.tdiv x 256) = x / 256 := by rw [Int.tdiv_eq_ediv_of_nonneg h0, w64 (by omega)]
  rw [hx, e, w64 (x := 20 * r) (by omega), w64 (x := 20 * r + l) (by omega)]
  have h := pages_j0 p r l th ca ba sh rg mo fi ke hfine hr hl x y h0 h1
  by_cases c : x / 256 < 20 * r
  · have q0 : 0 ≤ x / 256 / r := Int.ediv_nonneg (by omega) (by omega)
    have q1 : x / 256 / r ≤ x / 256 := Int.ediv_le_self _ (by omega)
    rw [if_pos c] at h
    rw [if_pos c, if_neg (by omega), Int.tdiv_eq_ediv_of_nonneg (by omega), w64 (x := x / 256 / r) (by omega)]
    exact h
  · rw [if_neg c] at h
    rw [if_neg c]
    exact h

end Go.Proofs.Ytifakhddmlalcaa.Pure
namespace Go.Proofs.Ytifakhddmlalcaa.QConfPages
open Go.RowKit Go.Proofs.YtifakhddmlalcaaW.PrintWords Go.Proofs.YtifakhddmlalcaaW.PrintLast

theorem cubbyholelaw38_ConfPages.walk (P : Pure.ConfPages_Pure) (a0_0 a0_1 a0_2 a0_3 a1 a2 : Int) (w : World) (_w0 : (Lit.int .i64 a0_0).wf = true) (_w1 : (Lit.int .i64 a0_1).wf = true) (_w2 : (Lit.int .i64 a0_2).wf = true) (_w3 : (Lit.int .i64 a0_3).wf = true) (_w4 : (Lit.int .i64 a1).wf = true) (_w5 : (Lit.int .i64 a2).wf = true) :
    Calls Try.prog 12 #[.agg #[.int .i64 a0_0, .int .i64 a0_1, .int .i64 a0_2, .int .i64 a0_3], .int .i64 a1, .int .i64 a2] w fun e w' => e = .returned (.bool true) ∧ Below w.heap.size w w' := by
  obtain ⟨k, h⟩ := P a0_0 a0_1 a0_2 a0_3 a1 a2
  refine (cubbyholelaw38_ConfPages.calls k a0_0 a0_1 a0_2 a0_3 a1 a2 true ⟨rfl⟩ w h).mono ?_
  rintro e w' ⟨rfl, hd⟩
  exact ⟨rfl, hd⟩

end Go.Proofs.Ytifakhddmlalcaa.QConfPages
