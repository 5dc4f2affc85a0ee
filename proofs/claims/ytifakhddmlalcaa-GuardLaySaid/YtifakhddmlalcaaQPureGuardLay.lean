/- The plain statement of the law GuardLay is proved: for every first, n and align the law's Lean function answers true. Conditions: those of the statement. -/
import Derived.Test.YtifakhddmlalcaaQGuardLayx3
import Derived.Test.YtifakhddmlalcaaOwnMask
import Derived.OpenShut
namespace Go.Proofs.Ytifakhddmlalcaa.Pure
open Go.RowKit Go.Proofs.Ytifakhddmlalcaa.QGuardLay Go.Proofs.Ytifakhddmlalcaa.OwnMask Go.Proofs.YtifakhddmlalcaaW.PrintWords Go.Proofs.YtifakhddmlalcaaW.PrintLast Go.Proofs.YtifakhddmlalcaaW.PrintMore

/-- What is known of an alignment that is a power of two of at most 256. -/
def known (a : Int) : Bool :=
  num_Power.f a == some true && decide (1 ≤ a) && decide (a ≤ 256) && num_Up.f 16 a == some (mx a 16) && decide (mx a 16 % a = 0) && decide (256 % a = 0) && decide (16 ≤ mx a 16) && decide (mx a 16 ≤ 256) && decide (mx a 16 % 16 = 0)

theorem known_all : ∀ n, n < 9 → known (shl .i64 1 (IntKind.u64.wrap ((n : Nat) : Int))) = true := by decide +kernel
theorem GuardLay_awake : cubbyholelaw29_awake.f 30 = some true := by decide +kernel

theorem need_mid (k : Nat) (x a : Int) (hp : num_Power.f a = some true) (hx : 1 ≤ x) (hx2 : x ≤ 16384) (h2 : a ≤ 256) (hu : num_Up.f 16 a = some (mx a 16)) (h16 : 16 ≤ mx a 16) (h256 : mx a 16 ≤ 256) :
    guard_Need.f (k + 1) x a = some ((mx a 16 + x - 1) / 256 + 1, 0) := by
  unfold guard_Need.f
  rw [if_neg (by omega), hp, Option.bind_some, if_pos rfl, decide_eq_false (by omega)]
  simp only [guard_Need.j0]
  rw [if_neg (by decide), if_neg (by omega), hu, Option.bind_some]
  generalize mx a 16 = o at *
  unfold num_Parts.f
  rw [w64 (x := o + x) (by omega), if_neg (by omega), if_neg (by decide), if_neg (by decide), w64 (x := o + x - 1) (by omega), Int.tdiv_eq_ediv_of_nonneg (by omega), w64 (x := (o + x - 1) / 256) (by omega), w64 (by omega)]
  rfl

theorem mul_mod (a b c : Int) (h : b % a = 0) : (c * b) % a = 0 := Int.emod_eq_zero_of_dvd (Int.dvd_mul_of_dvd_right (Int.dvd_of_emod_eq_zero h))

theorem GuardLay_any (k : Nat) (hk : 40 ≤ k) (a0 x a : Int) (w0 : -9223372036854775808 ≤ a0 ∧ a0 ≤ 9223372036854775807) (hx : 1 ≤ x) (hx2 : x ≤ 16384) (ha : known a = true) :
    ((guard_Need.f k x a).bind fun bt124 => ((guard_Lay.f k a0 x a).bind fun bt126 => (if a0 < 0 then (cubbyholelaw29_GuardLay.j0 k a0 x a bt124.1 bt126.2.2.2.2 true bt126.1 bt126.2.1 bt126.2.2.1 bt126.2.2.2.1) else (cubbyholelaw29_GuardLay.j0 k a0 x a bt124.1 bt126.2.2.2.2 (decide (a0 > (wrap64 ((wrap64 (1024 - bt124.1)) - 2)))) bt126.1 bt126.2.1 bt126.2.2.1 bt126.2.2.2.1)))) = some true := by
  obtain ⟨k, rfl⟩ : ∃ m, k = m + 1 := ⟨k - 1, by omega⟩
  have haw := at_rounds (g := fun k => cubbyholelaw29_awake.f k) (fun k => cubbyholelaw29_awake.mono k) (show 30 ≤ k by omega) GuardLay_awake
  unfold known at ha
  simp only [Bool.and_eq_true, beq_iff_eq, decide_eq_true_eq] at ha
  obtain ⟨⟨⟨⟨⟨⟨⟨⟨hp, h1⟩, h2⟩, hu⟩, hoa⟩, h256a⟩, h16⟩, h256⟩, ho16⟩ := ha
  have hn := need_mid k x a hp hx hx2 h2 hu h16 h256
  have hin : ∀ f p : Int, -1000 ≤ f → f ≤ 2000 → -1000 ≤ p → p ≤ 2000 → guard_In.f f p a = some (f * 256 + mx a 16, f, p, p * 256 - mx a 16) := by
    intro f p f0 f1 p0 p1
    unfold guard_In.f
    rw [hu, Option.bind_some, w64 (x := f * 256) (by omega), w64 (x := p * 256) (by omega), w64 (by omega), w64 (by omega)]
  generalize mx a 16 = o at *
  obtain ⟨p, hp0⟩ : ∃ p, (o + x - 1) / 256 + 1 = p := ⟨_, rfl⟩
  rw [hp0] at hn
  have hp1 : 1 ≤ p ∧ p ≤ 66 := by omega
  have hpx : o + x ≤ p * 256 := by omega
  rw [hn, Option.bind_some]
  unfold guard_Lay.f
  rw [hn, Option.bind_some, if_pos rfl]
  have e1024 : wrap64 (wrap64 (1024 - p) - 2) = 1022 - p := by rw [w64 (x := 1024 - p) (by omega), w64 (by omega)]; omega
  simp only [e1024]
  by_cases c : a0 < 0
  · rw [if_pos c, Option.bind_some, if_pos c, cubbyholelaw29_GuardLay.j0, if_pos rfl, haw]
    rfl
  · rw [if_neg c]
    by_cases c2 : a0 > 1022 - p
    · rw [if_pos c2, Option.bind_some, if_neg c, cubbyholelaw29_GuardLay.j0, if_pos (by simpa using c2), haw]
      rfl
    · have e1 : wrap64 (a0 + 1) = a0 + 1 := w64 (by omega)
      rw [if_neg c2, e1, hin _ _ (by omega) (by omega) (by omega) (by omega), Option.bind_some, Option.bind_some, if_neg c, cubbyholelaw29_GuardLay.j0, if_neg (by simpa using c2)]
      have hat : ((a0 + 1) * 256 + o) % a = 0 := by
        rw [Int.add_emod, mul_mod a 256 (a0 + 1) h256a, hoa]; simp
      unfold guard_Area.f
      rw [Option.bind_some, haw, Option.bind_some, if_pos rfl, if_pos rfl]
      simp only []
      rw [w64 (x := a0 + 1 - 1) (by omega), e1, if_pos (by omega), if_pos trivial, if_pos rfl, if_pos trivial, if_neg (by omega), Int.tmod_eq_emod_of_nonneg (by omega), if_pos hat, Int.tmod_eq_emod_of_nonneg (by omega), if_pos (by omega), w64 (x := (a0 + 1) * 256 + o - 16) (by omega), w64 (x := 256 * (a0 + 1)) (by omega), if_pos (by omega), w64 (x := (a0 + 1) * 256 + o + (p * 256 - o)) (by omega), w64 (x := a0 + 1 + p) (by omega), w64 (x := 256 * (a0 + 1 + p)) (by omega), if_pos (by omega), if_pos (by omega), hin _ _ (by omega) (by omega) (by omega) (by omega), Option.bind_some]
      simp

theorem GuardLay : cubbyholelaw29_GuardLay.Pure := by
  intro a0 a1 a2 w0 _ _
  refine ⟨50, ?_⟩
  unfold cubbyholelaw29_GuardLay.f
  obtain ⟨n, hn⟩ := Int.eq_ofNat_of_zero_le (show 0 ≤ a2 % 16 % 9 by omega)
  rw [and_15, and_16383, Int.tmod_eq_emod_of_nonneg (by omega), if_pos (by rw [u64w (by omega)]; omega), hn, w64 (by omega)]
  exact GuardLay_any 50 (by decide) a0 _ _ (Go.bounds_i64 w0) (by omega) (by omega) (known_all n (by omega))

end Go.Proofs.Ytifakhddmlalcaa.Pure
