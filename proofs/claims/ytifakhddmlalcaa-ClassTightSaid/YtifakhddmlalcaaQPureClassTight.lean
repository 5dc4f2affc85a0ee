/- The plain statement of the law ClassTight is proved: for every n the law's Lean function answers true. Conditions: those of the statement. -/
import Derived.Test.YtifakhddmlalcaaQClassTightx2
import Derived.Test.YtifakhddmlalcaaOwnMask
namespace Go.Proofs.Ytifakhddmlalcaa.Pure
open Go.RowKit Go.Proofs.Ytifakhddmlalcaa.QClassTight Go.Proofs.Ytifakhddmlalcaa.OwnMask Go.Proofs.YtifakhddmlalcaaW.PrintWords Go.Proofs.YtifakhddmlalcaaW.PrintLast

set_option maxRecDepth 100000 in
theorem ClassTight_all : ∀ n, n < 32 → ∀ m, m < 32 → cubbyholelaw16_ClassTight.f 30 ((32 * n + m : Nat) : Int) = some true := by
  decide +kernel

theorem ClassTight : cubbyholelaw16_ClassTight.Pure := by
  intro a0 _
  refine ⟨30, ?_⟩
  have h0 : 0 ≤ a0 % 1024 := Int.emod_nonneg _ (by decide)
  obtain ⟨n, hn⟩ := Int.eq_ofNat_of_zero_le h0
  have e : n = 32 * (n / 32) + n % 32 := by omega
  have h := ClassTight_all (n / 32) (by omega) (n % 32) (by omega)
  rw [← e, ← hn] at h
  unfold cubbyholelaw16_ClassTight.f at h ⊢
  rw [and_1023] at h ⊢
  have hm : a0 % 1024 % 1024 = a0 % 1024 := by omega
  rw [hm] at h
  exact h

end Go.Proofs.Ytifakhddmlalcaa.Pure
