/- The plain statement of the law PermSets is proved: for every p and q the law's Lean function answers true. Conditions: those of the statement. -/
import Derived.Test.YtifakhddmlalcaaQPermSetsx2
import Derived.Test.YtifakhddmlalcaaOwnMask
namespace Go.Proofs.Ytifakhddmlalcaa.Pure
open Go.RowKit Go.Proofs.Ytifakhddmlalcaa.QPermSets Go.Proofs.Ytifakhddmlalcaa.OwnMask Go.Proofs.YtifakhddmlalcaaW.PrintWords Go.Proofs.YtifakhddmlalcaaW.PrintLast Go.Proofs.YtifakhddmlalcaaW.PrintMore

theorem may_out (x : Int) (h : x < 0 ∨ 31 < x) : perm_May.f x = some false := by
  unfold perm_May.f
  by_cases c : x ≥ 0
  · rw [if_pos c, decide_eq_false (by omega)]
  · rw [if_neg c]

/-- A number with bit 6 set is below 0 or at least 64. -/
theorem or_64 (x : Int) : Go.bits .or .i64 x 64 < 0 ∨ 31 < Go.bits .or .i64 x 64 := by
  have e : Go.bits .or .i64 x 64 = IntKind.i64.wrap (((BitVec.ofInt 64 x) ||| 64#64).toNat : Int) := rfl
  rw [e, IntKind.wrap_i64]
  have h : 64 ≤ ((BitVec.ofInt 64 x) ||| 64#64).toNat := by
    rw [BitVec.toNat_or]
    exact Nat.right_le_or
  have h2 := ((BitVec.ofInt 64 x) ||| 64#64).isLt
  generalize ((BitVec.ofInt 64 x) ||| 64#64).toNat = n at *
  omega

section
variable (x0 x1 : Int) (h0 : perm_May.f (Go.bits .or .i64 x0 64) = some false) (h1 : perm_May.f (wrap64 ((-1) - (Go.bits .and .i64 x1 255))) = some false)
include h0 h1
theorem plain_all (k : Nat) :
    (∀ y5 y6 y7 y8, cubbyholelaw09_PermSets.j0 k x0 x1 y5 y6 y7 y8 = cubbyholelaw09_PermSets.j0 k 0 0 y5 y6 y7 y8) ∧
    (∀ y5 y6 y7 y8 y9 y10 y11 y12 y13 y14 y15 y16, cubbyholelaw09_PermSets.l0 k x0 x1 y5 y6 y7 y8 y9 y10 y11 y12 y13 y14 y15 y16 = cubbyholelaw09_PermSets.l0 k 0 0 y5 y6 y7 y8 y9 y10 y11 y12 y13 y14 y15 y16) ∧
    (∀ y5 y6 y7 y8 y9 y10 y11 y12 y13 y14 y15 y16 y17 y18, cubbyholelaw09_PermSets.j2 k x0 x1 y5 y6 y7 y8 y9 y10 y11 y12 y13 y14 y15 y16 y17 y18 = cubbyholelaw09_PermSets.j2 k 0 0 y5 y6 y7 y8 y9 y10 y11 y12 y13 y14 y15 y16 y17 y18) ∧
    (∀ y5 y6 y7 y8 y9 y10 y11 y12 y13 y14 y15 y16 y17 y18 y19, cubbyholelaw09_PermSets.j3 k x0 x1 y5 y6 y7 y8 y9 y10 y11 y12 y13 y14 y15 y16 y17 y18 y19 = cubbyholelaw09_PermSets.j3 k 0 0 y5 y6 y7 y8 y9 y10 y11 y12 y13 y14 y15 y16 y17 y18 y19) ∧
    (∀ y5 y6 y7 y8 y9 y10 y11 y12 y13 y14 y15 y16 y17 y18, cubbyholelaw09_PermSets.j4 k x0 x1 y5 y6 y7 y8 y9 y10 y11 y12 y13 y14 y15 y16 y17 y18 = cubbyholelaw09_PermSets.j4 k 0 0 y5 y6 y7 y8 y9 y10 y11 y12 y13 y14 y15 y16 y17 y18) ∧
    (∀ y5 y6 y7 y8 y9 y10 y11 y12 y13 y14 y15 y16 y17 y18, cubbyholelaw09_PermSets.j5 k x0 x1 y5 y6 y7 y8 y9 y10 y11 y12 y13 y14 y15 y16 y17 y18 = cubbyholelaw09_PermSets.j5 k 0 0 y5 y6 y7 y8 y9 y10 y11 y12 y13 y14 y15 y16 y17 y18) := by
  have z0 : perm_May.f (Go.bits .or .i64 0 64) = some false := by decide +kernel
  have z1 : perm_May.f (wrap64 ((-1) - (Go.bits .and .i64 0 255))) = some false := by decide +kernel
  induction k with
  | zero => simp only [cubbyholelaw09_PermSets.j0, cubbyholelaw09_PermSets.l0, cubbyholelaw09_PermSets.j2, cubbyholelaw09_PermSets.j3, cubbyholelaw09_PermSets.j4, cubbyholelaw09_PermSets.j5, implies_true, and_self]
  | succ k ih =>
    obtain ⟨_, i1, i2, i3, i4, i5⟩ := ih
    refine ⟨?_, ?_, ?_, ?_, ?_, ?_⟩ <;> intros <;>
      simp only [cubbyholelaw09_PermSets.j0, cubbyholelaw09_PermSets.l0, cubbyholelaw09_PermSets.j2, cubbyholelaw09_PermSets.j3, cubbyholelaw09_PermSets.j4, cubbyholelaw09_PermSets.j5, i1, i2, i3, i4, i5, h0, h1, z0, z1]
end

set_option maxRecDepth 100000 in
theorem PermSets_all : ∀ n, n < 64 → ∀ m, m < 64 → cubbyholelaw09_PermSets.f 40 ((n : Nat) : Int) ((m : Nat) : Int) = some true := by
  decide +kernel

theorem PermSets : cubbyholelaw09_PermSets.Pure := by
  intro a0 a1 _ _
  refine ⟨40, ?_⟩
  obtain ⟨n, hn⟩ := Int.eq_ofNat_of_zero_le (show 0 ≤ a0 % 64 by omega)
  obtain ⟨m, hm⟩ := Int.eq_ofNat_of_zero_le (show 0 ≤ a1 % 64 by omega)
  have h := PermSets_all n (by omega) m (by omega)
  have hx : ∀ x1 : Int, perm_May.f (wrap64 ((-1) - (Go.bits .and .i64 x1 255))) = some false := fun x1 => may_out _ (by rw [and_255, w64 (by omega)]; omega)
  have p := (plain_all a0 a1 (may_out _ (or_64 a0)) (hx a1) 40).1
  have q := (plain_all n m (may_out _ (or_64 n)) (hx m) 40).1
  unfold cubbyholelaw09_PermSets.f at h ⊢
  simp only [q, and_63] at h
  simp only [p, and_63]
  have e0 : ((n : Nat) : Int) % 64 = a0 % 64 := by omega
  have e1 : ((m : Nat) : Int) % 64 = a1 % 64 := by omega
  rw [e0, e1] at h
  exact h

end Go.Proofs.Ytifakhddmlalcaa.Pure
