/- ModelOne's call answers true. Conditions: the third-last number of the op lies in its type. -/
import Derived.Test.YtneejihmakfaoaaOwnOne
import Derived.Test.YtneejihmakfaoaaOwnDual
namespace Go.Proofs.Ytneejihmakfaoaa.OwnModel
open Go.RowKit Go.Proofs.Ytneejihmakfaoaa.OwnMask Go.Proofs.Ytneejihmakfaoaa.QModelOne Go.Proofs.YtneejihmakfaoaaW.PrintWords Go.Proofs.YtneejihmakfaoaaW.PrintLast Go.Proofs.YtneejihmakfaoaaW.PrintMore
set_option linter.unusedVariables false
theorem oneAll (n0 n1 n2 n3 kd th a b v nn mm : Int) (A : Option Addr) (dl dc : Nat) (fu : Bool) (w : World) (hw : (Lit.int .i64 mm).wf = true) :
    Calls Try.prog 3 #[.agg #[.int .i64 n0, .int .i64 n1, .int .i64 n2, .int .i64 n3], .agg #[.int .i64 kd, .int .i64 th, .int .i64 a, .int .i64 b, .int .i64 v, .int .i64 nn, .int .i64 mm, .slice A dl dc], .bool fu] w fun e w' => e = .returned (.bool true) ∧ Below w.heap.size w w' := by
  obtain ⟨k0, k1, k2, k3, k4, k5, k6, k8, k9, k10, nR, hcf, h1, h2, h3, h4⟩ := confOk n0 n1 n2 n3
  have hm : -9223372036854775808 ≤ mm ∧ mm < 9223372036854775808 := by
    have h : (decide (-9223372036854775808 ≤ mm) && decide (mm ≤ 9223372036854775807)) = true := hw
    simp only [Bool.and_eq_true, decide_eq_true_eq] at h
    omega
  have hz : ∀ j, j < (List.replicate nR z51).length → (List.replicate nR z51)[j]? = some z51 := by
    intro j hj
    rw [List.length_replicate] at hj
    rw [List.getElem?_replicate, if_pos hj]
  have hD := dual k0 k1 k2 k3 k4 k5 k6 (nR : Int) k8 k9 k10 (List.replicate nR z51) kd th a b v nn mm A dl dc fu hz (by rw [List.length_replicate]; exact h2) h3 h4 hm.1 hm.2
  exact oneWalk n0 n1 n2 n3 k0 k1 k2 k3 k4 k5 k6 k8 k9 k10 nR hcf h2 kd th a b v nn mm A dl dc fu hD w

end Go.Proofs.Ytneejihmakfaoaa.OwnModel
