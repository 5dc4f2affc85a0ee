/- Walks of the model's functions by hand: Live. Conditions: the model lies in a block. -/
import Derived.Test.YtneejihmakfaoaaOwnModelB
namespace Go.Proofs.Ytneejihmakfaoaa.OwnModel
open Go.RowKit Go.Proofs.Ytneejihmakfaoaa.QModelOne Go.Proofs.YtneejihmakfaoaaW.PrintWords Go.Proofs.YtneejihmakfaoaaW.PrintLast Go.Proofs.YtneejihmakfaoaaW.PrintMore
set_option linter.unusedVariables false
set_option linter.unusedSimpArgs false
/-- How many of the first j are live. -/
def liveOf (lives : List Bool) : Nat → Int
  | 0 => 0
  | j + 1 => liveOf lives j + (if lives.getD j false = true then 1 else 0)
theorem liveOf_le (lives : List Bool) (j : Nat) : 0 ≤ liveOf lives j ∧ liveOf lives j ≤ j := by
  induction j with
  | zero => exact ⟨Int.le_refl _, Int.le_refl _⟩
  | succ j ih =>
    unfold liveOf
    split <;> omega

set_option maxHeartbeats 2000000 in
set_option maxRecDepth 100000 in
theorem live (g : Nat) (k0 k1 k2 k3 k4 k5 k6 k7 k8 k9 k10 : Int) (A : Option Addr) (cc : Nat) (rv : Value) (lives : List Bool) (w : World) (h : IsM w g k0 k1 k2 k3 k4 k5 k6 k7 k8 k9 k10 (.slice A lives.length cc) rv)
    (hl : Lives w A lives) (hn : lives.length ≤ 1000000000) :
    Calls Try.prog 12 #[.pointer (some ⟨g, 0, none⟩)] w fun e w' => e = .returned (.int .i64 (liveOf lives lives.length)) ∧ w' = w := by
  have h11 : w.cell? ⟨g, 11, none⟩ = some (.slice A lives.length cc) := (blk_cell h 11).trans rfl
  have hu63 := Try.underlying63
  have hu61 := Try.underlying61
  have hu77 := Try.underlying77
  have hu80 := Try.underlying80
  have hu4 := Try.underlying4
  go_enter Try.func12, Try.ntmps12
  go_wp2_with fail
  go_loopw [3, 13] (fun v3 v13 wr => ∃ j : Nat, j ≤ lives.length ∧ v13 = .int .i64 j ∧ v3 = .int .i64 (liveOf lives j) ∧ wr = w) (fun _ v13 _ => lives.length - (intOf v13).toNat)
  case atStart => exact ⟨0, by omega, rfl, rfl, rfl⟩
  case round =>
    obtain ⟨j, hj, rfl, rfl, rfl⟩ := hrel
    have hs := liveOf_le lives j
    by_cases c : j < lives.length
    · have d1 : decide ((j : Int) < (lives.length : Int)) = true := decide_eq_true (by omega)
      have p4 : (0 ≤ (j : Int)) = True := eq_true (by omega)
      have q4 : ((j : Int) < (lives.length : Int)) = True := eq_true (by omega)
      obtain ⟨ad, gt, rfl, hp, hv⟩ := hl j c
      cases hb : lives.getD j false with
      | false =>
        have e : liveOf lives (j + 1) = liveOf lives j := by rw [liveOf, hb, if_neg (by simp), Int.add_zero]
        rw [hb] at hv
        clear hb
        go_wp2
        exact ⟨⟨j + 1, by omega, rfl, by rw [e], trivial⟩, by simp only [intOf]; omega⟩
      | true =>
        have e : liveOf lives (j + 1) = liveOf lives j + 1 := by rw [liveOf, hb, if_pos rfl]
        have ew : IntKind.i64.wrap (liveOf lives j + 1) = liveOf lives j + 1 := (i64_w _).trans (by unfold wrap64; omega)
        rw [hb] at hv
        clear hb
        go_wp2
        exact ⟨⟨j + 1, by omega, rfl, by rw [e], trivial⟩, by simp only [intOf]; omega⟩
    · have d1 : decide ((j : Int) < (lives.length : Int)) = false := decide_eq_false (by omega)
      obtain rfl : j = lives.length := by omega
      go_wp2
      go_ret
      exact ⟨rfl, rfl⟩

end Go.Proofs.Ytneejihmakfaoaa.OwnModel
