/- What the program's Do and the reference's Do leave: the words. Printed by gen_dual.py. -/
import Derived.Test.YtneejihmakfaoaaOwnModelR
namespace Go.Proofs.Ytneejihmakfaoaa.OwnModel
open Go.RowKit Go.Proofs.Ytneejihmakfaoaa.OwnMask Go.Proofs.Ytneejihmakfaoaa.QModelOne Go.Proofs.YtneejihmakfaoaaW.PrintWords Go.Proofs.YtneejihmakfaoaaW.PrintLast Go.Proofs.YtneejihmakfaoaaW.PrintMore
set_option linter.unusedVariables false
set_option linter.unusedSimpArgs false
/-- What the program's Do leaves. -/
def PPost (g gr : Nat) (k0 k1 k2 k3 k4 k5 k6 k7 k8 k9 k10 : Int) (xs : List S51) (a : Int) (w w' : World) : Option Int → Prop
  | none => KB2 g gr w w' ∧ ∃ ys : List S51, ys.length = xs.length ∧ IsM w' g k0 k1 k2 k3 k4 k5 k6 k7 k8 k9 k10 (.slice none 0 0) (.slice (some ⟨gr, 0, none⟩) ys.length ys.length) ∧ w'.heap[gr]? = some (.cells (cells51 ys) 49 (0, 0))
  | some N => KB2 g gr w w' ∧ w'.heap[gr]? = some (.cells (cells51 (xs.set a.toNat ⟨1, 0, N, 0, 31⟩)) 49 (0, 0)) ∧ ∃ g5 cap gt gb r mp sp, IsM w' g k0 k1 k2 k3 k4 k5 k6 k7 k8 k9 k10 (.slice (some ⟨g5, 0, none⟩) 1 cap) (.slice (some ⟨gr, 0, none⟩) xs.length xs.length) ∧ 1 ≤ cap ∧ w'.cell? ⟨g5, 0, none⟩ = some (.pointer (some ⟨gt, 0, none⟩)) ∧ w'.heap[gt]? = some (.cells #[.slice (some ⟨gb, 0, none⟩) r r, mp, .int .i64 (r : Nat), sp, .bool true] 80 (0, 0))
/-- What the reference's Do leaves. -/
def RPost (n gr0 wsz : Nat) (a : Int) (w' : World) (lv rv : Value) : Option Int → Prop
  | none => lv = .slice none 0 0 ∧ ∃ gR cR, rv = .slice (some ⟨gR, 0, none⟩) n cR ∧ (gR = gr0 ∨ wsz ≤ gR) ∧ (0 ≤ a → a < (n : Int) → w'.cell? ⟨gR, a.toNat * 5, none⟩ = some (.int .i64 (0)) ∧ w'.cell? ⟨gR, a.toNat * 5 + 1, none⟩ = some (.int .i64 (0)) ∧ w'.cell? ⟨gR, a.toNat * 5 + 2, none⟩ = some (.int .i64 (0)) ∧ w'.cell? ⟨gR, a.toNat * 5 + 3, none⟩ = some (.int .i64 (0)) ∧ w'.cell? ⟨gR, a.toNat * 5 + 4, none⟩ = some (.int .i64 (0)))
  | some N => 0 ≤ a ∧ a < (n : Int) ∧ ∃ gl cap gR cR, lv = .slice (some ⟨gl, 0, none⟩) 1 cap ∧ rv = .slice (some ⟨gR, 0, none⟩) n cR ∧ (gR = gr0 ∨ wsz ≤ gR) ∧ w'.cell? ⟨gl, 3, none⟩ = some (.bool true) ∧ w'.cell? ⟨gR, a.toNat * 5, none⟩ = some (.int .i64 (1)) ∧ w'.cell? ⟨gR, a.toNat * 5 + 1, none⟩ = some (.int .i64 (0)) ∧ w'.cell? ⟨gR, a.toNat * 5 + 2, none⟩ = some (.int .i64 (N)) ∧ w'.cell? ⟨gR, a.toNat * 5 + 3, none⟩ = some (.int .i64 (0)) ∧ w'.cell? ⟨gR, a.toNat * 5 + 4, none⟩ = some (.int .i64 (31))
/-- Both answer alike. -/
def Dual (k0 k1 k2 k3 k4 k5 k6 k7 k8 k9 k10 : Int) (xs : List S51) (kd th a b v nn mm : Int) (A : Option Addr) (dl dc : Nat) (fu : Bool) : Prop :=
  ∃ (err : Int) (mk : Option Int), (∀ (g gr : Nat) (w : World), IsM w g k0 k1 k2 k3 k4 k5 k6 k7 k8 k9 k10 (.slice none 0 0) (.slice (some ⟨gr, 0, none⟩) xs.length xs.length) → w.heap[gr]? = some (.cells (cells51 xs) 49 (0, 0)) → Calls Try.prog 8 #[.pointer (some ⟨g, 0, none⟩), .agg #[.int .i64 kd, .int .i64 th, .int .i64 a, .int .i64 b, .int .i64 v, .int .i64 nn, .int .i64 mm, .slice A dl dc], .bool fu] w fun e w' => e = .returned (.agg #[.int .i64 err, .int .i64 0, .slice none 0 0]) ∧ PPost g gr k0 k1 k2 k3 k4 k5 k6 k7 k8 k9 k10 xs a w w' mk) ∧
    (∀ (gr cr : Nat) (t0 : TypeId) (w : World), w.heap[gr]? = some (.cells (cells51 xs) t0 (0, 0)) → Calls Try.prog 9 #[.agg #[.int .i64 k0, .int .i64 k1, .int .i64 k2, .int .i64 k3, .int .i64 k4, .int .i64 k5, .int .i64 k6, .int .i64 k7, .int .i64 k8, .int .i64 k9, .int .u64 k10, .slice none 0 0, .slice (some ⟨gr, 0, none⟩) xs.length cr], .agg #[.int .i64 kd, .int .i64 th, .int .i64 a, .int .i64 b, .int .i64 v, .int .i64 nn, .int .i64 mm, .slice A dl dc], .bool fu] w fun e w' => ∃ lv rv, e = .returned (.tuple #[.agg #[.int .i64 k0, .int .i64 k1, .int .i64 k2, .int .i64 k3, .int .i64 k4, .int .i64 k5, .int .i64 k6, .int .i64 k7, .int .i64 k8, .int .i64 k9, .int .u64 k10, lv, rv], .agg #[.int .i64 err, .int .i64 0, .slice none 0 0]]) ∧ Below w.heap.size w w' ∧ RPost xs.length gr w.heap.size a w' lv rv mk)


end Go.Proofs.Ytneejihmakfaoaa.OwnModel
