/- YtifakhddmlalcaaQPermSetsx2: the functions that the law PermSets uses, each as a Lean function with the proof that the call tells the same. Turned out of the print of print.sh by qprint.py (own sections: bits_Len64, perm_Show). Conditions: none beyond each theorem's own. -/
import Derived.Test.YtifakhddmlalcaaQPermSetsx0
import Derived.Test.YtifakhddmlalcaaQPermSetsx1
namespace Go.Proofs.Ytifakhddmlalcaa.QPermSets
open Go.RowKit Go.Proofs.YtifakhddmlalcaaW.PrintWords Go.Proofs.YtifakhddmlalcaaW.PrintLast Go.Proofs.YtifakhddmlalcaaW.PrintMore
attribute [local go_sem] max2_int min2_int max_two min_two max_three min_three max_four min_four   -- for this text's walks alone
set_option linter.unusedVariables false
set_option linter.unusedSimpArgs false

/-! ### cubbyholelaw09_PermSets: function 9 -/
mutual
def cubbyholelaw09_PermSets.j0 : Nat → Int → Int → Int → Int → Bool → Bool → Option (Bool)
  | 0, _, _, _, _, _, _ => none
  | k + 1, x0, x1, x5, x6, x7, x8 => cubbyholelaw09_PermSets.l0 k x0 x1 x5 x6 x7 x8 x8 0 0 0 (mx x5 0) (mx x6 0) 1 0
def cubbyholelaw09_PermSets.l0 : Nat → Int → Int → Int → Int → Bool → Bool → Bool → Int → Int → Int → Int → Int → Int → Int → Option (Bool)
  | 0, _, _, _, _, _, _, _, _, _, _, _, _, _, _ => none
  | k + 1, x0, x1, x5, x6, x7, x8, x9, x10, x11, x12, x13, x14, x15, x16 => if x16 < 5 then (if x9 = true then (if (Int.tmod x13 2) = 1 then (cubbyholelaw09_PermSets.j2 k x0 x1 x5 x6 x7 x8 true x10 x11 x12 x13 x14 x15 x16 ((Int.tmod x13 2) == 1) ((Int.tmod x14 2) == 1)) else (cubbyholelaw09_PermSets.j2 k x0 x1 x5 x6 x7 x8 (!((Int.tmod x14 2) == 1)) x10 x11 x12 x13 x14 x15 x16 ((Int.tmod x13 2) == 1) ((Int.tmod x14 2) == 1))) else (cubbyholelaw09_PermSets.j2 k x0 x1 x5 x6 x7 x8 false x10 x11 x12 x13 x14 x15 x16 ((Int.tmod x13 2) == 1) ((Int.tmod x14 2) == 1))) else ((cubbyholelaw09_awake.f k).bind fun t118 => (if t118 = true then ((perm_May.f x5).bind fun t119 => (if (t119 == x7) = true then ((perm_Has.f x5 x6).bind fun t120 => (if (t120 == x9) = true then ((perm_And.f x5 x6).bind fun t121 => (if t121 = x10 then ((perm_Less.f x5 x6).bind fun t122 => (if t122 = x11 then ((perm_Count.f k x5).bind fun t123 => (if t123 = x12 then ((perm_May.f (Go.bits .or .i64 x0 64)).bind fun t124 => (if t124 = true then (some false) else ((perm_May.f (wrap64 ((-1) - (Go.bits .and .i64 x1 255)))).bind fun t125 => (some (!t125))))) else (some false))) else (some false))) else (some false))) else (some false))) else (some false))) else (some false)))
def cubbyholelaw09_PermSets.j2 : Nat → Int → Int → Int → Int → Bool → Bool → Bool → Int → Int → Int → Int → Int → Int → Int → Bool → Bool → Option (Bool)
  | 0, _, _, _, _, _, _, _, _, _, _, _, _, _, _, _, _ => none
  | k + 1, x0, x1, x5, x6, x7, x8, x9, x10, x11, x12, x13, x14, x15, x16, x17, x18 => if x8 = true then (if x17 = true then (cubbyholelaw09_PermSets.j3 k x0 x1 x5 x6 x7 x8 x9 x10 x11 x12 x13 x14 x15 x16 x17 x18 x18) else (cubbyholelaw09_PermSets.j3 k x0 x1 x5 x6 x7 x8 x9 x10 x11 x12 x13 x14 x15 x16 x17 x18 false)) else (cubbyholelaw09_PermSets.j3 k x0 x1 x5 x6 x7 x8 x9 x10 x11 x12 x13 x14 x15 x16 x17 x18 false)
def cubbyholelaw09_PermSets.j3 : Nat → Int → Int → Int → Int → Bool → Bool → Bool → Int → Int → Int → Int → Int → Int → Int → Bool → Bool → Bool → Option (Bool)
  | 0, _, _, _, _, _, _, _, _, _, _, _, _, _, _, _, _, _ => none
  | k + 1, x0, x1, x5, x6, x7, x8, x9, x10, x11, x12, x13, x14, x15, x16, x17, x18, x74 => if x74 = true then (cubbyholelaw09_PermSets.j4 k x0 x1 x5 x6 x7 x8 x9 (wrap64 (x10 + x15)) x11 x12 x13 x14 x15 x16 x17 x18) else (cubbyholelaw09_PermSets.j4 k x0 x1 x5 x6 x7 x8 x9 x10 x11 x12 x13 x14 x15 x16 x17 x18)
def cubbyholelaw09_PermSets.j4 : Nat → Int → Int → Int → Int → Bool → Bool → Bool → Int → Int → Int → Int → Int → Int → Int → Bool → Bool → Option (Bool)
  | 0, _, _, _, _, _, _, _, _, _, _, _, _, _, _, _, _ => none
  | k + 1, x0, x1, x5, x6, x7, x8, x9, x10, x11, x12, x13, x14, x15, x16, x17, x18 => if x8 = true then (if x17 = true then (cubbyholelaw09_PermSets.j5 k x0 x1 x5 x6 x7 x8 x9 x10 x11 x12 x13 x14 x15 x16 x17 (!x18)) else (cubbyholelaw09_PermSets.j5 k x0 x1 x5 x6 x7 x8 x9 x10 x11 x12 x13 x14 x15 x16 x17 false)) else (cubbyholelaw09_PermSets.j5 k x0 x1 x5 x6 x7 x8 x9 x10 x11 x12 x13 x14 x15 x16 x17 false)
def cubbyholelaw09_PermSets.j5 : Nat → Int → Int → Int → Int → Bool → Bool → Bool → Int → Int → Int → Int → Int → Int → Int → Bool → Bool → Option (Bool)
  | 0, _, _, _, _, _, _, _, _, _, _, _, _, _, _, _, _ => none
  | k + 1, x0, x1, x5, x6, x7, x8, x9, x10, x11, x12, x13, x14, x15, x16, x17, x85 => if x85 = true then (if x7 = true then (if x17 = true then (cubbyholelaw09_PermSets.l0 k x0 x1 x5 x6 x7 x8 x9 x10 (wrap64 (x11 + x15)) (wrap64 (x12 + 1)) (wrap64 (Int.tdiv x13 2)) (wrap64 (Int.tdiv x14 2)) (wrap64 (x15 * 2)) (wrap64 (x16 + 1))) else (cubbyholelaw09_PermSets.l0 k x0 x1 x5 x6 x7 x8 x9 x10 (wrap64 (x11 + x15)) x12 (wrap64 (Int.tdiv x13 2)) (wrap64 (Int.tdiv x14 2)) (wrap64 (x15 * 2)) (wrap64 (x16 + 1)))) else (cubbyholelaw09_PermSets.l0 k x0 x1 x5 x6 x7 x8 x9 x10 (wrap64 (x11 + x15)) x12 (wrap64 (Int.tdiv x13 2)) (wrap64 (Int.tdiv x14 2)) (wrap64 (x15 * 2)) (wrap64 (x16 + 1)))) else (if x7 = true then (if x17 = true then (cubbyholelaw09_PermSets.l0 k x0 x1 x5 x6 x7 x8 x9 x10 x11 (wrap64 (x12 + 1)) (wrap64 (Int.tdiv x13 2)) (wrap64 (Int.tdiv x14 2)) (wrap64 (x15 * 2)) (wrap64 (x16 + 1))) else (cubbyholelaw09_PermSets.l0 k x0 x1 x5 x6 x7 x8 x9 x10 x11 x12 (wrap64 (Int.tdiv x13 2)) (wrap64 (Int.tdiv x14 2)) (wrap64 (x15 * 2)) (wrap64 (x16 + 1)))) else (cubbyholelaw09_PermSets.l0 k x0 x1 x5 x6 x7 x8 x9 x10 x11 x12 (wrap64 (Int.tdiv x13 2)) (wrap64 (Int.tdiv x14 2)) (wrap64 (x15 * 2)) (wrap64 (x16 + 1))))
end
def cubbyholelaw09_PermSets.f (k : Nat) (a0 : Int) (a1 : Int) : Option (Bool) := if (wrap64 ((Go.bits .and .i64 a0 63) - 8)) ≥ 0 then (if (wrap64 ((Go.bits .and .i64 a0 63) - 8)) ≤ 31 then (if (wrap64 ((Go.bits .and .i64 a1 63) - 8)) ≥ 0 then (cubbyholelaw09_PermSets.j0 k a0 a1 (wrap64 ((Go.bits .and .i64 a0 63) - 8)) (wrap64 ((Go.bits .and .i64 a1 63) - 8)) (decide ((wrap64 ((Go.bits .and .i64 a0 63) - 8)) ≤ 31)) (decide ((wrap64 ((Go.bits .and .i64 a1 63) - 8)) ≤ 31))) else (cubbyholelaw09_PermSets.j0 k a0 a1 (wrap64 ((Go.bits .and .i64 a0 63) - 8)) (wrap64 ((Go.bits .and .i64 a1 63) - 8)) (decide ((wrap64 ((Go.bits .and .i64 a0 63) - 8)) ≤ 31)) false)) else (cubbyholelaw09_PermSets.j0 k a0 a1 (wrap64 ((Go.bits .and .i64 a0 63) - 8)) (wrap64 ((Go.bits .and .i64 a1 63) - 8)) (decide ((wrap64 ((Go.bits .and .i64 a0 63) - 8)) ≤ 31)) false)) else (cubbyholelaw09_PermSets.j0 k a0 a1 (wrap64 ((Go.bits .and .i64 a0 63) - 8)) (wrap64 ((Go.bits .and .i64 a1 63) - 8)) false false)
theorem cubbyholelaw09_PermSets.mono_l : ∀ k, (∀ y0 y1 y2 y3 y4 y5, LeO (cubbyholelaw09_PermSets.j0 k y0 y1 y2 y3 y4 y5) (cubbyholelaw09_PermSets.j0 (k + 1) y0 y1 y2 y3 y4 y5)) ∧ (∀ y0 y1 y2 y3 y4 y5 y6 y7 y8 y9 y10 y11 y12 y13, LeO (cubbyholelaw09_PermSets.l0 k y0 y1 y2 y3 y4 y5 y6 y7 y8 y9 y10 y11 y12 y13) (cubbyholelaw09_PermSets.l0 (k + 1) y0 y1 y2 y3 y4 y5 y6 y7 y8 y9 y10 y11 y12 y13)) ∧ (∀ y0 y1 y2 y3 y4 y5 y6 y7 y8 y9 y10 y11 y12 y13 y14 y15, LeO (cubbyholelaw09_PermSets.j2 k y0 y1 y2 y3 y4 y5 y6 y7 y8 y9 y10 y11 y12 y13 y14 y15) (cubbyholelaw09_PermSets.j2 (k + 1) y0 y1 y2 y3 y4 y5 y6 y7 y8 y9 y10 y11 y12 y13 y14 y15)) ∧ (∀ y0 y1 y2 y3 y4 y5 y6 y7 y8 y9 y10 y11 y12 y13 y14 y15 y16, LeO (cubbyholelaw09_PermSets.j3 k y0 y1 y2 y3 y4 y5 y6 y7 y8 y9 y10 y11 y12 y13 y14 y15 y16) (cubbyholelaw09_PermSets.j3 (k + 1) y0 y1 y2 y3 y4 y5 y6 y7 y8 y9 y10 y11 y12 y13 y14 y15 y16)) ∧ (∀ y0 y1 y2 y3 y4 y5 y6 y7 y8 y9 y10 y11 y12 y13 y14 y15, LeO (cubbyholelaw09_PermSets.j4 k y0 y1 y2 y3 y4 y5 y6 y7 y8 y9 y10 y11 y12 y13 y14 y15) (cubbyholelaw09_PermSets.j4 (k + 1) y0 y1 y2 y3 y4 y5 y6 y7 y8 y9 y10 y11 y12 y13 y14 y15)) ∧ (∀ y0 y1 y2 y3 y4 y5 y6 y7 y8 y9 y10 y11 y12 y13 y14 y15, LeO (cubbyholelaw09_PermSets.j5 k y0 y1 y2 y3 y4 y5 y6 y7 y8 y9 y10 y11 y12 y13 y14 y15) (cubbyholelaw09_PermSets.j5 (k + 1) y0 y1 y2 y3 y4 y5 y6 y7 y8 y9 y10 y11 y12 y13 y14 y15))
  | 0 => ⟨fun _ _ _ _ _ _ r h => by simp [cubbyholelaw09_PermSets.j0] at h, fun _ _ _ _ _ _ _ _ _ _ _ _ _ _ r h => by simp [cubbyholelaw09_PermSets.l0] at h, fun _ _ _ _ _ _ _ _ _ _ _ _ _ _ _ _ r h => by simp [cubbyholelaw09_PermSets.j2] at h, fun _ _ _ _ _ _ _ _ _ _ _ _ _ _ _ _ _ r h => by simp [cubbyholelaw09_PermSets.j3] at h, fun _ _ _ _ _ _ _ _ _ _ _ _ _ _ _ _ r h => by simp [cubbyholelaw09_PermSets.j4] at h, fun _ _ _ _ _ _ _ _ _ _ _ _ _ _ _ _ r h => by simp [cubbyholelaw09_PermSets.j5] at h⟩
  | k + 1 => by
    obtain ⟨ih0, ih1, ih2, ih3, ih4, ih5⟩ := cubbyholelaw09_PermSets.mono_l k
    refine ⟨?_, ?_, ?_, ?_, ?_, ?_⟩
    · intro y0 y1 y2 y3 y4 y5
      unfold cubbyholelaw09_PermSets.j0
      repeat' first
      | (with_reducible exact ih0 _ _ _ _ _ _)
      | (with_reducible exact ih1 _ _ _ _ _ _ _ _ _ _ _ _ _ _)
      | (with_reducible exact ih2 _ _ _ _ _ _ _ _ _ _ _ _ _ _ _ _)
      | (with_reducible exact ih3 _ _ _ _ _ _ _ _ _ _ _ _ _ _ _ _ _)
      | (with_reducible exact ih4 _ _ _ _ _ _ _ _ _ _ _ _ _ _ _ _)
      | (with_reducible exact ih5 _ _ _ _ _ _ _ _ _ _ _ _ _ _ _ _)
      | (with_reducible exact cubbyholelaw09_awake.mono _)
      | (with_reducible exact perm_Count.mono _ _)
      | (with_reducible exact LeO.refl _)
      | (with_reducible exact LeO.none _)
      | (with_reducible refine LeO.ite ?_ ?_)
      | (with_reducible refine LeO.bind ?_ (fun _ => ?_))
      | exact ih0 _ _ _ _ _ _
      | exact ih1 _ _ _ _ _ _ _ _ _ _ _ _ _ _
      | exact ih2 _ _ _ _ _ _ _ _ _ _ _ _ _ _ _ _
      | exact ih3 _ _ _ _ _ _ _ _ _ _ _ _ _ _ _ _ _
      | exact ih4 _ _ _ _ _ _ _ _ _ _ _ _ _ _ _ _
      | exact ih5 _ _ _ _ _ _ _ _ _ _ _ _ _ _ _ _
      | exact cubbyholelaw09_awake.mono _
      | exact perm_Count.mono _ _
      | exact LeO.none _
      | refine LeO.ite ?_ ?_
      | refine LeO.bind ?_ (fun _ => ?_)
    · intro y0 y1 y2 y3 y4 y5 y6 y7 y8 y9 y10 y11 y12 y13
      unfold cubbyholelaw09_PermSets.l0
      repeat' first
      | (with_reducible exact ih0 _ _ _ _ _ _)
      | (with_reducible exact ih1 _ _ _ _ _ _ _ _ _ _ _ _ _ _)
      | (with_reducible exact ih2 _ _ _ _ _ _ _ _ _ _ _ _ _ _ _ _)
      | (with_reducible exact ih3 _ _ _ _ _ _ _ _ _ _ _ _ _ _ _ _ _)
      | (with_reducible exact ih4 _ _ _ _ _ _ _ _ _ _ _ _ _ _ _ _)
      | (with_reducible exact ih5 _ _ _ _ _ _ _ _ _ _ _ _ _ _ _ _)
      | (with_reducible exact cubbyholelaw09_awake.mono _)
      | (with_reducible exact perm_Count.mono _ _)
      | (with_reducible exact LeO.refl _)
      | (with_reducible exact LeO.none _)
      | (with_reducible refine LeO.ite ?_ ?_)
      | (with_reducible refine LeO.bind ?_ (fun _ => ?_))
      | exact ih0 _ _ _ _ _ _
      | exact ih1 _ _ _ _ _ _ _ _ _ _ _ _ _ _
      | exact ih2 _ _ _ _ _ _ _ _ _ _ _ _ _ _ _ _
      | exact ih3 _ _ _ _ _ _ _ _ _ _ _ _ _ _ _ _ _
      | exact ih4 _ _ _ _ _ _ _ _ _ _ _ _ _ _ _ _
      | exact ih5 _ _ _ _ _ _ _ _ _ _ _ _ _ _ _ _
      | exact cubbyholelaw09_awake.mono _
      | exact perm_Count.mono _ _
      | exact LeO.none _
      | refine LeO.ite ?_ ?_
      | refine LeO.bind ?_ (fun _ => ?_)
    · intro y0 y1 y2 y3 y4 y5 y6 y7 y8 y9 y10 y11 y12 y13 y14 y15
      unfold cubbyholelaw09_PermSets.j2
      repeat' first
      | (with_reducible exact ih0 _ _ _ _ _ _)
      | (with_reducible exact ih1 _ _ _ _ _ _ _ _ _ _ _ _ _ _)
      | (with_reducible exact ih2 _ _ _ _ _ _ _ _ _ _ _ _ _ _ _ _)
      | (with_reducible exact ih3 _ _ _ _ _ _ _ _ _ _ _ _ _ _ _ _ _)
      | (with_reducible exact ih4 _ _ _ _ _ _ _ _ _ _ _ _ _ _ _ _)
      | (with_reducible exact ih5 _ _ _ _ _ _ _ _ _ _ _ _ _ _ _ _)
      | (with_reducible exact cubbyholelaw09_awake.mono _)
      | (with_reducible exact perm_Count.mono _ _)
      | (with_reducible exact LeO.refl _)
      | (with_reducible exact LeO.none _)
      | (with_reducible refine LeO.ite ?_ ?_)
      | (with_reducible refine LeO.bind ?_ (fun _ => ?_))
      | exact ih0 _ _ _ _ _ _
      | exact ih1 _ _ _ _ _ _ _ _ _ _ _ _ _ _
      | exact ih2 _ _ _ _ _ _ _ _ _ _ _ _ _ _ _ _
      | exact ih3 _ _ _ _ _ _ _ _ _ _ _ _ _ _ _ _ _
      | exact ih4 _ _ _ _ _ _ _ _ _ _ _ _ _ _ _ _
      | exact ih5 _ _ _ _ _ _ _ _ _ _ _ _ _ _ _ _
      | exact cubbyholelaw09_awake.mono _
      | exact perm_Count.mono _ _
      | exact LeO.none _
      | refine LeO.ite ?_ ?_
      | refine LeO.bind ?_ (fun _ => ?_)
    · intro y0 y1 y2 y3 y4 y5 y6 y7 y8 y9 y10 y11 y12 y13 y14 y15 y16
      unfold cubbyholelaw09_PermSets.j3
      repeat' first
      | (with_reducible exact ih0 _ _ _ _ _ _)
      | (with_reducible exact ih1 _ _ _ _ _ _ _ _ _ _ _ _ _ _)
      | (with_reducible exact ih2 _ _ _ _ _ _ _ _ _ _ _ _ _ _ _ _)
      | (with_reducible exact ih3 _ _ _ _ _ _ _ _ _ _ _ _ _ _ _ _ _)
      | (with_reducible exact ih4 _ _ _ _ _ _ _ _ _ _ _ _ _ _ _ _)
      | (with_reducible exact ih5 _ _ _ _ _ _ _ _ _ _ _ _ _ _ _ _)
      | (with_reducible exact cubbyholelaw09_awake.mono _)
      | (with_reducible exact perm_Count.mono _ _)
      | (with_reducible exact LeO.refl _)
      | (with_reducible exact LeO.none _)
      | (with_reducible refine LeO.ite ?_ ?_)
      | (with_reducible refine LeO.bind ?_ (fun _ => ?_))
      | exact ih0 _ _ _ _ _ _
      | exact ih1 _ _ _ _ _ _ _ _ _ _ _ _ _ _
      | exact ih2 _ _ _ _ _ _ _ _ _ _ _ _ _ _ _ _
      | exact ih3 _ _ _ _ _ _ _ _ _ _ _ _ _ _ _ _ _
      | exact ih4 _ _ _ _ _ _ _ _ _ _ _ _ _ _ _ _
      | exact ih5 _ _ _ _ _ _ _ _ _ _ _ _ _ _ _ _
      | exact cubbyholelaw09_awake.mono _
      | exact perm_Count.mono _ _
      | exact LeO.none _
      | refine LeO.ite ?_ ?_
      | refine LeO.bind ?_ (fun _ => ?_)
    · intro y0 y1 y2 y3 y4 y5 y6 y7 y8 y9 y10 y11 y12 y13 y14 y15
      unfold cubbyholelaw09_PermSets.j4
      repeat' first
      | (with_reducible exact ih0 _ _ _ _ _ _)
      | (with_reducible exact ih1 _ _ _ _ _ _ _ _ _ _ _ _ _ _)
      | (with_reducible exact ih2 _ _ _ _ _ _ _ _ _ _ _ _ _ _ _ _)
      | (with_reducible exact ih3 _ _ _ _ _ _ _ _ _ _ _ _ _ _ _ _ _)
      | (with_reducible exact ih4 _ _ _ _ _ _ _ _ _ _ _ _ _ _ _ _)
      | (with_reducible exact ih5 _ _ _ _ _ _ _ _ _ _ _ _ _ _ _ _)
      | (with_reducible exact cubbyholelaw09_awake.mono _)
      | (with_reducible exact perm_Count.mono _ _)
      | (with_reducible exact LeO.refl _)
      | (with_reducible exact LeO.none _)
      | (with_reducible refine LeO.ite ?_ ?_)
      | (with_reducible refine LeO.bind ?_ (fun _ => ?_))
      | exact ih0 _ _ _ _ _ _
      | exact ih1 _ _ _ _ _ _ _ _ _ _ _ _ _ _
      | exact ih2 _ _ _ _ _ _ _ _ _ _ _ _ _ _ _ _
      | exact ih3 _ _ _ _ _ _ _ _ _ _ _ _ _ _ _ _ _
      | exact ih4 _ _ _ _ _ _ _ _ _ _ _ _ _ _ _ _
      | exact ih5 _ _ _ _ _ _ _ _ _ _ _ _ _ _ _ _
      | exact cubbyholelaw09_awake.mono _
      | exact perm_Count.mono _ _
      | exact LeO.none _
      | refine LeO.ite ?_ ?_
      | refine LeO.bind ?_ (fun _ => ?_)
    · intro y0 y1 y2 y3 y4 y5 y6 y7 y8 y9 y10 y11 y12 y13 y14 y15
      unfold cubbyholelaw09_PermSets.j5
      repeat' first
      | (with_reducible exact ih0 _ _ _ _ _ _)
      | (with_reducible exact ih1 _ _ _ _ _ _ _ _ _ _ _ _ _ _)
      | (with_reducible exact ih2 _ _ _ _ _ _ _ _ _ _ _ _ _ _ _ _)
      | (with_reducible exact ih3 _ _ _ _ _ _ _ _ _ _ _ _ _ _ _ _ _)
      | (with_reducible exact ih4 _ _ _ _ _ _ _ _ _ _ _ _ _ _ _ _)
      | (with_reducible exact ih5 _ _ _ _ _ _ _ _ _ _ _ _ _ _ _ _)
      | (with_reducible exact cubbyholelaw09_awake.mono _)
      | (with_reducible exact perm_Count.mono _ _)
      | (with_reducible exact LeO.refl _)
      | (with_reducible exact LeO.none _)
      | (with_reducible refine LeO.ite ?_ ?_)
      | (with_reducible refine LeO.bind ?_ (fun _ => ?_))
      | exact ih0 _ _ _ _ _ _
      | exact ih1 _ _ _ _ _ _ _ _ _ _ _ _ _ _
      | exact ih2 _ _ _ _ _ _ _ _ _ _ _ _ _ _ _ _
      | exact ih3 _ _ _ _ _ _ _ _ _ _ _ _ _ _ _ _ _
      | exact ih4 _ _ _ _ _ _ _ _ _ _ _ _ _ _ _ _
      | exact ih5 _ _ _ _ _ _ _ _ _ _ _ _ _ _ _ _
      | exact cubbyholelaw09_awake.mono _
      | exact perm_Count.mono _ _
      | exact LeO.none _
      | refine LeO.ite ?_ ?_
      | refine LeO.bind ?_ (fun _ => ?_)
theorem cubbyholelaw09_PermSets.mono : ∀ a0 a1 k, LeO (cubbyholelaw09_PermSets.f k a0 a1) (cubbyholelaw09_PermSets.f (k + 1) a0 a1) := by
  intro a0 a1 k
  obtain ⟨ih0, ih1, ih2, ih3, ih4, ih5⟩ := cubbyholelaw09_PermSets.mono_l k
  unfold cubbyholelaw09_PermSets.f
  repeat' first
      | (with_reducible exact ih0 _ _ _ _ _ _)
      | (with_reducible exact ih1 _ _ _ _ _ _ _ _ _ _ _ _ _ _)
      | (with_reducible exact ih2 _ _ _ _ _ _ _ _ _ _ _ _ _ _ _ _)
      | (with_reducible exact ih3 _ _ _ _ _ _ _ _ _ _ _ _ _ _ _ _ _)
      | (with_reducible exact ih4 _ _ _ _ _ _ _ _ _ _ _ _ _ _ _ _)
      | (with_reducible exact ih5 _ _ _ _ _ _ _ _ _ _ _ _ _ _ _ _)
      | (with_reducible exact cubbyholelaw09_awake.mono _)
      | (with_reducible exact perm_Count.mono _ _)
      | (with_reducible exact LeO.refl _)
      | (with_reducible exact LeO.none _)
      | (with_reducible refine LeO.ite ?_ ?_)
      | (with_reducible refine LeO.bind ?_ (fun _ => ?_))
      | exact ih0 _ _ _ _ _ _
      | exact ih1 _ _ _ _ _ _ _ _ _ _ _ _ _ _
      | exact ih2 _ _ _ _ _ _ _ _ _ _ _ _ _ _ _ _
      | exact ih3 _ _ _ _ _ _ _ _ _ _ _ _ _ _ _ _ _
      | exact ih4 _ _ _ _ _ _ _ _ _ _ _ _ _ _ _ _
      | exact ih5 _ _ _ _ _ _ _ _ _ _ _ _ _ _ _ _
      | exact cubbyholelaw09_awake.mono _
      | exact perm_Count.mono _ _
      | exact LeO.none _
      | refine LeO.ite ?_ ?_
      | refine LeO.bind ?_ (fun _ => ?_)
set_option maxHeartbeats 8000000 in
set_option maxRecDepth 100000 in
theorem cubbyholelaw09_PermSets.calls (k : Nat) (a0 : Int) (a1 : Int) (r : Bool) (w : World) (h : cubbyholelaw09_PermSets.f k a0 a1 = some r) :
    Calls Try.prog 9 #[.int .i64 a0, .int .i64 a1] w fun e w' => e = .returned (.bool r) ∧ Below w.heap.size w w' := by
  have HB := Aside0.mk (Below.refl w.heap.size w)
  have H : (if (wrap64 ((Go.bits .and .i64 a0 63) - 8)) ≥ 0 then (if (wrap64 ((Go.bits .and .i64 a0 63) - 8)) ≤ 31 then (if (wrap64 ((Go.bits .and .i64 a1 63) - 8)) ≥ 0 then (cubbyholelaw09_PermSets.j0 k a0 a1 (wrap64 ((Go.bits .and .i64 a0 63) - 8)) (wrap64 ((Go.bits .and .i64 a1 63) - 8)) (decide ((wrap64 ((Go.bits .and .i64 a0 63) - 8)) ≤ 31)) (decide ((wrap64 ((Go.bits .and .i64 a1 63) - 8)) ≤ 31))) else (cubbyholelaw09_PermSets.j0 k a0 a1 (wrap64 ((Go.bits .and .i64 a0 63) - 8)) (wrap64 ((Go.bits .and .i64 a1 63) - 8)) (decide ((wrap64 ((Go.bits .and .i64 a0 63) - 8)) ≤ 31)) false)) else (cubbyholelaw09_PermSets.j0 k a0 a1 (wrap64 ((Go.bits .and .i64 a0 63) - 8)) (wrap64 ((Go.bits .and .i64 a1 63) - 8)) (decide ((wrap64 ((Go.bits .and .i64 a0 63) - 8)) ≤ 31)) false)) else (cubbyholelaw09_PermSets.j0 k a0 a1 (wrap64 ((Go.bits .and .i64 a0 63) - 8)) (wrap64 ((Go.bits .and .i64 a1 63) - 8)) false false)) = some r := h
  clear h
  have HC3 := Aside0.mk H
  clear H
  go_enter Try.func9, Try.ntmps9
  go_upto_region 2 with (fail)
  go_cut [7, 8] (fun v7 v8 wc => ∃ (kq : Nat) (x7_2 : Bool) (x8_2 : Bool), v7 = .bool x7_2 ∧ v8 = .bool x8_2 ∧ Aside0 (cubbyholelaw09_PermSets.j0 kq a0 a1 (wrap64 ((Go.bits .and .i64 a0 63) - 8)) (wrap64 ((Go.bits .and .i64 a1 63) - 8)) x7_2 x8_2 = some r) ∧ Aside0 (kq ≤ k) ∧ Aside0 (Below w.heap.size w wc))
  case first =>
    have H := HC3.out
    clear HC3
    by_cases c4 : (wrap64 ((Go.bits .and .i64 a0 63) - 8)) ≥ 0
    · rw [if_pos c4] at H
      have c4b0 : decide (0 ≤ (wrap64 ((Go.bits .and .i64 a0 63) - 8))) = true := decide_eq_true c4
      clear c4
      (first | rw [c4b0] | (simp only [i64_w, i32_w]; rw [c4b0]) | skip)
      by_cases c5 : (wrap64 ((Go.bits .and .i64 a0 63) - 8)) ≤ 31
      · rw [if_pos c5] at H
        have c5b0 : decide ((wrap64 ((Go.bits .and .i64 a0 63) - 8)) ≤ 31) = true := decide_eq_true c5
        clear c5
        by_cases c6 : (wrap64 ((Go.bits .and .i64 a1 63) - 8)) ≥ 0
        · rw [if_pos c6] at H
          have c6b0 : decide (0 ≤ (wrap64 ((Go.bits .and .i64 a1 63) - 8))) = true := decide_eq_true c6
          clear c6
          have H' := Aside0.mk H
          clear H
          go_wp2
          go_meet
          case rel => exact ⟨_, (decide ((wrap64 ((Go.bits .and .i64 a0 63) - 8)) ≤ 31)), (decide ((wrap64 ((Go.bits .and .i64 a1 63) - 8)) ≤ 31)), (by first | rfl | (simp; done) | (simp [*]; done)), (by first | rfl | (simp; done) | (simp [*]; done)), H', ⟨by first | omega | exact Nat.le_refl _⟩, ⟨by repeat (first | (with_reducible first | exact HB.out | apply below_alloc | apply pw_below_drewN | apply below_drew1) | exact HB.out)⟩⟩
        · rw [if_neg c6] at H
          have c6b0 : decide (0 ≤ (wrap64 ((Go.bits .and .i64 a1 63) - 8))) = false := decide_eq_false c6
          clear c6
          have H' := Aside0.mk H
          clear H
          go_wp2
          go_meet
          case rel => exact ⟨_, (decide ((wrap64 ((Go.bits .and .i64 a0 63) - 8)) ≤ 31)), (false), (by first | rfl | (simp; done) | (simp [*]; done)), (by first | rfl | (simp; done) | (simp [*]; done)), H', ⟨by first | omega | exact Nat.le_refl _⟩, ⟨by repeat (first | (with_reducible first | exact HB.out | apply below_alloc | apply pw_below_drewN | apply below_drew1) | exact HB.out)⟩⟩
      · rw [if_neg c5] at H
        have c5b0 : decide ((wrap64 ((Go.bits .and .i64 a0 63) - 8)) ≤ 31) = false := decide_eq_false c5
        clear c5
        have H' := Aside0.mk H
        clear H
        go_wp2
        go_meet
        case rel => exact ⟨_, (decide ((wrap64 ((Go.bits .and .i64 a0 63) - 8)) ≤ 31)), (false), (by first | rfl | (simp; done) | (simp [*]; done)), (by first | rfl | (simp; done) | (simp [*]; done)), H', ⟨by first | omega | exact Nat.le_refl _⟩, ⟨by repeat (first | (with_reducible first | exact HB.out | apply below_alloc | apply pw_below_drewN | apply below_drew1) | exact HB.out)⟩⟩
    · rw [if_neg c4] at H
      have c4b0 : decide (0 ≤ (wrap64 ((Go.bits .and .i64 a0 63) - 8))) = false := decide_eq_false c4
      clear c4
      (first | rw [c4b0] | (simp only [i64_w, i32_w]; rw [c4b0]) | skip)
      have H' := Aside0.mk H
      clear H
      go_wp2
      go_meet
      case rel => exact ⟨_, (false), (false), (by first | rfl | (simp; done) | (simp [*]; done)), (by first | rfl | (simp; done) | (simp [*]; done)), H', ⟨by first | omega | exact Nat.le_refl _⟩, ⟨by repeat (first | (with_reducible first | exact HB.out | apply below_alloc | apply pw_below_drewN | apply below_drew1) | exact HB.out)⟩⟩
  case rest =>
    clear HC3
    try clear p2
    try clear c4
    try clear c4b0
    try clear c5
    try clear c5b0
    try clear c6
    try clear c6b0
    try clear p6
    obtain ⟨kq, x7_2, x8_2, rfl, rfl, HA, HJ2, HB⟩ := hcut
    cases kq with
    | zero => exact absurd HA.out (by simp [cubbyholelaw09_PermSets.j0])
    | succ kj2 =>
      have H := HA.out
      clear HA
      simp only [cubbyholelaw09_PermSets.j0] at H
      obtain ⟨ji7, hji7⟩ : ∃ j_ : Int, (mx (wrap64 ((Go.bits .and .i64 a0 63) - 8)) 0) = j_ := ⟨_, rfl⟩
      replace H : (cubbyholelaw09_PermSets.l0 kj2 a0 a1 (wrap64 ((Go.bits .and .i64 a0 63) - 8)) (wrap64 ((Go.bits .and .i64 a1 63) - 8)) x7_2 x8_2 x8_2 0 0 0 ji7 (mx (wrap64 ((Go.bits .and .i64 a1 63) - 8)) 0) 1 0) = some r := by first | (rw [hji7] at H; exact H) | (simp only [hji7] at H ⊢; exact H)
      have hji7_ : (if (wrap64 ((Go.bits .and .i64 a0 63) - 8)) < 0 then 0 else (wrap64 ((Go.bits .and .i64 a0 63) - 8))) = ji7 := hji7
      obtain ⟨ji8, hji8⟩ : ∃ j_ : Int, (mx (wrap64 ((Go.bits .and .i64 a1 63) - 8)) 0) = j_ := ⟨_, rfl⟩
      replace H : (cubbyholelaw09_PermSets.l0 kj2 a0 a1 (wrap64 ((Go.bits .and .i64 a0 63) - 8)) (wrap64 ((Go.bits .and .i64 a1 63) - 8)) x7_2 x8_2 x8_2 0 0 0 ji7 ji8 1 0) = some r := by first | (rw [hji8] at H; exact H) | (simp only [hji8] at H ⊢; exact H)
      have hji8_ : (if (wrap64 ((Go.bits .and .i64 a1 63) - 8)) < 0 then 0 else (wrap64 ((Go.bits .and .i64 a1 63) - 8))) = ji8 := hji8
      have H' := Aside0.mk H
      clear H
      go_wp2
      go_loopg [9, 10, 11, 12, 13, 14, 15, 16] kj2 (fun kq v9 v10 v11 v12 v13 v14 v15 v16 w' => ∃ (x9_2 : Bool) (x10_2 : Int) (x11_2 : Int) (x12_2 : Int) (x13_2 : Int) (x14_2 : Int) (x15_2 : Int) (x16_2 : Int), v9 = .bool x9_2 ∧ v10 = .int .i64 x10_2 ∧ v11 = .int .i64 x11_2 ∧ v12 = .int .i64 x12_2 ∧ v13 = .int .i64 x13_2 ∧ v14 = .int .i64 x14_2 ∧ v15 = .int .i64 x15_2 ∧ v16 = .int .i64 x16_2 ∧ Aside0 (cubbyholelaw09_PermSets.l0 kq a0 a1 (wrap64 ((Go.bits .and .i64 a0 63) - 8)) (wrap64 ((Go.bits .and .i64 a1 63) - 8)) x7_2 x8_2 x9_2 x10_2 x11_2 x12_2 x13_2 x14_2 x15_2 x16_2 = some r) ∧ Aside0 (kq ≤ kj2) ∧ Aside0 (Below w.heap.size w w'))
      case atStart => exact ⟨(x8_2), (0), (0), (0), (ji7), (ji8), (1), (0), (by first | rfl | (simp; done) | (simp [*]; done)), (by first | rfl | (simp; done) | (simp [*]; done)), (by first | rfl | (simp; done) | (simp [*]; done)), (by first | rfl | (simp; done) | (simp [*]; done)), (by first | rfl | (simp; done) | (simp only [← hji7] <;> (first | rfl | simp)) | (simp [*]; done)), (by first | rfl | (simp; done) | (simp only [← hji8] <;> (first | rfl | simp)) | (simp [*]; done)), (by first | rfl | (simp; done) | (simp [*]; done)), (by first | rfl | (simp; done) | (simp [*]; done)), H', ⟨Nat.le_refl _⟩, ⟨by repeat (first | (with_reducible first | exact HB.out | apply below_alloc | apply pw_below_drewN | apply below_drew1) | exact HB.out)⟩⟩
      case round =>
        clear H'
        try clear p2
        try clear c4
        try clear c4b0
        try clear c5
        try clear c5b0
        try clear c6
        try clear c6b0
        try clear p6
        try clear p2
        try clear p6
        obtain ⟨x9_2, x10_2, x11_2, x12_2, x13_2, x14_2, x15_2, x16_2, rfl, rfl, rfl, rfl, rfl, rfl, rfl, rfl, HA, HK2, HB⟩ := hrel
        cases gk with
        | zero => exact absurd HA.out (by simp [cubbyholelaw09_PermSets.l0])
        | succ k2 =>
          have H := HA.out
          clear HA
          simp only [cubbyholelaw09_PermSets.l0] at H
          by_cases c9 : x16_2 < 5
          · rw [if_pos c9] at H
            have c9b0 : decide (x16_2 < 5) = true := decide_eq_true c9
            clear c9
            have HC10 := Aside0.mk H
            clear H
            go_upto_region 8 with (fail)
            go_cut [9, 17, 18] (fun v9 v17 v18 wc => ∃ (kq : Nat) (x9_9 : Bool), v9 = .bool x9_9 ∧ v17 = .bool (Int.tmod x13_2 2 == 1) ∧ v18 = .bool (Int.tmod x14_2 2 == 1) ∧ Aside0 (cubbyholelaw09_PermSets.j2 kq a0 a1 (wrap64 ((Go.bits .and .i64 a0 63) - 8)) (wrap64 ((Go.bits .and .i64 a1 63) - 8)) x7_2 x8_2 x9_9 x10_2 x11_2 x12_2 x13_2 x14_2 x15_2 x16_2 ((Int.tmod x13_2 2) == 1) ((Int.tmod x14_2 2) == 1) = some r) ∧ Aside0 (kq ≤ k2) ∧ Aside0 (Below w.heap.size w wc))
            case first =>
              have H := HC10.out
              clear HC10
              by_cases c11 : x9_2 = true
              · subst c11
                have H1 : (if (Int.tmod x13_2 2) = 1 then (cubbyholelaw09_PermSets.j2 k2 a0 a1 (wrap64 ((Go.bits .and .i64 a0 63) - 8)) (wrap64 ((Go.bits .and .i64 a1 63) - 8)) x7_2 x8_2 true x10_2 x11_2 x12_2 x13_2 x14_2 x15_2 x16_2 ((Int.tmod x13_2 2) == 1) ((Int.tmod x14_2 2) == 1)) else (cubbyholelaw09_PermSets.j2 k2 a0 a1 (wrap64 ((Go.bits .and .i64 a0 63) - 8)) (wrap64 ((Go.bits .and .i64 a1 63) - 8)) x7_2 x8_2 (!((Int.tmod x14_2 2) == 1)) x10_2 x11_2 x12_2 x13_2 x14_2 x15_2 x16_2 ((Int.tmod x13_2 2) == 1) ((Int.tmod x14_2 2) == 1))) = some r := by rw [if_pos rfl] at H; exact H
                clear H
                have H := H1
                clear H1
                by_cases c12 : (Int.tmod x13_2 2) = 1
                · rw [if_pos c12] at H
                  have c12b0 : ((Int.tmod x13_2 2) == 1) = true := beq_iff_eq.mpr c12
                  have c12b1 : ((Int.tmod x13_2 2) != 1) = false := bne_eq_false_iff_eq.mpr c12
                  clear c12
                  (first | rw [c12b0] | (simp only [i64_w, i32_w]; rw [c12b0]) | skip)
                  have H' := Aside0.mk H
                  clear H
                  go_wp2
                  go_meet
                  case rel => exact ⟨_, (true), (by first | rfl | (simp; done) | (simp [*]; done)), (by first | rfl | (simp; done) | (simp [*]; done)), (by first | rfl | (simp; done) | (simp [*]; done)), H', ⟨by have := HJ2.out; have := HK2.out; first | omega | exact Nat.le_refl _⟩, ⟨by repeat (first | (with_reducible first | exact HB.out | apply below_alloc | apply pw_below_drewN | apply below_drew1) | exact HB.out)⟩⟩
                · rw [if_neg c12] at H
                  have c12b0 : ((Int.tmod x13_2 2) == 1) = false := beq_eq_false_iff_ne.mpr c12
                  have c12b1 : ((Int.tmod x13_2 2) != 1) = true := bne_iff_ne.mpr c12
                  (first | rw [c12b0] | (simp only [i64_w, i32_w]; rw [c12b0]) | skip)
                  have H' := Aside0.mk H
                  clear H
                  go_wp2
                  go_meet
                  case rel => exact ⟨_, (!((Int.tmod x14_2 2) == 1)), (by first | rfl | (simp; done) | (simp [*]; done)), (by first | rfl | (simp; done) | (simp [*]; done)), (by first | rfl | (simp; done) | (simp [*]; done)), H', ⟨by have := HJ2.out; have := HK2.out; first | omega | exact Nat.le_refl _⟩, ⟨by repeat (first | (with_reducible first | exact HB.out | apply below_alloc | apply pw_below_drewN | apply below_drew1) | exact HB.out)⟩⟩
              · replace c11 := Bool.eq_false_iff.mpr c11
                subst c11
                have H1 : (cubbyholelaw09_PermSets.j2 k2 a0 a1 (wrap64 ((Go.bits .and .i64 a0 63) - 8)) (wrap64 ((Go.bits .and .i64 a1 63) - 8)) x7_2 x8_2 false x10_2 x11_2 x12_2 x13_2 x14_2 x15_2 x16_2 ((Int.tmod x13_2 2) == 1) ((Int.tmod x14_2 2) == 1)) = some r := by rw [if_neg (show ¬ (false = true) by decide)] at H; exact H
                clear H
                have H := H1
                clear H1
                have H' := Aside0.mk H
                clear H
                go_wp2
                go_meet
                case rel => exact ⟨_, (false), (by first | rfl | (simp; done) | (simp [*]; done)), (by first | rfl | (simp; done) | (simp [*]; done)), (by first | rfl | (simp; done) | (simp [*]; done)), H', ⟨by have := HJ2.out; have := HK2.out; first | omega | exact Nat.le_refl _⟩, ⟨by repeat (first | (with_reducible first | exact HB.out | apply below_alloc | apply pw_below_drewN | apply below_drew1) | exact HB.out)⟩⟩
            case rest =>
              clear HC10
              try clear c1
              try clear p2
              try clear c4
              try clear c4b0
              try clear c5
              try clear c5b0
              try clear c6
              try clear c6b0
              try clear p6
              try clear c9
              try clear c9b0
              try clear c11
              try clear c12
              try clear c12b0
              try clear c12b1
              try clear p2
              try clear p6
              obtain ⟨kq, x9_9, rfl, rfl, rfl, HA, HJ9, HB⟩ := hcut
              cases kq with
              | zero => exact absurd HA.out (by simp [cubbyholelaw09_PermSets.j2])
              | succ kj9 =>
                have H := HA.out
                clear HA
                simp only [cubbyholelaw09_PermSets.j2] at H
                have HC13 := Aside0.mk H
                clear H
                go_upto_region 9 with (fail)
                go_cut [74, 17, 18] (fun v74 v17 v18 wc => ∃ (kq : Nat) (x74_12 : Bool), v74 = .bool x74_12 ∧ v17 = .bool (Int.tmod x13_2 2 == 1) ∧ v18 = .bool (Int.tmod x14_2 2 == 1) ∧ Aside0 (cubbyholelaw09_PermSets.j3 kq a0 a1 (wrap64 ((Go.bits .and .i64 a0 63) - 8)) (wrap64 ((Go.bits .and .i64 a1 63) - 8)) x7_2 x8_2 x9_9 x10_2 x11_2 x12_2 x13_2 x14_2 x15_2 x16_2 ((Int.tmod x13_2 2) == 1) ((Int.tmod x14_2 2) == 1) x74_12 = some r) ∧ Aside0 (kq ≤ kj9) ∧ Aside0 (Below w.heap.size w wc))
                case first =>
                  have H := HC13.out
                  clear HC13
                  by_cases c14 : x8_2 = true
                  · subst c14
                    have H1 : (if ((Int.tmod x13_2 2) == 1) = true then (cubbyholelaw09_PermSets.j3 kj9 a0 a1 (wrap64 ((Go.bits .and .i64 a0 63) - 8)) (wrap64 ((Go.bits .and .i64 a1 63) - 8)) x7_2 true x9_9 x10_2 x11_2 x12_2 x13_2 x14_2 x15_2 x16_2 ((Int.tmod x13_2 2) == 1) ((Int.tmod x14_2 2) == 1) ((Int.tmod x14_2 2) == 1)) else (cubbyholelaw09_PermSets.j3 kj9 a0 a1 (wrap64 ((Go.bits .and .i64 a0 63) - 8)) (wrap64 ((Go.bits .and .i64 a1 63) - 8)) x7_2 true x9_9 x10_2 x11_2 x12_2 x13_2 x14_2 x15_2 x16_2 ((Int.tmod x13_2 2) == 1) ((Int.tmod x14_2 2) == 1) false)) = some r := by rw [if_pos rfl] at H; exact H
                    clear H
                    have H := H1
                    clear H1
                    by_cases c15 : ((Int.tmod x13_2 2) == 1) = true
                    · rw [if_pos c15] at H
                      have c15b0 : ((Int.tmod x13_2 2) == 1) = true := c15
                      (try (have c15b1 : decide ((Int.tmod x13_2 2) = 1) = true := by simpa using c15))
                      (try (have c15b2 : ((Int.tmod x13_2 2) == 1) = true := by simpa using c15))
                      clear c15
                      (first | rw [c15b0] | (simp only [i64_w, i32_w]; rw [c15b0]) | skip)
                      have H' := Aside0.mk H
                      clear H
                      go_wp2
                      go_meet
                      case rel => exact ⟨_, (((Int.tmod x14_2 2) == 1)), (by first | rfl | (simp; done) | (simp [*]; done)), (by first | rfl | (simp; done) | (simp [*]; done)), (by first | rfl | (simp; done) | (simp [*]; done)), H', ⟨by have := HJ2.out; have := HK2.out; have := HJ9.out; first | omega | exact Nat.le_refl _⟩, ⟨by repeat (first | (with_reducible first | exact HB.out | apply below_alloc | apply pw_below_drewN | apply below_drew1) | exact HB.out)⟩⟩
                    · rw [if_neg c15] at H
                      have c15b0 : ((Int.tmod x13_2 2) == 1) = false := by simpa using c15
                      (try (have c15b1 : decide ((Int.tmod x13_2 2) = 1) = false := by simpa using c15))
                      (try (have c15b2 : ((Int.tmod x13_2 2) == 1) = false := by simpa using c15))
                      (try (have c15b3 : ¬ ((Int.tmod x13_2 2) = 1) := by simpa using c15))
                      clear c15
                      (first | rw [c15b0] | (simp only [i64_w, i32_w]; rw [c15b0]) | skip)
                      have H' := Aside0.mk H
                      clear H
                      go_wp2
                      go_meet
                      case rel => exact ⟨_, (false), (by first | rfl | (simp; done) | (simp [*]; done)), (by first | rfl | (simp; done) | (simp [*]; done)), (by first | rfl | (simp; done) | (simp [*]; done)), H', ⟨by have := HJ2.out; have := HK2.out; have := HJ9.out; first | omega | exact Nat.le_refl _⟩, ⟨by repeat (first | (with_reducible first | exact HB.out | apply below_alloc | apply pw_below_drewN | apply below_drew1) | exact HB.out)⟩⟩
                  · replace c14 := Bool.eq_false_iff.mpr c14
                    subst c14
                    have H1 : (cubbyholelaw09_PermSets.j3 kj9 a0 a1 (wrap64 ((Go.bits .and .i64 a0 63) - 8)) (wrap64 ((Go.bits .and .i64 a1 63) - 8)) x7_2 false x9_9 x10_2 x11_2 x12_2 x13_2 x14_2 x15_2 x16_2 ((Int.tmod x13_2 2) == 1) ((Int.tmod x14_2 2) == 1) false) = some r := by rw [if_neg (show ¬ (false = true) by decide)] at H; exact H
                    clear H
                    have H := H1
                    clear H1
                    have H' := Aside0.mk H
                    clear H
                    go_wp2
                    go_meet
                    case rel => exact ⟨_, (false), (by first | rfl | (simp; done) | (simp [*]; done)), (by first | rfl | (simp; done) | (simp [*]; done)), (by first | rfl | (simp; done) | (simp [*]; done)), H', ⟨by have := HJ2.out; have := HK2.out; have := HJ9.out; first | omega | exact Nat.le_refl _⟩, ⟨by repeat (first | (with_reducible first | exact HB.out | apply below_alloc | apply pw_below_drewN | apply below_drew1) | exact HB.out)⟩⟩
                case rest =>
                  clear HC13
                  try clear c1
                  try clear p2
                  try clear c4
                  try clear c4b0
                  try clear c5
                  try clear c5b0
                  try clear c6
                  try clear c6b0
                  try clear p6
                  try clear c9
                  try clear c9b0
                  try clear c11
                  try clear c12
                  try clear c12b0
                  try clear c12b1
                  try clear c14
                  try clear c15
                  try clear c15b0
                  try clear c15b1
                  try clear c15b2
                  try clear p2
                  try clear p6
                  obtain ⟨kq, x74_12, rfl, rfl, rfl, HA, HJ12, HB⟩ := hcut
                  cases kq with
                  | zero => exact absurd HA.out (by simp [cubbyholelaw09_PermSets.j3])
                  | succ kj12 =>
                    have H := HA.out
                    clear HA
                    simp only [cubbyholelaw09_PermSets.j3] at H
                    have HC16 := Aside0.mk H
                    clear H
                    go_upto_if 74 with (fail)
                    go_cut [10, 17, 18] (fun v10 v17 v18 wc => ∃ (kq : Nat) (x10_15 : Int), v10 = .int .i64 x10_15 ∧ v17 = .bool (Int.tmod x13_2 2 == 1) ∧ v18 = .bool (Int.tmod x14_2 2 == 1) ∧ Aside0 (cubbyholelaw09_PermSets.j4 kq a0 a1 (wrap64 ((Go.bits .and .i64 a0 63) - 8)) (wrap64 ((Go.bits .and .i64 a1 63) - 8)) x7_2 x8_2 x9_9 x10_15 x11_2 x12_2 x13_2 x14_2 x15_2 x16_2 ((Int.tmod x13_2 2) == 1) ((Int.tmod x14_2 2) == 1) = some r) ∧ Aside0 (kq ≤ kj12) ∧ Aside0 (Below w.heap.size w wc))
                    case first =>
                      have H := HC16.out
                      clear HC16
                      by_cases c17 : x74_12 = true
                      · subst c17
                        have H1 : (cubbyholelaw09_PermSets.j4 kj12 a0 a1 (wrap64 ((Go.bits .and .i64 a0 63) - 8)) (wrap64 ((Go.bits .and .i64 a1 63) - 8)) x7_2 x8_2 x9_9 (wrap64 (x10_2 + x15_2)) x11_2 x12_2 x13_2 x14_2 x15_2 x16_2 ((Int.tmod x13_2 2) == 1) ((Int.tmod x14_2 2) == 1)) = some r := by rw [if_pos rfl] at H; exact H
                        clear H
                        have H := H1
                        clear H1
                        have H' := Aside0.mk H
                        clear H
                        go_wp2
                        go_meet
                        case rel => exact ⟨_, (wrap64 (x10_2 + x15_2)), (by first | rfl | (simp; done) | (simp [*]; done)), (by first | rfl | (simp; done) | (simp [*]; done)), (by first | rfl | (simp; done) | (simp [*]; done)), H', ⟨by have := HJ2.out; have := HK2.out; have := HJ9.out; have := HJ12.out; first | omega | exact Nat.le_refl _⟩, ⟨by repeat (first | (with_reducible first | exact HB.out | apply below_alloc | apply pw_below_drewN | apply below_drew1) | exact HB.out)⟩⟩
                      · replace c17 := Bool.eq_false_iff.mpr c17
                        subst c17
                        have H1 : (cubbyholelaw09_PermSets.j4 kj12 a0 a1 (wrap64 ((Go.bits .and .i64 a0 63) - 8)) (wrap64 ((Go.bits .and .i64 a1 63) - 8)) x7_2 x8_2 x9_9 x10_2 x11_2 x12_2 x13_2 x14_2 x15_2 x16_2 ((Int.tmod x13_2 2) == 1) ((Int.tmod x14_2 2) == 1)) = some r := by rw [if_neg (show ¬ (false = true) by decide)] at H; exact H
                        clear H
                        have H := H1
                        clear H1
                        have H' := Aside0.mk H
                        clear H
                        go_wp2
                        go_meet
                        case rel => exact ⟨_, (x10_2), (by first | rfl | (simp; done) | (simp [*]; done)), (by first | rfl | (simp; done) | (simp [*]; done)), (by first | rfl | (simp; done) | (simp [*]; done)), H', ⟨by have := HJ2.out; have := HK2.out; have := HJ9.out; have := HJ12.out; first | omega | exact Nat.le_refl _⟩, ⟨by repeat (first | (with_reducible first | exact HB.out | apply below_alloc | apply pw_below_drewN | apply below_drew1) | exact HB.out)⟩⟩
                    case rest =>
                      clear HC16
                      try clear c1
                      try clear p2
                      try clear c4
                      try clear c4b0
                      try clear c5
                      try clear c5b0
                      try clear c6
                      try clear c6b0
                      try clear p6
                      try clear c9
                      try clear c9b0
                      try clear c11
                      try clear c12
                      try clear c12b0
                      try clear c12b1
                      try clear c14
                      try clear c15
                      try clear c15b0
                      try clear c15b1
                      try clear c15b2
                      try clear c17
                      try clear p2
                      try clear p6
                      obtain ⟨kq, x10_15, rfl, rfl, rfl, HA, HJ15, HB⟩ := hcut
                      cases kq with
                      | zero => exact absurd HA.out (by simp [cubbyholelaw09_PermSets.j4])
                      | succ kj15 =>
                        have H := HA.out
                        clear HA
                        simp only [cubbyholelaw09_PermSets.j4] at H
                        have HC18 := Aside0.mk H
                        clear H
                        go_upto_region 11 with (fail)
                        go_cut [85, 17, 18] (fun v85 v17 v18 wc => ∃ (kq : Nat) (x85_17 : Bool), v85 = .bool x85_17 ∧ v17 = .bool (Int.tmod x13_2 2 == 1) ∧ v18 = .bool (Int.tmod x14_2 2 == 1) ∧ Aside0 (cubbyholelaw09_PermSets.j5 kq a0 a1 (wrap64 ((Go.bits .and .i64 a0 63) - 8)) (wrap64 ((Go.bits .and .i64 a1 63) - 8)) x7_2 x8_2 x9_9 x10_15 x11_2 x12_2 x13_2 x14_2 x15_2 x16_2 ((Int.tmod x13_2 2) == 1) x85_17 = some r) ∧ Aside0 (kq ≤ kj15) ∧ Aside0 (Below w.heap.size w wc))
                        case first =>
                          have H := HC18.out
                          clear HC18
                          by_cases c19 : x8_2 = true
                          · subst c19
                            have H1 : (if ((Int.tmod x13_2 2) == 1) = true then (cubbyholelaw09_PermSets.j5 kj15 a0 a1 (wrap64 ((Go.bits .and .i64 a0 63) - 8)) (wrap64 ((Go.bits .and .i64 a1 63) - 8)) x7_2 true x9_9 x10_15 x11_2 x12_2 x13_2 x14_2 x15_2 x16_2 ((Int.tmod x13_2 2) == 1) (!((Int.tmod x14_2 2) == 1))) else (cubbyholelaw09_PermSets.j5 kj15 a0 a1 (wrap64 ((Go.bits .and .i64 a0 63) - 8)) (wrap64 ((Go.bits .and .i64 a1 63) - 8)) x7_2 true x9_9 x10_15 x11_2 x12_2 x13_2 x14_2 x15_2 x16_2 ((Int.tmod x13_2 2) == 1) false)) = some r := by rw [if_pos rfl] at H; exact H
                            clear H
                            have H := H1
                            clear H1
                            by_cases c20 : ((Int.tmod x13_2 2) == 1) = true
                            · rw [if_pos c20] at H
                              have c20b0 : ((Int.tmod x13_2 2) == 1) = true := c20
                              (try (have c20b1 : decide ((Int.tmod x13_2 2) = 1) = true := by simpa using c20))
                              (try (have c20b2 : ((Int.tmod x13_2 2) == 1) = true := by simpa using c20))
                              clear c20
                              (first | rw [c20b0] | (simp only [i64_w, i32_w]; rw [c20b0]) | skip)
                              have H' := Aside0.mk H
                              clear H
                              go_wp2
                              go_meet
                              case rel => exact ⟨_, (!((Int.tmod x14_2 2) == 1)), (by first | rfl | (simp; done) | (simp [*]; done)), (by first | rfl | (simp; done) | (simp [*]; done)), (by first | rfl | (simp; done) | (simp [*]; done)), H', ⟨by have := HJ2.out; have := HK2.out; have := HJ9.out; have := HJ12.out; have := HJ15.out; first | omega | exact Nat.le_refl _⟩, ⟨by repeat (first | (with_reducible first | exact HB.out | apply below_alloc | apply pw_below_drewN | apply below_drew1) | exact HB.out)⟩⟩
                            · rw [if_neg c20] at H
                              have c20b0 : ((Int.tmod x13_2 2) == 1) = false := by simpa using c20
                              (try (have c20b1 : decide ((Int.tmod x13_2 2) = 1) = false := by simpa using c20))
                              (try (have c20b2 : ((Int.tmod x13_2 2) == 1) = false := by simpa using c20))
                              (try (have c20b3 : ¬ ((Int.tmod x13_2 2) = 1) := by simpa using c20))
                              clear c20
                              (first | rw [c20b0] | (simp only [i64_w, i32_w]; rw [c20b0]) | skip)
                              have H' := Aside0.mk H
                              clear H
                              go_wp2
                              go_meet
                              case rel => exact ⟨_, (false), (by first | rfl | (simp; done) | (simp [*]; done)), (by first | rfl | (simp; done) | (simp [*]; done)), (by first | rfl | (simp; done) | (simp [*]; done)), H', ⟨by have := HJ2.out; have := HK2.out; have := HJ9.out; have := HJ12.out; have := HJ15.out; first | omega | exact Nat.le_refl _⟩, ⟨by repeat (first | (with_reducible first | exact HB.out | apply below_alloc | apply pw_below_drewN | apply below_drew1) | exact HB.out)⟩⟩
                          · replace c19 := Bool.eq_false_iff.mpr c19
                            subst c19
                            have H1 : (cubbyholelaw09_PermSets.j5 kj15 a0 a1 (wrap64 ((Go.bits .and .i64 a0 63) - 8)) (wrap64 ((Go.bits .and .i64 a1 63) - 8)) x7_2 false x9_9 x10_15 x11_2 x12_2 x13_2 x14_2 x15_2 x16_2 ((Int.tmod x13_2 2) == 1) false) = some r := by rw [if_neg (show ¬ (false = true) by decide)] at H; exact H
                            clear H
                            have H := H1
                            clear H1
                            have H' := Aside0.mk H
                            clear H
                            go_wp2
                            go_meet
                            case rel => exact ⟨_, (false), (by first | rfl | (simp; done) | (simp [*]; done)), (by first | rfl | (simp; done) | (simp [*]; done)), (by first | rfl | (simp; done) | (simp [*]; done)), H', ⟨by have := HJ2.out; have := HK2.out; have := HJ9.out; have := HJ12.out; have := HJ15.out; first | omega | exact Nat.le_refl _⟩, ⟨by repeat (first | (with_reducible first | exact HB.out | apply below_alloc | apply pw_below_drewN | apply below_drew1) | exact HB.out)⟩⟩
                        case rest =>
                          clear HC18
                          try clear c1
                          try clear c2
                          try clear p2
                          try clear c4
                          try clear c4b0
                          try clear c5
                          try clear c5b0
                          try clear c6
                          try clear c6b0
                          try clear p6
                          try clear c9
                          try clear c9b0
                          try clear c11
                          try clear c12
                          try clear c12b0
                          try clear c12b1
                          try clear c14
                          try clear c15
                          try clear c15b0
                          try clear c15b1
                          try clear c15b2
                          try clear c17
                          try clear c19
                          try clear c20
                          try clear c20b0
                          try clear c20b1
                          try clear c20b2
                          try clear p2
                          try clear p6
                          obtain ⟨kq, x85_17, rfl, rfl, rfl, HA, HJ17, HB⟩ := hcut
                          cases kq with
                          | zero => exact absurd HA.out (by simp [cubbyholelaw09_PermSets.j5])
                          | succ kj17 =>
                            have H := HA.out
                            clear HA
                            simp only [cubbyholelaw09_PermSets.j5] at H
                            by_cases c21 : x85_17 = true
                            · subst c21
                              have H1 : (if x7_2 = true then (if ((Int.tmod x13_2 2) == 1) = true then (cubbyholelaw09_PermSets.l0 kj17 a0 a1 (wrap64 ((Go.bits .and .i64 a0 63) - 8)) (wrap64 ((Go.bits .and .i64 a1 63) - 8)) x7_2 x8_2 x9_9 x10_15 (wrap64 (x11_2 + x15_2)) (wrap64 (x12_2 + 1)) (wrap64 (Int.tdiv x13_2 2)) (wrap64 (Int.tdiv x14_2 2)) (wrap64 (x15_2 * 2)) (wrap64 (x16_2 + 1))) else (cubbyholelaw09_PermSets.l0 kj17 a0 a1 (wrap64 ((Go.bits .and .i64 a0 63) - 8)) (wrap64 ((Go.bits .and .i64 a1 63) - 8)) x7_2 x8_2 x9_9 x10_15 (wrap64 (x11_2 + x15_2)) x12_2 (wrap64 (Int.tdiv x13_2 2)) (wrap64 (Int.tdiv x14_2 2)) (wrap64 (x15_2 * 2)) (wrap64 (x16_2 + 1)))) else (cubbyholelaw09_PermSets.l0 kj17 a0 a1 (wrap64 ((Go.bits .and .i64 a0 63) - 8)) (wrap64 ((Go.bits .and .i64 a1 63) - 8)) x7_2 x8_2 x9_9 x10_15 (wrap64 (x11_2 + x15_2)) x12_2 (wrap64 (Int.tdiv x13_2 2)) (wrap64 (Int.tdiv x14_2 2)) (wrap64 (x15_2 * 2)) (wrap64 (x16_2 + 1)))) = some r := by rw [if_pos rfl] at H; exact H
                              clear H
                              have H := H1
                              clear H1
                              by_cases c22 : x7_2 = true
                              · subst c22
                                have H1 : (if ((Int.tmod x13_2 2) == 1) = true then (cubbyholelaw09_PermSets.l0 kj17 a0 a1 (wrap64 ((Go.bits .and .i64 a0 63) - 8)) (wrap64 ((Go.bits .and .i64 a1 63) - 8)) true x8_2 x9_9 x10_15 (wrap64 (x11_2 + x15_2)) (wrap64 (x12_2 + 1)) (wrap64 (Int.tdiv x13_2 2)) (wrap64 (Int.tdiv x14_2 2)) (wrap64 (x15_2 * 2)) (wrap64 (x16_2 + 1))) else (cubbyholelaw09_PermSets.l0 kj17 a0 a1 (wrap64 ((Go.bits .and .i64 a0 63) - 8)) (wrap64 ((Go.bits .and .i64 a1 63) - 8)) true x8_2 x9_9 x10_15 (wrap64 (x11_2 + x15_2)) x12_2 (wrap64 (Int.tdiv x13_2 2)) (wrap64 (Int.tdiv x14_2 2)) (wrap64 (x15_2 * 2)) (wrap64 (x16_2 + 1)))) = some r := by rw [if_pos rfl] at H; exact H
                                clear H
                                have H := H1
                                clear H1
                                by_cases c23 : ((Int.tmod x13_2 2) == 1) = true
                                · rw [if_pos c23] at H
                                  have c23b0 : ((Int.tmod x13_2 2) == 1) = true := c23
                                  (try (have c23b1 : decide ((Int.tmod x13_2 2) = 1) = true := by simpa using c23))
                                  (try (have c23b2 : ((Int.tmod x13_2 2) == 1) = true := by simpa using c23))
                                  clear c23
                                  have H' := Aside0.mk H
                                  clear H
                                  go_wp2
                                  go_roundg kj17
                                  case measure => have := HJ2.out; have := HK2.out; have := HJ9.out; have := HJ12.out; have := HJ15.out; have := HJ17.out; omega
                                  case rel => exact ⟨(x9_9), (x10_15), (wrap64 (x11_2 + x15_2)), (wrap64 (x12_2 + 1)), (wrap64 (Int.tdiv x13_2 2)), (wrap64 (Int.tdiv x14_2 2)), (wrap64 (x15_2 * 2)), (wrap64 (x16_2 + 1)), (by first | rfl | (simp; done) | (simp [*]; done)), (by first | rfl | (simp; done) | (simp [*]; done)), (by first | rfl | (simp; done) | (simp [*]; done)), (by first | rfl | (simp; done) | (simp [*]; done)), (by first | rfl | (simp; done) | (simp [*]; done)), (by first | rfl | (simp; done) | (simp [*]; done)), (by first | rfl | (simp; done) | (simp [*]; done)), (by first | rfl | (simp; done) | (simp [*]; done)), H', ⟨by have := HJ2.out; have := HK2.out; have := HJ9.out; have := HJ12.out; have := HJ15.out; have := HJ17.out; omega⟩, ⟨by repeat (first | (with_reducible first | exact HB.out | apply below_alloc | apply pw_below_drewN | apply below_drew1) | exact HB.out)⟩⟩
                                · rw [if_neg c23] at H
                                  have c23b0 : ((Int.tmod x13_2 2) == 1) = false := by simpa using c23
                                  (try (have c23b1 : decide ((Int.tmod x13_2 2) = 1) = false := by simpa using c23))
                                  (try (have c23b2 : ((Int.tmod x13_2 2) == 1) = false := by simpa using c23))
                                  (try (have c23b3 : ¬ ((Int.tmod x13_2 2) = 1) := by simpa using c23))
                                  clear c23
                                  have H' := Aside0.mk H
                                  clear H
                                  go_wp2
                                  go_roundg kj17
                                  case measure => have := HJ2.out; have := HK2.out; have := HJ9.out; have := HJ12.out; have := HJ15.out; have := HJ17.out; omega
                                  case rel => exact ⟨(x9_9), (x10_15), (wrap64 (x11_2 + x15_2)), (x12_2), (wrap64 (Int.tdiv x13_2 2)), (wrap64 (Int.tdiv x14_2 2)), (wrap64 (x15_2 * 2)), (wrap64 (x16_2 + 1)), (by first | rfl | (simp; done) | (simp [*]; done)), (by first | rfl | (simp; done) | (simp [*]; done)), (by first | rfl | (simp; done) | (simp [*]; done)), (by first | rfl | (simp; done) | (simp [*]; done)), (by first | rfl | (simp; done) | (simp [*]; done)), (by first | rfl | (simp; done) | (simp [*]; done)), (by first | rfl | (simp; done) | (simp [*]; done)), (by first | rfl | (simp; done) | (simp [*]; done)), H', ⟨by have := HJ2.out; have := HK2.out; have := HJ9.out; have := HJ12.out; have := HJ15.out; have := HJ17.out; omega⟩, ⟨by repeat (first | (with_reducible first | exact HB.out | apply below_alloc | apply pw_below_drewN | apply below_drew1) | exact HB.out)⟩⟩
                              · replace c22 := Bool.eq_false_iff.mpr c22
                                subst c22
                                have H1 : (cubbyholelaw09_PermSets.l0 kj17 a0 a1 (wrap64 ((Go.bits .and .i64 a0 63) - 8)) (wrap64 ((Go.bits .and .i64 a1 63) - 8)) false x8_2 x9_9 x10_15 (wrap64 (x11_2 + x15_2)) x12_2 (wrap64 (Int.tdiv x13_2 2)) (wrap64 (Int.tdiv x14_2 2)) (wrap64 (x15_2 * 2)) (wrap64 (x16_2 + 1))) = some r := by rw [if_neg (show ¬ (false = true) by decide)] at H; exact H
                                clear H
                                have H := H1
                                clear H1
                                have H' := Aside0.mk H
                                clear H
                                go_wp2
                                go_roundg kj17
                                case measure => have := HJ2.out; have := HK2.out; have := HJ9.out; have := HJ12.out; have := HJ15.out; have := HJ17.out; omega
                                case rel => exact ⟨(x9_9), (x10_15), (wrap64 (x11_2 + x15_2)), (x12_2), (wrap64 (Int.tdiv x13_2 2)), (wrap64 (Int.tdiv x14_2 2)), (wrap64 (x15_2 * 2)), (wrap64 (x16_2 + 1)), (by first | rfl | (simp; done) | (simp [*]; done)), (by first | rfl | (simp; done) | (simp [*]; done)), (by first | rfl | (simp; done) | (simp [*]; done)), (by first | rfl | (simp; done) | (simp [*]; done)), (by first | rfl | (simp; done) | (simp [*]; done)), (by first | rfl | (simp; done) | (simp [*]; done)), (by first | rfl | (simp; done) | (simp [*]; done)), (by first | rfl | (simp; done) | (simp [*]; done)), H', ⟨by have := HJ2.out; have := HK2.out; have := HJ9.out; have := HJ12.out; have := HJ15.out; have := HJ17.out; omega⟩, ⟨by repeat (first | (with_reducible first | exact HB.out | apply below_alloc | apply pw_below_drewN | apply below_drew1) | exact HB.out)⟩⟩
                            · replace c21 := Bool.eq_false_iff.mpr c21
                              subst c21
                              have H1 : (if x7_2 = true then (if ((Int.tmod x13_2 2) == 1) = true then (cubbyholelaw09_PermSets.l0 kj17 a0 a1 (wrap64 ((Go.bits .and .i64 a0 63) - 8)) (wrap64 ((Go.bits .and .i64 a1 63) - 8)) x7_2 x8_2 x9_9 x10_15 x11_2 (wrap64 (x12_2 + 1)) (wrap64 (Int.tdiv x13_2 2)) (wrap64 (Int.tdiv x14_2 2)) (wrap64 (x15_2 * 2)) (wrap64 (x16_2 + 1))) else (cubbyholelaw09_PermSets.l0 kj17 a0 a1 (wrap64 ((Go.bits .and .i64 a0 63) - 8)) (wrap64 ((Go.bits .and .i64 a1 63) - 8)) x7_2 x8_2 x9_9 x10_15 x11_2 x12_2 (wrap64 (Int.tdiv x13_2 2)) (wrap64 (Int.tdiv x14_2 2)) (wrap64 (x15_2 * 2)) (wrap64 (x16_2 + 1)))) else (cubbyholelaw09_PermSets.l0 kj17 a0 a1 (wrap64 ((Go.bits .and .i64 a0 63) - 8)) (wrap64 ((Go.bits .and .i64 a1 63) - 8)) x7_2 x8_2 x9_9 x10_15 x11_2 x12_2 (wrap64 (Int.tdiv x13_2 2)) (wrap64 (Int.tdiv x14_2 2)) (wrap64 (x15_2 * 2)) (wrap64 (x16_2 + 1)))) = some r := by rw [if_neg (show ¬ (false = true) by decide)] at H; exact H
                              clear H
                              have H := H1
                              clear H1
                              by_cases c24 : x7_2 = true
                              · subst c24
                                have H1 : (if ((Int.tmod x13_2 2) == 1) = true then (cubbyholelaw09_PermSets.l0 kj17 a0 a1 (wrap64 ((Go.bits .and .i64 a0 63) - 8)) (wrap64 ((Go.bits .and .i64 a1 63) - 8)) true x8_2 x9_9 x10_15 x11_2 (wrap64 (x12_2 + 1)) (wrap64 (Int.tdiv x13_2 2)) (wrap64 (Int.tdiv x14_2 2)) (wrap64 (x15_2 * 2)) (wrap64 (x16_2 + 1))) else (cubbyholelaw09_PermSets.l0 kj17 a0 a1 (wrap64 ((Go.bits .and .i64 a0 63) - 8)) (wrap64 ((Go.bits .and .i64 a1 63) - 8)) true x8_2 x9_9 x10_15 x11_2 x12_2 (wrap64 (Int.tdiv x13_2 2)) (wrap64 (Int.tdiv x14_2 2)) (wrap64 (x15_2 * 2)) (wrap64 (x16_2 + 1)))) = some r := by rw [if_pos rfl] at H; exact H
                                clear H
                                have H := H1
                                clear H1
                                by_cases c25 : ((Int.tmod x13_2 2) == 1) = true
                                · rw [if_pos c25] at H
                                  have c25b0 : ((Int.tmod x13_2 2) == 1) = true := c25
                                  (try (have c25b1 : decide ((Int.tmod x13_2 2) = 1) = true := by simpa using c25))
                                  (try (have c25b2 : ((Int.tmod x13_2 2) == 1) = true := by simpa using c25))
                                  clear c25
                                  have H' := Aside0.mk H
                                  clear H
                                  go_wp2
                                  go_roundg kj17
                                  case measure => have := HJ2.out; have := HK2.out; have := HJ9.out; have := HJ12.out; have := HJ15.out; have := HJ17.out; omega
                                  case rel => exact ⟨(x9_9), (x10_15), (x11_2), (wrap64 (x12_2 + 1)), (wrap64 (Int.tdiv x13_2 2)), (wrap64 (Int.tdiv x14_2 2)), (wrap64 (x15_2 * 2)), (wrap64 (x16_2 + 1)), (by first | rfl | (simp; done) | (simp [*]; done)), (by first | rfl | (simp; done) | (simp [*]; done)), (by first | rfl | (simp; done) | (simp [*]; done)), (by first | rfl | (simp; done) | (simp [*]; done)), (by first | rfl | (simp; done) | (simp [*]; done)), (by first | rfl | (simp; done) | (simp [*]; done)), (by first | rfl | (simp; done) | (simp [*]; done)), (by first | rfl | (simp; done) | (simp [*]; done)), H', ⟨by have := HJ2.out; have := HK2.out; have := HJ9.out; have := HJ12.out; have := HJ15.out; have := HJ17.out; omega⟩, ⟨by repeat (first | (with_reducible first | exact HB.out | apply below_alloc | apply pw_below_drewN | apply below_drew1) | exact HB.out)⟩⟩
                                · rw [if_neg c25] at H
                                  have c25b0 : ((Int.tmod x13_2 2) == 1) = false := by simpa using c25
                                  (try (have c25b1 : decide ((Int.tmod x13_2 2) = 1) = false := by simpa using c25))
                                  (try (have c25b2 : ((Int.tmod x13_2 2) == 1) = false := by simpa using c25))
                                  (try (have c25b3 : ¬ ((Int.tmod x13_2 2) = 1) := by simpa using c25))
                                  clear c25
                                  have H' := Aside0.mk H
                                  clear H
                                  go_wp2
                                  go_roundg kj17
                                  case measure => have := HJ2.out; have := HK2.out; have := HJ9.out; have := HJ12.out; have := HJ15.out; have := HJ17.out; omega
                                  case rel => exact ⟨(x9_9), (x10_15), (x11_2), (x12_2), (wrap64 (Int.tdiv x13_2 2)), (wrap64 (Int.tdiv x14_2 2)), (wrap64 (x15_2 * 2)), (wrap64 (x16_2 + 1)), (by first | rfl | (simp; done) | (simp [*]; done)), (by first | rfl | (simp; done) | (simp [*]; done)), (by first | rfl | (simp; done) | (simp [*]; done)), (by first | rfl | (simp; done) | (simp [*]; done)), (by first | rfl | (simp; done) | (simp [*]; done)), (by first | rfl | (simp; done) | (simp [*]; done)), (by first | rfl | (simp; done) | (simp [*]; done)), (by first | rfl | (simp; done) | (simp [*]; done)), H', ⟨by have := HJ2.out; have := HK2.out; have := HJ9.out; have := HJ12.out; have := HJ15.out; have := HJ17.out; omega⟩, ⟨by repeat (first | (with_reducible first | exact HB.out | apply below_alloc | apply pw_below_drewN | apply below_drew1) | exact HB.out)⟩⟩
                              · replace c24 := Bool.eq_false_iff.mpr c24
                                subst c24
                                have H1 : (cubbyholelaw09_PermSets.l0 kj17 a0 a1 (wrap64 ((Go.bits .and .i64 a0 63) - 8)) (wrap64 ((Go.bits .and .i64 a1 63) - 8)) false x8_2 x9_9 x10_15 x11_2 x12_2 (wrap64 (Int.tdiv x13_2 2)) (wrap64 (Int.tdiv x14_2 2)) (wrap64 (x15_2 * 2)) (wrap64 (x16_2 + 1))) = some r := by rw [if_neg (show ¬ (false = true) by decide)] at H; exact H
                                clear H
                                have H := H1
                                clear H1
                                have H' := Aside0.mk H
                                clear H
                                go_wp2
                                go_roundg kj17
                                case measure => have := HJ2.out; have := HK2.out; have := HJ9.out; have := HJ12.out; have := HJ15.out; have := HJ17.out; omega
                                case rel => exact ⟨(x9_9), (x10_15), (x11_2), (x12_2), (wrap64 (Int.tdiv x13_2 2)), (wrap64 (Int.tdiv x14_2 2)), (wrap64 (x15_2 * 2)), (wrap64 (x16_2 + 1)), (by first | rfl | (simp; done) | (simp [*]; done)), (by first | rfl | (simp; done) | (simp [*]; done)), (by first | rfl | (simp; done) | (simp [*]; done)), (by first | rfl | (simp; done) | (simp [*]; done)), (by first | rfl | (simp; done) | (simp [*]; done)), (by first | rfl | (simp; done) | (simp [*]; done)), (by first | rfl | (simp; done) | (simp [*]; done)), (by first | rfl | (simp; done) | (simp [*]; done)), H', ⟨by have := HJ2.out; have := HK2.out; have := HJ9.out; have := HJ12.out; have := HJ15.out; have := HJ17.out; omega⟩, ⟨by repeat (first | (with_reducible first | exact HB.out | apply below_alloc | apply pw_below_drewN | apply below_drew1) | exact HB.out)⟩⟩
          · rw [if_neg c9] at H
            have c9b0 : decide (x16_2 < 5) = false := decide_eq_false c9
            clear c9
            replace H := Option.bind_eq_some_iff.mp H
            obtain ⟨t118, A260, H⟩ := H
            replace H : (if t118 = true then ((perm_May.f (wrap64 ((Go.bits .and .i64 a0 63) - 8))).bind fun t119 => (if (t119 == x7_2) = true then ((perm_Has.f (wrap64 ((Go.bits .and .i64 a0 63) - 8)) (wrap64 ((Go.bits .and .i64 a1 63) - 8))).bind fun t120 => (if (t120 == x9_2) = true then ((perm_And.f (wrap64 ((Go.bits .and .i64 a0 63) - 8)) (wrap64 ((Go.bits .and .i64 a1 63) - 8))).bind fun t121 => (if t121 = x10_2 then ((perm_Less.f (wrap64 ((Go.bits .and .i64 a0 63) - 8)) (wrap64 ((Go.bits .and .i64 a1 63) - 8))).bind fun t122 => (if t122 = x11_2 then ((perm_Count.f k2 (wrap64 ((Go.bits .and .i64 a0 63) - 8))).bind fun t123 => (if t123 = x12_2 then ((perm_May.f (Go.bits .or .i64 a0 64)).bind fun t124 => (if t124 = true then (some false) else ((perm_May.f (wrap64 ((-1) - (Go.bits .and .i64 a1 255)))).bind fun t125 => (some (!t125))))) else (some false))) else (some false))) else (some false))) else (some false))) else (some false))) else (some false)) = some r := H
            have A26 := Aside0.mk A260
            clear A260
            by_cases c27 : t118 = true
            · subst c27
              have H1 : ((perm_May.f (wrap64 ((Go.bits .and .i64 a0 63) - 8))).bind fun t119 => (if (t119 == x7_2) = true then ((perm_Has.f (wrap64 ((Go.bits .and .i64 a0 63) - 8)) (wrap64 ((Go.bits .and .i64 a1 63) - 8))).bind fun t120 => (if (t120 == x9_2) = true then ((perm_And.f (wrap64 ((Go.bits .and .i64 a0 63) - 8)) (wrap64 ((Go.bits .and .i64 a1 63) - 8))).bind fun t121 => (if t121 = x10_2 then ((perm_Less.f (wrap64 ((Go.bits .and .i64 a0 63) - 8)) (wrap64 ((Go.bits .and .i64 a1 63) - 8))).bind fun t122 => (if t122 = x11_2 then ((perm_Count.f k2 (wrap64 ((Go.bits .and .i64 a0 63) - 8))).bind fun t123 => (if t123 = x12_2 then ((perm_May.f (Go.bits .or .i64 a0 64)).bind fun t124 => (if t124 = true then (some false) else ((perm_May.f (wrap64 ((-1) - (Go.bits .and .i64 a1 255)))).bind fun t125 => (some (!t125))))) else (some false))) else (some false))) else (some false))) else (some false))) else (some false))) = some r := by rw [if_pos rfl] at H; exact H
              clear H
              have H := H1
              clear H1
              replace H := Option.bind_eq_some_iff.mp H
              obtain ⟨t119, A280, H⟩ := H
              replace H : (if (t119 == x7_2) = true then ((perm_Has.f (wrap64 ((Go.bits .and .i64 a0 63) - 8)) (wrap64 ((Go.bits .and .i64 a1 63) - 8))).bind fun t120 => (if (t120 == x9_2) = true then ((perm_And.f (wrap64 ((Go.bits .and .i64 a0 63) - 8)) (wrap64 ((Go.bits .and .i64 a1 63) - 8))).bind fun t121 => (if t121 = x10_2 then ((perm_Less.f (wrap64 ((Go.bits .and .i64 a0 63) - 8)) (wrap64 ((Go.bits .and .i64 a1 63) - 8))).bind fun t122 => (if t122 = x11_2 then ((perm_Count.f k2 (wrap64 ((Go.bits .and .i64 a0 63) - 8))).bind fun t123 => (if t123 = x12_2 then ((perm_May.f (Go.bits .or .i64 a0 64)).bind fun t124 => (if t124 = true then (some false) else ((perm_May.f (wrap64 ((-1) - (Go.bits .and .i64 a1 255)))).bind fun t125 => (some (!t125))))) else (some false))) else (some false))) else (some false))) else (some false))) else (some false)) = some r := H
              have A28 := Aside0.mk A280
              clear A280
              by_cases c29 : (t119 == x7_2) = true
              · rw [if_pos c29] at H
                have c29b0 : (t119 == x7_2) = true := c29
                (try (have c29b1 : decide (t119 = x7_2) = true := by simpa using c29))
                (try (have c29b2 : (t119 == x7_2) = true := by simpa using c29))
                clear c29
                replace H := Option.bind_eq_some_iff.mp H
                obtain ⟨t120, A300, H⟩ := H
                replace H : (if (t120 == x9_2) = true then ((perm_And.f (wrap64 ((Go.bits .and .i64 a0 63) - 8)) (wrap64 ((Go.bits .and .i64 a1 63) - 8))).bind fun t121 => (if t121 = x10_2 then ((perm_Less.f (wrap64 ((Go.bits .and .i64 a0 63) - 8)) (wrap64 ((Go.bits .and .i64 a1 63) - 8))).bind fun t122 => (if t122 = x11_2 then ((perm_Count.f k2 (wrap64 ((Go.bits .and .i64 a0 63) - 8))).bind fun t123 => (if t123 = x12_2 then ((perm_May.f (Go.bits .or .i64 a0 64)).bind fun t124 => (if t124 = true then (some false) else ((perm_May.f (wrap64 ((-1) - (Go.bits .and .i64 a1 255)))).bind fun t125 => (some (!t125))))) else (some false))) else (some false))) else (some false))) else (some false)) = some r := H
                have A30 := Aside0.mk A300
                clear A300
                by_cases c31 : (t120 == x9_2) = true
                · rw [if_pos c31] at H
                  have c31b0 : (t120 == x9_2) = true := c31
                  (try (have c31b1 : decide (t120 = x9_2) = true := by simpa using c31))
                  (try (have c31b2 : (t120 == x9_2) = true := by simpa using c31))
                  clear c31
                  replace H := Option.bind_eq_some_iff.mp H
                  obtain ⟨t121, A320, H⟩ := H
                  replace H : (if t121 = x10_2 then ((perm_Less.f (wrap64 ((Go.bits .and .i64 a0 63) - 8)) (wrap64 ((Go.bits .and .i64 a1 63) - 8))).bind fun t122 => (if t122 = x11_2 then ((perm_Count.f k2 (wrap64 ((Go.bits .and .i64 a0 63) - 8))).bind fun t123 => (if t123 = x12_2 then ((perm_May.f (Go.bits .or .i64 a0 64)).bind fun t124 => (if t124 = true then (some false) else ((perm_May.f (wrap64 ((-1) - (Go.bits .and .i64 a1 255)))).bind fun t125 => (some (!t125))))) else (some false))) else (some false))) else (some false)) = some r := H
                  have A32 := Aside0.mk A320
                  clear A320
                  by_cases c33 : t121 = x10_2
                  · rw [if_pos c33] at H
                    have c33b0 : (t121 == x10_2) = true := beq_iff_eq.mpr c33
                    have c33b1 : (t121 != x10_2) = false := bne_eq_false_iff_eq.mpr c33
                    clear c33
                    replace H := Option.bind_eq_some_iff.mp H
                    obtain ⟨t122, A340, H⟩ := H
                    replace H : (if t122 = x11_2 then ((perm_Count.f k2 (wrap64 ((Go.bits .and .i64 a0 63) - 8))).bind fun t123 => (if t123 = x12_2 then ((perm_May.f (Go.bits .or .i64 a0 64)).bind fun t124 => (if t124 = true then (some false) else ((perm_May.f (wrap64 ((-1) - (Go.bits .and .i64 a1 255)))).bind fun t125 => (some (!t125))))) else (some false))) else (some false)) = some r := H
                    have A34 := Aside0.mk A340
                    clear A340
                    by_cases c35 : t122 = x11_2
                    · rw [if_pos c35] at H
                      have c35b0 : (t122 == x11_2) = true := beq_iff_eq.mpr c35
                      have c35b1 : (t122 != x11_2) = false := bne_eq_false_iff_eq.mpr c35
                      clear c35
                      replace H := Option.bind_eq_some_iff.mp H
                      obtain ⟨t123, A360, H⟩ := H
                      replace H : (if t123 = x12_2 then ((perm_May.f (Go.bits .or .i64 a0 64)).bind fun t124 => (if t124 = true then (some false) else ((perm_May.f (wrap64 ((-1) - (Go.bits .and .i64 a1 255)))).bind fun t125 => (some (!t125))))) else (some false)) = some r := H
                      have A36 := Aside0.mk A360
                      clear A360
                      by_cases c37 : t123 = x12_2
                      · rw [if_pos c37] at H
                        have c37b0 : (t123 == x12_2) = true := beq_iff_eq.mpr c37
                        have c37b1 : (t123 != x12_2) = false := bne_eq_false_iff_eq.mpr c37
                        clear c37
                        replace H := Option.bind_eq_some_iff.mp H
                        obtain ⟨t124, A380, H⟩ := H
                        replace H : (if t124 = true then (some false) else ((perm_May.f (wrap64 ((-1) - (Go.bits .and .i64 a1 255)))).bind fun t125 => (some (!t125)))) = some r := H
                        have A38 := Aside0.mk A380
                        clear A380
                        by_cases c39 : t124 = true
                        · subst c39
                          have H1 : (some false) = some r := by rw [if_pos rfl] at H; exact H
                          clear H
                          have H := H1
                          clear H1
                          obtain rfl := Option.some.inj H
                          go_wp2_with (first | ((with_reducible refine gate_callee (f := 17) rfl ?_); refine goesL_ (some 101) rfl rfl Try.func17 (by kernel_rfl) rfl #[] rfl (by (try simp only [List.map_toArray, List.map_cons, List.map_nil]); first | done | rfl | (simp only [List.length_drop, List.length_take]; rfl)) ?_; (with_reducible refine (cubbyholelaw09_awake.calls k2  true _ A26.out).mono ?_); rintro e w40 ⟨rfl, hb⟩; refine ⟨_, rfl, ?_⟩; have n0_ := Aside0.mk (below_step (by repeat (first | (with_reducible first | exact HB.out | apply below_alloc | apply pw_below_drewN | apply below_drew1) | exact HB.out)) hb); clear HB; have HB := n0_; clear n0_; (try clear hb); (try clear hb2); (try clear hk); (try clear hi)) | (go_at_call 37; (with_reducible refine (perm_May.calls (wrap64 ((Go.bits .and .i64 a0 63) - 8)) t119 _ A28.out).mono ?_); rintro e w' ⟨rfl, ⟨nd, rfl⟩⟩) | (go_at_call 38; (with_reducible refine (perm_Has.calls (wrap64 ((Go.bits .and .i64 a0 63) - 8)) (wrap64 ((Go.bits .and .i64 a1 63) - 8)) t120 _ A30.out).mono ?_); rintro e w' ⟨rfl, ⟨nd, rfl⟩⟩) | (go_at_call 39; (with_reducible refine (perm_And.calls (wrap64 ((Go.bits .and .i64 a0 63) - 8)) (wrap64 ((Go.bits .and .i64 a1 63) - 8)) t121 _ A32.out).mono ?_); rintro e w' ⟨rfl, ⟨nd, rfl⟩⟩) | (go_at_call 40; (with_reducible refine (perm_Less.calls (wrap64 ((Go.bits .and .i64 a0 63) - 8)) (wrap64 ((Go.bits .and .i64 a1 63) - 8)) t122 _ A34.out).mono ?_); rintro e w' ⟨rfl, ⟨nd, rfl⟩⟩) | (go_at_call 41; (with_reducible refine (perm_Count.calls k2 (wrap64 ((Go.bits .and .i64 a0 63) - 8)) t123 _ A36.out).mono ?_); rintro e w' ⟨rfl, ⟨nd, rfl⟩⟩) | (go_at_call 37; (with_reducible refine (perm_May.calls (Go.bits .or .i64 a0 64) true _ A38.out).mono ?_); rintro e w' ⟨rfl, ⟨nd, rfl⟩⟩))
                          go_ret
                          exact ⟨by first | rfl | (simp [errW_none, errW_some] <;> rfl) | (simp only [← hji7, ← hji8]; first | rfl | (simp [errW_none, errW_some] <;> rfl)) | (simp [*, errW_none, errW_some] <;> rfl), by repeat (first | (with_reducible first | exact HB.out | apply below_alloc | apply pw_below_drewN | apply below_drew1) | exact HB.out)⟩
                        · replace c39 := Bool.eq_false_iff.mpr c39
                          subst c39
                          have H1 : ((perm_May.f (wrap64 ((-1) - (Go.bits .and .i64 a1 255)))).bind fun t125 => (some (!t125))) = some r := by rw [if_neg (show ¬ (false = true) by decide)] at H; exact H
                          clear H
                          have H := H1
                          clear H1
                          replace H := Option.bind_eq_some_iff.mp H
                          obtain ⟨t125, A410, H⟩ := H
                          replace H : (some (!t125)) = some r := H
                          have A41 := Aside0.mk A410
                          clear A410
                          obtain rfl := Option.some.inj H
                          go_wp2_with (first | ((with_reducible refine gate_callee (f := 17) rfl ?_); refine goesL_ (some 101) rfl rfl Try.func17 (by kernel_rfl) rfl #[] rfl (by (try simp only [List.map_toArray, List.map_cons, List.map_nil]); first | done | rfl | (simp only [List.length_drop, List.length_take]; rfl)) ?_; (with_reducible refine (cubbyholelaw09_awake.calls k2  true _ A26.out).mono ?_); rintro e w42 ⟨rfl, hb⟩; refine ⟨_, rfl, ?_⟩; have n0_ := Aside0.mk (below_step (by repeat (first | (with_reducible first | exact HB.out | apply below_alloc | apply pw_below_drewN | apply below_drew1) | exact HB.out)) hb); clear HB; have HB := n0_; clear n0_; (try clear hb); (try clear hb2); (try clear hk); (try clear hi)) | (go_at_call 37; (with_reducible refine (perm_May.calls (wrap64 ((Go.bits .and .i64 a0 63) - 8)) t119 _ A28.out).mono ?_); rintro e w' ⟨rfl, ⟨nd, rfl⟩⟩) | (go_at_call 38; (with_reducible refine (perm_Has.calls (wrap64 ((Go.bits .and .i64 a0 63) - 8)) (wrap64 ((Go.bits .and .i64 a1 63) - 8)) t120 _ A30.out).mono ?_); rintro e w' ⟨rfl, ⟨nd, rfl⟩⟩) | (go_at_call 39; (with_reducible refine (perm_And.calls (wrap64 ((Go.bits .and .i64 a0 63) - 8)) (wrap64 ((Go.bits .and .i64 a1 63) - 8)) t121 _ A32.out).mono ?_); rintro e w' ⟨rfl, ⟨nd, rfl⟩⟩) | (go_at_call 40; (with_reducible refine (perm_Less.calls (wrap64 ((Go.bits .and .i64 a0 63) - 8)) (wrap64 ((Go.bits .and .i64 a1 63) - 8)) t122 _ A34.out).mono ?_); rintro e w' ⟨rfl, ⟨nd, rfl⟩⟩) | (go_at_call 41; (with_reducible refine (perm_Count.calls k2 (wrap64 ((Go.bits .and .i64 a0 63) - 8)) t123 _ A36.out).mono ?_); rintro e w' ⟨rfl, ⟨nd, rfl⟩⟩) | (go_at_call 37; (with_reducible refine (perm_May.calls (Go.bits .or .i64 a0 64) false _ A38.out).mono ?_); rintro e w' ⟨rfl, ⟨nd, rfl⟩⟩) | (go_at_call 37; (with_reducible refine (perm_May.calls (wrap64 ((-1) - (Go.bits .and .i64 a1 255))) t125 _ A41.out).mono ?_); rintro e w' ⟨rfl, ⟨nd, rfl⟩⟩))
                          go_ret
                          exact ⟨by first | rfl | (simp [errW_none, errW_some] <;> rfl) | (simp only [← hji7, ← hji8]; first | rfl | (simp [errW_none, errW_some] <;> rfl)) | (simp [*, errW_none, errW_some] <;> rfl), by repeat (first | (with_reducible first | exact HB.out | apply below_alloc | apply pw_below_drewN | apply below_drew1) | exact HB.out)⟩
                      · rw [if_neg c37] at H
                        have c37b0 : (t123 == x12_2) = false := beq_eq_false_iff_ne.mpr c37
                        have c37b1 : (t123 != x12_2) = true := bne_iff_ne.mpr c37
                        obtain rfl := Option.some.inj H
                        go_wp2_with (first | ((with_reducible refine gate_callee (f := 17) rfl ?_); refine goesL_ (some 101) rfl rfl Try.func17 (by kernel_rfl) rfl #[] rfl (by (try simp only [List.map_toArray, List.map_cons, List.map_nil]); first | done | rfl | (simp only [List.length_drop, List.length_take]; rfl)) ?_; (with_reducible refine (cubbyholelaw09_awake.calls k2  true _ A26.out).mono ?_); rintro e w43 ⟨rfl, hb⟩; refine ⟨_, rfl, ?_⟩; have n0_ := Aside0.mk (below_step (by repeat (first | (with_reducible first | exact HB.out | apply below_alloc | apply pw_below_drewN | apply below_drew1) | exact HB.out)) hb); clear HB; have HB := n0_; clear n0_; (try clear hb); (try clear hb2); (try clear hk); (try clear hi)) | (go_at_call 37; (with_reducible refine (perm_May.calls (wrap64 ((Go.bits .and .i64 a0 63) - 8)) t119 _ A28.out).mono ?_); rintro e w' ⟨rfl, ⟨nd, rfl⟩⟩) | (go_at_call 38; (with_reducible refine (perm_Has.calls (wrap64 ((Go.bits .and .i64 a0 63) - 8)) (wrap64 ((Go.bits .and .i64 a1 63) - 8)) t120 _ A30.out).mono ?_); rintro e w' ⟨rfl, ⟨nd, rfl⟩⟩) | (go_at_call 39; (with_reducible refine (perm_And.calls (wrap64 ((Go.bits .and .i64 a0 63) - 8)) (wrap64 ((Go.bits .and .i64 a1 63) - 8)) t121 _ A32.out).mono ?_); rintro e w' ⟨rfl, ⟨nd, rfl⟩⟩) | (go_at_call 40; (with_reducible refine (perm_Less.calls (wrap64 ((Go.bits .and .i64 a0 63) - 8)) (wrap64 ((Go.bits .and .i64 a1 63) - 8)) t122 _ A34.out).mono ?_); rintro e w' ⟨rfl, ⟨nd, rfl⟩⟩) | (go_at_call 41; (with_reducible refine (perm_Count.calls k2 (wrap64 ((Go.bits .and .i64 a0 63) - 8)) t123 _ A36.out).mono ?_); rintro e w' ⟨rfl, ⟨nd, rfl⟩⟩))
                        go_ret
                        exact ⟨by first | rfl | (simp [errW_none, errW_some] <;> rfl) | (simp only [← hji7, ← hji8]; first | rfl | (simp [errW_none, errW_some] <;> rfl)) | (simp [*, errW_none, errW_some] <;> rfl), by repeat (first | (with_reducible first | exact HB.out | apply below_alloc | apply pw_below_drewN | apply below_drew1) | exact HB.out)⟩
                    · rw [if_neg c35] at H
                      have c35b0 : (t122 == x11_2) = false := beq_eq_false_iff_ne.mpr c35
                      have c35b1 : (t122 != x11_2) = true := bne_iff_ne.mpr c35
                      obtain rfl := Option.some.inj H
                      go_wp2_with (first | ((with_reducible refine gate_callee (f := 17) rfl ?_); refine goesL_ (some 101) rfl rfl Try.func17 (by kernel_rfl) rfl #[] rfl (by (try simp only [List.map_toArray, List.map_cons, List.map_nil]); first | done | rfl | (simp only [List.length_drop, List.length_take]; rfl)) ?_; (with_reducible refine (cubbyholelaw09_awake.calls k2  true _ A26.out).mono ?_); rintro e w44 ⟨rfl, hb⟩; refine ⟨_, rfl, ?_⟩; have n0_ := Aside0.mk (below_step (by repeat (first | (with_reducible first | exact HB.out | apply below_alloc | apply pw_below_drewN | apply below_drew1) | exact HB.out)) hb); clear HB; have HB := n0_; clear n0_; (try clear hb); (try clear hb2); (try clear hk); (try clear hi)) | (go_at_call 37; (with_reducible refine (perm_May.calls (wrap64 ((Go.bits .and .i64 a0 63) - 8)) t119 _ A28.out).mono ?_); rintro e w' ⟨rfl, ⟨nd, rfl⟩⟩) | (go_at_call 38; (with_reducible refine (perm_Has.calls (wrap64 ((Go.bits .and .i64 a0 63) - 8)) (wrap64 ((Go.bits .and .i64 a1 63) - 8)) t120 _ A30.out).mono ?_); rintro e w' ⟨rfl, ⟨nd, rfl⟩⟩) | (go_at_call 39; (with_reducible refine (perm_And.calls (wrap64 ((Go.bits .and .i64 a0 63) - 8)) (wrap64 ((Go.bits .and .i64 a1 63) - 8)) t121 _ A32.out).mono ?_); rintro e w' ⟨rfl, ⟨nd, rfl⟩⟩) | (go_at_call 40; (with_reducible refine (perm_Less.calls (wrap64 ((Go.bits .and .i64 a0 63) - 8)) (wrap64 ((Go.bits .and .i64 a1 63) - 8)) t122 _ A34.out).mono ?_); rintro e w' ⟨rfl, ⟨nd, rfl⟩⟩))
                      go_ret
                      exact ⟨by first | rfl | (simp [errW_none, errW_some] <;> rfl) | (simp only [← hji7, ← hji8]; first | rfl | (simp [errW_none, errW_some] <;> rfl)) | (simp [*, errW_none, errW_some] <;> rfl), by repeat (first | (with_reducible first | exact HB.out | apply below_alloc | apply pw_below_drewN | apply below_drew1) | exact HB.out)⟩
                  · rw [if_neg c33] at H
                    have c33b0 : (t121 == x10_2) = false := beq_eq_false_iff_ne.mpr c33
                    have c33b1 : (t121 != x10_2) = true := bne_iff_ne.mpr c33
                    obtain rfl := Option.some.inj H
                    go_wp2_with (first | ((with_reducible refine gate_callee (f := 17) rfl ?_); refine goesL_ (some 101) rfl rfl Try.func17 (by kernel_rfl) rfl #[] rfl (by (try simp only [List.map_toArray, List.map_cons, List.map_nil]); first | done | rfl | (simp only [List.length_drop, List.length_take]; rfl)) ?_; (with_reducible refine (cubbyholelaw09_awake.calls k2  true _ A26.out).mono ?_); rintro e w45 ⟨rfl, hb⟩; refine ⟨_, rfl, ?_⟩; have n0_ := Aside0.mk (below_step (by repeat (first | (with_reducible first | exact HB.out | apply below_alloc | apply pw_below_drewN | apply below_drew1) | exact HB.out)) hb); clear HB; have HB := n0_; clear n0_; (try clear hb); (try clear hb2); (try clear hk); (try clear hi)) | (go_at_call 37; (with_reducible refine (perm_May.calls (wrap64 ((Go.bits .and .i64 a0 63) - 8)) t119 _ A28.out).mono ?_); rintro e w' ⟨rfl, ⟨nd, rfl⟩⟩) | (go_at_call 38; (with_reducible refine (perm_Has.calls (wrap64 ((Go.bits .and .i64 a0 63) - 8)) (wrap64 ((Go.bits .and .i64 a1 63) - 8)) t120 _ A30.out).mono ?_); rintro e w' ⟨rfl, ⟨nd, rfl⟩⟩) | (go_at_call 39; (with_reducible refine (perm_And.calls (wrap64 ((Go.bits .and .i64 a0 63) - 8)) (wrap64 ((Go.bits .and .i64 a1 63) - 8)) t121 _ A32.out).mono ?_); rintro e w' ⟨rfl, ⟨nd, rfl⟩⟩))
                    go_ret
                    exact ⟨by first | rfl | (simp [errW_none, errW_some] <;> rfl) | (simp only [← hji7, ← hji8]; first | rfl | (simp [errW_none, errW_some] <;> rfl)) | (simp [*, errW_none, errW_some] <;> rfl), by repeat (first | (with_reducible first | exact HB.out | apply below_alloc | apply pw_below_drewN | apply below_drew1) | exact HB.out)⟩
                · rw [if_neg c31] at H
                  have c31b0 : (t120 == x9_2) = false := by simpa using c31
                  (try (have c31b1 : decide (t120 = x9_2) = false := by simpa using c31))
                  (try (have c31b2 : (t120 == x9_2) = false := by simpa using c31))
                  (try (have c31b3 : ¬ (t120 = x9_2) := by simpa using c31))
                  clear c31
                  obtain rfl := Option.some.inj H
                  go_wp2_with (first | ((with_reducible refine gate_callee (f := 17) rfl ?_); refine goesL_ (some 101) rfl rfl Try.func17 (by kernel_rfl) rfl #[] rfl (by (try simp only [List.map_toArray, List.map_cons, List.map_nil]); first | done | rfl | (simp only [List.length_drop, List.length_take]; rfl)) ?_; (with_reducible refine (cubbyholelaw09_awake.calls k2  true _ A26.out).mono ?_); rintro e w46 ⟨rfl, hb⟩; refine ⟨_, rfl, ?_⟩; have n0_ := Aside0.mk (below_step (by repeat (first | (with_reducible first | exact HB.out | apply below_alloc | apply pw_below_drewN | apply below_drew1) | exact HB.out)) hb); clear HB; have HB := n0_; clear n0_; (try clear hb); (try clear hb2); (try clear hk); (try clear hi)) | (go_at_call 37; (with_reducible refine (perm_May.calls (wrap64 ((Go.bits .and .i64 a0 63) - 8)) t119 _ A28.out).mono ?_); rintro e w' ⟨rfl, ⟨nd, rfl⟩⟩) | (go_at_call 38; (with_reducible refine (perm_Has.calls (wrap64 ((Go.bits .and .i64 a0 63) - 8)) (wrap64 ((Go.bits .and .i64 a1 63) - 8)) t120 _ A30.out).mono ?_); rintro e w' ⟨rfl, ⟨nd, rfl⟩⟩))
                  go_ret
                  exact ⟨by first | rfl | (simp [errW_none, errW_some] <;> rfl) | (simp only [← hji7, ← hji8]; first | rfl | (simp [errW_none, errW_some] <;> rfl)) | (simp [*, errW_none, errW_some] <;> rfl), by repeat (first | (with_reducible first | exact HB.out | apply below_alloc | apply pw_below_drewN | apply below_drew1) | exact HB.out)⟩
              · rw [if_neg c29] at H
                have c29b0 : (t119 == x7_2) = false := by simpa using c29
                (try (have c29b1 : decide (t119 = x7_2) = false := by simpa using c29))
                (try (have c29b2 : (t119 == x7_2) = false := by simpa using c29))
                (try (have c29b3 : ¬ (t119 = x7_2) := by simpa using c29))
                clear c29
                obtain rfl := Option.some.inj H
                go_wp2_with (first | ((with_reducible refine gate_callee (f := 17) rfl ?_); refine goesL_ (some 101) rfl rfl Try.func17 (by kernel_rfl) rfl #[] rfl (by (try simp only [List.map_toArray, List.map_cons, List.map_nil]); first | done | rfl | (simp only [List.length_drop, List.length_take]; rfl)) ?_; (with_reducible refine (cubbyholelaw09_awake.calls k2  true _ A26.out).mono ?_); rintro e w47 ⟨rfl, hb⟩; refine ⟨_, rfl, ?_⟩; have n0_ := Aside0.mk (below_step (by repeat (first | (with_reducible first | exact HB.out | apply below_alloc | apply pw_below_drewN | apply below_drew1) | exact HB.out)) hb); clear HB; have HB := n0_; clear n0_; (try clear hb); (try clear hb2); (try clear hk); (try clear hi)) | (go_at_call 37; (with_reducible refine (perm_May.calls (wrap64 ((Go.bits .and .i64 a0 63) - 8)) t119 _ A28.out).mono ?_); rintro e w' ⟨rfl, ⟨nd, rfl⟩⟩))
                go_ret
                exact ⟨by first | rfl | (simp [errW_none, errW_some] <;> rfl) | (simp only [← hji7, ← hji8]; first | rfl | (simp [errW_none, errW_some] <;> rfl)) | (simp [*, errW_none, errW_some] <;> rfl), by repeat (first | (with_reducible first | exact HB.out | apply below_alloc | apply pw_below_drewN | apply below_drew1) | exact HB.out)⟩
            · replace c27 := Bool.eq_false_iff.mpr c27
              subst c27
              have H1 : (some false) = some r := by rw [if_neg (show ¬ (false = true) by decide)] at H; exact H
              clear H
              have H := H1
              clear H1
              obtain rfl := Option.some.inj H
              go_wp2_with (first | ((with_reducible refine gate_callee (f := 17) rfl ?_); refine goesL_ (some 101) rfl rfl Try.func17 (by kernel_rfl) rfl #[] rfl (by (try simp only [List.map_toArray, List.map_cons, List.map_nil]); first | done | rfl | (simp only [List.length_drop, List.length_take]; rfl)) ?_; (with_reducible refine (cubbyholelaw09_awake.calls k2  false _ A26.out).mono ?_); rintro e w48 ⟨rfl, hb⟩; refine ⟨_, rfl, ?_⟩; have n0_ := Aside0.mk (below_step (by repeat (first | (with_reducible first | exact HB.out | apply below_alloc | apply pw_below_drewN | apply below_drew1) | exact HB.out)) hb); clear HB; have HB := n0_; clear n0_; (try clear hb); (try clear hb2); (try clear hk); (try clear hi)))
              go_ret
              exact ⟨by first | rfl | (simp [errW_none, errW_some] <;> rfl) | (simp only [← hji7, ← hji8]; first | rfl | (simp [errW_none, errW_some] <;> rfl)) | (simp [*, errW_none, errW_some] <;> rfl), by repeat (first | (with_reducible first | exact HB.out | apply below_alloc | apply pw_below_drewN | apply below_drew1) | exact HB.out)⟩

/-- THE ONE PURE STATEMENT of cubbyholelaw09_PermSets: yours. -/
def cubbyholelaw09_PermSets.Pure : Prop := ∀ (a0 : Int) (a1 : Int), (Lit.int .i64 a0).wf = true → (Lit.int .i64 a1).wf = true → ∃ k, cubbyholelaw09_PermSets.f k a0 a1 = some true
theorem cubbyholelaw09_PermSets.walk (P : cubbyholelaw09_PermSets.Pure) (a0 : Int) (a1 : Int) (w : World) (w0 : (Lit.int .i64 a0).wf = true) (w1 : (Lit.int .i64 a1).wf = true) :
    Calls Try.prog 9 #[.int .i64 a0, .int .i64 a1] w fun e w' => e = .returned (.bool true) ∧ Below w.heap.size w w' := by
  obtain ⟨k, h⟩ := P a0 a1 w0 w1
  refine (cubbyholelaw09_PermSets.calls k a0 a1 true w h).mono ?_
  rintro e w' ⟨rfl, hd⟩
  exact ⟨rfl, hd⟩

end Go.Proofs.Ytifakhddmlalcaa.QPermSets
