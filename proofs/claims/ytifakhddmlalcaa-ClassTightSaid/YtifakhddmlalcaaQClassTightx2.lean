/- YtifakhddmlalcaaQClassTightx2: the functions that the law ClassTight uses, each as a Lean function with the proof that the call tells the same. Turned out of the print of print.sh by qprint.py (own sections: bits_Len64, perm_Show). Conditions: none beyond each theorem's own. -/
import Derived.Test.YtifakhddmlalcaaQClassTightx0
import Derived.Test.YtifakhddmlalcaaQClassTightx1
namespace Go.Proofs.Ytifakhddmlalcaa.QClassTight
open Go.RowKit Go.Proofs.YtifakhddmlalcaaW.PrintWords Go.Proofs.YtifakhddmlalcaaW.PrintLast Go.Proofs.YtifakhddmlalcaaW.PrintMore
attribute [local go_sem] max2_int min2_int max_two min_two max_three min_three max_four min_four   -- for this text's walks alone
set_option linter.unusedVariables false
set_option linter.unusedSimpArgs false

/-! ### cubbyholelaw16_ClassTight: function 14 -/
def cubbyholelaw16_ClassTight.f (k : Nat) (a0 : Int) : Option (Bool) := (class_For.f k (wrap64 ((Go.bits .and .i64 a0 1023) + 1))).bind fun t112 => ((cubbyholelaw16_awake.f k).bind fun t113 => (if t113 = true then (if t112 ≥ 0 then ((class_Of.f k t112).bind fun t114 => (if t114 ≥ (wrap64 ((Go.bits .and .i64 a0 1023) + 1)) then (if t112 = 0 then (if (wrap64 ((Go.bits .and .i64 a0 1023) + 1)) ≤ 128 then ((class_Of.f k t112).bind fun t115 => (if (wrap64 (t115 - (wrap64 ((Go.bits .and .i64 a0 1023) + 1)))) < 16 then (some true) else (if (wrap64 ((Go.bits .and .i64 a0 1023) + 1)) > 128 then ((class_Of.f k t112).bind fun t116 => (some (decide ((wrap64 (4 * (wrap64 (t116 - (wrap64 ((Go.bits .and .i64 a0 1023) + 1)))))) < (wrap64 ((Go.bits .and .i64 a0 1023) + 1)))))) else (some false)))) else (if (wrap64 ((Go.bits .and .i64 a0 1023) + 1)) > 128 then ((class_Of.f k t112).bind fun t117 => (some (decide ((wrap64 (4 * (wrap64 (t117 - (wrap64 ((Go.bits .and .i64 a0 1023) + 1)))))) < (wrap64 ((Go.bits .and .i64 a0 1023) + 1)))))) else (some false))) else ((class_Of.f k (wrap64 (t112 - 1))).bind fun t118 => (if t118 < (wrap64 ((Go.bits .and .i64 a0 1023) + 1)) then (if (wrap64 ((Go.bits .and .i64 a0 1023) + 1)) ≤ 128 then ((class_Of.f k t112).bind fun t119 => (if (wrap64 (t119 - (wrap64 ((Go.bits .and .i64 a0 1023) + 1)))) < 16 then (some true) else (if (wrap64 ((Go.bits .and .i64 a0 1023) + 1)) > 128 then ((class_Of.f k t112).bind fun t120 => (some (decide ((wrap64 (4 * (wrap64 (t120 - (wrap64 ((Go.bits .and .i64 a0 1023) + 1)))))) < (wrap64 ((Go.bits .and .i64 a0 1023) + 1)))))) else (some false)))) else (if (wrap64 ((Go.bits .and .i64 a0 1023) + 1)) > 128 then ((class_Of.f k t112).bind fun t121 => (some (decide ((wrap64 (4 * (wrap64 (t121 - (wrap64 ((Go.bits .and .i64 a0 1023) + 1)))))) < (wrap64 ((Go.bits .and .i64 a0 1023) + 1)))))) else (some false))) else (some false)))) else (some false))) else (some false)) else (some false)))
theorem cubbyholelaw16_ClassTight.mono : ∀ a0 k, LeO (cubbyholelaw16_ClassTight.f k a0) (cubbyholelaw16_ClassTight.f (k + 1) a0) := by
  intro a0 k
  unfold cubbyholelaw16_ClassTight.f
  repeat' first
      | (with_reducible exact class_For.mono _ _)
      | (with_reducible exact class_Of.mono _ _)
      | (with_reducible exact cubbyholelaw16_awake.mono _)
      | (with_reducible exact LeO.refl _)
      | (with_reducible exact LeO.none _)
      | (with_reducible refine LeO.ite ?_ ?_)
      | (with_reducible refine LeO.bind ?_ (fun _ => ?_))
      | exact class_For.mono _ _
      | exact class_Of.mono _ _
      | exact cubbyholelaw16_awake.mono _
      | exact LeO.none _
      | refine LeO.ite ?_ ?_
      | refine LeO.bind ?_ (fun _ => ?_)
set_option maxHeartbeats 8000000 in
set_option maxRecDepth 100000 in
theorem cubbyholelaw16_ClassTight.calls (k : Nat) (a0 : Int) (r : Bool) (w : World) (h : cubbyholelaw16_ClassTight.f k a0 = some r) :
    Calls Try.prog 14 #[.int .i64 a0] w fun e w' => e = .returned (.bool r) ∧ Drawn0 w w' := by
  have H : ((class_For.f k (wrap64 ((Go.bits .and .i64 a0 1023) + 1))).bind fun t112 => ((cubbyholelaw16_awake.f k).bind fun t113 => (if t113 = true then (if t112 ≥ 0 then ((class_Of.f k t112).bind fun t114 => (if t114 ≥ (wrap64 ((Go.bits .and .i64 a0 1023) + 1)) then (if t112 = 0 then (if (wrap64 ((Go.bits .and .i64 a0 1023) + 1)) ≤ 128 then ((class_Of.f k t112).bind fun t115 => (if (wrap64 (t115 - (wrap64 ((Go.bits .and .i64 a0 1023) + 1)))) < 16 then (some true) else (if (wrap64 ((Go.bits .and .i64 a0 1023) + 1)) > 128 then ((class_Of.f k t112).bind fun t116 => (some (decide ((wrap64 (4 * (wrap64 (t116 - (wrap64 ((Go.bits .and .i64 a0 1023) + 1)))))) < (wrap64 ((Go.bits .and .i64 a0 1023) + 1)))))) else (some false)))) else (if (wrap64 ((Go.bits .and .i64 a0 1023) + 1)) > 128 then ((class_Of.f k t112).bind fun t117 => (some (decide ((wrap64 (4 * (wrap64 (t117 - (wrap64 ((Go.bits .and .i64 a0 1023) + 1)))))) < (wrap64 ((Go.bits .and .i64 a0 1023) + 1)))))) else (some false))) else ((class_Of.f k (wrap64 (t112 - 1))).bind fun t118 => (if t118 < (wrap64 ((Go.bits .and .i64 a0 1023) + 1)) then (if (wrap64 ((Go.bits .and .i64 a0 1023) + 1)) ≤ 128 then ((class_Of.f k t112).bind fun t119 => (if (wrap64 (t119 - (wrap64 ((Go.bits .and .i64 a0 1023) + 1)))) < 16 then (some true) else (if (wrap64 ((Go.bits .and .i64 a0 1023) + 1)) > 128 then ((class_Of.f k t112).bind fun t120 => (some (decide ((wrap64 (4 * (wrap64 (t120 - (wrap64 ((Go.bits .and .i64 a0 1023) + 1)))))) < (wrap64 ((Go.bits .and .i64 a0 1023) + 1)))))) else (some false)))) else (if (wrap64 ((Go.bits .and .i64 a0 1023) + 1)) > 128 then ((class_Of.f k t112).bind fun t121 => (some (decide ((wrap64 (4 * (wrap64 (t121 - (wrap64 ((Go.bits .and .i64 a0 1023) + 1)))))) < (wrap64 ((Go.bits .and .i64 a0 1023) + 1)))))) else (some false))) else (some false)))) else (some false))) else (some false)) else (some false)))) = some r := h
  clear h
  replace H := Option.bind_eq_some_iff.mp H
  obtain ⟨t112, A20, H⟩ := H
  replace H : ((cubbyholelaw16_awake.f k).bind fun t113 => (if t113 = true then (if t112 ≥ 0 then ((class_Of.f k t112).bind fun t114 => (if t114 ≥ (wrap64 ((Go.bits .and .i64 a0 1023) + 1)) then (if t112 = 0 then (if (wrap64 ((Go.bits .and .i64 a0 1023) + 1)) ≤ 128 then ((class_Of.f k t112).bind fun t115 => (if (wrap64 (t115 - (wrap64 ((Go.bits .and .i64 a0 1023) + 1)))) < 16 then (some true) else (if (wrap64 ((Go.bits .and .i64 a0 1023) + 1)) > 128 then ((class_Of.f k t112).bind fun t116 => (some (decide ((wrap64 (4 * (wrap64 (t116 - (wrap64 ((Go.bits .and .i64 a0 1023) + 1)))))) < (wrap64 ((Go.bits .and .i64 a0 1023) + 1)))))) else (some false)))) else (if (wrap64 ((Go.bits .and .i64 a0 1023) + 1)) > 128 then ((class_Of.f k t112).bind fun t117 => (some (decide ((wrap64 (4 * (wrap64 (t117 - (wrap64 ((Go.bits .and .i64 a0 1023) + 1)))))) < (wrap64 ((Go.bits .and .i64 a0 1023) + 1)))))) else (some false))) else ((class_Of.f k (wrap64 (t112 - 1))).bind fun t118 => (if t118 < (wrap64 ((Go.bits .and .i64 a0 1023) + 1)) then (if (wrap64 ((Go.bits .and .i64 a0 1023) + 1)) ≤ 128 then ((class_Of.f k t112).bind fun t119 => (if (wrap64 (t119 - (wrap64 ((Go.bits .and .i64 a0 1023) + 1)))) < 16 then (some true) else (if (wrap64 ((Go.bits .and .i64 a0 1023) + 1)) > 128 then ((class_Of.f k t112).bind fun t120 => (some (decide ((wrap64 (4 * (wrap64 (t120 - (wrap64 ((Go.bits .and .i64 a0 1023) + 1)))))) < (wrap64 ((Go.bits .and .i64 a0 1023) + 1)))))) else (some false)))) else (if (wrap64 ((Go.bits .and .i64 a0 1023) + 1)) > 128 then ((class_Of.f k t112).bind fun t121 => (some (decide ((wrap64 (4 * (wrap64 (t121 - (wrap64 ((Go.bits .and .i64 a0 1023) + 1)))))) < (wrap64 ((Go.bits .and .i64 a0 1023) + 1)))))) else (some false))) else (some false)))) else (some false))) else (some false)) else (some false))) = some r := H
  have A2 := Aside0.mk A20
  clear A20
  replace H := Option.bind_eq_some_iff.mp H
  obtain ⟨t113, A30, H⟩ := H
  replace H : (if t113 = true then (if t112 ≥ 0 then ((class_Of.f k t112).bind fun t114 => (if t114 ≥ (wrap64 ((Go.bits .and .i64 a0 1023) + 1)) then (if t112 = 0 then (if (wrap64 ((Go.bits .and .i64 a0 1023) + 1)) ≤ 128 then ((class_Of.f k t112).bind fun t115 => (if (wrap64 (t115 - (wrap64 ((Go.bits .and .i64 a0 1023) + 1)))) < 16 then (some true) else (if (wrap64 ((Go.bits .and .i64 a0 1023) + 1)) > 128 then ((class_Of.f k t112).bind fun t116 => (some (decide ((wrap64 (4 * (wrap64 (t116 - (wrap64 ((Go.bits .and .i64 a0 1023) + 1)))))) < (wrap64 ((Go.bits .and .i64 a0 1023) + 1)))))) else (some false)))) else (if (wrap64 ((Go.bits .and .i64 a0 1023) + 1)) > 128 then ((class_Of.f k t112).bind fun t117 => (some (decide ((wrap64 (4 * (wrap64 (t117 - (wrap64 ((Go.bits .and .i64 a0 1023) + 1)))))) < (wrap64 ((Go.bits .and .i64 a0 1023) + 1)))))) else (some false))) else ((class_Of.f k (wrap64 (t112 - 1))).bind fun t118 => (if t118 < (wrap64 ((Go.bits .and .i64 a0 1023) + 1)) then (if (wrap64 ((Go.bits .and .i64 a0 1023) + 1)) ≤ 128 then ((class_Of.f k t112).bind fun t119 => (if (wrap64 (t119 - (wrap64 ((Go.bits .and .i64 a0 1023) + 1)))) < 16 then (some true) else (if (wrap64 ((Go.bits .and .i64 a0 1023) + 1)) > 128 then ((class_Of.f k t112).bind fun t120 => (some (decide ((wrap64 (4 * (wrap64 (t120 - (wrap64 ((Go.bits .and .i64 a0 1023) + 1)))))) < (wrap64 ((Go.bits .and .i64 a0 1023) + 1)))))) else (some false)))) else (if (wrap64 ((Go.bits .and .i64 a0 1023) + 1)) > 128 then ((class_Of.f k t112).bind fun t121 => (some (decide ((wrap64 (4 * (wrap64 (t121 - (wrap64 ((Go.bits .and .i64 a0 1023) + 1)))))) < (wrap64 ((Go.bits .and .i64 a0 1023) + 1)))))) else (some false))) else (some false)))) else (some false))) else (some false)) else (some false)) = some r := H
  have A3 := Aside0.mk A30
  clear A30
  by_cases c4 : t113 = true
  · subst c4
    have H1 : (if t112 ≥ 0 then ((class_Of.f k t112).bind fun t114 => (if t114 ≥ (wrap64 ((Go.bits .and .i64 a0 1023) + 1)) then (if t112 = 0 then (if (wrap64 ((Go.bits .and .i64 a0 1023) + 1)) ≤ 128 then ((class_Of.f k t112).bind fun t115 => (if (wrap64 (t115 - (wrap64 ((Go.bits .and .i64 a0 1023) + 1)))) < 16 then (some true) else (if (wrap64 ((Go.bits .and .i64 a0 1023) + 1)) > 128 then ((class_Of.f k t112).bind fun t116 => (some (decide ((wrap64 (4 * (wrap64 (t116 - (wrap64 ((Go.bits .and .i64 a0 1023) + 1)))))) < (wrap64 ((Go.bits .and .i64 a0 1023) + 1)))))) else (some false)))) else (if (wrap64 ((Go.bits .and .i64 a0 1023) + 1)) > 128 then ((class_Of.f k t112).bind fun t117 => (some (decide ((wrap64 (4 * (wrap64 (t117 - (wrap64 ((Go.bits .and .i64 a0 1023) + 1)))))) < (wrap64 ((Go.bits .and .i64 a0 1023) + 1)))))) else (some false))) else ((class_Of.f k (wrap64 (t112 - 1))).bind fun t118 => (if t118 < (wrap64 ((Go.bits .and .i64 a0 1023) + 1)) then (if (wrap64 ((Go.bits .and .i64 a0 1023) + 1)) ≤ 128 then ((class_Of.f k t112).bind fun t119 => (if (wrap64 (t119 - (wrap64 ((Go.bits .and .i64 a0 1023) + 1)))) < 16 then (some true) else (if (wrap64 ((Go.bits .and .i64 a0 1023) + 1)) > 128 then ((class_Of.f k t112).bind fun t120 => (some (decide ((wrap64 (4 * (wrap64 (t120 - (wrap64 ((Go.bits .and .i64 a0 1023) + 1)))))) < (wrap64 ((Go.bits .and .i64 a0 1023) + 1)))))) else (some false)))) else (if (wrap64 ((Go.bits .and .i64 a0 1023) + 1)) > 128 then ((class_Of.f k t112).bind fun t121 => (some (decide ((wrap64 (4 * (wrap64 (t121 - (wrap64 ((Go.bits .and .i64 a0 1023) + 1)))))) < (wrap64 ((Go.bits .and .i64 a0 1023) + 1)))))) else (some false))) else (some false)))) else (some false))) else (some false)) = some r := by rw [if_pos rfl] at H; exact H
    clear H
    have H := H1
    clear H1
    by_cases c5 : t112 ≥ 0
    · rw [if_pos c5] at H
      have c5b0 : decide (0 ≤ t112) = true := decide_eq_true c5
      clear c5
      replace H := Option.bind_eq_some_iff.mp H
      obtain ⟨t114, A60, H⟩ := H
      replace H : (if t114 ≥ (wrap64 ((Go.bits .and .i64 a0 1023) + 1)) then (if t112 = 0 then (if (wrap64 ((Go.bits .and .i64 a0 1023) + 1)) ≤ 128 then ((class_Of.f k t112).bind fun t115 => (if (wrap64 (t115 - (wrap64 ((Go.bits .and .i64 a0 1023) + 1)))) < 16 then (some true) else (if (wrap64 ((Go.bits .and .i64 a0 1023) + 1)) > 128 then ((class_Of.f k t112).bind fun t116 => (some (decide ((wrap64 (4 * (wrap64 (t116 - (wrap64 ((Go.bits .and .i64 a0 1023) + 1)))))) < (wrap64 ((Go.bits .and .i64 a0 1023) + 1)))))) else (some false)))) else (if (wrap64 ((Go.bits .and .i64 a0 1023) + 1)) > 128 then ((class_Of.f k t112).bind fun t117 => (some (decide ((wrap64 (4 * (wrap64 (t117 - (wrap64 ((Go.bits .and .i64 a0 1023) + 1)))))) < (wrap64 ((Go.bits .and .i64 a0 1023) + 1)))))) else (some false))) else ((class_Of.f k (wrap64 (t112 - 1))).bind fun t118 => (if t118 < (wrap64 ((Go.bits .and .i64 a0 1023) + 1)) then (if (wrap64 ((Go.bits .and .i64 a0 1023) + 1)) ≤ 128 then ((class_Of.f k t112).bind fun t119 => (if (wrap64 (t119 - (wrap64 ((Go.bits .and .i64 a0 1023) + 1)))) < 16 then (some true) else (if (wrap64 ((Go.bits .and .i64 a0 1023) + 1)) > 128 then ((class_Of.f k t112).bind fun t120 => (some (decide ((wrap64 (4 * (wrap64 (t120 - (wrap64 ((Go.bits .and .i64 a0 1023) + 1)))))) < (wrap64 ((Go.bits .and .i64 a0 1023) + 1)))))) else (some false)))) else (if (wrap64 ((Go.bits .and .i64 a0 1023) + 1)) > 128 then ((class_Of.f k t112).bind fun t121 => (some (decide ((wrap64 (4 * (wrap64 (t121 - (wrap64 ((Go.bits .and .i64 a0 1023) + 1)))))) < (wrap64 ((Go.bits .and .i64 a0 1023) + 1)))))) else (some false))) else (some false)))) else (some false)) = some r := H
      have A6 := Aside0.mk A60
      clear A60
      by_cases c7 : t114 ≥ (wrap64 ((Go.bits .and .i64 a0 1023) + 1))
      · rw [if_pos c7] at H
        have c7b0 : decide ((wrap64 ((Go.bits .and .i64 a0 1023) + 1)) ≤ t114) = true := decide_eq_true c7
        clear c7
        by_cases c8 : t112 = 0
        · rw [if_pos c8] at H
          have c8b0 : (t112 == 0) = true := beq_iff_eq.mpr c8
          have c8b1 : (t112 != 0) = false := bne_eq_false_iff_eq.mpr c8
          clear c8
          by_cases c9 : (wrap64 ((Go.bits .and .i64 a0 1023) + 1)) ≤ 128
          · rw [if_pos c9] at H
            have c9b0 : decide ((wrap64 ((Go.bits .and .i64 a0 1023) + 1)) ≤ 128) = true := decide_eq_true c9
            clear c9
            replace H := Option.bind_eq_some_iff.mp H
            obtain ⟨t115, A100, H⟩ := H
            replace H : (if (wrap64 (t115 - (wrap64 ((Go.bits .and .i64 a0 1023) + 1)))) < 16 then (some true) else (if (wrap64 ((Go.bits .and .i64 a0 1023) + 1)) > 128 then ((class_Of.f k t112).bind fun t116 => (some (decide ((wrap64 (4 * (wrap64 (t116 - (wrap64 ((Go.bits .and .i64 a0 1023) + 1)))))) < (wrap64 ((Go.bits .and .i64 a0 1023) + 1)))))) else (some false))) = some r := H
            have A10 := Aside0.mk A100
            clear A100
            obtain rfl : t114 = t115 := Option.some.inj (A6.out.symm.trans A10.out)
            by_cases c11 : (wrap64 (t114 - (wrap64 ((Go.bits .and .i64 a0 1023) + 1)))) < 16
            · rw [if_pos c11] at H
              have c11b0 : decide ((wrap64 (t114 - (wrap64 ((Go.bits .and .i64 a0 1023) + 1)))) < 16) = true := decide_eq_true c11
              clear c11
              obtain rfl := Option.some.inj H
              go_enter Try.func14, Try.ntmps14
              go_wp2_with (first | ((with_reducible refine gate_callee (f := 54) rfl ?_); refine goesL_ (some 9) rfl rfl Try.func54 (by kernel_rfl) rfl #[.int .i64 (wrap64 ((Go.bits .and .i64 a0 1023) + 1))] rfl (by (try simp only [List.map_toArray, List.map_cons, List.map_nil]); first | done | rfl | (simp only [List.length_drop, List.length_take]; rfl)) ?_; (with_reducible refine (class_For.calls k (wrap64 ((Go.bits .and .i64 a0 1023) + 1)) t112 _ A2.out).mono ?_); rintro e w' ⟨rfl, ⟨nd, rfl⟩⟩; refine ⟨_, rfl, ?_⟩) | ((with_reducible refine gate_callee (f := 53) rfl ?_); refine goesL_ (some 10) rfl rfl Try.func53 (by kernel_rfl) rfl #[] rfl (by (try simp only [List.map_toArray, List.map_cons, List.map_nil]); first | done | rfl | (simp only [List.length_drop, List.length_take]; rfl)) ?_; (with_reducible refine (cubbyholelaw16_awake.calls k  true _ A3.out).mono ?_); rintro e w' ⟨rfl, ⟨nd, rfl⟩⟩; refine ⟨_, rfl, ?_⟩) | (go_at_call 56; (with_reducible refine (class_Of.calls k t112 t114 _ A6.out).mono ?_); rintro e w' ⟨rfl, ⟨nd, rfl⟩⟩) | (go_at_call 56; (with_reducible refine (class_Of.calls k t112 t114 _ A10.out).mono ?_); rintro e w' ⟨rfl, ⟨nd, rfl⟩⟩))
              go_ret
              exact ⟨by first | rfl | (simp; done) | (simp [*]; done), by repeat (first | exact Drawn0.refl _ | apply Drawn0.step)⟩
            · rw [if_neg c11] at H
              have c11b0 : decide ((wrap64 (t114 - (wrap64 ((Go.bits .and .i64 a0 1023) + 1)))) < 16) = false := decide_eq_false c11
              clear c11
              by_cases c12 : (wrap64 ((Go.bits .and .i64 a0 1023) + 1)) > 128
              · rw [if_pos c12] at H
                have c12b0 : decide (128 < (wrap64 ((Go.bits .and .i64 a0 1023) + 1))) = true := decide_eq_true c12
                clear c12
                replace H := Option.bind_eq_some_iff.mp H
                obtain ⟨t116, A130, H⟩ := H
                replace H : (some (decide ((wrap64 (4 * (wrap64 (t116 - (wrap64 ((Go.bits .and .i64 a0 1023) + 1)))))) < (wrap64 ((Go.bits .and .i64 a0 1023) + 1))))) = some r := H
                have A13 := Aside0.mk A130
                clear A130
                obtain rfl : t114 = t116 := Option.some.inj (A6.out.symm.trans A13.out)
                obtain rfl := Option.some.inj H
                go_enter Try.func14, Try.ntmps14
                go_wp2_with (first | ((with_reducible refine gate_callee (f := 54) rfl ?_); refine goesL_ (some 9) rfl rfl Try.func54 (by kernel_rfl) rfl #[.int .i64 (wrap64 ((Go.bits .and .i64 a0 1023) + 1))] rfl (by (try simp only [List.map_toArray, List.map_cons, List.map_nil]); first | done | rfl | (simp only [List.length_drop, List.length_take]; rfl)) ?_; (with_reducible refine (class_For.calls k (wrap64 ((Go.bits .and .i64 a0 1023) + 1)) t112 _ A2.out).mono ?_); rintro e w' ⟨rfl, ⟨nd, rfl⟩⟩; refine ⟨_, rfl, ?_⟩) | ((with_reducible refine gate_callee (f := 53) rfl ?_); refine goesL_ (some 10) rfl rfl Try.func53 (by kernel_rfl) rfl #[] rfl (by (try simp only [List.map_toArray, List.map_cons, List.map_nil]); first | done | rfl | (simp only [List.length_drop, List.length_take]; rfl)) ?_; (with_reducible refine (cubbyholelaw16_awake.calls k  true _ A3.out).mono ?_); rintro e w' ⟨rfl, ⟨nd, rfl⟩⟩; refine ⟨_, rfl, ?_⟩) | (go_at_call 56; (with_reducible refine (class_Of.calls k t112 t114 _ A6.out).mono ?_); rintro e w' ⟨rfl, ⟨nd, rfl⟩⟩) | (go_at_call 56; (with_reducible refine (class_Of.calls k t112 t114 _ A10.out).mono ?_); rintro e w' ⟨rfl, ⟨nd, rfl⟩⟩) | (go_at_call 56; (with_reducible refine (class_Of.calls k t112 t114 _ A13.out).mono ?_); rintro e w' ⟨rfl, ⟨nd, rfl⟩⟩))
                go_ret
                exact ⟨by first | rfl | (simp; done) | (simp [*]; done), by repeat (first | exact Drawn0.refl _ | apply Drawn0.step)⟩
              · rw [if_neg c12] at H
                have c12b0 : decide (128 < (wrap64 ((Go.bits .and .i64 a0 1023) + 1))) = false := decide_eq_false c12
                clear c12
                obtain rfl := Option.some.inj H
                go_enter Try.func14, Try.ntmps14
                go_wp2_with (first | ((with_reducible refine gate_callee (f := 54) rfl ?_); refine goesL_ (some 9) rfl rfl Try.func54 (by kernel_rfl) rfl #[.int .i64 (wrap64 ((Go.bits .and .i64 a0 1023) + 1))] rfl (by (try simp only [List.map_toArray, List.map_cons, List.map_nil]); first | done | rfl | (simp only [List.length_drop, List.length_take]; rfl)) ?_; (with_reducible refine (class_For.calls k (wrap64 ((Go.bits .and .i64 a0 1023) + 1)) t112 _ A2.out).mono ?_); rintro e w' ⟨rfl, ⟨nd, rfl⟩⟩; refine ⟨_, rfl, ?_⟩) | ((with_reducible refine gate_callee (f := 53) rfl ?_); refine goesL_ (some 10) rfl rfl Try.func53 (by kernel_rfl) rfl #[] rfl (by (try simp only [List.map_toArray, List.map_cons, List.map_nil]); first | done | rfl | (simp only [List.length_drop, List.length_take]; rfl)) ?_; (with_reducible refine (cubbyholelaw16_awake.calls k  true _ A3.out).mono ?_); rintro e w' ⟨rfl, ⟨nd, rfl⟩⟩; refine ⟨_, rfl, ?_⟩) | (go_at_call 56; (with_reducible refine (class_Of.calls k t112 t114 _ A6.out).mono ?_); rintro e w' ⟨rfl, ⟨nd, rfl⟩⟩) | (go_at_call 56; (with_reducible refine (class_Of.calls k t112 t114 _ A10.out).mono ?_); rintro e w' ⟨rfl, ⟨nd, rfl⟩⟩))
                go_ret
                exact ⟨by first | rfl | (simp; done) | (simp [*]; done), by repeat (first | exact Drawn0.refl _ | apply Drawn0.step)⟩
          · rw [if_neg c9] at H
            have c9b0 : decide ((wrap64 ((Go.bits .and .i64 a0 1023) + 1)) ≤ 128) = false := decide_eq_false c9
            clear c9
            by_cases c14 : (wrap64 ((Go.bits .and .i64 a0 1023) + 1)) > 128
            · rw [if_pos c14] at H
              have c14b0 : decide (128 < (wrap64 ((Go.bits .and .i64 a0 1023) + 1))) = true := decide_eq_true c14
              clear c14
              replace H := Option.bind_eq_some_iff.mp H
              obtain ⟨t117, A150, H⟩ := H
              replace H : (some (decide ((wrap64 (4 * (wrap64 (t117 - (wrap64 ((Go.bits .and .i64 a0 1023) + 1)))))) < (wrap64 ((Go.bits .and .i64 a0 1023) + 1))))) = some r := H
              have A15 := Aside0.mk A150
              clear A150
              obtain rfl : t114 = t117 := Option.some.inj (A6.out.symm.trans A15.out)
              obtain rfl := Option.some.inj H
              go_enter Try.func14, Try.ntmps14
              go_wp2_with (first | ((with_reducible refine gate_callee (f := 54) rfl ?_); refine goesL_ (some 9) rfl rfl Try.func54 (by kernel_rfl) rfl #[.int .i64 (wrap64 ((Go.bits .and .i64 a0 1023) + 1))] rfl (by (try simp only [List.map_toArray, List.map_cons, List.map_nil]); first | done | rfl | (simp only [List.length_drop, List.length_take]; rfl)) ?_; (with_reducible refine (class_For.calls k (wrap64 ((Go.bits .and .i64 a0 1023) + 1)) t112 _ A2.out).mono ?_); rintro e w' ⟨rfl, ⟨nd, rfl⟩⟩; refine ⟨_, rfl, ?_⟩) | ((with_reducible refine gate_callee (f := 53) rfl ?_); refine goesL_ (some 10) rfl rfl Try.func53 (by kernel_rfl) rfl #[] rfl (by (try simp only [List.map_toArray, List.map_cons, List.map_nil]); first | done | rfl | (simp only [List.length_drop, List.length_take]; rfl)) ?_; (with_reducible refine (cubbyholelaw16_awake.calls k  true _ A3.out).mono ?_); rintro e w' ⟨rfl, ⟨nd, rfl⟩⟩; refine ⟨_, rfl, ?_⟩) | (go_at_call 56; (with_reducible refine (class_Of.calls k t112 t114 _ A6.out).mono ?_); rintro e w' ⟨rfl, ⟨nd, rfl⟩⟩) | (go_at_call 56; (with_reducible refine (class_Of.calls k t112 t114 _ A15.out).mono ?_); rintro e w' ⟨rfl, ⟨nd, rfl⟩⟩))
              go_ret
              exact ⟨by first | rfl | (simp; done) | (simp [*]; done), by repeat (first | exact Drawn0.refl _ | apply Drawn0.step)⟩
            · rw [if_neg c14] at H
              have c14b0 : decide (128 < (wrap64 ((Go.bits .and .i64 a0 1023) + 1))) = false := decide_eq_false c14
              clear c14
              obtain rfl := Option.some.inj H
              go_enter Try.func14, Try.ntmps14
              go_wp2_with (first | ((with_reducible refine gate_callee (f := 54) rfl ?_); refine goesL_ (some 9) rfl rfl Try.func54 (by kernel_rfl) rfl #[.int .i64 (wrap64 ((Go.bits .and .i64 a0 1023) + 1))] rfl (by (try simp only [List.map_toArray, List.map_cons, List.map_nil]); first | done | rfl | (simp only [List.length_drop, List.length_take]; rfl)) ?_; (with_reducible refine (class_For.calls k (wrap64 ((Go.bits .and .i64 a0 1023) + 1)) t112 _ A2.out).mono ?_); rintro e w' ⟨rfl, ⟨nd, rfl⟩⟩; refine ⟨_, rfl, ?_⟩) | ((with_reducible refine gate_callee (f := 53) rfl ?_); refine goesL_ (some 10) rfl rfl Try.func53 (by kernel_rfl) rfl #[] rfl (by (try simp only [List.map_toArray, List.map_cons, List.map_nil]); first | done | rfl | (simp only [List.length_drop, List.length_take]; rfl)) ?_; (with_reducible refine (cubbyholelaw16_awake.calls k  true _ A3.out).mono ?_); rintro e w' ⟨rfl, ⟨nd, rfl⟩⟩; refine ⟨_, rfl, ?_⟩) | (go_at_call 56; (with_reducible refine (class_Of.calls k t112 t114 _ A6.out).mono ?_); rintro e w' ⟨rfl, ⟨nd, rfl⟩⟩))
              go_ret
              exact ⟨by first | rfl | (simp; done) | (simp [*]; done), by repeat (first | exact Drawn0.refl _ | apply Drawn0.step)⟩
        · rw [if_neg c8] at H
          have c8b0 : (t112 == 0) = false := beq_eq_false_iff_ne.mpr c8
          have c8b1 : (t112 != 0) = true := bne_iff_ne.mpr c8
          replace H := Option.bind_eq_some_iff.mp H
          obtain ⟨t118, A160, H⟩ := H
          replace H : (if t118 < (wrap64 ((Go.bits .and .i64 a0 1023) + 1)) then (if (wrap64 ((Go.bits .and .i64 a0 1023) + 1)) ≤ 128 then ((class_Of.f k t112).bind fun t119 => (if (wrap64 (t119 - (wrap64 ((Go.bits .and .i64 a0 1023) + 1)))) < 16 then (some true) else (if (wrap64 ((Go.bits .and .i64 a0 1023) + 1)) > 128 then ((class_Of.f k t112).bind fun t120 => (some (decide ((wrap64 (4 * (wrap64 (t120 - (wrap64 ((Go.bits .and .i64 a0 1023) + 1)))))) < (wrap64 ((Go.bits .and .i64 a0 1023) + 1)))))) else (some false)))) else (if (wrap64 ((Go.bits .and .i64 a0 1023) + 1)) > 128 then ((class_Of.f k t112).bind fun t121 => (some (decide ((wrap64 (4 * (wrap64 (t121 - (wrap64 ((Go.bits .and .i64 a0 1023) + 1)))))) < (wrap64 ((Go.bits .and .i64 a0 1023) + 1)))))) else (some false))) else (some false)) = some r := H
          have A16 := Aside0.mk A160
          clear A160
          by_cases c17 : t118 < (wrap64 ((Go.bits .and .i64 a0 1023) + 1))
          · rw [if_pos c17] at H
            have c17b0 : decide (t118 < (wrap64 ((Go.bits .and .i64 a0 1023) + 1))) = true := decide_eq_true c17
            clear c17
            by_cases c18 : (wrap64 ((Go.bits .and .i64 a0 1023) + 1)) ≤ 128
            · rw [if_pos c18] at H
              have c18b0 : decide ((wrap64 ((Go.bits .and .i64 a0 1023) + 1)) ≤ 128) = true := decide_eq_true c18
              clear c18
              replace H := Option.bind_eq_some_iff.mp H
              obtain ⟨t119, A190, H⟩ := H
              replace H : (if (wrap64 (t119 - (wrap64 ((Go.bits .and .i64 a0 1023) + 1)))) < 16 then (some true) else (if (wrap64 ((Go.bits .and .i64 a0 1023) + 1)) > 128 then ((class_Of.f k t112).bind fun t120 => (some (decide ((wrap64 (4 * (wrap64 (t120 - (wrap64 ((Go.bits .and .i64 a0 1023) + 1)))))) < (wrap64 ((Go.bits .and .i64 a0 1023) + 1)))))) else (some false))) = some r := H
              have A19 := Aside0.mk A190
              clear A190
              obtain rfl : t114 = t119 := Option.some.inj (A6.out.symm.trans A19.out)
              by_cases c20 : (wrap64 (t114 - (wrap64 ((Go.bits .and .i64 a0 1023) + 1)))) < 16
              · rw [if_pos c20] at H
                have c20b0 : decide ((wrap64 (t114 - (wrap64 ((Go.bits .and .i64 a0 1023) + 1)))) < 16) = true := decide_eq_true c20
                clear c20
                obtain rfl := Option.some.inj H
                go_enter Try.func14, Try.ntmps14
                go_wp2_with (first | ((with_reducible refine gate_callee (f := 54) rfl ?_); refine goesL_ (some 9) rfl rfl Try.func54 (by kernel_rfl) rfl #[.int .i64 (wrap64 ((Go.bits .and .i64 a0 1023) + 1))] rfl (by (try simp only [List.map_toArray, List.map_cons, List.map_nil]); first | done | rfl | (simp only [List.length_drop, List.length_take]; rfl)) ?_; (with_reducible refine (class_For.calls k (wrap64 ((Go.bits .and .i64 a0 1023) + 1)) t112 _ A2.out).mono ?_); rintro e w' ⟨rfl, ⟨nd, rfl⟩⟩; refine ⟨_, rfl, ?_⟩) | ((with_reducible refine gate_callee (f := 53) rfl ?_); refine goesL_ (some 10) rfl rfl Try.func53 (by kernel_rfl) rfl #[] rfl (by (try simp only [List.map_toArray, List.map_cons, List.map_nil]); first | done | rfl | (simp only [List.length_drop, List.length_take]; rfl)) ?_; (with_reducible refine (cubbyholelaw16_awake.calls k  true _ A3.out).mono ?_); rintro e w' ⟨rfl, ⟨nd, rfl⟩⟩; refine ⟨_, rfl, ?_⟩) | (go_at_call 56; (with_reducible refine (class_Of.calls k t112 t114 _ A6.out).mono ?_); rintro e w' ⟨rfl, ⟨nd, rfl⟩⟩) | (go_at_call 56; (with_reducible refine (class_Of.calls k (wrap64 (t112 - 1)) t118 _ A16.out).mono ?_); rintro e w' ⟨rfl, ⟨nd, rfl⟩⟩) | (go_at_call 56; (with_reducible refine (class_Of.calls k t112 t114 _ A19.out).mono ?_); rintro e w' ⟨rfl, ⟨nd, rfl⟩⟩))
                go_ret
                exact ⟨by first | rfl | (simp; done) | (simp [*]; done), by repeat (first | exact Drawn0.refl _ | apply Drawn0.step)⟩
              · rw [if_neg c20] at H
                have c20b0 : decide ((wrap64 (t114 - (wrap64 ((Go.bits .and .i64 a0 1023) + 1)))) < 16) = false := decide_eq_false c20
                clear c20
                by_cases c21 : (wrap64 ((Go.bits .and .i64 a0 1023) + 1)) > 128
                · rw [if_pos c21] at H
                  have c21b0 : decide (128 < (wrap64 ((Go.bits .and .i64 a0 1023) + 1))) = true := decide_eq_true c21
                  clear c21
                  replace H := Option.bind_eq_some_iff.mp H
                  obtain ⟨t120, A220, H⟩ := H
                  replace H : (some (decide ((wrap64 (4 * (wrap64 (t120 - (wrap64 ((Go.bits .and .i64 a0 1023) + 1)))))) < (wrap64 ((Go.bits .and .i64 a0 1023) + 1))))) = some r := H
                  have A22 := Aside0.mk A220
                  clear A220
                  obtain rfl : t114 = t120 := Option.some.inj (A6.out.symm.trans A22.out)
                  obtain rfl := Option.some.inj H
                  go_enter Try.func14, Try.ntmps14
                  go_wp2_with (first | ((with_reducible refine gate_callee (f := 54) rfl ?_); refine goesL_ (some 9) rfl rfl Try.func54 (by kernel_rfl) rfl #[.int .i64 (wrap64 ((Go.bits .and .i64 a0 1023) + 1))] rfl (by (try simp only [List.map_toArray, List.map_cons, List.map_nil]); first | done | rfl | (simp only [List.length_drop, List.length_take]; rfl)) ?_; (with_reducible refine (class_For.calls k (wrap64 ((Go.bits .and .i64 a0 1023) + 1)) t112 _ A2.out).mono ?_); rintro e w' ⟨rfl, ⟨nd, rfl⟩⟩; refine ⟨_, rfl, ?_⟩) | ((with_reducible refine gate_callee (f := 53) rfl ?_); refine goesL_ (some 10) rfl rfl Try.func53 (by kernel_rfl) rfl #[] rfl (by (try simp only [List.map_toArray, List.map_cons, List.map_nil]); first | done | rfl | (simp only [List.length_drop, List.length_take]; rfl)) ?_; (with_reducible refine (cubbyholelaw16_awake.calls k  true _ A3.out).mono ?_); rintro e w' ⟨rfl, ⟨nd, rfl⟩⟩; refine ⟨_, rfl, ?_⟩) | (go_at_call 56; (with_reducible refine (class_Of.calls k t112 t114 _ A6.out).mono ?_); rintro e w' ⟨rfl, ⟨nd, rfl⟩⟩) | (go_at_call 56; (with_reducible refine (class_Of.calls k (wrap64 (t112 - 1)) t118 _ A16.out).mono ?_); rintro e w' ⟨rfl, ⟨nd, rfl⟩⟩) | (go_at_call 56; (with_reducible refine (class_Of.calls k t112 t114 _ A19.out).mono ?_); rintro e w' ⟨rfl, ⟨nd, rfl⟩⟩) | (go_at_call 56; (with_reducible refine (class_Of.calls k t112 t114 _ A22.out).mono ?_); rintro e w' ⟨rfl, ⟨nd, rfl⟩⟩))
                  go_ret
                  exact ⟨by first | rfl | (simp; done) | (simp [*]; done), by repeat (first | exact Drawn0.refl _ | apply Drawn0.step)⟩
                · rw [if_neg c21] at H
                  have c21b0 : decide (128 < (wrap64 ((Go.bits .and .i64 a0 1023) + 1))) = false := decide_eq_false c21
                  clear c21
                  obtain rfl := Option.some.inj H
                  go_enter Try.func14, Try.ntmps14
                  go_wp2_with (first | ((with_reducible refine gate_callee (f := 54) rfl ?_); refine goesL_ (some 9) rfl rfl Try.func54 (by kernel_rfl) rfl #[.int .i64 (wrap64 ((Go.bits .and .i64 a0 1023) + 1))] rfl (by (try simp only [List.map_toArray, List.map_cons, List.map_nil]); first | done | rfl | (simp only [List.length_drop, List.length_take]; rfl)) ?_; (with_reducible refine (class_For.calls k (wrap64 ((Go.bits .and .i64 a0 1023) + 1)) t112 _ A2.out).mono ?_); rintro e w' ⟨rfl, ⟨nd, rfl⟩⟩; refine ⟨_, rfl, ?_⟩) | ((with_reducible refine gate_callee (f := 53) rfl ?_); refine goesL_ (some 10) rfl rfl Try.func53 (by kernel_rfl) rfl #[] rfl (by (try simp only [List.map_toArray, List.map_cons, List.map_nil]); first | done | rfl | (simp only [List.length_drop, List.length_take]; rfl)) ?_; (with_reducible refine (cubbyholelaw16_awake.calls k  true _ A3.out).mono ?_); rintro e w' ⟨rfl, ⟨nd, rfl⟩⟩; refine ⟨_, rfl, ?_⟩) | (go_at_call 56; (with_reducible refine (class_Of.calls k t112 t114 _ A6.out).mono ?_); rintro e w' ⟨rfl, ⟨nd, rfl⟩⟩) | (go_at_call 56; (with_reducible refine (class_Of.calls k (wrap64 (t112 - 1)) t118 _ A16.out).mono ?_); rintro e w' ⟨rfl, ⟨nd, rfl⟩⟩) | (go_at_call 56; (with_reducible refine (class_Of.calls k t112 t114 _ A19.out).mono ?_); rintro e w' ⟨rfl, ⟨nd, rfl⟩⟩))
                  go_ret
                  exact ⟨by first | rfl | (simp; done) | (simp [*]; done), by repeat (first | exact Drawn0.refl _ | apply Drawn0.step)⟩
            · rw [if_neg c18] at H
              have c18b0 : decide ((wrap64 ((Go.bits .and .i64 a0 1023) + 1)) ≤ 128) = false := decide_eq_false c18
              clear c18
              by_cases c23 : (wrap64 ((Go.bits .and .i64 a0 1023) + 1)) > 128
              · rw [if_pos c23] at H
                have c23b0 : decide (128 < (wrap64 ((Go.bits .and .i64 a0 1023) + 1))) = true := decide_eq_true c23
                clear c23
                replace H := Option.bind_eq_some_iff.mp H
                obtain ⟨t121, A240, H⟩ := H
                replace H : (some (decide ((wrap64 (4 * (wrap64 (t121 - (wrap64 ((Go.bits .and .i64 a0 1023) + 1)))))) < (wrap64 ((Go.bits .and .i64 a0 1023) + 1))))) = some r := H
                have A24 := Aside0.mk A240
                clear A240
                obtain rfl : t114 = t121 := Option.some.inj (A6.out.symm.trans A24.out)
                obtain rfl := Option.some.inj H
                go_enter Try.func14, Try.ntmps14
                go_wp2_with (first | ((with_reducible refine gate_callee (f := 54) rfl ?_); refine goesL_ (some 9) rfl rfl Try.func54 (by kernel_rfl) rfl #[.int .i64 (wrap64 ((Go.bits .and .i64 a0 1023) + 1))] rfl (by (try simp only [List.map_toArray, List.map_cons, List.map_nil]); first | done | rfl | (simp only [List.length_drop, List.length_take]; rfl)) ?_; (with_reducible refine (class_For.calls k (wrap64 ((Go.bits .and .i64 a0 1023) + 1)) t112 _ A2.out).mono ?_); rintro e w' ⟨rfl, ⟨nd, rfl⟩⟩; refine ⟨_, rfl, ?_⟩) | ((with_reducible refine gate_callee (f := 53) rfl ?_); refine goesL_ (some 10) rfl rfl Try.func53 (by kernel_rfl) rfl #[] rfl (by (try simp only [List.map_toArray, List.map_cons, List.map_nil]); first | done | rfl | (simp only [List.length_drop, List.length_take]; rfl)) ?_; (with_reducible refine (cubbyholelaw16_awake.calls k  true _ A3.out).mono ?_); rintro e w' ⟨rfl, ⟨nd, rfl⟩⟩; refine ⟨_, rfl, ?_⟩) | (go_at_call 56; (with_reducible refine (class_Of.calls k t112 t114 _ A6.out).mono ?_); rintro e w' ⟨rfl, ⟨nd, rfl⟩⟩) | (go_at_call 56; (with_reducible refine (class_Of.calls k (wrap64 (t112 - 1)) t118 _ A16.out).mono ?_); rintro e w' ⟨rfl, ⟨nd, rfl⟩⟩) | (go_at_call 56; (with_reducible refine (class_Of.calls k t112 t114 _ A24.out).mono ?_); rintro e w' ⟨rfl, ⟨nd, rfl⟩⟩))
                go_ret
                exact ⟨by first | rfl | (simp; done) | (simp [*]; done), by repeat (first | exact Drawn0.refl _ | apply Drawn0.step)⟩
              · rw [if_neg c23] at H
                have c23b0 : decide (128 < (wrap64 ((Go.bits .and .i64 a0 1023) + 1))) = false := decide_eq_false c23
                clear c23
                obtain rfl := Option.some.inj H
                go_enter Try.func14, Try.ntmps14
                go_wp2_with (first | ((with_reducible refine gate_callee (f := 54) rfl ?_); refine goesL_ (some 9) rfl rfl Try.func54 (by kernel_rfl) rfl #[.int .i64 (wrap64 ((Go.bits .and .i64 a0 1023) + 1))] rfl (by (try simp only [List.map_toArray, List.map_cons, List.map_nil]); first | done | rfl | (simp only [List.length_drop, List.length_take]; rfl)) ?_; (with_reducible refine (class_For.calls k (wrap64 ((Go.bits .and .i64 a0 1023) + 1)) t112 _ A2.out).mono ?_); rintro e w' ⟨rfl, ⟨nd, rfl⟩⟩; refine ⟨_, rfl, ?_⟩) | ((with_reducible refine gate_callee (f := 53) rfl ?_); refine goesL_ (some 10) rfl rfl Try.func53 (by kernel_rfl) rfl #[] rfl (by (try simp only [List.map_toArray, List.map_cons, List.map_nil]); first | done | rfl | (simp only [List.length_drop, List.length_take]; rfl)) ?_; (with_reducible refine (cubbyholelaw16_awake.calls k  true _ A3.out).mono ?_); rintro e w' ⟨rfl, ⟨nd, rfl⟩⟩; refine ⟨_, rfl, ?_⟩) | (go_at_call 56; (with_reducible refine (class_Of.calls k t112 t114 _ A6.out).mono ?_); rintro e w' ⟨rfl, ⟨nd, rfl⟩⟩) | (go_at_call 56; (with_reducible refine (class_Of.calls k (wrap64 (t112 - 1)) t118 _ A16.out).mono ?_); rintro e w' ⟨rfl, ⟨nd, rfl⟩⟩))
                go_ret
                exact ⟨by first | rfl | (simp; done) | (simp [*]; done), by repeat (first | exact Drawn0.refl _ | apply Drawn0.step)⟩
          · rw [if_neg c17] at H
            have c17b0 : decide (t118 < (wrap64 ((Go.bits .and .i64 a0 1023) + 1))) = false := decide_eq_false c17
            clear c17
            obtain rfl := Option.some.inj H
            go_enter Try.func14, Try.ntmps14
            go_wp2_with (first | ((with_reducible refine gate_callee (f := 54) rfl ?_); refine goesL_ (some 9) rfl rfl Try.func54 (by kernel_rfl) rfl #[.int .i64 (wrap64 ((Go.bits .and .i64 a0 1023) + 1))] rfl (by (try simp only [List.map_toArray, List.map_cons, List.map_nil]); first | done | rfl | (simp only [List.length_drop, List.length_take]; rfl)) ?_; (with_reducible refine (class_For.calls k (wrap64 ((Go.bits .and .i64 a0 1023) + 1)) t112 _ A2.out).mono ?_); rintro e w' ⟨rfl, ⟨nd, rfl⟩⟩; refine ⟨_, rfl, ?_⟩) | ((with_reducible refine gate_callee (f := 53) rfl ?_); refine goesL_ (some 10) rfl rfl Try.func53 (by kernel_rfl) rfl #[] rfl (by (try simp only [List.map_toArray, List.map_cons, List.map_nil]); first | done | rfl | (simp only [List.length_drop, List.length_take]; rfl)) ?_; (with_reducible refine (cubbyholelaw16_awake.calls k  true _ A3.out).mono ?_); rintro e w' ⟨rfl, ⟨nd, rfl⟩⟩; refine ⟨_, rfl, ?_⟩) | (go_at_call 56; (with_reducible refine (class_Of.calls k t112 t114 _ A6.out).mono ?_); rintro e w' ⟨rfl, ⟨nd, rfl⟩⟩) | (go_at_call 56; (with_reducible refine (class_Of.calls k (wrap64 (t112 - 1)) t118 _ A16.out).mono ?_); rintro e w' ⟨rfl, ⟨nd, rfl⟩⟩))
            go_ret
            exact ⟨by first | rfl | (simp; done) | (simp [*]; done), by repeat (first | exact Drawn0.refl _ | apply Drawn0.step)⟩
      · rw [if_neg c7] at H
        have c7b0 : decide ((wrap64 ((Go.bits .and .i64 a0 1023) + 1)) ≤ t114) = false := decide_eq_false c7
        clear c7
        obtain rfl := Option.some.inj H
        go_enter Try.func14, Try.ntmps14
        go_wp2_with (first | ((with_reducible refine gate_callee (f := 54) rfl ?_); refine goesL_ (some 9) rfl rfl Try.func54 (by kernel_rfl) rfl #[.int .i64 (wrap64 ((Go.bits .and .i64 a0 1023) + 1))] rfl (by (try simp only [List.map_toArray, List.map_cons, List.map_nil]); first | done | rfl | (simp only [List.length_drop, List.length_take]; rfl)) ?_; (with_reducible refine (class_For.calls k (wrap64 ((Go.bits .and .i64 a0 1023) + 1)) t112 _ A2.out).mono ?_); rintro e w' ⟨rfl, ⟨nd, rfl⟩⟩; refine ⟨_, rfl, ?_⟩) | ((with_reducible refine gate_callee (f := 53) rfl ?_); refine goesL_ (some 10) rfl rfl Try.func53 (by kernel_rfl) rfl #[] rfl (by (try simp only [List.map_toArray, List.map_cons, List.map_nil]); first | done | rfl | (simp only [List.length_drop, List.length_take]; rfl)) ?_; (with_reducible refine (cubbyholelaw16_awake.calls k  true _ A3.out).mono ?_); rintro e w' ⟨rfl, ⟨nd, rfl⟩⟩; refine ⟨_, rfl, ?_⟩) | (go_at_call 56; (with_reducible refine (class_Of.calls k t112 t114 _ A6.out).mono ?_); rintro e w' ⟨rfl, ⟨nd, rfl⟩⟩))
        go_ret
        exact ⟨by first | rfl | (simp; done) | (simp [*]; done), by repeat (first | exact Drawn0.refl _ | apply Drawn0.step)⟩
    · rw [if_neg c5] at H
      have c5b0 : decide (0 ≤ t112) = false := decide_eq_false c5
      clear c5
      obtain rfl := Option.some.inj H
      go_enter Try.func14, Try.ntmps14
      go_wp2_with (first | ((with_reducible refine gate_callee (f := 54) rfl ?_); refine goesL_ (some 9) rfl rfl Try.func54 (by kernel_rfl) rfl #[.int .i64 (wrap64 ((Go.bits .and .i64 a0 1023) + 1))] rfl (by (try simp only [List.map_toArray, List.map_cons, List.map_nil]); first | done | rfl | (simp only [List.length_drop, List.length_take]; rfl)) ?_; (with_reducible refine (class_For.calls k (wrap64 ((Go.bits .and .i64 a0 1023) + 1)) t112 _ A2.out).mono ?_); rintro e w' ⟨rfl, ⟨nd, rfl⟩⟩; refine ⟨_, rfl, ?_⟩) | ((with_reducible refine gate_callee (f := 53) rfl ?_); refine goesL_ (some 10) rfl rfl Try.func53 (by kernel_rfl) rfl #[] rfl (by (try simp only [List.map_toArray, List.map_cons, List.map_nil]); first | done | rfl | (simp only [List.length_drop, List.length_take]; rfl)) ?_; (with_reducible refine (cubbyholelaw16_awake.calls k  true _ A3.out).mono ?_); rintro e w' ⟨rfl, ⟨nd, rfl⟩⟩; refine ⟨_, rfl, ?_⟩))
      go_ret
      exact ⟨by first | rfl | (simp; done) | (simp [*]; done), by repeat (first | exact Drawn0.refl _ | apply Drawn0.step)⟩
  · replace c4 := Bool.eq_false_iff.mpr c4
    subst c4
    have H1 : (some false) = some r := by rw [if_neg (show ¬ (false = true) by decide)] at H; exact H
    clear H
    have H := H1
    clear H1
    obtain rfl := Option.some.inj H
    go_enter Try.func14, Try.ntmps14
    go_wp2_with (first | ((with_reducible refine gate_callee (f := 54) rfl ?_); refine goesL_ (some 9) rfl rfl Try.func54 (by kernel_rfl) rfl #[.int .i64 (wrap64 ((Go.bits .and .i64 a0 1023) + 1))] rfl (by (try simp only [List.map_toArray, List.map_cons, List.map_nil]); first | done | rfl | (simp only [List.length_drop, List.length_take]; rfl)) ?_; (with_reducible refine (class_For.calls k (wrap64 ((Go.bits .and .i64 a0 1023) + 1)) t112 _ A2.out).mono ?_); rintro e w' ⟨rfl, ⟨nd, rfl⟩⟩; refine ⟨_, rfl, ?_⟩) | ((with_reducible refine gate_callee (f := 53) rfl ?_); refine goesL_ (some 10) rfl rfl Try.func53 (by kernel_rfl) rfl #[] rfl (by (try simp only [List.map_toArray, List.map_cons, List.map_nil]); first | done | rfl | (simp only [List.length_drop, List.length_take]; rfl)) ?_; (with_reducible refine (cubbyholelaw16_awake.calls k  false _ A3.out).mono ?_); rintro e w' ⟨rfl, ⟨nd, rfl⟩⟩; refine ⟨_, rfl, ?_⟩))
    go_ret
    exact ⟨by first | rfl | (simp; done) | (simp [*]; done), by repeat (first | exact Drawn0.refl _ | apply Drawn0.step)⟩

/-- THE ONE PURE STATEMENT of cubbyholelaw16_ClassTight: yours. -/
def cubbyholelaw16_ClassTight.Pure : Prop := ∀ (a0 : Int), (Lit.int .i64 a0).wf = true → ∃ k, cubbyholelaw16_ClassTight.f k a0 = some true
theorem cubbyholelaw16_ClassTight.walk (P : cubbyholelaw16_ClassTight.Pure) (a0 : Int) (w : World) (w0 : (Lit.int .i64 a0).wf = true) :
    Calls Try.prog 14 #[.int .i64 a0] w fun e w' => e = .returned (.bool true) ∧ Below w.heap.size w w' := by
  obtain ⟨k, h⟩ := P a0 w0
  refine (cubbyholelaw16_ClassTight.calls k a0 true w h).mono ?_
  rintro e w' ⟨rfl, hd⟩
  exact ⟨rfl, hd.below⟩

end Go.Proofs.Ytifakhddmlalcaa.QClassTight
