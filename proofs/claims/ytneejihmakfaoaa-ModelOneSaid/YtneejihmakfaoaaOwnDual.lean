/- The program's Do and the reference's Do answer alike on an empty model. Conditions: the registers are at most 64, the most that may be asked for is from 1 to 8000. Printed by gen_dual.py. -/
import Derived.Test.YtneejihmakfaoaaOwnRefGX
import Derived.Test.YtneejihmakfaoaaOwnRefG
import Derived.Test.YtneejihmakfaoaaOwnRefHA
import Derived.Test.YtneejihmakfaoaaOwnRefHB
import Derived.Test.YtneejihmakfaoaaOwnDefs
import Derived.Test.YtneejihmakfaoaaOwnPlain
namespace Go.Proofs.Ytneejihmakfaoaa.OwnModel
open Go.RowKit Go.Proofs.Ytneejihmakfaoaa.OwnMask Go.Proofs.Ytneejihmakfaoaa.QModelOne Go.Proofs.YtneejihmakfaoaaW.PrintWords Go.Proofs.YtneejihmakfaoaaW.PrintLast Go.Proofs.YtneejihmakfaoaaW.PrintMore
set_option linter.unusedVariables false
set_option linter.unusedSimpArgs false
theorem dualN {k0 k1 k2 k3 k4 k5 k6 k7 k8 k9 k10 : Int} {xs : List S51} {kd th a b v nn mm : Int} {A : Option Addr} {dl dc : Nat} {fu : Bool} (err : Int) (hz : ∀ j, j < xs.length → xs[j]? = some z51) (p : ∀ (g gr : Nat) (w : World), IsM w g k0 k1 k2 k3 k4 k5 k6 k7 k8 k9 k10 (.slice none 0 0) (.slice (some ⟨gr, 0, none⟩) xs.length xs.length) → w.heap[gr]? = some (.cells (cells51 xs) 49 (0, 0)) → Calls Try.prog 8 #[.pointer (some ⟨g, 0, none⟩), .agg #[.int .i64 kd, .int .i64 th, .int .i64 a, .int .i64 b, .int .i64 v, .int .i64 nn, .int .i64 mm, .slice A dl dc], .bool fu] w fun e w' => e = .returned (.agg #[.int .i64 err, .int .i64 0, .slice none 0 0]) ∧ Below w.heap.size w w') (r : ∀ (gr cr : Nat) (t0 : TypeId) (w : World), w.heap[gr]? = some (.cells (cells51 xs) t0 (0, 0)) → Calls Try.prog 9 #[.agg #[.int .i64 k0, .int .i64 k1, .int .i64 k2, .int .i64 k3, .int .i64 k4, .int .i64 k5, .int .i64 k6, .int .i64 k7, .int .i64 k8, .int .i64 k9, .int .u64 k10, .slice none 0 0, .slice (some ⟨gr, 0, none⟩) xs.length cr], .agg #[.int .i64 kd, .int .i64 th, .int .i64 a, .int .i64 b, .int .i64 v, .int .i64 nn, .int .i64 mm, .slice A dl dc], .bool fu] w fun e w' => e = .returned (.tuple #[.agg #[.int .i64 k0, .int .i64 k1, .int .i64 k2, .int .i64 k3, .int .i64 k4, .int .i64 k5, .int .i64 k6, .int .i64 k7, .int .i64 k8, .int .i64 k9, .int .u64 k10, .slice none 0 0, .slice (some ⟨gr, 0, none⟩) xs.length cr], .agg #[.int .i64 err, .int .i64 0, .slice none 0 0]]) ∧ Below w.heap.size w w') : Dual k0 k1 k2 k3 k4 k5 k6 k7 k8 k9 k10 xs kd th a b v nn mm A dl dc fu := by
  refine ⟨err, none, fun g gr w h hr => (p g gr w h hr).mono ?_, fun gr cr t0 w hx => (r gr cr t0 w hx).mono ?_⟩
  · rintro e w' ⟨rfl, hb⟩
    exact ⟨rfl, KB2.of1 (KB.of hb), xs, rfl, blk_below h hb, blk_below hr hb⟩
  · rintro e w' ⟨rfl, hb⟩
    refine ⟨_, _, rfl, hb, rfl, gr, cr, rfl, Or.inl rfl, fun a0 a1 => ?_⟩
    have hp := hz a.toNat (by omega)
    have hx2 := blk_below hx hb
    exact ⟨regs_cell hx2 _ _ hp 0 (by decide), regs_cell hx2 _ _ hp 1 (by decide), regs_cell hx2 _ _ hp 2 (by decide), regs_cell hx2 _ _ hp 3 (by decide), regs_cell hx2 _ _ hp 4 (by decide)⟩
theorem dualS {k0 k1 k2 k3 k4 k5 k6 k7 k8 k9 k10 : Int} {xs : List S51} {kd th a b v nn mm : Int} {A : Option Addr} {dl dc : Nat} {fu : Bool} (p : ∀ (g gr : Nat) (w : World), IsM w g k0 k1 k2 k3 k4 k5 k6 k7 k8 k9 k10 (.slice none 0 0) (.slice (some ⟨gr, 0, none⟩) xs.length xs.length) → w.heap[gr]? = some (.cells (cells51 xs) 49 (0, 0)) → Calls Try.prog 8 #[.pointer (some ⟨g, 0, none⟩), .agg #[.int .i64 kd, .int .i64 th, .int .i64 a, .int .i64 b, .int .i64 v, .int .i64 nn, .int .i64 mm, .slice A dl dc], .bool fu] w fun e w' => e = .returned (.agg #[.int .i64 0, .int .i64 0, .slice none 0 0]) ∧ KB gr w w' ∧ w'.heap[gr]? = some (.cells (cells51 (xs.set a.toNat z51)) 49 (0, 0))) (r : ∀ (gr cr : Nat) (t0 : TypeId) (w : World), w.heap[gr]? = some (.cells (cells51 xs) t0 (0, 0)) → Calls Try.prog 9 #[.agg #[.int .i64 k0, .int .i64 k1, .int .i64 k2, .int .i64 k3, .int .i64 k4, .int .i64 k5, .int .i64 k6, .int .i64 k7, .int .i64 k8, .int .i64 k9, .int .u64 k10, .slice none 0 0, .slice (some ⟨gr, 0, none⟩) xs.length cr], .agg #[.int .i64 kd, .int .i64 th, .int .i64 a, .int .i64 b, .int .i64 v, .int .i64 nn, .int .i64 mm, .slice A dl dc], .bool fu] w fun e w' => ∃ gR cR, e = .returned (.tuple #[.agg #[.int .i64 k0, .int .i64 k1, .int .i64 k2, .int .i64 k3, .int .i64 k4, .int .i64 k5, .int .i64 k6, .int .i64 k7, .int .i64 k8, .int .i64 k9, .int .u64 k10, .slice none 0 0, .slice (some ⟨gR, 0, none⟩) xs.length cR], .agg #[.int .i64 0, .int .i64 0, .slice none 0 0]]) ∧ w'.cell? ⟨gR, a.toNat * 5, none⟩ = some (.int .i64 (0)) ∧ w'.cell? ⟨gR, a.toNat * 5 + 1, none⟩ = some (.int .i64 (0)) ∧ w'.cell? ⟨gR, a.toNat * 5 + 2, none⟩ = some (.int .i64 (0)) ∧ w'.cell? ⟨gR, a.toNat * 5 + 3, none⟩ = some (.int .i64 (0)) ∧ w'.cell? ⟨gR, a.toNat * 5 + 4, none⟩ = some (.int .i64 (0)) ∧ w.heap.size ≤ gR ∧ Below w.heap.size w w') : Dual k0 k1 k2 k3 k4 k5 k6 k7 k8 k9 k10 xs kd th a b v nn mm A dl dc fu := by
  refine ⟨0, none, fun g gr w h hr => (p g gr w h hr).mono ?_, fun gr cr t0 w hx => (r gr cr t0 w hx).mono ?_⟩
  · rintro e w' ⟨rfl, hk, hg⟩
    have hne : g ≠ gr := fun e => blk_ne hr h (by decide) e.symm
    refine ⟨rfl, KB2.of2 hk, xs.set a.toNat z51, by simp, ?_, hg⟩
    rw [List.length_set]
    exact (hk.block g (blk_lt h) hne).trans h
  · rintro e w' ⟨gR, cR, rfl, g0, g1, g2, g3, g4, hge, hb⟩
    exact ⟨_, _, rfl, hb, rfl, gR, cR, rfl, Or.inr hge, fun _ _ => ⟨g0, g1, g2, g3, g4⟩⟩
theorem dualM {k0 k1 k2 k3 k4 k5 k6 k7 k8 k9 k10 : Int} {xs : List S51} {kd th a b v nn mm : Int} {A : Option Addr} {dl dc : Nat} {fu : Bool} (N : Int) (ha0 : 0 ≤ a) (ha1 : a < (xs.length : Int)) (f : Int) (rr : Nat) (p : ∀ (g gr : Nat) (w : World), IsM w g k0 k1 k2 k3 k4 k5 k6 k7 k8 k9 k10 (.slice none 0 0) (.slice (some ⟨gr, 0, none⟩) xs.length xs.length) → w.heap[gr]? = some (.cells (cells51 xs) 49 (0, 0)) → Calls Try.prog 8 #[.pointer (some ⟨g, 0, none⟩), .agg #[.int .i64 kd, .int .i64 th, .int .i64 a, .int .i64 b, .int .i64 v, .int .i64 nn, .int .i64 mm, .slice A dl dc], .bool fu] w fun e w' => e = .returned (.agg #[.int .i64 0, .int .i64 0, .slice none 0 0]) ∧ KB2 g gr w w' ∧ w'.heap[gr]? = some (.cells (cells51 (xs.set a.toNat ⟨1, 0, N, 0, 31⟩)) 49 (0, 0)) ∧ ∃ g5 cap gt gb mp sp, IsM w' g k0 k1 k2 k3 k4 k5 k6 k7 k8 k9 k10 (.slice (some ⟨g5, 0, none⟩) 1 cap) (.slice (some ⟨gr, 0, none⟩) xs.length xs.length) ∧ 1 ≤ cap ∧ w'.cell? ⟨g5, 0, none⟩ = some (.pointer (some ⟨gt, 0, none⟩)) ∧ w'.heap[gt]? = some (.cells #[.slice (some ⟨gb, 0, none⟩) rr rr, mp, .int .i64 rr, sp, .bool true] 80 (0, 0)) ∧ w'.heap[gb]? = some (.cells (fillTo rr rr f) 5 (0, 0)))
    (r : ∀ (gr cr : Nat) (t0 : TypeId) (w : World), w.heap[gr]? = some (.cells (cells51 xs) t0 (0, 0)) → Calls Try.prog 9 #[.agg #[.int .i64 k0, .int .i64 k1, .int .i64 k2, .int .i64 k3, .int .i64 k4, .int .i64 k5, .int .i64 k6, .int .i64 k7, .int .i64 k8, .int .i64 k9, .int .u64 k10, .slice none 0 0, .slice (some ⟨gr, 0, none⟩) xs.length cr], .agg #[.int .i64 kd, .int .i64 th, .int .i64 a, .int .i64 b, .int .i64 v, .int .i64 nn, .int .i64 mm, .slice A dl dc], .bool fu] w fun e w' => ∃ gl cap gR cR, e = .returned (.tuple #[.agg #[.int .i64 k0, .int .i64 k1, .int .i64 k2, .int .i64 k3, .int .i64 k4, .int .i64 k5, .int .i64 k6, .int .i64 k7, .int .i64 k8, .int .i64 k9, .int .u64 k10, .slice (some ⟨gl, 0, none⟩) 1 cap, .slice (some ⟨gR, 0, none⟩) xs.length cR], .agg #[.int .i64 0, .int .i64 0, .slice none 0 0]]) ∧ w'.cell? ⟨gl, 3, none⟩ = some (.bool true) ∧ w'.cell? ⟨gR, a.toNat * 5, none⟩ = some (.int .i64 (1)) ∧ w'.cell? ⟨gR, a.toNat * 5 + 1, none⟩ = some (.int .i64 (0)) ∧ w'.cell? ⟨gR, a.toNat * 5 + 2, none⟩ = some (.int .i64 (N)) ∧ w'.cell? ⟨gR, a.toNat * 5 + 3, none⟩ = some (.int .i64 (0)) ∧ w'.cell? ⟨gR, a.toNat * 5 + 4, none⟩ = some (.int .i64 (31)) ∧ w.heap.size ≤ gR ∧ Below w.heap.size w w') : Dual k0 k1 k2 k3 k4 k5 k6 k7 k8 k9 k10 xs kd th a b v nn mm A dl dc fu := by
  refine ⟨0, some N, fun g gr w h hr => (p g gr w h hr).mono ?_, fun gr cr t0 w hx => (r gr cr t0 w hx).mono ?_⟩
  · rintro e w' ⟨rfl, hk, hg, g5, cap, gt, gb, mp, sp, hm, hc, hcc, hth, _⟩
    exact ⟨rfl, hk, hg, g5, cap, gt, gb, rr, mp, sp, hm, hc, hcc, hth⟩
  · rintro e w' ⟨gl, cap, gR, cR, rfl, hl, g0, g1, g2, g3, g4, hge, hb⟩
    exact ⟨_, _, rfl, hb, ha0, ha1, gl, cap, gR, cR, rfl, rfl, Or.inr hge, hl, g0, g1, g2, g3, g4⟩

theorem regs_bad (n : Nat) (kd a b v : Int) (h : regsOk n kd a b v = false) : (kd = 1 ∨ kd = 2 ∨ kd = 3 ∨ kd = 18 → a < 0 ∨ (n : Int) ≤ a) ∧ (kd = 4 ∨ kd = 6 ∨ kd = 11 ∨ kd = 12 → b < 0 ∨ (n : Int) ≤ b) ∧ (kd = 14 → b < 0 ∨ (n : Int) ≤ b ∨ v < 0 ∨ (n : Int) ≤ v) ∧ ¬ (kd = 15 ∨ kd = 16 ∨ kd = 17) ∧ (kd = 5 ∨ kd = 7 ∨ kd = 8 ∨ kd = 9 ∨ kd = 10 ∨ kd = 13 → a < 0 ∨ (n : Int) ≤ a ∨ b < 0 ∨ (n : Int) ≤ b) := by
  unfold regsOk inRegs at h
  refine ⟨?_, ?_, ?_, ?_, ?_⟩
  all_goals
    intro hk
    first
    | (rcases hk with rfl | rfl | rfl | rfl <;> simp at h <;> omega)
    | (subst hk; simp at h; omega)
    | (rcases hk with rfl | rfl | rfl <;> simp at h)
    | (rcases hk with rfl | rfl | rfl | rfl | rfl | rfl <;> simp at h <;> omega)
theorem regs_ok (n : Nat) (kd a b v : Int) (h : regsOk n kd a b v = true) : (kd = 1 ∨ kd = 2 ∨ kd = 3 ∨ kd = 18 → 0 ≤ a ∧ a < (n : Int)) ∧ (kd = 4 ∨ kd = 6 ∨ kd = 11 ∨ kd = 12 → 0 ≤ b ∧ b < (n : Int)) ∧ (kd = 14 → 0 ≤ b ∧ b < (n : Int) ∧ 0 ≤ v ∧ v < (n : Int)) ∧ (kd = 5 ∨ kd = 7 ∨ kd = 8 ∨ kd = 9 ∨ kd = 10 ∨ kd = 13 → 0 ≤ a ∧ a < (n : Int) ∧ 0 ≤ b ∧ b < (n : Int)) := by
  unfold regsOk inRegs at h
  refine ⟨?_, ?_, ?_, ?_⟩
  all_goals
    intro hk
    first
    | (rcases hk with rfl | rfl | rfl | rfl <;> simp at h <;> omega)
    | (subst hk; simp at h; omega)
    | (rcases hk with rfl | rfl | rfl | rfl | rfl | rfl <;> simp at h <;> omega)
theorem newErr_1 (c3 c8 th nn mm : Int) (pw fu : Bool) : newErr c3 c8 1 th nn mm pw fu = askFull c3 c8 th nn fu := by
  unfold newErr askFull
  rw [if_neg (by decide), if_neg (by intro h; exact absurd h.1 (by decide))]
theorem newErr_3 (c3 c8 th nn mm : Int) (pw fu : Bool) (h : ¬ (pw = false ∨ 256 < mm)) : newErr c3 c8 3 th nn mm pw fu = askFull c3 c8 th nn fu := by
  unfold newErr askFull
  rw [if_neg (by decide), if_neg (fun q => h q.2)]
theorem askFull_is (t m a n : Int) (fu : Bool) : askFull t m a n fu = 0 ∨ askFull t m a n fu = 1 ∨ askFull t m a n fu = 4 ∨ askFull t m a n fu = 13 := by
  unfold askFull
  have := askOf_is t m a n
  split
  · omega
  · split <;> simp
theorem askFull_ok {t m a n : Int} {fu : Bool} (h : askFull t m a n fu = 0) : 1 ≤ n ∧ n ≤ m := by
  unfold askFull at h
  by_cases c : askOf t m a n = 0
  · have := askOf_ok c
    exact ⟨this.2.2.1, this.2.2.2⟩
  · rw [if_pos c] at h
    exact absurd h c

theorem dual (k0 k1 k2 k3 k4 k5 k6 k7 k8 k9 k10 : Int) (xs : List S51) (kd th a b v nn mm : Int) (A : Option Addr) (dl dc : Nat) (fu : Bool) (hz : ∀ j, j < xs.length → xs[j]? = some z51) (hn : xs.length ≤ 64) (hk8 : 1 ≤ k8) (hk8b : k8 ≤ 8000) (hmlo : -9223372036854775808 ≤ mm) (hmhi : mm < 9223372036854775808) : Dual k0 k1 k2 k3 k4 k5 k6 k7 k8 k9 k10 xs kd th a b v nn mm A dl dc fu := by
  by_cases hl : kd < 1
  · exact dualN 1 hz (fun g gr w h hr => doBad g kd th a b v nn mm _ fu w (Or.inl hl)) (fun gr cr t0 w hx => rDoOutL k0 k1 k2 k3 k4 k5 k6 k7 k8 k9 k10 gr cr t0 xs kd th a b v nn mm A dl dc fu w hx hz hn hl)
  by_cases hh : 18 < kd
  · exact dualN 1 hz (fun g gr w h hr => doBad g kd th a b v nn mm _ fu w (Or.inr hh)) (fun gr cr t0 w hx => rDoOutH k0 k1 k2 k3 k4 k5 k6 k7 k8 k9 k10 gr cr t0 xs kd th a b v nn mm A dl dc fu w hx hz hn hh)
  cases hreg : regsOk xs.length kd a b v with
  | false =>
    obtain ⟨q1, q2, q3, q4, q5⟩ := regs_bad _ _ _ _ _ hreg
    rcases (show kd = 1 ∨ kd = 2 ∨ kd = 3 ∨ kd = 4 ∨ kd = 5 ∨ kd = 6 ∨ kd = 7 ∨ kd = 8 ∨ kd = 9 ∨ kd = 10 ∨ kd = 11 ∨ kd = 12 ∨ kd = 13 ∨ kd = 14 ∨ kd = 18 by omega) with rfl | rfl | rfl | rfl | rfl | rfl | rfl | rfl | rfl | rfl | rfl | rfl | rfl | rfl | rfl
    · exact dualN 15 hz (fun g gr w h hr => doNoReg g k0 k1 k2 k3 k4 k5 k6 k7 k8 k9 k10 gr xs 1 th a b v nn mm _ fu w h hr (by decide) (by decide) hreg) (fun gr cr t0 w hx => rDoRegX k0 k1 k2 k3 k4 k5 k6 k7 k8 k9 k10 gr cr t0 xs 1 th a b v nn mm A dl dc fu w hx hz hn 10 true false false (by kernel_rfl) (by decide) (by decide) (Or.inl ⟨rfl, (q1 (by decide))⟩))
    · exact dualN 15 hz (fun g gr w h hr => doNoReg g k0 k1 k2 k3 k4 k5 k6 k7 k8 k9 k10 gr xs 2 th a b v nn mm _ fu w h hr (by decide) (by decide) hreg) (fun gr cr t0 w hx => rDoRegX k0 k1 k2 k3 k4 k5 k6 k7 k8 k9 k10 gr cr t0 xs 2 th a b v nn mm A dl dc fu w hx hz hn 10 true false false (by kernel_rfl) (by decide) (by decide) (Or.inl ⟨rfl, (q1 (by decide))⟩))
    · exact dualN 15 hz (fun g gr w h hr => doNoReg g k0 k1 k2 k3 k4 k5 k6 k7 k8 k9 k10 gr xs 3 th a b v nn mm _ fu w h hr (by decide) (by decide) hreg) (fun gr cr t0 w hx => rDoRegX k0 k1 k2 k3 k4 k5 k6 k7 k8 k9 k10 gr cr t0 xs 3 th a b v nn mm A dl dc fu w hx hz hn 10 true false false (by kernel_rfl) (by decide) (by decide) (Or.inl ⟨rfl, (q1 (by decide))⟩))
    · exact dualN 15 hz (fun g gr w h hr => doNoReg g k0 k1 k2 k3 k4 k5 k6 k7 k8 k9 k10 gr xs 4 th a b v nn mm _ fu w h hr (by decide) (by decide) hreg) (fun gr cr t0 w hx => rDoRegX k0 k1 k2 k3 k4 k5 k6 k7 k8 k9 k10 gr cr t0 xs 4 th a b v nn mm A dl dc fu w hx hz hn 10 false true false (by kernel_rfl) (by decide) (by decide) (Or.inr (Or.inl ⟨rfl, (q2 (by decide))⟩)))
    · exact dualN 15 hz (fun g gr w h hr => doNoReg g k0 k1 k2 k3 k4 k5 k6 k7 k8 k9 k10 gr xs 5 th a b v nn mm _ fu w h hr (by decide) (by decide) hreg) (fun gr cr t0 w hx => rDoRegX k0 k1 k2 k3 k4 k5 k6 k7 k8 k9 k10 gr cr t0 xs 5 th a b v nn mm A dl dc fu w hx hz hn 10 true true false (by kernel_rfl) (by decide) (by decide) ((q5 (by decide)).elim (fun q => Or.inl ⟨rfl, Or.inl q⟩) (fun q => q.elim (fun q => Or.inl ⟨rfl, Or.inr q⟩) (fun q => q.elim (fun q => Or.inr (Or.inl ⟨rfl, Or.inl q⟩)) (fun q => Or.inr (Or.inl ⟨rfl, Or.inr q⟩))))))
    · exact dualN 15 hz (fun g gr w h hr => doNoReg g k0 k1 k2 k3 k4 k5 k6 k7 k8 k9 k10 gr xs 6 th a b v nn mm _ fu w h hr (by decide) (by decide) hreg) (fun gr cr t0 w hx => rDoRegX k0 k1 k2 k3 k4 k5 k6 k7 k8 k9 k10 gr cr t0 xs 6 th a b v nn mm A dl dc fu w hx hz hn 10 false true false (by kernel_rfl) (by decide) (by decide) (Or.inr (Or.inl ⟨rfl, (q2 (by decide))⟩)))
    · exact dualN 15 hz (fun g gr w h hr => doNoReg g k0 k1 k2 k3 k4 k5 k6 k7 k8 k9 k10 gr xs 7 th a b v nn mm _ fu w h hr (by decide) (by decide) hreg) (fun gr cr t0 w hx => rDoRegX k0 k1 k2 k3 k4 k5 k6 k7 k8 k9 k10 gr cr t0 xs 7 th a b v nn mm A dl dc fu w hx hz hn 10 true true false (by kernel_rfl) (by decide) (by decide) ((q5 (by decide)).elim (fun q => Or.inl ⟨rfl, Or.inl q⟩) (fun q => q.elim (fun q => Or.inl ⟨rfl, Or.inr q⟩) (fun q => q.elim (fun q => Or.inr (Or.inl ⟨rfl, Or.inl q⟩)) (fun q => Or.inr (Or.inl ⟨rfl, Or.inr q⟩))))))
    · exact dualN 15 hz (fun g gr w h hr => doNoReg g k0 k1 k2 k3 k4 k5 k6 k7 k8 k9 k10 gr xs 8 th a b v nn mm _ fu w h hr (by decide) (by decide) hreg) (fun gr cr t0 w hx => rDoRegX k0 k1 k2 k3 k4 k5 k6 k7 k8 k9 k10 gr cr t0 xs 8 th a b v nn mm A dl dc fu w hx hz hn 10 true true false (by kernel_rfl) (by decide) (by decide) ((q5 (by decide)).elim (fun q => Or.inl ⟨rfl, Or.inl q⟩) (fun q => q.elim (fun q => Or.inl ⟨rfl, Or.inr q⟩) (fun q => q.elim (fun q => Or.inr (Or.inl ⟨rfl, Or.inl q⟩)) (fun q => Or.inr (Or.inl ⟨rfl, Or.inr q⟩))))))
    · exact dualN 15 hz (fun g gr w h hr => doNoReg g k0 k1 k2 k3 k4 k5 k6 k7 k8 k9 k10 gr xs 9 th a b v nn mm _ fu w h hr (by decide) (by decide) hreg) (fun gr cr t0 w hx => rDoRegX k0 k1 k2 k3 k4 k5 k6 k7 k8 k9 k10 gr cr t0 xs 9 th a b v nn mm A dl dc fu w hx hz hn 10 true true false (by kernel_rfl) (by decide) (by decide) ((q5 (by decide)).elim (fun q => Or.inl ⟨rfl, Or.inl q⟩) (fun q => q.elim (fun q => Or.inl ⟨rfl, Or.inr q⟩) (fun q => q.elim (fun q => Or.inr (Or.inl ⟨rfl, Or.inl q⟩)) (fun q => Or.inr (Or.inl ⟨rfl, Or.inr q⟩))))))
    · exact dualN 15 hz (fun g gr w h hr => doNoReg g k0 k1 k2 k3 k4 k5 k6 k7 k8 k9 k10 gr xs 10 th a b v nn mm _ fu w h hr (by decide) (by decide) hreg) (fun gr cr t0 w hx => rDoRegX k0 k1 k2 k3 k4 k5 k6 k7 k8 k9 k10 gr cr t0 xs 10 th a b v nn mm A dl dc fu w hx hz hn 10 true true false (by kernel_rfl) (by decide) (by decide) ((q5 (by decide)).elim (fun q => Or.inl ⟨rfl, Or.inl q⟩) (fun q => q.elim (fun q => Or.inl ⟨rfl, Or.inr q⟩) (fun q => q.elim (fun q => Or.inr (Or.inl ⟨rfl, Or.inl q⟩)) (fun q => Or.inr (Or.inl ⟨rfl, Or.inr q⟩))))))
    · exact dualN 15 hz (fun g gr w h hr => doNoReg g k0 k1 k2 k3 k4 k5 k6 k7 k8 k9 k10 gr xs 11 th a b v nn mm _ fu w h hr (by decide) (by decide) hreg) (fun gr cr t0 w hx => rDoRegX k0 k1 k2 k3 k4 k5 k6 k7 k8 k9 k10 gr cr t0 xs 11 th a b v nn mm A dl dc fu w hx hz hn 10 false true false (by kernel_rfl) (by decide) (by decide) (Or.inr (Or.inl ⟨rfl, (q2 (by decide))⟩)))
    · exact dualN 15 hz (fun g gr w h hr => doNoReg g k0 k1 k2 k3 k4 k5 k6 k7 k8 k9 k10 gr xs 12 th a b v nn mm _ fu w h hr (by decide) (by decide) hreg) (fun gr cr t0 w hx => rDoRegX k0 k1 k2 k3 k4 k5 k6 k7 k8 k9 k10 gr cr t0 xs 12 th a b v nn mm A dl dc fu w hx hz hn 10 false true false (by kernel_rfl) (by decide) (by decide) (Or.inr (Or.inl ⟨rfl, (q2 (by decide))⟩)))
    · exact dualN 15 hz (fun g gr w h hr => doNoReg g k0 k1 k2 k3 k4 k5 k6 k7 k8 k9 k10 gr xs 13 th a b v nn mm _ fu w h hr (by decide) (by decide) hreg) (fun gr cr t0 w hx => rDoRegX k0 k1 k2 k3 k4 k5 k6 k7 k8 k9 k10 gr cr t0 xs 13 th a b v nn mm A dl dc fu w hx hz hn 10 true true false (by kernel_rfl) (by decide) (by decide) ((q5 (by decide)).elim (fun q => Or.inl ⟨rfl, Or.inl q⟩) (fun q => q.elim (fun q => Or.inl ⟨rfl, Or.inr q⟩) (fun q => q.elim (fun q => Or.inr (Or.inl ⟨rfl, Or.inl q⟩)) (fun q => Or.inr (Or.inl ⟨rfl, Or.inr q⟩))))))
    · exact dualN 15 hz (fun g gr w h hr => doNoReg g k0 k1 k2 k3 k4 k5 k6 k7 k8 k9 k10 gr xs 14 th a b v nn mm _ fu w h hr (by decide) (by decide) hreg) (fun gr cr t0 w hx => rDoRegX k0 k1 k2 k3 k4 k5 k6 k7 k8 k9 k10 gr cr t0 xs 14 th a b v nn mm A dl dc fu w hx hz hn 10 false true true (by kernel_rfl) (by decide) (by decide) ((q3 rfl).elim (fun q => Or.inr (Or.inl ⟨rfl, Or.inl q⟩)) (fun q => q.elim (fun q => Or.inr (Or.inl ⟨rfl, Or.inr q⟩)) (fun q => q.elim (fun q => Or.inr (Or.inr ⟨rfl, Or.inl q⟩)) (fun q => Or.inr (Or.inr ⟨rfl, Or.inr q⟩))))))
    · exact dualN 15 hz (fun g gr w h hr => doNoReg g k0 k1 k2 k3 k4 k5 k6 k7 k8 k9 k10 gr xs 18 th a b v nn mm _ fu w h hr (by decide) (by decide) hreg) (fun gr cr t0 w hx => rDoRegX k0 k1 k2 k3 k4 k5 k6 k7 k8 k9 k10 gr cr t0 xs 18 th a b v nn mm A dl dc fu w hx hz hn 10 true false false (by kernel_rfl) (by decide) (by decide) (Or.inl ⟨rfl, (q1 (by decide))⟩))
  | true =>
    obtain ⟨q1, q2, q3, q4⟩ := regs_ok _ _ _ _ _ hreg
    obtain ⟨pw, hpw⟩ := pow_tot mm
    rcases (show kd = 1 ∨ kd = 2 ∨ kd = 3 ∨ kd = 4 ∨ kd = 5 ∨ kd = 6 ∨ kd = 7 ∨ kd = 8 ∨ kd = 9 ∨ kd = 10 ∨ kd = 11 ∨ kd = 12 ∨ kd = 13 ∨ kd = 14 ∨ kd = 15 ∨ kd = 16 ∨ kd = 17 ∨ kd = 18 by omega) with rfl | rfl | rfl | rfl | rfl | rfl | rfl | rfl | rfl | rfl | rfl | rfl | rfl | rfl | rfl | rfl | rfl | rfl
    · obtain ⟨ha0, ha1⟩ := q1 (by decide)
      by_cases c0 : askFull k3 k8 th nn fu = 0
      · obtain ⟨b1, b2⟩ := askFull_ok c0
        obtain ⟨kk, r, m1, m2, m3⟩ := roomP nn 1 (by omega) (by omega) (by omega) (by omega) (by kernel_rfl)
        obtain ⟨kk2, r2, s1, s2, s3⟩ := roomR nn 1 (by omega) (by omega) (by omega) (by omega)
        exact dualM nn ha0 ha1 _ r (fun g gr w h hr => doNewGood g k0 k1 k2 k3 k4 k5 k6 k7 k8 k9 k10 gr xs 1 th a b v nn mm A dl dc pw fu w h hr hn hreg hk8 (by omega) hpw (Or.inl rfl) (by rw [newErr_1]; exact c0) (by unfold inRegs; simp; omega) kk r m1 m2 m3) (fun gr cr t0 w hx => rDoM1m k0 k1 k2 k3 k4 k5 k6 k7 k8 k9 k10 gr cr t0 xs th a b v nn mm A dl dc fu w hx hz hn ha0 ha1 kk2 r2 ⟨s1⟩ s2 s3  c0)
      · have c1 : askFull k3 k8 th nn fu = 1 ∨ askFull k3 k8 th nn fu = 4 ∨ askFull k3 k8 th nn fu = 13 := by have := askFull_is k3 k8 th nn fu; omega
        exact dualN (askFull k3 k8 th nn fu) hz (fun g gr w h hr => doNewBad g k0 k1 k2 k3 k4 k5 k6 k7 k8 k9 k10 gr xs 1 th a b v nn mm A dl dc pw fu w h hr hn hreg hk8 (by omega) hpw (Or.inl rfl) _ (by rw [newErr_1]) c1) (fun gr cr t0 w hx => rDoM1a k0 k1 k2 k3 k4 k5 k6 k7 k8 k9 k10 gr cr t0 xs th a b v nn mm A dl dc fu w hx hz hn ha0 ha1  _ rfl c1)
    · obtain ⟨ha0, ha1⟩ := q1 (by decide)
      by_cases c1 : nn < 1 ∨ mm < 1 ∨ th < 0 ∨ k3 ≤ th
      · exact dualN 1 hz (fun g gr w h hr => doNewBad g k0 k1 k2 k3 k4 k5 k6 k7 k8 k9 k10 gr xs 2 th a b v nn mm A dl dc pw fu w h hr hn hreg hk8 (by omega) hpw (Or.inr (Or.inl rfl)) 1 (by unfold newErr; rw [if_pos rfl, if_pos c1]) (by decide)) (fun gr cr t0 w hx => rDoM2b k0 k1 k2 k3 k4 k5 k6 k7 k8 k9 k10 gr cr t0 xs th a b v nn mm A dl dc fu w hx hz hn ha0 ha1 c1)
      have d1 : 1 ≤ nn := by omega
      have d2 : 1 ≤ mm := by omega
      have d3 : 0 ≤ th := by omega
      have d4 : th < k3 := by omega
      by_cases c2 : k8.tdiv mm < nn
      · exact dualN 4 hz (fun g gr w h hr => doNewBad g k0 k1 k2 k3 k4 k5 k6 k7 k8 k9 k10 gr xs 2 th a b v nn mm A dl dc pw fu w h hr hn hreg hk8 (by omega) hpw (Or.inr (Or.inl rfl)) 4 (by unfold newErr; rw [if_pos rfl, if_neg c1, if_pos c2]) (by decide)) (fun gr cr t0 w hx => rDoM2q k0 k1 k2 k3 k4 k5 k6 k7 k8 k9 k10 gr cr t0 xs th a b v nn mm A dl dc fu w hx hz hn ha0 ha1 hk8 (by omega) d1 d2 d3 d4 c2)
      have d5 : nn ≤ k8.tdiv mm := by omega
      cases hfu : fu with
      | true =>
        subst hfu
        exact dualN 13 hz (fun g gr w h hr => doNewBad g k0 k1 k2 k3 k4 k5 k6 k7 k8 k9 k10 gr xs 2 th a b v nn mm A dl dc pw true w h hr hn hreg hk8 (by omega) hpw (Or.inr (Or.inl rfl)) 13 (by unfold newErr; rw [if_pos rfl, if_neg c1, if_neg c2, if_pos rfl]) (by decide)) (fun gr cr t0 w hx => rDoM2f k0 k1 k2 k3 k4 k5 k6 k7 k8 k9 k10 gr cr t0 xs th a b v nn mm A dl dc true w hx hz hn ha0 ha1 hk8 (by omega) d1 d2 d3 d4 d5 ⟨rfl⟩)
      | false =>
        subst hfu
        obtain ⟨b1, b2⟩ := quo_mul d2 d1 hk8 d5
        obtain ⟨kk, r, m1, m2, m3⟩ := roomP (nn * mm) 1 (by omega) (by omega) (by omega) (by omega) (by kernel_rfl)
        obtain ⟨kk2, r2, s1, s2, s3⟩ := roomR (nn * mm) 1 (by omega) (by omega) (by omega) (by omega)
        exact dualM (nn * mm) ha0 ha1 _ r (fun g gr w h hr => doNewGood g k0 k1 k2 k3 k4 k5 k6 k7 k8 k9 k10 gr xs 2 th a b v nn mm A dl dc pw false w h hr hn hreg hk8 (by omega) hpw (Or.inr (Or.inl rfl)) (by unfold newErr; rw [if_pos rfl, if_neg c1, if_neg c2, if_neg (by decide)]) (by unfold inRegs; simp; omega) kk r m1 m2 m3) (fun gr cr t0 w hx => rDoM2m k0 k1 k2 k3 k4 k5 k6 k7 k8 k9 k10 gr cr t0 xs th a b v nn mm A dl dc false w hx hz hn ha0 ha1 kk2 r2 ⟨s1⟩ s2 s3 hk8 (by omega) d1 d2 d3 d4 d5 ⟨rfl⟩)
    · obtain ⟨ha0, ha1⟩ := q1 (by decide)
      by_cases c9 : pw = false ∨ 256 < mm
      · have c2 : refEnd mm ≠ 1 ∨ 256 < mm := by
          rcases c9 with c9 | c9
          · by_cases c3 : 256 < mm
            · exact Or.inr c3
            · left
              intro q
              have hq := (pow_ref mm (by omega) pw hpw).2 q
              rw [c9] at hq
              cases hq
          · exact Or.inr c9
        exact dualN 1 hz (fun g gr w h hr => doNewBad g k0 k1 k2 k3 k4 k5 k6 k7 k8 k9 k10 gr xs 3 th a b v nn mm A dl dc pw fu w h hr hn hreg hk8 (by omega) hpw (Or.inr (Or.inr rfl)) 1 (by unfold newErr; rw [if_neg (by decide), if_pos ⟨rfl, c9⟩]) (by decide)) (fun gr cr t0 w hx => rDoM3b k0 k1 k2 k3 k4 k5 k6 k7 k8 k9 k10 gr cr t0 xs th a b v nn mm A dl dc fu w hx hz hn ha0 ha1 hmlo hmhi ⟨c2⟩)
      have c2 : mm ≤ 256 := by
        have := fun q => c9 (Or.inr q)
        omega
      have c3 : pw = true := by
        cases pw with
        | true => rfl
        | false => exact absurd (Or.inl rfl) c9
      have c4 : refEnd mm = 1 := (pow_ref mm c2 pw hpw).1 c3
      have hpt : num_Power.f mm = some true := by rw [hpw, c3]
      have c5 : 1 ≤ mm := by
        unfold num_Power.f at hpt
        by_cases c : mm > 0
        · omega
        · rw [if_neg c] at hpt
          cases hpt
      by_cases c0 : askFull k3 k8 th nn fu = 0
      · obtain ⟨b1, b2⟩ := askFull_ok c0
        obtain ⟨kk, r, m1, m2, m3⟩ := roomP nn mm (by omega) (by omega) (by omega) (by omega) hpt
        obtain ⟨kk2, r2, s1, s2, s3⟩ := roomR nn mm (by omega) (by omega) (by omega) (by omega)
        exact dualM nn ha0 ha1 _ r (fun g gr w h hr => doNewGood g k0 k1 k2 k3 k4 k5 k6 k7 k8 k9 k10 gr xs 3 th a b v nn mm A dl dc pw fu w h hr hn hreg hk8 (by omega) hpw (Or.inr (Or.inr rfl)) (by rw [newErr_3 _ _ _ _ _ _ _ c9]; exact c0) (by unfold inRegs; simp; omega) kk r m1 m2 m3) (fun gr cr t0 w hx => rDoM3m k0 k1 k2 k3 k4 k5 k6 k7 k8 k9 k10 gr cr t0 xs th a b v nn mm A dl dc fu w hx hz hn ha0 ha1 kk2 r2 ⟨s1⟩ s2 s3 hmlo hmhi ⟨c4⟩ c2 c0)
      · have c1 : askFull k3 k8 th nn fu = 1 ∨ askFull k3 k8 th nn fu = 4 ∨ askFull k3 k8 th nn fu = 13 := by have := askFull_is k3 k8 th nn fu; omega
        exact dualN (askFull k3 k8 th nn fu) hz (fun g gr w h hr => doNewBad g k0 k1 k2 k3 k4 k5 k6 k7 k8 k9 k10 gr xs 3 th a b v nn mm A dl dc pw fu w h hr hn hreg hk8 (by omega) hpw (Or.inr (Or.inr rfl)) _ (by rw [newErr_3 _ _ _ _ _ _ _ c9]) c1) (fun gr cr t0 w hx => rDoM3a k0 k1 k2 k3 k4 k5 k6 k7 k8 k9 k10 gr cr t0 xs th a b v nn mm A dl dc fu w hx hz hn ha0 ha1 hmlo hmhi ⟨c4⟩ c2 _ rfl c1)
    · obtain ⟨hb0, hb1⟩ := q2 (by decide)
      by_cases c1 : th < 0 ∨ k3 ≤ th
      · exact dualN 1 hz (fun g gr w h hr => doUse g k0 k1 k2 k3 k4 k5 k6 k7 k8 k9 k10 gr xs 4 th a b v nn mm A dl dc fu w h hr hn hreg (by decide) 1 (by unfold usedErr; rw [if_pos rfl, if_pos c1])) (fun gr cr t0 w hx => rDoU4b k0 k1 k2 k3 k4 k5 k6 k7 k8 k9 k10 gr cr t0 xs th a b v nn mm A dl dc fu w hx hz hn hb0 hb1 ⟨c1⟩)
      · exact dualN 7 hz (fun g gr w h hr => doUse g k0 k1 k2 k3 k4 k5 k6 k7 k8 k9 k10 gr xs 4 th a b v nn mm A dl dc fu w h hr hn hreg (by decide) 7 (by unfold usedErr; rw [if_pos rfl, if_neg c1])) (fun gr cr t0 w hx => rDoU4 k0 k1 k2 k3 k4 k5 k6 k7 k8 k9 k10 gr cr t0 xs th a b v nn mm A dl dc fu w hx hz hn hb0 hb1 (by omega) (by omega))
    · obtain ⟨ha0, ha1, hb0, hb1⟩ := q4 (by decide)
      have c1 : (if askOf k3 k8 th nn = 0 then (7 : Int) else askOf k3 k8 th nn) = 1 ∨ (if askOf k3 k8 th nn = 0 then (7 : Int) else askOf k3 k8 th nn) = 4 ∨ (if askOf k3 k8 th nn = 0 then (7 : Int) else askOf k3 k8 th nn) = 7 := by have := askOf_is k3 k8 th nn; split <;> omega
      exact dualN _ hz (fun g gr w h hr => doRenew g k0 k1 k2 k3 k4 k5 k6 k7 k8 k9 k10 gr xs th a b v nn mm _ fu _ w h hr hn hreg rfl c1) (fun gr cr t0 w hx => rDoRen k0 k1 k2 k3 k4 k5 k6 k7 k8 k9 k10 gr cr t0 xs th a b v nn mm A dl dc fu w hx hz hn ha0 ha1 hb0 hb1 _ rfl c1)
    · obtain ⟨hb0, hb1⟩ := q2 (by decide)
      exact dualN 7 hz (fun g gr w h hr => doUse g k0 k1 k2 k3 k4 k5 k6 k7 k8 k9 k10 gr xs 6 th a b v nn mm A dl dc fu w h hr hn hreg (by decide) 7 rfl) (fun gr cr t0 w hx => rDoU6 k0 k1 k2 k3 k4 k5 k6 k7 k8 k9 k10 gr cr t0 xs th a b v nn mm A dl dc fu w hx hz hn hb0 hb1)
    · obtain ⟨ha0, ha1, hb0, hb1⟩ := q4 (by decide)
      exact dualN 7 hz (fun g gr w h hr => doDerive g k0 k1 k2 k3 k4 k5 k6 k7 k8 k9 k10 gr xs 7 th a b v nn mm A dl dc fu w h hr hn hreg (by decide)) (fun gr cr t0 w hx => rDoDer7 k0 k1 k2 k3 k4 k5 k6 k7 k8 k9 k10 gr cr t0 xs th a b v nn mm A dl dc fu w hx hz hn ha0 ha1 hb0 hb1)
    · obtain ⟨ha0, ha1, hb0, hb1⟩ := q4 (by decide)
      exact dualN 7 hz (fun g gr w h hr => doDerive g k0 k1 k2 k3 k4 k5 k6 k7 k8 k9 k10 gr xs 8 th a b v nn mm A dl dc fu w h hr hn hreg (by decide)) (fun gr cr t0 w hx => rDoDer8 k0 k1 k2 k3 k4 k5 k6 k7 k8 k9 k10 gr cr t0 xs th a b v nn mm A dl dc fu w hx hz hn ha0 ha1 hb0 hb1)
    · obtain ⟨ha0, ha1, hb0, hb1⟩ := q4 (by decide)
      exact dualN 7 hz (fun g gr w h hr => doDerive g k0 k1 k2 k3 k4 k5 k6 k7 k8 k9 k10 gr xs 9 th a b v nn mm A dl dc fu w h hr hn hreg (by decide)) (fun gr cr t0 w hx => rDoDer9 k0 k1 k2 k3 k4 k5 k6 k7 k8 k9 k10 gr cr t0 xs th a b v nn mm A dl dc fu w hx hz hn ha0 ha1 hb0 hb1)
    · obtain ⟨ha0, ha1, hb0, hb1⟩ := q4 (by decide)
      exact dualS (fun g gr w h hr => doCopy g k0 k1 k2 k3 k4 k5 k6 k7 k8 k9 k10 gr xs 10 th a b v nn mm A dl dc fu w h hr hn hreg rfl (by unfold inRegs; simp; omega)) (fun gr cr t0 w hx => rDoCopy k0 k1 k2 k3 k4 k5 k6 k7 k8 k9 k10 gr cr t0 xs th a b v nn mm A dl dc fu w hx hz hn ha0 ha1 hb0 hb1)
    · obtain ⟨hb0, hb1⟩ := q2 (by decide)
      by_cases c1 : 4096 < nn
      · exact dualN 4 hz (fun g gr w h hr => doUse g k0 k1 k2 k3 k4 k5 k6 k7 k8 k9 k10 gr xs 11 th a b v nn mm A dl dc fu w h hr hn hreg (by decide) 4 (by unfold usedErr; rw [if_neg (by decide), if_pos rfl, if_pos c1])) (fun gr cr t0 w hx => rDoU11b k0 k1 k2 k3 k4 k5 k6 k7 k8 k9 k10 gr cr t0 xs th a b v nn mm A dl dc fu w hx hz hn hb0 hb1 c1)
      · exact dualN 7 hz (fun g gr w h hr => doUse g k0 k1 k2 k3 k4 k5 k6 k7 k8 k9 k10 gr xs 11 th a b v nn mm A dl dc fu w h hr hn hreg (by decide) 7 (by unfold usedErr; rw [if_neg (by decide), if_pos rfl, if_neg c1])) (fun gr cr t0 w hx => rDoU11 k0 k1 k2 k3 k4 k5 k6 k7 k8 k9 k10 gr cr t0 xs th a b v nn mm A dl dc fu w hx hz hn hb0 hb1 (by omega))
    · obtain ⟨hb0, hb1⟩ := q2 (by decide)
      by_cases c1 : 4096 < (dl : Int)
      · exact dualN 4 hz (fun g gr w h hr => doUse g k0 k1 k2 k3 k4 k5 k6 k7 k8 k9 k10 gr xs 12 th a b v nn mm A dl dc fu w h hr hn hreg (by decide) 4 (by unfold usedErr; rw [if_neg (by decide), if_neg (by decide), if_pos rfl, if_pos c1])) (fun gr cr t0 w hx => rDoU12b k0 k1 k2 k3 k4 k5 k6 k7 k8 k9 k10 gr cr t0 xs th a b v nn mm A dl dc fu w hx hz hn hb0 hb1 c1)
      · exact dualN 7 hz (fun g gr w h hr => doUse g k0 k1 k2 k3 k4 k5 k6 k7 k8 k9 k10 gr xs 12 th a b v nn mm A dl dc fu w h hr hn hreg (by decide) 7 (by unfold usedErr; rw [if_neg (by decide), if_neg (by decide), if_pos rfl, if_neg c1])) (fun gr cr t0 w hx => rDoU12 k0 k1 k2 k3 k4 k5 k6 k7 k8 k9 k10 gr cr t0 xs th a b v nn mm A dl dc fu w hx hz hn hb0 hb1 (by omega))
    · obtain ⟨ha0, ha1, hb0, hb1⟩ := q4 (by decide)
      exact dualN 7 hz (fun g gr w h hr => doDerive g k0 k1 k2 k3 k4 k5 k6 k7 k8 k9 k10 gr xs 13 th a b v nn mm A dl dc fu w h hr hn hreg (by decide)) (fun gr cr t0 w hx => rDoDer13 k0 k1 k2 k3 k4 k5 k6 k7 k8 k9 k10 gr cr t0 xs th a b v nn mm A dl dc fu w hx hz hn ha0 ha1 hb0 hb1)
    · obtain ⟨hb0, hb1, hv0, hv1⟩ := q3 rfl
      exact dualN 7 hz (fun g gr w h hr => doUse g k0 k1 k2 k3 k4 k5 k6 k7 k8 k9 k10 gr xs 14 th a b v nn mm A dl dc fu w h hr hn hreg (by decide) 7 rfl) (fun gr cr t0 w hx => rDoU14 k0 k1 k2 k3 k4 k5 k6 k7 k8 k9 k10 gr cr t0 xs th a b v nn mm A dl dc fu w hx hz hn hb0 hb1 hv0 hv1)
    · exact dualN 0 hz (fun g gr w h hr => doNone g k0 k1 k2 k3 k4 k5 k6 k7 k8 k9 k10 gr xs 15 th a b v nn mm _ fu w h hr (by decide)) (fun gr cr t0 w hx => rDoNone15 k0 k1 k2 k3 k4 k5 k6 k7 k8 k9 k10 gr cr t0 xs th a b v nn mm A dl dc fu w hx hz hn)
    · exact dualN 0 hz (fun g gr w h hr => doNone g k0 k1 k2 k3 k4 k5 k6 k7 k8 k9 k10 gr xs 16 th a b v nn mm _ fu w h hr (by decide)) (fun gr cr t0 w hx => rDoNone16 k0 k1 k2 k3 k4 k5 k6 k7 k8 k9 k10 gr cr t0 xs th a b v nn mm A dl dc fu w hx hz hn)
    · exact dualN 0 hz (fun g gr w h hr => doNone g k0 k1 k2 k3 k4 k5 k6 k7 k8 k9 k10 gr xs 17 th a b v nn mm _ fu w h hr (by decide)) (fun gr cr t0 w hx => rDoNone17 k0 k1 k2 k3 k4 k5 k6 k7 k8 k9 k10 gr cr t0 xs th a b v nn mm A dl dc fu w hx hz hn)
    · obtain ⟨ha0, ha1⟩ := q1 (by decide)
      exact dualS (fun g gr w h hr => doClear g k0 k1 k2 k3 k4 k5 k6 k7 k8 k9 k10 gr xs 18 th a b v nn mm A dl dc fu w h hr hn hreg rfl (by unfold inRegs; simp; omega)) (fun gr cr t0 w hx => rDoClear k0 k1 k2 k3 k4 k5 k6 k7 k8 k9 k10 gr cr t0 xs th a b v nn mm A dl dc fu w hx hz hn ha0 ha1)

end Go.Proofs.Ytneejihmakfaoaa.OwnModel
