/- The plain statement of the law NumClips is proved, and the walk of the law's call out of it: for every number, bounds and list the law's Lean function answers true. Conditions: the numbers are of their kinds, the list is as long as a list may be. -/
import Derived.Test.YtifakhddmlalcabQNumClipsx2
import Derived.Test.YtifakhddmlalcabOwnMask
namespace Go.Proofs.Ytifakhddmlalcab.Pure
open Go.RowKit Go.Proofs.Ytifakhddmlalcab.QNumClips Go.Proofs.Ytifakhddmlalcab.OwnMask Go.Proofs.YtifakhddmlalcabW.PrintWords Go.Proofs.YtifakhddmlalcabW.PrintLast Go.Proofs.YtifakhddmlalcabW.PrintMore

theorem NumClips_awake : cubbyholelaw01_awake.f 30 = some true := by decide +kernel

theorem sum_ends (most : Int) (xs : List Int) (hl : xs.length ≤ 9) (d : Nat) : ∀ (i K : Nat) (s : Int), i + d = xs.length → d < K → ∃ r, num_Sum.l0 K most s xs (xs.length : Int) (i : Int) = some r := by
  induction d with
  | zero =>
    intro i K s hi hK
    obtain ⟨K, rfl⟩ : ∃ m, K = m + 1 := ⟨K - 1, by omega⟩
    exact ⟨_, by rw [num_Sum.l0, if_neg (by omega)]⟩
  | succ d ih =>
    intro i K s hi hK
    obtain ⟨K, rfl⟩ : ∃ m, K = m + 1 := ⟨K - 1, by omega⟩
    have e : wrap64 ((i : Int) + 1) = ((i + 1 : Nat) : Int) := by rw [w64 (by omega)]; rfl
    rw [num_Sum.l0, if_pos (by omega), if_pos (by omega), if_pos (by omega), e]
    by_cases c1 : rd xs (i : Int) < 0
    · exact ⟨_, by rw [if_pos c1]⟩
    · rw [if_neg c1]
      by_cases c2 : rd xs (i : Int) > wrap64 (most - s)
      · exact ⟨_, by rw [if_pos c2]⟩
      · rw [if_neg c2]
        exact ih (i + 1) K _ (by omega) (by omega)

section
variable (most v : Int) (xs : List Int) (hl : xs.length ≤ 9) (s : Int) (b : Bool) (hR : num_Sum.f 20 most xs = some (s, b))
include hl hR

theorem clips_false (hs : s = 0) (hb : b = false) (d : Nat) : ∀ (i k : Nat) (x9 : Int), i + d = xs.length → 40 + d < k → cubbyholelaw01_NumClips.l0 k v v x9 false most xs (i : Int) = some true := by
  induction d with
  | zero =>
    intro i k x9 hi hk
    obtain ⟨k, rfl⟩ : ∃ m, k = m + 1 := ⟨k - 1, by omega⟩
    have ha := at_rounds (g := fun k => cubbyholelaw01_awake.f k) (fun k => cubbyholelaw01_awake.mono k) (show 30 ≤ k by omega) NumClips_awake
    have hR' := at_rounds (g := fun k => num_Sum.f k most xs) (fun k => num_Sum.mono _ _ k) (show 20 ≤ k by omega) hR
    subst hs hb
    rw [cubbyholelaw01_NumClips.l0, if_neg (by omega), if_neg (by decide), hR', Option.bind_some, ha, Option.bind_some, if_pos rfl, if_pos rfl]
    rfl
  | succ d ih =>
    intro i k x9 hi hk
    obtain ⟨k, rfl⟩ : ∃ m, k = m + 1 := ⟨k - 1, by omega⟩
    have e : wrap64 ((i : Int) + 1) = ((i + 1 : Nat) : Int) := by rw [w64 (by omega)]; rfl
    rw [cubbyholelaw01_NumClips.l0, if_pos (by omega), if_neg (by decide), e]
    exact ih (i + 1) k x9 (by omega) (by omega)

theorem clips_true (d : Nat) : ∀ (i k K : Nat) (x9 : Int), i + d = xs.length → 40 + d < k → d < K → num_Sum.l0 K most x9 xs (xs.length : Int) (i : Int) = some (s, b) → cubbyholelaw01_NumClips.l0 k v v x9 true most xs (i : Int) = some true := by
  induction d with
  | zero =>
    intro i k K x9 hi hk hK h
    obtain ⟨k, rfl⟩ : ∃ m, k = m + 1 := ⟨k - 1, by omega⟩
    obtain ⟨K, rfl⟩ : ∃ m, K = m + 1 := ⟨K - 1, by omega⟩
    have ha := at_rounds (g := fun k => cubbyholelaw01_awake.f k) (fun k => cubbyholelaw01_awake.mono k) (show 30 ≤ k by omega) NumClips_awake
    have hR' := at_rounds (g := fun k => num_Sum.f k most xs) (fun k => num_Sum.mono _ _ k) (show 20 ≤ k by omega) hR
    rw [num_Sum.l0, if_neg (by omega)] at h
    simp only [Option.some.injEq, Prod.mk.injEq] at h
    obtain ⟨rfl, rfl⟩ := h
    rw [cubbyholelaw01_NumClips.l0, if_neg (by omega), if_pos rfl, hR', Option.bind_some, ha, Option.bind_some, if_pos rfl, if_pos rfl]
    simp
  | succ d ih =>
    intro i k K x9 hi hk hK h
    obtain ⟨k, rfl⟩ : ∃ m, k = m + 1 := ⟨k - 1, by omega⟩
    obtain ⟨K, rfl⟩ : ∃ m, K = m + 1 := ⟨K - 1, by omega⟩
    have e : wrap64 ((i : Int) + 1) = ((i + 1 : Nat) : Int) := by rw [w64 (by omega)]; rfl
    rw [num_Sum.l0, if_pos (by omega), if_pos (by omega), if_pos (by omega), e] at h
    rw [cubbyholelaw01_NumClips.l0, if_pos (by omega), if_pos rfl, if_pos (by omega), e]
    by_cases c1 : rd xs (i : Int) < 0
    · rw [if_pos c1] at h ⊢
      simp only [Option.some.injEq, Prod.mk.injEq] at h
      exact clips_false most v xs hl s b hR h.1.symm h.2.symm d (i + 1) k x9 (by omega) (by omega)
    · rw [if_neg c1] at h ⊢
      by_cases c2 : rd xs (i : Int) > wrap64 (most - x9)
      · rw [if_pos c2] at h ⊢
        simp only [Option.some.injEq, Prod.mk.injEq] at h
        exact clips_false most v xs hl s b hR h.1.symm h.2.symm d (i + 1) k x9 (by omega) (by omega)
      · rw [if_neg c2] at h ⊢
        exact ih (i + 1) k K _ (by omega) (by omega) (by omega) h
end

def NumClips_Pure : Prop := ∀ (a0 a1_0 a1_1 : Int) (l2 : List Int), ∃ k, cubbyholelaw01_NumClips.f k a0 a1_0 a1_1 l2 = some true

theorem NumClips : NumClips_Pure := by
  intro a0 b0 b1 l
  refine ⟨100, ?_⟩
  have hm : 0 ≤ b1 % 65536 := by omega
  obtain ⟨n, hn, hn1, hn2⟩ : ∃ n : Nat, mn (l.length : Int) 9 = (n : Int) ∧ n ≤ 9 ∧ n ≤ l.length := by
    unfold mn
    split
    · exact ⟨9, rfl, by omega, by omega⟩
    · exact ⟨l.length, rfl, by omega, by omega⟩
  have hlen : (l.take n).length = n := by rw [List.length_take]; omega
  have fin : ∀ k v, 60 < k → cubbyholelaw01_NumClips.j1 k l v v b0 b1 = some true := by
    intro k v hk
    obtain ⟨k, rfl⟩ : ∃ m, k = m + 1 := ⟨k - 1, by omega⟩
    rw [cubbyholelaw01_NumClips.j1, hn, if_pos (by omega), if_pos (by omega), and_65535, Int.toNat_natCast]
    obtain ⟨⟨s, b⟩, hs⟩ := sum_ends (b1 % 65536) (l.take n) (by omega) n 0 20 0 (by omega) (by omega)
    have hR : num_Sum.f 20 (b1 % 65536) (l.take n) = some (s, b) := by
      unfold num_Sum.f
      rw [if_neg (by omega)]
      exact hs
    exact clips_true (b1 % 65536) v (l.take n) (by omega) s b hR n 0 k 20 0 (by omega) (by omega) (by omega) hs
  unfold cubbyholelaw01_NumClips.f num_Clip.f
  rw [Option.bind_some]
  by_cases c : a0 > b1
  · rw [if_pos c, cubbyholelaw01_NumClips.j0]
    have e : mn a0 b1 = b1 := by unfold mn; rw [if_pos c]
    rw [e]
    by_cases c2 : b1 < b0
    · rw [if_pos c2, show mx b1 b0 = b0 by unfold mx; rw [if_pos c2]]; exact fin 99 b0 (by omega)
    · rw [if_neg c2, show mx b1 b0 = b1 by unfold mx; rw [if_neg c2]]; exact fin 99 b1 (by omega)
  · rw [if_neg c, cubbyholelaw01_NumClips.j0]
    have e : mn a0 b1 = a0 := by unfold mn; rw [if_neg c]
    rw [e]
    by_cases c2 : a0 < b0
    · rw [if_pos c2, show mx a0 b0 = b0 by unfold mx; rw [if_pos c2]]; exact fin 99 b0 (by omega)
    · rw [if_neg c2, show mx a0 b0 = a0 by unfold mx; rw [if_neg c2]]; exact fin 99 a0 (by omega)

end Go.Proofs.Ytifakhddmlalcab.Pure
namespace Go.Proofs.Ytifakhddmlalcab.QNumClips
open Go.RowKit Go.Proofs.YtifakhddmlalcabW.PrintWords Go.Proofs.YtifakhddmlalcabW.PrintLast

theorem cubbyholelaw01_NumClips.walk (P : Pure.NumClips_Pure) (a0 a1_0 a1_1 : Int) (a2 : Option Addr) (len2 cap2 : Nat) (z2 : List Int) (w : World) (_w0 : (Lit.int .i64 a0).wf = true) (_w1 : (Lit.int .i64 a1_0).wf = true) (_w2 : (Lit.int .i64 a1_1).wf = true)
    (w2 : (a2 = none ∧ len2 = 0 ∧ cap2 = 0 ∧ z2 = []) ∨ ∃ x, a2 = some x ∧ len2 ≤ cap2 ∧ cap2 ≤ maxLen ∧ z2.length = cap2 ∧ (∀ i, i < z2.length → w.cell? (x.add i) = some (.int .i64 (z2.getD i 0))) ∧ ∀ n ∈ z2, (Lit.int .i64 n).wf = true) (_y2 : len2 * 8 ≤ 140737488351232) :
    Calls Try.prog 3 #[.int .i64 a0, .agg #[.int .i64 a1_0, .int .i64 a1_1], .slice a2 len2 cap2] w fun e w' => e = .returned (.bool true) ∧ Below w.heap.size w w' := by
  obtain ⟨l2, rfl, hr2, _, _, hc2⟩ := ReadsInt.ofRowC w2
  obtain ⟨k, h⟩ := P a0 a1_0 a1_1 l2
  refine (cubbyholelaw01_NumClips.calls k a0 a1_0 a1_1 _ _ l2 true w (Kd.C_of_reads (d := (0 : Int)) (h1 := fun _ => rfl) hr2) hc2 h).mono ?_
  rintro e w' ⟨rfl, hd⟩
  exact ⟨rfl, hd⟩

end Go.Proofs.Ytifakhddmlalcab.QNumClips
