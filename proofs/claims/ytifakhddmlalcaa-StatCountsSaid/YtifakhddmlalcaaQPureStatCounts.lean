/- The plain statement of the law StatCounts is proved, and the walk of the law's call out of it: for all events the law's Lean function answers true. Conditions: none. -/
import Derived.Test.YtifakhddmlalcaaQStatCountsx3
import Derived.Test.YtifakhddmlalcaaOwnMask
import Derived.Test.YtifakhddmlalcaaOwnPairs
namespace Go.Proofs.Ytifakhddmlalcaa.Pure
open Go.RowKit Go.Proofs.Ytifakhddmlalcaa.QStatCounts Go.Proofs.Ytifakhddmlalcaa.OwnMask Go.Proofs.YtifakhddmlalcaaW.PrintWords Go.Proofs.YtifakhddmlalcaaW.PrintLast Go.Proofs.YtifakhddmlalcaaW.PrintMore

theorem StatCounts_awake : cubbyholelaw39_awake.f 30 = some true := by decide +kernel

/-- Sizes of live chunks: each from 0 to 65530; their sum. -/
def Small (l : List Int) : Prop := ∀ x ∈ l, 0 ≤ x ∧ x ≤ 65530
theorem sum_small : ∀ l : List Int, Small l → 0 ≤ l.sum ∧ l.sum ≤ 65530 * (l.length : Int)
  | [], _ => by simp
  | a :: t, h => by
    have h1 := h a List.mem_cons_self
    have h2 := sum_small t (fun x hx => h x (List.mem_cons_of_mem _ hx))
    simp only [List.sum_cons, List.length_cons]
    omega

/-- What holds ahead of each round. -/
structure Inv (i : Int) (l : List Int) (live g v e p c : Int) : Prop where
  small : Small l
  sum : live = l.sum
  len : g - v = (l.length : Int)
  e0 : 0 ≤ e
  ev : e ≤ v
  gi : g ≤ i
  i0 : 0 ≤ i
  i1 : i ≤ 40
  lp : live ≤ p
  pi : p ≤ 65530 * i
  c0 : 0 ≤ c
  ci : c ≤ 65530 * i

/-- The end of a round. -/
theorem tail_all (k : Nat) (l0 : List S56) (l : List Int) (i live g v e p c : Int) (h : Inv (i + 1) l live g v e p c) (hi : i < 40) :
    cubbyholelaw39_StatCounts.j2 (k + 1) l0 live l i g v e live p c g v e live p c = cubbyholelaw39_StatCounts.l0 k l0 live l (i + 1) g v e live p c g v e live p c := by
  obtain ⟨small, sum, len, e0, ev, gi, i0, i1, lp, pi, c0, ci⟩ := h
  have hs := sum_small l small
  have hmay : stat_May.f g v e live p c = some true := by
    unfold stat_May.f
    rw [if_pos (by omega), if_pos (by omega), if_pos (by omega), if_pos (by omega), if_pos (by omega), decide_eq_true (by omega)]
  have hlive : stat_Live.f g v e live p c = some (l.length : Int) := by
    unfold stat_Live.f
    rw [w64 (by omega), len]
  have hheld : stat_Held.f g v e live p c = some (wrap64 (v - e)) := rfl
  rw [cubbyholelaw39_StatCounts.j2, if_neg (by simp), hmay, Option.bind_some, if_pos rfl, hlive, Option.bind_some, if_pos rfl, hheld, Option.bind_some, if_pos rfl, w64 (by omega)]

theorem loop_all (l0 : List S56) (d : Nat) : ∀ (i : Int) (l : List Int) (live g v e p c : Int), i + d = 40 → Inv i l live g v e p c →
    cubbyholelaw39_StatCounts.l0 (32 + 3 * d) l0 live l i g v e live p c g v e live p c = some true := by
  have ha : ∀ k, 30 ≤ k → cubbyholelaw39_awake.f k = some true := fun k hk => at_rounds (g := fun k => cubbyholelaw39_awake.f k) (fun k => cubbyholelaw39_awake.mono k) hk StatCounts_awake
  have done : ∀ (k : Nat) (i : Int) (l : List Int) (live g v e p c : Int), 30 ≤ k → cubbyholelaw39_StatCounts.j1 (k + 1) l0 live l i false g v e live p c g v e live p c = some true := by
    intro k i l live g v e p c hk
    rw [cubbyholelaw39_StatCounts.j1, if_neg (by simp), ha k hk, Option.bind_some]
  induction d with
  | zero =>
    intro i l live g v e p c hi h
    rw [show 32 + 3 * 0 = 30 + 1 + 1 from rfl, cubbyholelaw39_StatCounts.l0]
    by_cases c1 : i < (l0.length : Int)
    · rw [if_pos c1, decide_eq_false (by omega)]
      exact done 30 i l live g v e p c (Nat.le_refl _)
    · rw [if_neg c1]
      exact done 30 i l live g v e p c (Nat.le_refl _)
  | succ d ih =>
    intro i l live g v e p c hi h
    have hfuel : 32 + 3 * (d + 1) = 32 + 3 * d + 1 + 1 + 1 := by omega
    rw [hfuel, cubbyholelaw39_StatCounts.l0]
    by_cases c1 : i < (l0.length : Int)
    · rw [if_pos c1, decide_eq_true (by omega)]
      obtain ⟨small, sum, len, e0, ev, gi, i0, i1, lp, pi, c0, ci⟩ := h
      have hs := sum_small l small
      rw [cubbyholelaw39_StatCounts.j1, if_pos rfl, if_pos i0, if_pos c1]
      generalize Go.bits .and .i64 (rd_T56 l0 i).f0 3 = kind
      rw [and_65535]
      generalize hn : (rd_T56 l0 i).f1 % 65536 = n
      have n0 : 0 ≤ n ∧ n < 65536 := by omega
      rw [w64 (x := n - 5) (by omega)]
      generalize hm : mx (n - 5) 0 = m
      have m0 : 0 ≤ m ∧ m ≤ 65530 := by
        subst hm
        unfold mx
        split <;> omega
      have go : ∀ (l : List Int) (live g v e p c : Int), Inv (i + 1) l live g v e p c → cubbyholelaw39_StatCounts.j2 (32 + 3 * d + 1) l0 live l i g v e live p c g v e live p c = some true := by
        intro l live g v e p c h
        rw [tail_all _ l0 l i live g v e p c h (by omega)]
        exact ih (i + 1) l live g v e p c (by omega) h
      by_cases c2 : kind = 0
      · rw [if_pos c2]
        have hget : stat_Get.f g v e live p c (n - 5) = some (wrap64 (g + 1), v, e, wrap64 (live + m), mx p (wrap64 (live + m)), c) := by unfold stat_Get.f; rw [hm]
        rw [hget, Option.bind_some, if_pos (by omega)]
        show cubbyholelaw39_StatCounts.j2 _ l0 (wrap64 (live + m)) (l ++ [m]) i (wrap64 (g + 1)) v e (wrap64 (live + m)) (mx p (wrap64 (live + m))) c (wrap64 (g + 1)) v e (wrap64 (live + m)) (mx p (wrap64 (live + m))) c = some true
        rw [w64 (x := g + 1) (by omega), w64 (x := live + m) (by omega)]
        have hp : live + m ≤ mx p (live + m) ∧ mx p (live + m) ≤ 65530 * (i + 1) := by
          unfold mx
          split <;> omega
        refine go _ _ _ _ _ _ _ ⟨?_, ?_, ?_, e0, ev, by omega, by omega, by omega, hp.1, hp.2, c0, by omega⟩
        · intro x hx
          rcases List.mem_append.mp hx with hx | hx
          · exact small x hx
          · obtain rfl := List.mem_singleton.mp hx
            exact m0
        · simp [sum]
        · simp
          omega
      · rw [if_neg c2]
        by_cases c3 : kind = 1
        · rw [if_pos c3]
          by_cases c4 : (l.length : Int) > 0
          · rw [if_pos c4, if_pos c4]
            obtain ⟨a, t, rfl⟩ : ∃ a t, l = a :: t := by
              match l, c4 with
              | a :: t, _ => exact ⟨a, t, rfl⟩
            have ha0 := small a List.mem_cons_self
            have hr : rd (a :: t) 0 = a := rfl
            have hma : mx a 0 = a := by unfold mx; split <;> omega
            have hst := sum_small t (fun x hx => small x (List.mem_cons_of_mem _ hx))
            simp only [List.sum_cons, List.length_cons] at sum len hs
            rw [hr]
            have hgive : stat_Give.f g v e live p c a = some (g, wrap64 (v + 1), e, wrap64 (live - a), p, c) := by unfold stat_Give.f; rw [hma]
            rw [hgive, Option.bind_some, if_pos (by simp only [List.length_cons]; omega)]
            show cubbyholelaw39_StatCounts.j2 _ l0 (wrap64 (live - a)) t i g (wrap64 (v + 1)) e (wrap64 (live - a)) p c g (wrap64 (v + 1)) e (wrap64 (live - a)) p c = some true
            rw [w64 (x := v + 1) (by omega), w64 (x := live - a) (by omega)]
            exact go _ _ _ _ _ _ _ ⟨fun x hx => small x (List.mem_cons_of_mem _ hx), by omega, by omega, e0, by omega, by omega, by omega, by omega, by omega, by omega, c0, by omega⟩
          · rw [if_neg c4]
            exact go _ _ _ _ _ _ _ ⟨small, sum, len, e0, ev, by omega, by omega, by omega, lp, by omega, c0, by omega⟩
        · rw [if_neg c3]
          by_cases c5 : kind = 2
          · rw [if_pos c5]
            by_cases c6 : e < v
            · rw [if_pos c6]
              have hend : stat_End.f g v e live p c = some (g, v, wrap64 (e + 1), live, p, c) := rfl
              rw [hend, Option.bind_some]
              show cubbyholelaw39_StatCounts.j2 _ l0 live l i g v (wrap64 (e + 1)) live p c g v (wrap64 (e + 1)) live p c = some true
              rw [w64 (x := e + 1) (by omega)]
              exact go _ _ _ _ _ _ _ ⟨small, sum, len, by omega, by omega, by omega, by omega, by omega, lp, by omega, c0, by omega⟩
            · rw [if_neg c6]
              exact go _ _ _ _ _ _ _ ⟨small, sum, len, e0, ev, by omega, by omega, by omega, lp, by omega, c0, by omega⟩
          · rw [if_neg c5]
            have hclear : stat_Clear.f g v e live p c (n - 5) = some (g, v, e, live, p, wrap64 (c + m)) := by unfold stat_Clear.f; rw [hm]
            rw [hclear, Option.bind_some]
            show cubbyholelaw39_StatCounts.j2 _ l0 live l i g v e live p (wrap64 (c + m)) g v e live p (wrap64 (c + m)) = some true
            rw [w64 (x := c + m) (by omega)]
            exact go _ _ _ _ _ _ _ ⟨small, sum, len, e0, ev, by omega, by omega, by omega, lp, by omega, by omega, by omega⟩
    · rw [if_neg c1]
      exact done _ i l live g v e p c (by omega)

def StatCounts_Pure : Prop := ∀ l0 : List S56, ∃ k, cubbyholelaw39_StatCounts.f k l0 = some true
theorem StatCounts : StatCounts_Pure := by
  intro l0
  refine ⟨32 + 3 * 40, ?_⟩
  exact loop_all l0 40 0 [] 0 0 0 0 0 0 rfl ⟨fun x hx => by simp at hx, rfl, rfl, by decide, by decide, by decide, by decide, by decide, by decide, by decide, by decide, by decide⟩

end Go.Proofs.Ytifakhddmlalcaa.Pure
namespace Go.Proofs.Ytifakhddmlalcaa.QStatCounts
open Go.RowKit Go.Proofs.YtifakhddmlalcaaW.PrintWords Go.Proofs.YtifakhddmlalcaaW.PrintLast

theorem cubbyholelaw39_StatCounts.walk (P : Pure.StatCounts_Pure) (A : Option Addr) (c : Nat) (xs : List (Int × Int)) (w : World) (hc : xs.length ≤ c) (hm : xs.length ≤ maxLen)
    (hr : 0 < xs.length → ∃ ad, A = some ad ∧ ∀ j x, xs[j]? = some x → w.cell? (ad.add (j * 2)) = some (.int .i64 x.1) ∧ w.cell? (ad.add (j * 2 + 1)) = some (.int .i64 x.2)) :
    Calls Try.prog 8 #[.slice A xs.length c] w fun e w' => e = .returned (.bool true) ∧ Below w.heap.size w w' := by
  obtain ⟨ys, hy⟩ : ∃ ys : List S56, ys = xs.map (fun x => ⟨x.1, x.2⟩) := ⟨_, rfl⟩
  have hlen : ys.length = xs.length := by rw [hy, List.length_map]
  have hC : Kd.C k56 w A ys.length ys := by
    refine ⟨rfl, by have : maxLen ≤ 9223372036854775807 := by decide
                    omega, fun h0 => ?_⟩
    obtain ⟨ad, rfl, h⟩ := hr (by omega)
    refine ⟨ad, rfl, ?_⟩
    intro j p hj
    rw [hy, List.getElem?_map] at hj
    obtain ⟨x, hx, rfl⟩ := Option.map_eq_some_iff.mp hj
    obtain ⟨h1, h2⟩ := h j x hx
    refine ⟨_, rfl, k56_mk w _, ?_⟩
    intro i u hi
    match i, hi with
    | 0, hi => obtain rfl := Option.some.inj hi; exact h1
    | 1, hi => obtain rfl := Option.some.inj hi; exact h2
  obtain ⟨k, h⟩ := P ys
  rw [← hlen]
  refine (cubbyholelaw39_StatCounts.calls k A c ys true ⟨rfl⟩ w hC (by omega) h).mono ?_
  rintro e w' ⟨rfl, hd⟩
  exact ⟨rfl, hd⟩

end Go.Proofs.Ytifakhddmlalcaa.QStatCounts
