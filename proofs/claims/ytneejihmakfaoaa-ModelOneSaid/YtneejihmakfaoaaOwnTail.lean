/- The reference's live; what both sides tell behind Do. Conditions: none beyond each theorem's own. -/
import Derived.Test.YtneejihmakfaoaaOwnDefs
import Derived.Test.YtneejihmakfaoaaOwnRefA
namespace Go.Proofs.Ytneejihmakfaoaa.OwnModel
open Go.RowKit Go.Proofs.Ytneejihmakfaoaa.OwnMask Go.Proofs.Ytneejihmakfaoaa.QModelOne Go.Proofs.YtneejihmakfaoaaW.PrintWords Go.Proofs.YtneejihmakfaoaaW.PrintLast Go.Proofs.YtneejihmakfaoaaW.PrintMore
set_option linter.unusedVariables false
set_option linter.unusedSimpArgs false
set_option maxHeartbeats 8000000 in
set_option maxRecDepth 100000 in
theorem rLive0 (k0 k1 k2 k3 k4 k5 k6 k7 k8 k9 k10 : Int) (rv : Value) (w : World) : Calls Try.prog 13 #[.agg #[.int .i64 k0, .int .i64 k1, .int .i64 k2, .int .i64 k3, .int .i64 k4, .int .i64 k5, .int .i64 k6, .int .i64 k7, .int .i64 k8, .int .i64 k9, .int .u64 k10, .slice none 0 0, rv]] w fun e w' => e = .returned (.int .i64 0) ∧ Below w.heap.size w w' := by
  have hu40 := Try.underlying40
  have hu37 := Try.underlying37
  have hu82 := Try.underlying82
  have hu4 := Try.underlying4
  have ew : IntKind.i64.wrap 1 = 1 := rfl
  obtain ⟨w1, hw1, hm, HB⟩ : ∃ w1, w.alloc (.cells #[.int .i64 k0, .int .i64 k1, .int .i64 k2, .int .i64 k3, .int .i64 k4, .int .i64 k5, .int .i64 k6, .int .i64 k7, .int .i64 k8, .int .i64 k9, .int .u64 k10, .slice none 0 0, rv] 40) = w1 ∧ w1.heap[w.heap.size]? = some (.cells #[.int .i64 k0, .int .i64 k1, .int .i64 k2, .int .i64 k3, .int .i64 k4, .int .i64 k5, .int .i64 k6, .int .i64 k7, .int .i64 k8, .int .i64 k9, .int .u64 k10, .slice none 0 0, rv] 40 (0, 0)) ∧ Aside0 (Below w.heap.size w w1) := ⟨_, rfl, blk_new _ _, ⟨below_alloc (Below.refl _ _) _⟩⟩
  obtain ⟨hc0, hc1, hc2, hc3, hc4, hc5, hc6, hc7, hc8, hc9, hc10, hc11, hc12⟩ := cellsR hm
  clear hm hc0 hc1 hc2 hc3 hc4 hc5 hc6 hc7 hc8 hc9 hc10 hc12
  go_enter Try.func13, Try.ntmps13
  go_wp2_with fail
  go_loopw [3, 4] (fun v3 v4 wr => v3 = .int .i64 0 ∧ v4 = .int .i64 0 ∧ wr = w1) (fun _ _ _ => 0)
  case atStart => exact ⟨rfl, rfl, rfl⟩
  case round =>
    obtain ⟨rfl, rfl, rfl⟩ := hrel
    go_wp2
    go_ret
    exact ⟨rfl, HB.out⟩

set_option maxHeartbeats 8000000 in
set_option maxRecDepth 100000 in
theorem rLive1 (k0 k1 k2 k3 k4 k5 k6 k7 k8 k9 k10 : Int) (gl cap : Nat) (rv : Value) (w : World) (hl : w.cell? ⟨gl, 3, none⟩ = some (.bool true)) : Calls Try.prog 13 #[.agg #[.int .i64 k0, .int .i64 k1, .int .i64 k2, .int .i64 k3, .int .i64 k4, .int .i64 k5, .int .i64 k6, .int .i64 k7, .int .i64 k8, .int .i64 k9, .int .u64 k10, .slice (some ⟨gl, 0, none⟩) 1 cap, rv]] w fun e w' => e = .returned (.int .i64 1) ∧ Below w.heap.size w w' := by
  have hu40 := Try.underlying40
  have hu37 := Try.underlying37
  have hu82 := Try.underlying82
  have hu4 := Try.underlying4
  have ew : IntKind.i64.wrap 1 = 1 := rfl
  obtain ⟨w1, hw1, hm, HB⟩ : ∃ w1, w.alloc (.cells #[.int .i64 k0, .int .i64 k1, .int .i64 k2, .int .i64 k3, .int .i64 k4, .int .i64 k5, .int .i64 k6, .int .i64 k7, .int .i64 k8, .int .i64 k9, .int .u64 k10, .slice (some ⟨gl, 0, none⟩) 1 cap, rv] 40) = w1 ∧ w1.heap[w.heap.size]? = some (.cells #[.int .i64 k0, .int .i64 k1, .int .i64 k2, .int .i64 k3, .int .i64 k4, .int .i64 k5, .int .i64 k6, .int .i64 k7, .int .i64 k8, .int .i64 k9, .int .u64 k10, .slice (some ⟨gl, 0, none⟩) 1 cap, rv] 40 (0, 0)) ∧ Aside0 (Below w.heap.size w w1) := ⟨_, rfl, blk_new _ _, ⟨below_alloc (Below.refl _ _) _⟩⟩
  obtain ⟨hc0, hc1, hc2, hc3, hc4, hc5, hc6, hc7, hc8, hc9, hc10, hc11, hc12⟩ := cellsR hm
  clear hm hc0 hc1 hc2 hc3 hc4 hc5 hc6 hc7 hc8 hc9 hc10 hc12
  have hl1 := (HB.out.cell (World.block_lt_of_cell? _ _ hl)).trans hl
  clear hl
  go_enter Try.func13, Try.ntmps13
  go_wp2_with fail
  go_loopw [3, 4] (fun v3 v4 wr => ((v3 = .int .i64 0 ∧ v4 = .int .i64 0) ∨ (v3 = .int .i64 1 ∧ v4 = .int .i64 1)) ∧ wr = w1) (fun _ v4 _ => 1 - (intOf v4).toNat)
  case atStart => exact ⟨Or.inl ⟨rfl, rfl⟩, rfl⟩
  case round =>
    obtain ⟨⟨rfl, rfl⟩ | ⟨rfl, rfl⟩, rfl⟩ := hrel
    · go_wp2
      exact ⟨⟨Or.inr ⟨rfl, rfl⟩, trivial⟩, by decide⟩
    · go_wp2
      go_ret
      exact ⟨rfl, HB.out⟩

/-- What stands in one block's cells only stands in another world, too. -/
theorem RPost.carry {n gr0 wsz : Nat} {a : Int} {w9 wx : World} {lv rv : Value} {mk : Option Int} (h : RPost n gr0 wsz a w9 lv rv mk) (q40 q35 : Nat) (hc : ∀ k j v, w9.cell? ⟨k, j, none⟩ = some v → k ≠ q40 → k ≠ q35 → wx.cell? ⟨k, j, none⟩ = some v)
    (h40 : q40 < w9.heap.size → q40 ≠ gr0 ∧ q40 < wsz ∧ ∃ i : Int, w9.cell? ⟨q40, 3, none⟩ = some (.int .i64 i)) (h35 : q35 < w9.heap.size → q35 ≠ gr0 ∧ q35 < wsz ∧ w9.cell? ⟨q35, 3, none⟩ = none) : RPost n gr0 wsz a wx lv rv mk := by
  have key : ∀ (gR j : Nat) (v : Value), (gR = gr0 ∨ wsz ≤ gR) → w9.cell? ⟨gR, j, none⟩ = some v → wx.cell? ⟨gR, j, none⟩ = some v := by
    intro gR j v hg hv
    have hlt : gR < w9.heap.size := World.block_lt_of_cell? _ _ hv
    refine hc _ _ _ hv ?_ ?_
    · intro e
      have hh := h40 (by omega)
      omega
    · intro e
      have hh := h35 (by omega)
      omega
  cases mk with
  | none =>
    obtain ⟨rfl, gR, cR, rfl, hg, hy⟩ := h
    refine ⟨rfl, gR, cR, rfl, hg, fun a0 a1 => ?_⟩
    obtain ⟨y0, y1, y2, y3, y4⟩ := hy a0 a1
    exact ⟨key _ _ _ hg y0, key _ _ _ hg y1, key _ _ _ hg y2, key _ _ _ hg y3, key _ _ _ hg y4⟩
  | some N =>
    obtain ⟨a0, a1, gl, cap, gR, cR, rfl, rfl, hg, hl, y0, y1, y2, y3, y4⟩ := h
    have hlt : gl < w9.heap.size := World.block_lt_of_cell? _ _ hl
    refine ⟨a0, a1, gl, cap, gR, cR, rfl, rfl, hg, hc _ _ _ hl ?_ ?_, key _ _ _ hg y0, key _ _ _ hg y1, key _ _ _ hg y2, key _ _ _ hg y3, key _ _ _ hg y4⟩
    · rintro rfl
      obtain ⟨-, -, i, hi⟩ := h40 hlt
      rw [hi] at hl
      cases hl
    · rintro rfl
      obtain ⟨-, -, hi⟩ := h35 hlt
      rw [hi] at hl
      cases hl
theorem apart40 {W w9 : World} {q gR : Nat} {b : Array Value} (hb : Below W.heap.size W w9) (h : W.heap[q]? = some (.cells #[.int .i64 0, .int .i64 0, .int .i64 0, .int .i64 0, .int .i64 0, .int .i64 0, .int .i64 0, .int .i64 0, .int .i64 0, .int .i64 0, .int .u64 0, .slice none 0 0, .slice none 0 0] 40 (0, 0))) (hg : W.heap[gR]? = some (.cells b 51 (0, 0))) : q < w9.heap.size → q ≠ gR ∧ q < W.heap.size ∧ ∃ i : Int, w9.cell? ⟨q, 3, none⟩ = some (.int .i64 i) := by
  intro _
  refine ⟨?_, blk_lt h, 0, (blk_cell (blk_below h hb) 3).trans rfl⟩
  rintro rfl
  rw [h] at hg
  cases hg
theorem apart35 {W w9 : World} {q gR : Nat} {b : Array Value} (hb : Below W.heap.size W w9) (h : W.heap[q]? = some (.cells #[.int .i64 0, .int .i64 0, .slice none 0 0] 35 (0, 0))) (hg : W.heap[gR]? = some (.cells b 51 (0, 0))) : q < w9.heap.size → q ≠ gR ∧ q < W.heap.size ∧ w9.cell? ⟨q, 3, none⟩ = none := by
  intro _
  refine ⟨?_, blk_lt h, (blk_cell (blk_below h hb) 3).trans rfl⟩
  rintro rfl
  rw [h] at hg
  cases hg

/-- What the program tells behind Do. -/
def TellP (g : Nat) (a L x0 x1 x2 x3 x4 : Int) (wx : World) : Prop := (∀ W, Below wx.heap.size wx W → Calls Try.prog 12 #[.pointer (some ⟨g, 0, none⟩)] W fun e w' => e = .returned (.int .i64 L) ∧ w' = W) ∧ (∀ W, Below wx.heap.size wx W → Calls Try.prog 15 #[.pointer (some ⟨g, 0, none⟩), .int .i64 a] W fun e w' => e = .returned (.agg #[.int .i64 x0, .int .i64 x1, .int .i64 x2, .int .i64 x3, .int .i64 x4]) ∧ Below W.heap.size W w')
/-- What the reference tells behind Do. -/
def TellR (k0 k1 k2 k3 k4 k5 k6 k7 k8 k9 k10 : Int) (lv rv : Value) (a L x0 x1 x2 x3 x4 : Int) (wx : World) : Prop := (∀ W, Below wx.heap.size wx W → Calls Try.prog 13 #[.agg #[.int .i64 k0, .int .i64 k1, .int .i64 k2, .int .i64 k3, .int .i64 k4, .int .i64 k5, .int .i64 k6, .int .i64 k7, .int .i64 k8, .int .i64 k9, .int .u64 k10, lv, rv]] W fun e w' => e = .returned (.int .i64 L) ∧ Below W.heap.size W w') ∧ (∀ W, Below wx.heap.size wx W → Calls Try.prog 16 #[.agg #[.int .i64 k0, .int .i64 k1, .int .i64 k2, .int .i64 k3, .int .i64 k4, .int .i64 k5, .int .i64 k6, .int .i64 k7, .int .i64 k8, .int .i64 k9, .int .u64 k10, lv, rv], .int .i64 a] W fun e w' => e = .returned (.agg #[.int .i64 x0, .int .i64 x1, .int .i64 x2, .int .i64 x3, .int .i64 x4]) ∧ Below W.heap.size W w')

theorem tell (k0 k1 k2 k3 k4 k5 k6 k7 k8 k9 k10 : Int) (g gr : Nat) (xs : List S51) (n : Nat) (hx : xs.length = n) (hn : n ≤ 64) (a : Int) (w5 w6 wx : World) (lv rv : Value) (gr0 wsz : Nat) (mk : Option Int) (hp : PPost g gr k0 k1 k2 k3 k4 k5 k6 k7 k8 k9 k10 xs a w5 w6 mk) (hb : Below w6.heap.size w6 wx) (hr : RPost n gr0 wsz a wx lv rv mk) :
    ∃ L x0 x1 x2 x3 x4, TellP g a L x0 x1 x2 x3 x4 wx ∧ TellR k0 k1 k2 k3 k4 k5 k6 k7 k8 k9 k10 lv rv a L x0 x1 x2 x3 x4 wx := by
  subst hx
  cases mk with
  | none =>
    obtain ⟨-, ys, hy, hm, hg⟩ := hp
    obtain ⟨rfl, gR, cR, rfl, -, hz⟩ := hr
    refine ⟨0, 0, 0, 0, 0, 0, ⟨fun W hW => ?_, fun W hW => ?_⟩, ⟨fun W hW => rLive0 _ _ _ _ _ _ _ _ _ _ _ _ W, fun W hW => ?_⟩⟩
    · exact live g k0 k1 k2 k3 k4 k5 k6 k7 k8 k9 k10 none 0 _ [] W (blk_below hm (below_step hb hW)) (fun i hi => absurd hi (Nat.not_lt_zero _)) (by decide)
    · exact get0 g gr k0 k1 k2 k3 k4 k5 k6 k7 k8 k9 k10 ys a W (blk_below hm (below_step hb hW)) (blk_below hg (below_step hb hW)) (by omega)
    · by_cases c : a < 0 ∨ (xs.length : Int) ≤ a
      · exact rGetOut _ _ _ _ _ _ _ _ _ _ _ _ _ _ _ a c W
      · obtain ⟨y0, y1, y2, y3, y4⟩ := hz (by omega) (by omega)
        have key : ∀ (j : Nat) (v : Value), wx.cell? ⟨gR, j, none⟩ = some v → W.cell? ⟨gR, j, none⟩ = some v := fun j v hv => (hW.cell (World.block_lt_of_cell? _ _ hv)).trans hv
        exact rGet0 _ _ _ _ _ _ _ _ _ _ _ _ gR xs.length cR a W (by omega) (by omega) ⟨key _ _ y0, key _ _ y1, key _ _ y2, key _ _ y3, key _ _ y4⟩
  | some N =>
    obtain ⟨-, hg, g5, cap, gt, gb, r, mp, sp, hm, hcap, hc, ht⟩ := hp
    obtain ⟨a0, a1, gl, capR, gR, cR, rfl, rfl, -, hl, y0, y1, y2, y3, y4⟩ := hr
    have hls : ∀ W, Below wx.heap.size wx W → Lives W (some ⟨g5, 0, none⟩) [true] := by
      intro W hW i hi
      obtain rfl : i = 0 := by simpa using hi
      have hB := below_step hb hW
      exact ⟨_, gt, rfl, by simpa [Addr.add] using (hB.cell (World.block_lt_of_cell? _ _ hc)).trans hc, (blk_cell (blk_below ht hB) 4).trans rfl⟩
    have hset : (xs.set a.toNat ⟨1, 0, N, 0, 31⟩).length = xs.length := List.length_set
    have hgo : getOf [true] (xs.set a.toNat ⟨1, 0, N, 0, 31⟩) a = ⟨1, 0, N, 0, 31⟩ := by
      unfold getOf
      rw [if_neg (by omega)]
      have e : rd_T51 (xs.set a.toNat ⟨1, 0, N, 0, 31⟩) a = ⟨1, 0, N, 0, 31⟩ := by
        unfold rd_T51
        simp [List.getElem?_set, List.getD_eq_getElem?_getD, show a.toNat < xs.length by omega]
      rw [e]
      rfl
    refine ⟨1, 1, 0, N, 0, 31, ⟨fun W hW => ?_, fun W hW => ?_⟩, ⟨fun W hW => ?_, fun W hW => ?_⟩⟩
    · exact live g k0 k1 k2 k3 k4 k5 k6 k7 k8 k9 k10 _ cap _ [true] W (blk_below hm (below_step hb hW)) (hls W hW) (by decide)
    · have hh := get g k0 k1 k2 k3 k4 k5 k6 k7 k8 k9 k10 (some ⟨g5, 0, none⟩) (some ⟨gr, 0, none⟩) cap xs.length [true] (xs.set a.toNat ⟨1, 0, N, 0, 31⟩) a W (by rw [hset]; exact blk_below hm (below_step hb hW)) (hls W hW) (by decide) hcap (regs_reads (blk_below hg (below_step hb hW)) (by omega))
      rw [hgo] at hh
      exact hh
    · exact rLive1 _ _ _ _ _ _ _ _ _ _ _ gl capR _ W ((hW.cell (World.block_lt_of_cell? _ _ hl)).trans hl)
    · have key : ∀ (j : Nat) (v : Value), wx.cell? ⟨gR, j, none⟩ = some v → W.cell? ⟨gR, j, none⟩ = some v := fun j v hv => (hW.cell (World.block_lt_of_cell? _ _ hv)).trans hv
      exact rGet1 _ _ _ _ _ _ _ _ _ _ _ gl capR 0 N 0 31 gR xs.length cR a W ((hW.cell (World.block_lt_of_cell? _ _ hl)).trans hl) a0 a1 ⟨key _ _ y0, key _ _ y1, key _ _ y2, key _ _ y3, key _ _ y4⟩

set_option maxHeartbeats 8000000 in
set_option maxRecDepth 100000 in
/-- Two results alike, with no data, are the same. -/
theorem sameRes (err : Int) (w : World) : Calls Try.prog 11 #[.agg #[.int .i64 err, .int .i64 0, .slice none 0 0], .agg #[.int .i64 err, .int .i64 0, .slice none 0 0]] w fun e w' => e = .returned (.bool true) ∧ Below w.heap.size w w' := by
  have hu35 := Try.underlying35
  obtain ⟨w1, hw1, h1, h2, HB⟩ : ∃ w1, (w.alloc (.cells #[.int .i64 err, .int .i64 0, .slice none 0 0] 35)).alloc (.cells #[.int .i64 err, .int .i64 0, .slice none 0 0] 35) = w1 ∧ w1.heap[w.heap.size]? = some (.cells #[.int .i64 err, .int .i64 0, .slice none 0 0] 35 (0, 0)) ∧ w1.heap[w.heap.size + 1]? = some (.cells #[.int .i64 err, .int .i64 0, .slice none 0 0] 35 (0, 0)) ∧ Aside0 (Below w.heap.size w w1) := ⟨_, rfl, blk_alloc (blk_new _ _) _, blk_new1 _ _ _, ⟨below_alloc (below_alloc (Below.refl _ _) _) _⟩⟩
  have a0 : w1.cell? ⟨w.heap.size, 0, none⟩ = some (.int .i64 err) := (blk_cell h1 0).trans rfl
  have a1 : w1.cell? ⟨w.heap.size, 1, none⟩ = some (.int .i64 0) := (blk_cell h1 1).trans rfl
  have a2 : w1.cell? ⟨w.heap.size, 2, none⟩ = some (.slice none 0 0) := (blk_cell h1 2).trans rfl
  have b0 : w1.cell? ⟨w.heap.size + 1, 0, none⟩ = some (.int .i64 err) := (blk_cell h2 0).trans rfl
  have b1 : w1.cell? ⟨w.heap.size + 1, 1, none⟩ = some (.int .i64 0) := (blk_cell h2 1).trans rfl
  have b2 : w1.cell? ⟨w.heap.size + 1, 2, none⟩ = some (.slice none 0 0) := (blk_cell h2 2).trans rfl
  clear h1 h2
  go_enter Try.func11, Try.ntmps11
  go_wp2_with fail
  go_loopw [5] (fun v5 wr => v5 = .int .i64 0 ∧ wr = w1) (fun _ _ => 0)
  case atStart => exact ⟨rfl, rfl⟩
  case round =>
    obtain ⟨rfl, rfl⟩ := hrel
    go_wp2
    go_ret
    exact ⟨rfl, HB.out⟩

set_option maxHeartbeats 8000000 in
set_option maxRecDepth 100000 in
/-- Two references alike are the same. -/
theorem sameRef (x0 x1 x2 x3 x4 : Int) (w : World) : Calls Try.prog 14 #[.agg #[.int .i64 x0, .int .i64 x1, .int .i64 x2, .int .i64 x3, .int .i64 x4], .agg #[.int .i64 x0, .int .i64 x1, .int .i64 x2, .int .i64 x3, .int .i64 x4]] w fun e w' => e = .returned (.bool true) ∧ Below w.heap.size w w' := by
  have hu49 := Try.underlying49
  have hu51 := Try.underlying51
  obtain ⟨w1, hw1, h1, h2, HB⟩ : ∃ w1, (w.alloc (.cells #[.int .i64 x0, .int .i64 x1, .int .i64 x2, .int .i64 x3, .int .i64 x4] 49)).alloc (.cells #[.int .i64 x0, .int .i64 x1, .int .i64 x2, .int .i64 x3, .int .i64 x4] 51) = w1 ∧ w1.heap[w.heap.size]? = some (.cells #[.int .i64 x0, .int .i64 x1, .int .i64 x2, .int .i64 x3, .int .i64 x4] 49 (0, 0)) ∧ w1.heap[w.heap.size + 1]? = some (.cells #[.int .i64 x0, .int .i64 x1, .int .i64 x2, .int .i64 x3, .int .i64 x4] 51 (0, 0)) ∧ Aside0 (Below w.heap.size w w1) := ⟨_, rfl, blk_alloc (blk_new _ _) _, blk_new1 _ _ _, ⟨below_alloc (below_alloc (Below.refl _ _) _) _⟩⟩
  have a0 : w1.cell? ⟨w.heap.size, 0, none⟩ = some (.int .i64 x0) := (blk_cell h1 0).trans rfl
  have a1 : w1.cell? ⟨w.heap.size, 1, none⟩ = some (.int .i64 x1) := (blk_cell h1 1).trans rfl
  have a2 : w1.cell? ⟨w.heap.size, 2, none⟩ = some (.int .i64 x2) := (blk_cell h1 2).trans rfl
  have a3 : w1.cell? ⟨w.heap.size, 3, none⟩ = some (.int .i64 x3) := (blk_cell h1 3).trans rfl
  have a4 : w1.cell? ⟨w.heap.size, 4, none⟩ = some (.int .i64 x4) := (blk_cell h1 4).trans rfl
  have b0 : w1.cell? ⟨w.heap.size + 1, 0, none⟩ = some (.int .i64 x0) := (blk_cell h2 0).trans rfl
  have b1 : w1.cell? ⟨w.heap.size + 1, 1, none⟩ = some (.int .i64 x1) := (blk_cell h2 1).trans rfl
  have b2 : w1.cell? ⟨w.heap.size + 1, 2, none⟩ = some (.int .i64 x2) := (blk_cell h2 2).trans rfl
  have b3 : w1.cell? ⟨w.heap.size + 1, 3, none⟩ = some (.int .i64 x3) := (blk_cell h2 3).trans rfl
  have b4 : w1.cell? ⟨w.heap.size + 1, 4, none⟩ = some (.int .i64 x4) := (blk_cell h2 4).trans rfl
  clear h1 h2
  go_enter Try.func14, Try.ntmps14
  go_wp2
  go_ret
  exact ⟨rfl, HB.out⟩

end Go.Proofs.Ytneejihmakfaoaa.OwnModel
