/- Walks of the model's functions by hand: Do, on an empty model, where a chunk is to be made. Conditions: the registers lie in a block of their own; the room is small. -/
import Derived.Test.YtneejihmakfaoaaOwnModelM
namespace Go.Proofs.Ytneejihmakfaoaa.OwnModel
open Go.RowKit Go.Proofs.Ytneejihmakfaoaa.OwnMask Go.Proofs.Ytneejihmakfaoaa.QModelOne Go.Proofs.YtneejihmakfaoaaW.PrintWords Go.Proofs.YtneejihmakfaoaaW.PrintLast Go.Proofs.YtneejihmakfaoaaW.PrintMore
set_option linter.unusedVariables false
set_option linter.unusedSimpArgs false
/-- new refuses. -/
theorem newBad (g : Nat) (k0 k1 k2 k3 k4 k5 k6 k7 k8 k9 k10 : Int) (rv : Value) (kd th a b v nn mm : Int) (dv : Value) (pw fu : Bool) (w : World) (h : IsM w g k0 k1 k2 k3 k4 k5 k6 k7 k8 k9 k10 (.slice none 0 0) rv) (hk8 : 1 ≤ k8) (hk8b : k8 ≤ 1000000000) (hpw : num_Power.f mm = some pw)
    (hk : kd = 1 ∨ kd = 2 ∨ kd = 3) (x : Int) (hx : newErr k3 k8 kd th nn mm pw fu = x) (hx0 : x ≠ 0) :
    Calls Try.prog 21 #[.pointer (some ⟨g, 0, none⟩), .agg #[.int .i64 kd, .int .i64 th, .int .i64 a, .int .i64 b, .int .i64 v, .int .i64 nn, .int .i64 mm, dv], .bool fu] w fun e w' => e = .returned (.tuple #[.agg #[.int .i64 0, .int .i64 0, .int .i64 0, .int .i64 0, .int .i64 0], .int .i64 x]) ∧ Below w.heap.size w w' := by
  have hA : ∀ (hA0 : ¬ (kd = 2)) (hA3 : ¬ (kd = 3 ∧ (pw = false ∨ 256 < mm))), (askOf k3 k8 th nn = x ∧ (x = 1 ∨ x = 4)) ∨ (askOf k3 k8 th nn = 0 ∧ fu = true ∧ x = 13) := by
    intro hA0 hA3
    unfold newErr at hx
    rw [if_neg hA0, if_neg hA3] at hx
    by_cases c : askOf k3 k8 th nn = 0
    · rw [if_neg (by simpa using c)] at hx
      right
      cases fu with
      | true => exact ⟨c, rfl, by simpa using hx.symm⟩
      | false => exact absurd (by simpa using hx.symm) hx0
    · rw [if_pos c] at hx
      left
      refine ⟨hx, ?_⟩
      have hq := askOf_is k3 k8 th nn
      omega
  rcases hk with rfl | rfl | rfl
  · rcases hA (by decide) (fun q => absurd q.1 (by decide)) with ⟨e1, e2⟩ | ⟨e1, e2, rfl⟩
    · exact new1a g k0 k1 k2 k3 k4 k5 k6 k7 k8 k9 k10 rv th a b v nn mm dv pw fu w h hk8 hk8b hpw x e1 e2
    · exact new1f g k0 k1 k2 k3 k4 k5 k6 k7 k8 k9 k10 rv th a b v nn mm dv pw fu w h hk8 hk8b hpw e1 e2
  · unfold newErr at hx
    rw [if_pos rfl] at hx
    by_cases c1 : nn < 1 ∨ mm < 1 ∨ th < 0 ∨ k3 ≤ th
    · rw [if_pos c1] at hx
      subst hx
      exact new2b g k0 k1 k2 k3 k4 k5 k6 k7 k8 k9 k10 rv th a b v nn mm dv pw fu w h hk8 hk8b hpw c1
    · rw [if_neg c1] at hx
      by_cases c2 : k8.tdiv mm < nn
      · rw [if_pos c2] at hx
        subst hx
        exact new2q g k0 k1 k2 k3 k4 k5 k6 k7 k8 k9 k10 rv th a b v nn mm dv pw fu w h hk8 hk8b hpw (by omega) (by omega) (by omega) (by omega) c2
      · rw [if_neg c2] at hx
        cases fu with
        | true =>
          rw [if_pos rfl] at hx
          subst hx
          exact new2f g k0 k1 k2 k3 k4 k5 k6 k7 k8 k9 k10 rv th a b v nn mm dv pw true w h hk8 hk8b hpw (by omega) (by omega) (by omega) (by omega) (by omega) rfl
        | false => exact absurd (by simpa using hx.symm) hx0
  · by_cases c1 : pw = false ∨ 256 < mm
    · unfold newErr at hx
      rw [if_neg (by decide), if_pos ⟨rfl, c1⟩] at hx
      subst hx
      exact new3b g k0 k1 k2 k3 k4 k5 k6 k7 k8 k9 k10 rv th a b v nn mm dv pw fu w h hk8 hk8b hpw c1
    · have hp : pw = true := by
        cases pw with
        | true => rfl
        | false => exact absurd (Or.inl rfl) c1
      have hm : mm ≤ 256 := by
        have := fun q => c1 (Or.inr q)
        omega
      rcases hA (by decide) (fun q => c1 q.2) with ⟨e1, e2⟩ | ⟨e1, e2, rfl⟩
      · exact new3a g k0 k1 k2 k3 k4 k5 k6 k7 k8 k9 k10 rv th a b v nn mm dv pw fu w h hk8 hk8b hpw hp hm x e1 e2
      · exact new3f g k0 k1 k2 k3 k4 k5 k6 k7 k8 k9 k10 rv th a b v nn mm dv pw fu w h hk8 hk8b hpw hp hm e1 e2

/-- new makes. -/
theorem newGood (g : Nat) (k0 k1 k2 k3 k4 k5 k6 k7 k8 k9 k10 : Int) (rv : Value) (kd th a b v nn mm : Int) (dv : Value) (pw fu : Bool) (w : World) (h : IsM w g k0 k1 k2 k3 k4 k5 k6 k7 k8 k9 k10 (.slice none 0 0) rv) (hk8 : 1 ≤ k8) (hk8b : k8 ≤ 1000000000) (hpw : num_Power.f mm = some pw)
    (hk : kd = 1 ∨ kd = 2 ∨ kd = 3) (hx : newErr k3 k8 kd th nn mm pw fu = 0) (kk r : Nat) (hr : model_room.f kk (newN kd nn mm) (newAl kd mm) = some (r : Int)) (h1 : 1 ≤ r) (h2 : r ≤ 1000000) :
    Calls Try.prog 21 #[.pointer (some ⟨g, 0, none⟩), .agg #[.int .i64 kd, .int .i64 th, .int .i64 a, .int .i64 b, .int .i64 v, .int .i64 nn, .int .i64 mm, dv], .bool fu] w fun e w' => e = .returned (.tuple #[.agg #[.int .i64 1, .int .i64 0, .int .i64 (newN kd nn mm), .int .i64 0, .int .i64 31], .int .i64 0]) ∧ KB g w w' ∧
      ∃ g5 cap gt gb mp sp, IsM w' g k0 k1 k2 k3 k4 k5 k6 k7 k8 k9 k10 (.slice (some ⟨g5, 0, none⟩) 1 cap) rv ∧ 1 ≤ cap ∧ w'.cell? ⟨g5, 0, none⟩ = some (.pointer (some ⟨gt, 0, none⟩)) ∧
        w'.heap[gt]? = some (.cells #[.slice (some ⟨gb, 0, none⟩) r r, mp, .int .i64 r, sp, .bool true] 80 (0, 0)) ∧ w'.heap[gb]? = some (.cells (fillTo r r (newFill kd k9)) 5 (0, 0)) ∧ w.heap.size ≤ gt ∧ w.heap.size ≤ gb ∧ w.heap.size ≤ g5 := by
  have hA : ∀ (hA0 : ¬ (kd = 2)), ¬ (kd = 3 ∧ (pw = false ∨ 256 < mm)) ∧ askOf k3 k8 th nn = 0 ∧ fu = false := by
    intro hA0
    unfold newErr at hx
    rw [if_neg hA0] at hx
    by_cases hA3 : kd = 3 ∧ (pw = false ∨ 256 < mm)
    · rw [if_pos hA3] at hx
      cases hx
    · rw [if_neg hA3] at hx
      refine ⟨hA3, ?_⟩
      by_cases c : askOf k3 k8 th nn = 0
      · rw [if_neg (by simpa using c)] at hx
        refine ⟨c, ?_⟩
        cases fu with
        | true => rw [if_pos rfl] at hx; cases hx
        | false => rfl
      · rw [if_pos c] at hx
        exact absurd hx c
  rcases hk with rfl | rfl | rfl
  · obtain ⟨_, e1, e2⟩ := hA (by decide)
    exact new1m g k0 k1 k2 k3 k4 k5 k6 k7 k8 k9 k10 rv th a b v nn mm dv pw fu w h hk8 hk8b hpw kk r hr h1 h2 e1 e2
  · unfold newErr at hx
    rw [if_pos rfl] at hx
    by_cases c1 : nn < 1 ∨ mm < 1 ∨ th < 0 ∨ k3 ≤ th
    · rw [if_pos c1] at hx
      cases hx
    · rw [if_neg c1] at hx
      by_cases c2 : k8.tdiv mm < nn
      · rw [if_pos c2] at hx
        cases hx
      · rw [if_neg c2] at hx
        cases fu with
        | true => rw [if_pos rfl] at hx; cases hx
        | false => exact new2m g k0 k1 k2 k3 k4 k5 k6 k7 k8 k9 k10 rv th a b v nn mm dv pw false w h hk8 hk8b hpw kk r hr h1 h2 (by omega) (by omega) (by omega) (by omega) (by omega) rfl
  · obtain ⟨e0, e1, e2⟩ := hA (by decide)
    have hp : pw = true := by
      cases pw with
      | true => rfl
      | false => exact absurd ⟨rfl, Or.inl rfl⟩ e0
    have hm : mm ≤ 256 := by
      have := fun q => e0 ⟨rfl, Or.inr q⟩
      omega
    exact new3m g k0 k1 k2 k3 k4 k5 k6 k7 k8 k9 k10 rv th a b v nn mm dv pw fu w h hk8 hk8b hpw kk r hr h1 h2 hp hm e1 e2

/-- All blocks but two are as they were. -/
structure KB2 (g gr : Nat) (w w' : World) : Prop where
  os : w'.os = w.os
  tape : w'.tape = w.tape
  output : w'.output = w.output
  size : w.heap.size ≤ w'.heap.size
  block : ∀ k, k < w.heap.size → k ≠ g → k ≠ gr → w'.heap[k]? = w.heap[k]?
theorem KB2.of1 {g gr : Nat} {w w' : World} (h : KB g w w') : KB2 g gr w w' := ⟨h.os, h.tape, h.output, h.size, fun k hk hn _ => h.block k hk hn⟩
theorem KB2.of2 {g gr : Nat} {w w' : World} (h : KB gr w w') : KB2 g gr w w' := ⟨h.os, h.tape, h.output, h.size, fun k hk _ hn => h.block k hk hn⟩
theorem KB2.step {g gr : Nat} {a b c : World} (h : KB2 g gr a b) (k : KB2 g gr b c) : KB2 g gr a c :=
  ⟨k.os.trans h.os, k.tape.trans h.tape, k.output.trans h.output, Nat.le_trans h.size k.size, fun i hi hn hn2 => (k.block i (Nat.lt_of_lt_of_le hi h.size) hn hn2).trans (h.block i hi hn hn2)⟩
theorem KB2.low {g gr B : Nat} {w w' : World} (h : KB2 g gr w w') (h1 : B ≤ w.heap.size) (h2 : B ≤ g) (h3 : B ≤ gr) : Below B w w' := ⟨h.os, h.tape, h.output, h.size, fun k hk => h.block k (by omega) (by omega) (by omega)⟩
theorem KB2.high {g gr g0 j : Nat} {w W : World} {v : Value} (h : KB2 g gr w W) (h0 : w.heap.size ≤ g0) : KB2 g gr w (W.setCell ⟨g0, j, none⟩ v) :=
  ⟨h.os, h.tape, h.output, by simpa [World.setCell] using h.size, fun k hk hn hn2 => (Below.heap_setCell _ _ _ _ (by show k ≠ g0; omega)).trans (h.block k hk hn hn2)⟩

theorem cell_puts {W : World} {g k j : Nat} {v : Value} {j0 j1 j2 j3 j4 : Nat} {b0 b1 b2 b3 b4 : Value} (h : W.cell? ⟨k, j, none⟩ = some v) (hn : k ≠ g) :
    (((((W.setCell ⟨g, j0, none⟩ b0).setCell ⟨g, j1, none⟩ b1).setCell ⟨g, j2, none⟩ b2).setCell ⟨g, j3, none⟩ b3).setCell ⟨g, j4, none⟩ b4).cell? ⟨k, j, none⟩ = some v := by
  have e : ∀ (W : World) (i : Nat) (u : Value), (W.setCell ⟨g, i, none⟩ u).cell? ⟨k, j, none⟩ = W.cell? ⟨k, j, none⟩ := fun W i u => World.cell?_of_block (Below.heap_setCell _ _ _ _ hn)
  rw [e, e, e, e, e]
  exact h
theorem cell_put3 {W : World} {g k j : Nat} {v : Value} {j0 j1 j2 : Nat} {b0 b1 b2 : Value} (h : W.cell? ⟨k, j, none⟩ = some v) (hn : k ≠ g) :
    (((W.setCell ⟨g, j0, none⟩ b0).setCell ⟨g, j1, none⟩ b1).setCell ⟨g, j2, none⟩ b2).cell? ⟨k, j, none⟩ = some v := by
  have e : ∀ (W : World) (i : Nat) (u : Value), (W.setCell ⟨g, i, none⟩ u).cell? ⟨k, j, none⟩ = W.cell? ⟨k, j, none⟩ := fun W i u => World.cell?_of_block (Below.heap_setCell _ _ _ _ hn)
  rw [e, e, e]
  exact h
theorem cell_drw {W : World} {a : Addr} {v : Value} (h : W.cell? a = some v) : W.drew.cell? a = some v := h
/-- What Do knows of memory behind a chunk that was made. -/
structure DoE (w W : World) (g : Nat) (k0 k1 k2 k3 k4 k5 k6 k7 k8 k9 k10 : Int) (gr p q res0 : Nat) (xs : List S51) (ov : Array Value) (g5 cap gt gb r : Nat) (mp sp : Value) (f N : Int) : Prop where
  m : IsM W g k0 k1 k2 k3 k4 k5 k6 k7 k8 k9 k10 (.slice (some ⟨g5, 0, none⟩) 1 cap) (.slice (some ⟨gr, 0, none⟩) xs.length xs.length)
  op : W.heap[p]? = some (.cells ov 25 (0, 0))
  x : W.heap[q]? = some (.cells #[.int .i64 0, .int .i64 0, .int .i64 0, .int .i64 0, .int .i64 0] 49 (0, 0))
  res : W.heap[res0]? = some (.cells #[.int .i64 0, .int .i64 0, .slice none 0 0] 35 (0, 0))
  rg : W.heap[gr]? = some (.cells (cells51 xs) 49 (0, 0))
  b : KB g w W
  hcap : 1 ≤ cap
  c : W.cell? ⟨g5, 0, none⟩ = some (.pointer (some ⟨gt, 0, none⟩))
  th : W.heap[gt]? = some (.cells #[.slice (some ⟨gb, 0, none⟩) r r, mp, .int .i64 r, sp, .bool true] 80 (0, 0))
  fl : W.heap[gb]? = some (.cells (fillTo r r f) 5 (0, 0))
  h0 : w.heap.size ≤ q
  q1 : q ≠ g
  q2 : q ≠ p
  q3 : q ≠ res0
  q4 : q ≠ gr
  n5 : q < g5 ∧ res0 < g5 ∧ gr < g5
  nt : q < gt ∧ res0 < gt ∧ gr < gt
  nb : q < gb ∧ res0 < gb ∧ gr < gb
  gg : p ≠ gr
  rg2 : gr ≠ g
/-- .. behind the store of the capability. -/
structure DoG (w W : World) (g : Nat) (k0 k1 k2 k3 k4 k5 k6 k7 k8 k9 k10 : Int) (gr p q res0 : Nat) (xs : List S51) (ov : Array Value) (g5 cap gt gb r : Nat) (mp sp : Value) (f N : Int) : Prop where
  m : IsM W g k0 k1 k2 k3 k4 k5 k6 k7 k8 k9 k10 (.slice (some ⟨g5, 0, none⟩) 1 cap) (.slice (some ⟨gr, 0, none⟩) xs.length xs.length)
  op : W.heap[p]? = some (.cells ov 25 (0, 0))
  x2 : W.heap[q]? = some (.cells #[.int .i64 1, .int .i64 0, .int .i64 N, .int .i64 0, .int .i64 31] 49 (0, 0))
  res : W.heap[res0]? = some (.cells #[.int .i64 0, .int .i64 0, .slice none 0 0] 35 (0, 0))
  rg : W.heap[gr]? = some (.cells (cells51 xs) 49 (0, 0))
  b : KB g w W
  hcap : 1 ≤ cap
  c : W.cell? ⟨g5, 0, none⟩ = some (.pointer (some ⟨gt, 0, none⟩))
  th : W.heap[gt]? = some (.cells #[.slice (some ⟨gb, 0, none⟩) r r, mp, .int .i64 r, sp, .bool true] 80 (0, 0))
  fl : W.heap[gb]? = some (.cells (fillTo r r f) 5 (0, 0))
  n5 : q < g5 ∧ res0 < g5 ∧ gr < g5
  nt : q < gt ∧ res0 < gt ∧ gr < gt
  nb : q < gb ∧ res0 < gb ∧ gr < gb
theorem doE_x {w W : World} {g : Nat} {k0 k1 k2 k3 k4 k5 k6 k7 k8 k9 k10 : Int} {gr p q res0 : Nat} {xs : List S51} {ov : Array Value} {g5 cap gt gb r : Nat} {mp sp : Value} {f N : Int} (H : Aside0 (DoE w W g k0 k1 k2 k3 k4 k5 k6 k7 k8 k9 k10 gr p q res0 xs ov g5 cap gt gb r mp sp f N)) :
    ∃ w6, (((((W.setCell ⟨q, 0, none⟩ (.int .i64 1)).setCell ⟨q, 1, none⟩ (.int .i64 0)).setCell ⟨q, 2, none⟩ (.int .i64 N)).setCell ⟨q, 3, none⟩ (.int .i64 0)).setCell ⟨q, 4, none⟩ (.int .i64 31)) = w6 ∧ Aside0 (DoG w w6 g k0 k1 k2 k3 k4 k5 k6 k7 k8 k9 k10 gr p q res0 xs ov g5 cap gt gb r mp sp f N) := by
  have h := H.out
  exact ⟨_, rfl, ⟨blk_puts h.m (fun e => h.q1 e.symm), blk_puts h.op (fun e => h.q2 e.symm), put5 _ _ _ _ _ h.x, blk_puts h.res (fun e => h.q3 e.symm), blk_puts h.rg (fun e => h.q4 e.symm), ((((h.b.high h.h0).high h.h0).high h.h0).high h.h0).high h.h0, h.hcap, cell_puts h.c (by have := h.n5; omega), blk_puts h.th (by have := h.nt; omega), blk_puts h.fl (by have := h.nb; omega), h.n5, h.nt, h.nb⟩⟩

set_option maxHeartbeats 8000000 in
set_option maxRecDepth 100000 in
theorem doNewBad (g : Nat) (k0 k1 k2 k3 k4 k5 k6 k7 k8 k9 k10 : Int) (gr : Nat) (xs : List S51) (kd th a b v nn mm : Int) (A : Option Addr) (dl dc : Nat) (pw fu : Bool) (w : World) (h : IsM w g k0 k1 k2 k3 k4 k5 k6 k7 k8 k9 k10 (.slice none 0 0) (.slice (some ⟨gr, 0, none⟩) xs.length xs.length)) (hr : w.heap[gr]? = some (.cells (cells51 xs) 49 (0, 0))) (hn : xs.length ≤ 64)
    (hreg : regsOk xs.length kd a b v = true) (hk8 : 1 ≤ k8) (hk8b : k8 ≤ 1000000000) (hpw : num_Power.f mm = some pw) (hk : kd = 1 ∨ kd = 2 ∨ kd = 3) (x : Int) (hx : newErr k3 k8 kd th nn mm pw fu = x) (hx0 : x = 1 ∨ x = 4 ∨ x = 13) :
    Calls Try.prog 8 #[.pointer (some ⟨g, 0, none⟩), .agg #[.int .i64 kd, .int .i64 th, .int .i64 a, .int .i64 b, .int .i64 v, .int .i64 nn, .int .i64 mm, .slice A dl dc], .bool fu] w fun e w' => e = .returned (.agg #[.int .i64 x, .int .i64 0, .slice none 0 0]) ∧ Below w.heap.size w w' := by
  have hu25 := Try.underlying25
  have hu35 := Try.underlying35
  have hu49 := Try.underlying49
  have hu59 := Try.underlying59
  have hu63 := Try.underlying63
  have hgg : gr ≠ g := blk_ne hr h (by decide)
  have hgl := blk_lt h
  have hrl := blk_lt hr
  obtain ⟨w1, hw1, hop, HM, HRG, HR, HB⟩ := do_boxes g k0 k1 k2 k3 k4 k5 k6 k7 k8 k9 k10 gr xs #[.int .i64 kd, .int .i64 th, .int .i64 a, .int .i64 b, .int .i64 v, .int .i64 nn, .int .i64 mm, .slice A dl dc] w h hr
  clear h hr
  obtain ⟨z0, z1, z2, z3, z4, z5, z6, z7⟩ := cells8 hop
  have HOP := Aside0.mk hop
  have HG := Aside0.mk (And.intro hgg (And.intro hgl hrl))
  clear hop hgg hgl hrl
  have hk1 : 1 ≤ kd := by omega
  have hk18 : kd ≤ 18 := by omega
  have HK := Aside0.mk hk
  have HX := Aside0.mk hx
  clear hx
  have hpw2 := Aside0.mk hpw
  rcases hk with rfl | rfl | rfl
  all_goals
    go_enter Try.func8, Try.ntmps8
    go_wp2_with fail
    have hh := registers g k0 k1 k2 k3 k4 k5 k6 k7 k8 k9 k10 (.slice none 0 0) (some ⟨gr, 0, none⟩) xs.length xs.length _ th a b v nn mm (.slice A dl dc) _ HM.out hk1 hk18
    rw [hreg] at hh
    refine hh.mono ?_
    rintro e w2 ⟨rfl, hb⟩
    obtain ⟨w3, hw3, HD⟩ := do_x g k0 k1 k2 k3 k4 k5 k6 k7 k8 k9 k10 gr xs _ w w1 w2 HM HOP.out HRG HR HB hb
    obtain ⟨y0, y1, y2, y3, y4, y5, y6, y7⟩ := cells8 HD.out.1.op
    clear hb hh z0 z1 z2 z3 z4 z5 z6 z7 hreg
    go_wp2_with fail
    refine (newBad g k0 k1 k2 k3 k4 k5 k6 k7 k8 k9 k10 (.slice (some ⟨gr, 0, none⟩) xs.length xs.length) _ th a b v nn mm (.slice A dl dc) pw fu _ (by exact HD.out.1.m) hk8 hk8b hpw (by first | exact Or.inl rfl | exact Or.inr (Or.inl rfl) | exact Or.inr (Or.inr rfl)) x HX.out (by omega)).mono ?_
    rintro e w5 ⟨rfl, hb5⟩
    have HD5 := Aside0.mk (DoF.below HD.out.1 hb5)
    obtain ⟨u0, u1, u2, u3, u4, t0, t1, t2, t3, t4⟩ := cells5 HD5.out.x
    obtain ⟨p0, p1, p2, q0, q1, q2⟩ := cells3 HD5.out.res
    clear hb5
    have hne2 : ¬ (w.heap.size + 1 = w2.heap.size) := by have hlt := HD.out.2; omega
    have hne1 : ¬ (w2.heap.size = w.heap.size + 1) := by have hlt := HD.out.2; omega
    rcases hx0 with rfl | rfl | rfl
    all_goals
      go_wp2
      refine bodyPost_ret (ret3 rfl _ _ (w.heap.size + 1) (.int .i64 0) (.int .i64 0) (.slice none 0 0) _ _ _ rfl (blk_put5 _ _ _ _ _ HD5.out.res hne2)) rfl ?_
      have hlt := HD.out.2
      exact ⟨rfl, below_set (below_set (below_set (below_set (below_set (below_set (below_set (below_set (by first | exact HD5.out.b | exact below_drew1 HD5.out.b) (by omega)) (by omega)) (by omega)) (by omega)) (by omega)) (by omega)) (by omega)) (by omega)⟩

set_option maxHeartbeats 8000000 in
set_option maxRecDepth 100000 in
theorem doNewGood (g : Nat) (k0 k1 k2 k3 k4 k5 k6 k7 k8 k9 k10 : Int) (gr : Nat) (xs : List S51) (kd th a b v nn mm : Int) (A : Option Addr) (dl dc : Nat) (pw fu : Bool) (w : World) (h : IsM w g k0 k1 k2 k3 k4 k5 k6 k7 k8 k9 k10 (.slice none 0 0) (.slice (some ⟨gr, 0, none⟩) xs.length xs.length)) (hr : w.heap[gr]? = some (.cells (cells51 xs) 49 (0, 0))) (hn : xs.length ≤ 64)
    (hreg : regsOk xs.length kd a b v = true) (hk8 : 1 ≤ k8) (hk8b : k8 ≤ 1000000000) (hpw : num_Power.f mm = some pw) (hk : kd = 1 ∨ kd = 2 ∨ kd = 3) (hx : newErr k3 k8 kd th nn mm pw fu = 0) (hia : inRegs xs.length a = true) (kk r : Nat) (hmr : model_room.f kk (newN kd nn mm) (newAl kd mm) = some (r : Int)) (hr1 : 1 ≤ r) (hr2 : r ≤ 1000000) :
    Calls Try.prog 8 #[.pointer (some ⟨g, 0, none⟩), .agg #[.int .i64 kd, .int .i64 th, .int .i64 a, .int .i64 b, .int .i64 v, .int .i64 nn, .int .i64 mm, .slice A dl dc], .bool fu] w fun e w' => e = .returned (.agg #[.int .i64 0, .int .i64 0, .slice none 0 0]) ∧ KB2 g gr w w' ∧ w'.heap[gr]? = some (.cells (cells51 (xs.set a.toNat ⟨1, 0, newN kd nn mm, 0, 31⟩)) 49 (0, 0)) ∧
      ∃ g5 cap gt gb mp sp, IsM w' g k0 k1 k2 k3 k4 k5 k6 k7 k8 k9 k10 (.slice (some ⟨g5, 0, none⟩) 1 cap) (.slice (some ⟨gr, 0, none⟩) xs.length xs.length) ∧ 1 ≤ cap ∧ w'.cell? ⟨g5, 0, none⟩ = some (.pointer (some ⟨gt, 0, none⟩)) ∧
        w'.heap[gt]? = some (.cells #[.slice (some ⟨gb, 0, none⟩) r r, mp, .int .i64 r, sp, .bool true] 80 (0, 0)) ∧ w'.heap[gb]? = some (.cells (fillTo r r (newFill kd k9)) 5 (0, 0)) := by
  have hu25 := Try.underlying25
  have hu35 := Try.underlying35
  have hu49 := Try.underlying49
  have hu59 := Try.underlying59
  have hu63 := Try.underlying63
  have hgg : gr ≠ g := blk_ne hr h (by decide)
  have hgl := blk_lt h
  have hrl := blk_lt hr
  obtain ⟨w1, hw1, hop, HM, HRG, HR, HB⟩ := do_boxes g k0 k1 k2 k3 k4 k5 k6 k7 k8 k9 k10 gr xs #[.int .i64 kd, .int .i64 th, .int .i64 a, .int .i64 b, .int .i64 v, .int .i64 nn, .int .i64 mm, .slice A dl dc] w h hr
  clear h hr
  obtain ⟨z0, z1, z2, z3, z4, z5, z6, z7⟩ := cells8 hop
  have HOP := Aside0.mk hop
  have HG := Aside0.mk (And.intro hgg (And.intro hgl hrl))
  clear hop hgg hgl hrl
  have hk1 : 1 ≤ kd := by omega
  have hk18 : kd ≤ 18 := by omega
  have HK := Aside0.mk hk
  have HX := Aside0.mk hx
  clear hx
  have HMR := Aside0.mk hmr
  clear hmr
  obtain ⟨ha0, ha1⟩ := in_regs hia
  have pa : (0 ≤ a) = True := eq_true ha0
  have pb : (a < (xs.length : Int)) = True := eq_true ha1
  clear hia
  obtain ⟨N, hN⟩ : ∃ N, newN kd nn mm = N := ⟨_, rfl⟩
  have HN := Aside0.mk hN
  rw [hN]
  clear hN
  obtain ⟨fl, hfl⟩ : ∃ fl, newFill kd k9 = fl := ⟨_, rfl⟩
  have HFL := Aside0.mk hfl
  rw [hfl]
  clear hfl
  rcases hk with rfl | rfl | rfl
  all_goals
    go_enter Try.func8, Try.ntmps8
    go_wp2_with fail
    have hh := registers g k0 k1 k2 k3 k4 k5 k6 k7 k8 k9 k10 (.slice none 0 0) (some ⟨gr, 0, none⟩) xs.length xs.length _ th a b v nn mm (.slice A dl dc) _ HM.out hk1 hk18
    rw [hreg] at hh
    refine hh.mono ?_
    rintro e w2 ⟨rfl, hb⟩
    obtain ⟨w3, hw3, HD⟩ := do_x g k0 k1 k2 k3 k4 k5 k6 k7 k8 k9 k10 gr xs _ w w1 w2 HM HOP.out HRG HR HB hb
    obtain ⟨y0, y1, y2, y3, y4, y5, y6, y7⟩ := cells8 HD.out.1.op
    clear hb hh z0 z1 z2 z3 z4 z5 z6 z7 hreg
    go_wp2_with fail
    have hh := newGood g k0 k1 k2 k3 k4 k5 k6 k7 k8 k9 k10 (.slice (some ⟨gr, 0, none⟩) xs.length xs.length) _ th a b v nn mm (.slice A dl dc) pw fu _ (by exact HD.out.1.m) hk8 hk8b hpw (by first | exact Or.inl rfl | exact Or.inr (Or.inl rfl) | exact Or.inr (Or.inr rfl)) HX.out kk r HMR.out hr1 hr2
    rw [HN.out, HFL.out] at hh
    refine hh.mono ?_
    rintro e w5 ⟨rfl, hkb, g5, cap, gt, gb, mp, sp, hm, hcap, hc, hth, hfl, hgt, hgb, hg5⟩
    have hpl := blk_lt HD.out.1.op
    have hql := blk_lt HD.out.1.x
    have hrl := blk_lt HD.out.1.res
    have hgrl := blk_lt HD.out.1.rg
    have hlt := HD.out.2
    have hgs := HG.out
    have HE := Aside0.mk (show DoE w w5 g k0 k1 k2 k3 k4 k5 k6 k7 k8 k9 k10 gr w.heap.size w2.heap.size (w.heap.size + 1) xs _ g5 cap gt gb r mp sp fl N from ⟨hm, (hkb.block _ hpl (by omega)).trans HD.out.1.op, (hkb.block _ hql (by omega)).trans HD.out.1.x, (hkb.block _ hrl (by omega)).trans HD.out.1.res, (hkb.block _ hgrl (by omega)).trans HD.out.1.rg, (KB.of HD.out.1.b).step hkb, hcap, hc, hth, hfl, by omega, by omega, by omega, by omega, by omega, by omega, by omega, by omega, by omega, hgs.1⟩)
    obtain ⟨w6, hw6, HF⟩ := doE_x HE
    clear hkb hm hcap hc hth hfl hgt hgb hg5 hpl hql hrl hgrl hlt hgs hh
    have hee := HE.out
    obtain ⟨s0, s1, s2, s3, s4, t0, t1, t2, t3, t4⟩ := cells5 hee.x
    obtain ⟨u0, u1, u2, u3, u4, _, _, _, _, _⟩ := cells5 HF.out.x2
    obtain ⟨p0, p1, p2, q0, q1, q2⟩ := cells3 HF.out.res
    obtain ⟨v0, v1, v2, v3, v4, v5, v6, v7⟩ := cells8 HF.out.op
    have e12 := cells13 HF.out.m
    obtain ⟨po, o0, o1, o2, o3, o4, f0, f1, f2, f3, f4⟩ := regs_old HF.out.rg a ha0 ha1
    clear hee
    have hq1 : ¬ (gr = w.heap.size + 1) := by have hq := HG.out.2.2; omega
    have hq2 : ¬ (w.heap.size + 1 = gr) := by have hq := HG.out.2.2; omega
    go_upto_region 29 with fail
    go_region
    all_goals
      go_wp2
      refine bodyPost_ret (ret3g rfl _ _ (w.heap.size + 1) (.int .i64 0) (.int .i64 0) (.slice none 0 0) rfl (by first | (with_reducible exact blk_drew (put3 _ _ _ (blk_puts HF.out.res hq2))) | exact blk_drew (blk_drew (put3 _ _ _ (blk_puts HF.out.res hq2))))) rfl ?_
      have hl := HF.out
      have hgs := HG.out
      refine ⟨rfl, ?_, blk_drew (blk_put3 (regs_set hl.rg a.toNat ⟨1, 0, N, 0, 31⟩ (by omega)) hq1), g5, cap, gt, gb, mp, sp, ?_, hl.hcap, ?_, ?_, ?_⟩
      · exact KB2.step (((KB2.high (KB2.step (KB2.of1 hl.b) (KB2.of2 (KB.put5 (KB.of (Below.refl _ _))))) (by omega)).high (by omega)).high (by omega)) (KB2.of1 (KB.of (below_drew1 (Below.refl _ _))))
      · exact blk_drew (blk_put3 (blk_puts hl.m (fun e => hgs.1 e.symm)) (by omega))
      · exact cell_drw (cell_put3 (cell_puts hl.c (by have hq := hl.n5; omega)) (by have hq := hl.n5; omega))
      · exact blk_drew (blk_put3 (blk_puts hl.th (by have hq := hl.nt; omega)) (by have hq := hl.nt; omega))
      · exact blk_drew (blk_put3 (blk_puts hl.fl (by have hq := hl.nb; omega)) (by have hq := hl.nb; omega))
    
end Go.Proofs.Ytneejihmakfaoaa.OwnModel
