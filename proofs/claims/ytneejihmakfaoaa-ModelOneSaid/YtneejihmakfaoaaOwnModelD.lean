/- Walks of the model's functions by hand: slices.Repeat of one byte. Conditions: the count is small. -/
import Derived.Test.YtneejihmakfaoaaOwnModelC
import Derived.Test.YtneejihmakfaoaaQModelOnex2
import Derived.Laws.IdiomCopy
import Derived.Laws.CopyOwn
import Derived.Test.YtneejihmakfaoaaOwnMask
namespace Go.Proofs.Ytneejihmakfaoaa.OwnModel
open Go.RowKit Go.Proofs.Ytneejihmakfaoaa.OwnMask Go.Proofs.Ytneejihmakfaoaa.QModelOne Go.Proofs.YtneejihmakfaoaaW.PrintWords Go.Proofs.YtneejihmakfaoaaW.PrintLast Go.Proofs.YtneejihmakfaoaaW.PrintMore
set_option linter.unusedVariables false
set_option linter.unusedSimpArgs false
/-- n bytes f, then noughts. -/
def fillTo (r n : Nat) (f : Int) : Array Value := (List.replicate n (Value.int .u8 f) ++ List.replicate (r - n) (Value.int .u8 0)).toArray

theorem made_zeros (r : Nat) (f : Int) : madeCells #[.int .u8 0] r = fillTo r 0 f := by
  unfold fillTo
  apply Array.ext'
  simp [madeCells]
  apply List.ext_getElem
  · simp
  · intro i h1 h2
    simp [Nat.mod_one]
theorem fill_step (r n m : Nat) (f : Int) (h : n + m ≤ r) : ((fillTo r n f).toList.take n ++ List.replicate m (Value.int .u8 f) ++ (fillTo r n f).toList.drop (n + m)).toArray = fillTo r (n + m) f := by
  unfold fillTo
  congr 1
  have e1 : (List.replicate n (Value.int .u8 f) ++ List.replicate (r - n) (Value.int .u8 0)).take n = List.replicate n (Value.int .u8 f) := by
    rw [List.take_left' (by simp)]
  have e2 : (List.replicate n (Value.int .u8 f) ++ List.replicate (r - n) (Value.int .u8 0)).drop (n + m) = List.replicate (r - (n + m)) (Value.int .u8 0) := by
    rw [List.drop_append, List.drop_eq_nil_of_le (by simp), List.nil_append, List.drop_replicate]
    congr 1
    simp
    omega
  rw [e1, e2, List.replicate_append_replicate]
theorem fill_size (r n : Nat) (f : Int) (h : n ≤ r) : (fillTo r n f).size = r := by
  unfold fillTo
  simp
  omega
theorem fill_at (r n j : Nat) (f : Int) (h : j < n) : (fillTo r n f)[j]? = some (.int .u8 f) := by
  unfold fillTo
  simp [List.getElem?_append, h]
theorem copy_fill (r n m sl sc dl dc gb : Nat) (f : Int) (a : Addr) (W : World) (hg : W.heap[gb]? = some (.cells (fillTo r n f) 5 (0, 0))) (hm : m = Nat.min sl dl) (hfit : n + m ≤ r) (hsrc : ∀ j, j < m → W.cell? (a.add j) = some (.int .u8 f)) :
    (Builtin.copy_ #[23, 23] 3 #[.slice (some ⟨gb, n, none⟩) dl dc, .slice (some a) sl sc]).run Try.prog W = .ok (.int .i64 (m : Int)) (W.setRow gb (fillTo r (n + m) f)) := by
  obtain ⟨i, hi, hz, hsz, hby⟩ := info_parts info5
  have h := run_copy_row (P := Try.prog) W 23 23 3 5 gb n dl dc a sl sc (fillTo r n f) 5 (List.replicate m (.int .u8 f)) Try.underlying23 (by rw [hi]; simp [hsz]) hg (by rw [List.length_replicate]; exact hm)
    (by intro j v hj; rw [List.getElem?_replicate] at hj; split at hj
        · obtain rfl := Option.some.inj hj; exact hsrc j (by assumption)
        · cases hj) (by rw [List.length_replicate, fill_size r n f (by omega)]; exact hfit) (by intro v hv; obtain rfl := List.eq_of_mem_replicate hv; rfl)
  rw [h, List.length_replicate, fill_step r n m f hfit]
  rfl

theorem mul_one (r : Nat) (h : r ≤ 1000000000) : bits_Mul.f 1 (r : Int) = some (0, (r : Int)) := by
  have e1 : (1 : Int) / 4294967296 = 0 := by decide
  have e2 : (r : Int) / 4294967296 = 0 := by omega
  have m0 : Go.bits .and .u64 0 4294967295 = 0 := by rw [and_low_u64 _ (by omega) (by omega)]; rfl
  have m1 : Go.bits .and .u64 1 4294967295 = 1 := by rw [and_low_u64 _ (by omega) (by omega)]; rfl
  have m2 : Go.bits .and .u64 (r : Int) 4294967295 = r := by rw [and_low_u64 _ (by omega) (by omega)]; omega
  have z : IntKind.u64.wrap 0 = 0 := IntWalk.u64_in _ (by omega)
  have zr : IntKind.u64.wrap (r : Int) = r := IntWalk.u64_in _ (by omega)
  unfold bits_Mul.f bits_Mul64.f
  simp only [e1, e2, m1, m2, m0, z, zr, Int.zero_mul, Int.mul_zero, Int.one_mul, Int.zero_add, Int.add_zero, Int.zero_ediv, Option.bind_some]

set_option maxHeartbeats 2000000 in
set_option maxRecDepth 100000 in
theorem repeatOne (ad : Addr) (cx : Nat) (f : Int) (r : Nat) (w : World) (h0 : 1 ≤ r) (h1 : r ≤ 1000000) (hx : w.cell? ad = some (.int .u8 f)) :
    Calls Try.prog 54 #[.slice (some ad) 1 cx, .int .i64 r] w fun e w' => ∃ gb, w.heap.size ≤ gb ∧ e = .returned (.slice (some ⟨gb, 0, none⟩) r r) ∧ w'.heap[gb]? = some (.cells (fillTo r r f) 5 (0, 0)) ∧ Below w.heap.size w w' := by
  have hu23 := Try.underlying23
  have hc : IntKind.u64.wrap (r : Int) = r := IntWalk.u64_in _ (by omega)
  have hc2 : IntKind.i64.wrap (r : Int) = r := (i64_w _).trans (by unfold wrap64; omega)
  have d0 : decide ((r : Int) < 0) = false := decide_eq_false (by omega)
  go_enter Try.func54, Try.ntmps54
  go_wp2_with fail
  refine (bits_Mul.calls 1 r 0 r _ (mul_one r (by omega))).mono ?_
  rintro e w1 ⟨rfl, hd⟩
  have hb1 : Below w.heap.size w w1 := hd.below
  have hx1 : w1.cell? ad = some (.int .u8 f) := (hb1.cell (World.block_lt_of_cell? w _ hx)).trans hx
  have d1 : decide ((9223372036854775807 : Int) < r) = false := decide_eq_false (by omega)
  have hms : ∀ W : World, (Instr.makeSlice 23 (.int .i64 (r : Int)) (.int .i64 (r : Int))).run Try.prog W = .ok (.slice (some ⟨W.heap.size, 0, none⟩) r r) (W.alloc (.cells (fillTo r 0 f) 5)) := by
    intro W
    rw [print_make 23 5 .u8 1 Try.underlying23 info5 (by decide) r (by omega) W, made_zeros r f]
  have hcp : (Builtin.copy_ #[23, 23] 3 #[.slice (some ⟨w1.heap.size, 0, none⟩) r r, .slice (some ad) 1 cx]).run Try.prog (w1.alloc (.cells (fillTo r 0 f) 5)) = .ok (.int .i64 1) ((w1.alloc (.cells (fillTo r 0 f) 5)).setRow w1.heap.size (fillTo r 1 f)) := by
    have h := copy_fill r 0 1 1 cx r r w1.heap.size f ad (w1.alloc (.cells (fillTo r 0 f) 5)) (blk_new _ _) (by show 1 = min 1 r; omega) (by omega) (by
      intro j hj
      obtain rfl : j = 0 := by omega
      exact cell_alloc1 (by simpa [Addr.add] using hx1) _)
    simpa using h
  have hg2 : ((w1.alloc (.cells (fillTo r 0 f) 5)).setRow w1.heap.size (fillTo r 1 f)).heap[w1.heap.size]? = some (.cells (fillTo r 1 f) 5 (0, 0)) := setRow_heap _ _ _ _ _ _ (blk_new _ _)
  have hb2 : Below w.heap.size w ((w1.alloc (.cells (fillTo r 0 f) 5)).setRow w1.heap.size (fillTo r 1 f)) := below_setRow (below_alloc hb1 _) hb1.size _
  have hge := hb1.size
  have HG2 := Aside0.mk hg2
  have HB2 := Aside0.mk hb2
  clear hg2 hb2
  go_wp2_with fail
  clear hcp hms
  go_loopw [8] (fun v8 wr => ∃ n : Nat, 1 ≤ n ∧ n ≤ r ∧ v8 = .int .i64 n ∧ Aside0 (wr.heap[w1.heap.size]? = some (.cells (fillTo r n f) 5 (0, 0))) ∧ Aside0 (Below w.heap.size w wr)) (fun v8 _ => r - (intOf v8).toNat)
  case atStart => exact ⟨1, by omega, by omega, rfl, HG2, HB2⟩
  case round =>
    clear HG2 HB2
    obtain ⟨n, hn1, hn2, rfl, HG, HB⟩ := hrel
    by_cases c : n < r
    · have e1 : decide ((n : Int) < (r : Int)) = true := decide_eq_true (by omega)
      have s1 : (0 ≤ (n : Int)) = True := eq_true (by omega)
      have s2 : ((n : Int) ≤ (r : Int)) = True := eq_true (by omega)
      obtain ⟨m, hm⟩ : ∃ m, m = Nat.min n (r - n) := ⟨_, rfl⟩
      have hm1 : m ≤ r - n ∧ m ≤ n ∧ 1 ≤ m := by rw [hm]; show min n (r - n) ≤ r - n ∧ min n (r - n) ≤ n ∧ 1 ≤ min n (r - n); omega
      have hsum : IntKind.i64.wrap ((n : Int) + (m : Int)) = ((n + m : Nat) : Int) := (i64_w _).trans (by unfold wrap64; omega)
      have hsub : ((r : Int) - (n : Int)).toNat = r - n := by omega
      have hgd := blk_drew HG.out
      have hcp : (Builtin.copy_ #[23, 23] 3 #[.slice (some ⟨w1.heap.size, n, none⟩) (r - n) (r - n), .slice (some ⟨w1.heap.size, 0, none⟩) n r]).run Try.prog wr.drew = .ok (.int .i64 (m : Int)) (wr.drew.setRow w1.heap.size (fillTo r (n + m) f)) := by
        refine copy_fill r n m n r (r - n) (r - n) w1.heap.size f ⟨w1.heap.size, 0, none⟩ wr.drew hgd hm (by omega) (fun i hi => ?_)
        have h := blk_cell hgd i
        rw [fill_at r n i f (by omega)] at h
        rwa [show (⟨w1.heap.size, 0, none⟩ : Addr).add i = ⟨w1.heap.size, i, none⟩ by unfold Addr.add; split <;> simp_all]
      have HG3 := Aside0.mk (setRow_heap _ _ _ (fillTo r (n + m) f) _ _ hgd)
      have HB3 := Aside0.mk (below_setRow (below_drew1 HB.out) hge (fillTo r (n + m) f))
      clear hgd
      clear hm
      go_wp2_with fail
      go_region
      go_wp2
      exact ⟨⟨n + m, by omega, by omega, rfl, HG3, HB3⟩, by simp only [intOf]; omega⟩
    · have e1 : decide ((n : Int) < (r : Int)) = false := decide_eq_false (by omega)
      obtain rfl : n = r := by omega
      go_wp2
      go_ret
      exact ⟨w1.heap.size, hge, rfl, HG.out, HB.out⟩

end Go.Proofs.Ytneejihmakfaoaa.OwnModel
