/- YtifakhddmlalcabQNumTextsx2: the functions that the law NumTexts uses, each as a Lean function with the proof that the call tells the same. Turned out of the print of print.sh by qprint.py (own sections: bits_Len64, perm_Show). Conditions: none beyond each theorem's own. -/
import Derived.Test.YtifakhddmlalcabQNumTextsx0
import Derived.Test.YtifakhddmlalcabQNumTextsx1
namespace Go.Proofs.Ytifakhddmlalcab.QNumTexts
open Go.RowKit Go.Proofs.YtifakhddmlalcabW.PrintWords Go.Proofs.YtifakhddmlalcabW.PrintLast Go.Proofs.YtifakhddmlalcabW.PrintMore
attribute [local go_sem] max2_int min2_int max_two min_two max_three min_three max_four min_four   -- for this text's walks alone
set_option linter.unusedVariables false
set_option linter.unusedSimpArgs false

/-! ### num_Parse: function 9 -/
/-- The digits from a place on, behind a number: none where one is no digit. -/
def num_Parse.scan (s : ByteArray) : Nat → Nat → Int → Option Int
  | 0, _, n => some n
  | d + 1, pos, n => if bt s (pos : Int) < 48 ∨ 57 < bt s (pos : Int) then none else num_Parse.scan s d (pos + 1) (n * 10 + (bt s (pos : Int) - 48))
def num_Parse.f (k : Nat) (a0 : ByteArray) (a1 : Int) : Option (Int × Bool) :=
  if a0.size = 0 ∨ 15 < a0.size then some (0, false)
  else match num_Parse.scan a0 a0.size 0 0 with
    | none => some (0, false)
    | some n => (num_Digits.f k n).bind fun t => if t.toList = a0.toList then (if n > a1 then some (0, false) else some (n, true)) else some (0, false)
theorem num_Parse.mono : ∀ a0 a1 k, LeO (num_Parse.f k a0 a1) (num_Parse.f (k + 1) a0 a1) := by
  intro a0 a1 k
  unfold num_Parse.f
  refine LeO.ite (LeO.refl _) ?_
  split
  · exact LeO.refl _
  · exact LeO.bind (num_Digits.mono _ _) (fun _ => LeO.refl _)
theorem num_Parse.high (s : ByteArray) (pos : Nat) (h : pos < s.size) (ha : ¬ bt s (pos : Int) < 128) : 57 < ((Utf8.decode s pos).1 : Int) := by
  have e : bt s (pos : Int) = ((s[pos]'h).toNat : Int) := by unfold bt; rw [dif_pos (by simpa using h)]; rfl
  have := (decode_high s pos h (by omega)).1
  omega
set_option maxHeartbeats 2000000 in
set_option maxRecDepth 100000 in
theorem num_Parse.loop (k : Nat) (a0 : ByteArray) (a1 : Int) (r1 : Int) (r2 : Bool) (w : World) (h15 : a0.size ≤ 15) (hne : a0.toList.isEmpty = false)
    (h : (match num_Parse.scan a0 a0.size 0 0 with
    | none => some (0, false)
    | some n => (num_Digits.f k n).bind fun t => if t.toList = a0.toList then (if n > a1 then some (0, false) else some (n, true)) else some (0, false)) = some (r1, r2)) :
    Calls Try.prog 9 #[.string a0, .int .i64 a1] w fun e w' => e = .returned (.tuple #[.int .i64 r1, .bool r2]) ∧ Below w.heap.size w w' := by
  have HB := Aside0.mk (Below.refl w.heap.size w)
  have h15b : ¬ (15 : Int) < (a0.size : Int) := by omega
  have H15 := Aside0.mk h15
  have HH := Aside0.mk h
  clear h h15
  go_enter Try.func9, Try.ntmps9
  go_wp2
  go_loopw [6] (fun v6 w' => ∃ (pos : Nat) (n : Int), w' = w.iter a0 pos ∧ v6 = .int .i64 n ∧ Aside0 (num_Parse.scan a0 (a0.size - pos) pos n = num_Parse.scan a0 a0.size 0 0) ∧ pos ≤ a0.size ∧ 0 ≤ n ∧ Aside0 (n < 10 ^ pos)) (fun _ w' => a0.size - w'.iterPos w.heap.size)
  case atStart => exact ⟨0, 0, rfl, rfl, ⟨rfl⟩, by omega, by omega, ⟨by decide⟩⟩
  case round =>
    obtain ⟨pos, n, rfl, rfl, HS, hpos, hn0, HN⟩ := hrel
    have hle : n < 10 ^ pos := HN.out
    have hpw : (10 : Int) ^ pos ≤ 10 ^ 15 := by
      have : (10 : Nat) ^ pos ≤ 10 ^ 15 := Nat.pow_le_pow_right (by decide) (by have := H15.out; omega)
      exact_mod_cast this
    have hn1 : n ≤ 999999999999999 := by omega
    clear hle hpw
    by_cases hp : pos < a0.size
    · have e : bt a0 (pos : Int) = ((a0[pos]'hp).toNat : Int) := by unfold bt; rw [dif_pos (by simpa using hp)]; rfl
      have hsc : num_Parse.scan a0 (a0.size - pos) pos n = if bt a0 (pos : Int) < 48 ∨ 57 < bt a0 (pos : Int) then none else num_Parse.scan a0 (a0.size - (pos + 1)) (pos + 1) (n * 10 + (bt a0 (pos : Int) - 48)) := by
        rw [show a0.size - pos = (a0.size - (pos + 1)) + 1 by omega]; rfl
      have HC := Aside0.mk hsc
      clear hsc
      by_cases hd : 48 ≤ bt a0 (pos : Int) ∧ bt a0 (pos : Int) ≤ 57
      · obtain ⟨hd1, hd2⟩ := hd
        have hnx : ∀ ty, (Instr.next (.pointer (some ⟨w.heap.size, 0, none⟩)) true ty).run Try.prog (w.iter a0 pos) = .ok (.tuple #[.bool true, .int .i64 pos, .int .i32 (bt a0 (pos : Int))]) (w.iter a0 (pos + 1)) := fun ty => by rw [e]; exact run_next_ascii w a0 pos ty hp (by omega)
        generalize hb : bt a0 (pos : Int) = b at hd1 hd2 hnx HC
        clear e hb
        go_wp2
        go_roundw
        case rel =>
          refine ⟨pos + 1, n * 10 + (b - 48), rfl, rfl, ⟨?_⟩, by omega, by omega, ⟨?_⟩⟩
          · rw [← HS.out, HC.out, if_neg (by omega)]
          · have hle : n < 10 ^ pos := HN.out
            rw [Int.pow_succ]; omega
        case measure =>
          simp
          omega
      · have hs : num_Parse.scan a0 a0.size 0 0 = none := by rw [← HS.out, HC.out, if_pos (by omega)]
        have h2 := HH.out
        rw [hs] at h2
        simp only [Option.some.injEq, Prod.mk.injEq] at h2
        obtain ⟨rfl, rfl⟩ := h2
        clear hs HH HC HS
        have hnx : ∀ ty, (Instr.next (.pointer (some ⟨w.heap.size, 0, none⟩)) true ty).run Try.prog (w.iter a0 pos) = .ok (.tuple #[.bool true, .int .i64 pos, .int .i32 (Utf8.decode a0 pos).1]) (w.iter a0 (pos + (Utf8.decode a0 pos).2)) := fun ty => run_next_any w a0 pos ty hp
        have hbad : ((Utf8.decode a0 pos).1 : Int) < 48 ∨ 57 < ((Utf8.decode a0 pos).1 : Int) := by
          by_cases ha : bt a0 (pos : Int) < 128
          · have := decode_ascii a0 pos hp (by omega)
            rw [this]
            omega
          · exact .inr (num_Parse.high a0 pos hp ha)
        generalize (Utf8.decode a0 pos).1 = c at hnx hbad
        generalize pos + (Utf8.decode a0 pos).2 = q at hnx
        clear e hd
        rcases hbad with hbad | hbad
        · go_wp2
          go_ret2
          exact ⟨rfl, below_alloc HB.out _⟩
        · go_wp2
          go_ret2
          exact ⟨rfl, below_alloc HB.out _⟩
    · have hnx : ∀ ty, (Instr.next (.pointer (some ⟨w.heap.size, 0, none⟩)) true ty).run Try.prog (w.iter a0 pos) = .ok (.tuple #[.bool false]) (w.iter a0 pos) := fun ty => run_next_end w a0 pos ty hp
      have hs : num_Parse.scan a0 a0.size 0 0 = some n := by
        rw [← HS.out, show a0.size - pos = 0 by omega]; rfl
      have h2 := HH.out
      rw [hs] at h2
      obtain ⟨t, ht, h2⟩ := Option.bind_eq_some_iff.mp h2
      have HT := Aside0.mk ht
      have HB2 := Aside0.mk (below_alloc HB.out (.stringIter a0 pos) : Below w.heap.size w (w.iter a0 pos))
      clear hs HH HS ht
      by_cases c1 : t.toList = a0.toList
      · rw [if_pos c1] at h2
        have c1b : (t.toList == a0.toList) = true := beq_iff_eq.mpr c1
        have c1c : (t.toList != a0.toList) = false := bne_eq_false_iff_eq.mpr c1
        clear c1
        by_cases c2 : n > a1
        · rw [if_pos c2] at h2
          simp only [Option.some.injEq, Prod.mk.injEq] at h2
          obtain ⟨rfl, rfl⟩ := h2
          go_wp2_with (first | (go_at_call 10; refine (num_Digits.calls k n t _ HT.out).mono ?_; rintro e w' ⟨rfl, hb⟩))
          go_ret2
          exact ⟨rfl, below_step HB2.out hb⟩
        · rw [if_neg c2] at h2
          simp only [Option.some.injEq, Prod.mk.injEq] at h2
          obtain ⟨rfl, rfl⟩ := h2
          go_wp2_with (first | (go_at_call 10; refine (num_Digits.calls k n t _ HT.out).mono ?_; rintro e w' ⟨rfl, hb⟩))
          go_ret2
          exact ⟨rfl, below_step HB2.out hb⟩
      · rw [if_neg c1] at h2
        have c1b : (t.toList == a0.toList) = false := beq_eq_false_iff_ne.mpr c1
        have c1c : (t.toList != a0.toList) = true := bne_iff_ne.mpr c1
        clear c1
        simp only [Option.some.injEq, Prod.mk.injEq] at h2
        obtain ⟨rfl, rfl⟩ := h2
        go_wp2_with (first | (go_at_call 10; refine (num_Digits.calls k n t _ HT.out).mono ?_; rintro e w' ⟨rfl, hb⟩))
        go_ret2
        exact ⟨rfl, below_step HB2.out hb⟩
set_option maxHeartbeats 2000000 in
set_option maxRecDepth 100000 in
theorem num_Parse.calls (k : Nat) (a0 : ByteArray) (a1 : Int) (r1 : Int) (r2 : Bool) (w : World) (h : num_Parse.f k a0 a1 = some (r1, r2)) :
    Calls Try.prog 9 #[.string a0, .int .i64 a1] w fun e w' => e = .returned (.tuple #[.int .i64 r1, .bool r2]) ∧ Below w.heap.size w w' := by
  have HB := Aside0.mk (Below.refl w.heap.size w)
  unfold num_Parse.f at h
  by_cases hz : a0.size = 0
  · rw [if_pos (.inl hz)] at h
    simp only [Option.some.injEq, Prod.mk.injEq] at h
    obtain ⟨rfl, rfl⟩ := h
    obtain rfl : a0 = ⟨#[]⟩ := ByteArray.ext (Array.eq_empty_of_size_eq_zero hz)
    clear hz
    go_enter Try.func9, Try.ntmps9
    go_wp2
    go_ret2
    exact ⟨rfl, HB.out⟩
  · have hne : a0.toList.isEmpty = false := by
      rw [ByteArray.toList_eq]
      cases hl : a0.data.toList with
      | nil => exact absurd (show a0.size = 0 by rw [← ByteArray.size_data, ← Array.length_toList, hl]; rfl) hz
      | cons x l => rfl
    by_cases h15 : 15 < a0.size
    · rw [if_pos (.inr h15)] at h
      simp only [Option.some.injEq, Prod.mk.injEq] at h
      obtain ⟨rfl, rfl⟩ := h
      have h15' : (15 : Int) < (a0.size : Int) := by omega
      go_enter Try.func9, Try.ntmps9
      go_wp2
      go_ret2
      exact ⟨rfl, HB.out⟩
    · rw [if_neg (by omega)] at h
      exact num_Parse.loop k a0 a1 r1 r2 w (by omega) hne h


end Go.Proofs.Ytifakhddmlalcab.QNumTexts
