/- Plain laws for the model: rooms, powers of two, how an allocator may be made. Conditions: those of each theorem. -/
import Derived.Test.YtneejihmakfaoaaQModelOnex4
import Derived.Test.YtneejihmakfaoaaOwnRefD
namespace Go.Proofs.Ytneejihmakfaoaa.OwnModel
open Go.RowKit Go.Proofs.Ytneejihmakfaoaa.OwnMask Go.Proofs.Ytneejihmakfaoaa.QModelOne Go.Proofs.YtneejihmakfaoaaW.PrintWords Go.Proofs.YtneejihmakfaoaaW.PrintLast Go.Proofs.YtneejihmakfaoaaW.PrintMore
set_option linter.unusedVariables false
set_option linter.unusedSimpArgs false
def hv : Nat → Nat → Nat
  | 0, n => n
  | f + 1, n => if 1 < n ∧ n % 2 = 0 then hv f (n / 2) else n
theorem hv_odd (f : Nat) : ∀ n, n < 2 ^ f → oddEnd n = hv f n := by
  induction f with
  | zero => intro n h; have : n = 0 := by simpa using h
            subst this; rw [oddEnd]; rfl
  | succ f ih =>
    intro n h
    rw [oddEnd, hv]
    by_cases c : 1 < n ∧ n % 2 = 0
    · rw [dif_pos c, if_pos c]; exact ih _ (by rw [Nat.pow_succ] at h; omega)
    · rw [dif_neg c, if_neg c]
theorem pow_small : ∀ n, n < 257 → 1 ≤ n → (num_Power.f ((n : Nat) : Int) == some true) = (hv 9 n == 1) ∧ (num_Power.f ((n : Nat) : Int)).isSome = true ∧ (num_Power.f ((n : Nat) : Int) = some true → ((num_Up.f 16 ((n : Nat) : Int)).any fun t => decide (1 ≤ t) && decide (t ≤ 256)) = true) := by decide +kernel
theorem pow_tot (a : Int) : ∃ p, num_Power.f a = some p := by
  unfold num_Power.f
  split
  · exact ⟨_, rfl⟩
  · exact ⟨_, rfl⟩
theorem pow_ref (a : Int) (h : a ≤ 256) (p : Bool) (hp : num_Power.f a = some p) : p = true ↔ refEnd a = 1 := by
  by_cases h1 : 1 ≤ a
  · obtain ⟨n, rfl⟩ : ∃ n : Nat, a = n := ⟨a.toNat, by omega⟩
    obtain ⟨e1, _, _⟩ := pow_small n (by omega) (by omega)
    have e : refEnd (n : Int) = ((hv 9 n : Nat) : Int) := by
      by_cases c : n ≤ 1
      · have : n = 1 := by omega
        subst this; decide +kernel
      · rw [refEnd, if_neg (by omega), Int.toNat_natCast, hv_odd 9 n (by omega)]
    rw [e]
    rw [hp] at e1
    constructor
    · intro q
      subst q
      have : (hv 9 n == 1) = true := by rw [← e1]; rfl
      have := eq_of_beq this
      omega
    · intro q
      have : (hv 9 n == 1) = true := by rw [beq_iff_eq]; omega
      rw [this] at e1
      have := eq_of_beq e1
      exact Option.some.inj this
  · have e1 : num_Power.f a = some false := by unfold num_Power.f; rw [if_neg (by omega)]
    have e2 : refEnd a = a := by unfold refEnd; rw [if_pos (by omega)]
    rw [hp] at e1
    have := Option.some.inj e1
    subst this
    rw [e2]
    constructor
    · intro q; cases q
    · intro q; omega
theorem up_ok (a : Int) (h1 : 1 ≤ a) (h : a ≤ 256) (hp : num_Power.f a = some true) : ∃ t, num_Up.f 16 a = some t ∧ 1 ≤ t ∧ t ≤ 256 := by
  obtain ⟨n, rfl⟩ : ∃ n : Nat, a = n := ⟨a.toNat, by omega⟩
  obtain ⟨_, _, e⟩ := pow_small n (by omega) (by omega)
  have := e hp
  cases hu : num_Up.f 16 (n : Int) with
  | none => rw [hu] at this; simp at this
  | some t => rw [hu] at this; simp at this; exact ⟨t, rfl, this.1, this.2⟩

theorem for_small : ∀ n, n < 33 → ∀ m, m < 32 → ((class_For.f 30 ((32 * n + m : Nat) : Int)).any fun v => (v == -1) || (decide (0 ≤ v) && decide (v < 20))) = true := by decide +kernel
theorem of_small : ∀ n, n < 20 → ((class_Of.f 30 ((n : Nat) : Int)).any fun v => decide (1 ≤ v) && decide (v ≤ 1024)) = true := by decide +kernel
theorem for_ok (x : Int) (h0 : 1 ≤ x) : ∃ v, class_For.f 30 x = some v ∧ (v = -1 ∨ (0 ≤ v ∧ v < 20)) := by
  by_cases c : x < 1056
  · obtain ⟨n, rfl⟩ : ∃ n : Nat, x = n := ⟨x.toNat, by omega⟩
    have h := for_small (n / 32) (by omega) (n % 32) (by omega)
    rw [show 32 * (n / 32) + n % 32 = n by omega] at h
    cases hf : class_For.f 30 (n : Int) with
    | none => rw [hf] at h; simp at h
    | some v => rw [hf] at h; simp at h; exact ⟨v, rfl, by omega⟩
  · refine ⟨-1, ?_, Or.inl rfl⟩
    unfold class_For.f
    rw [if_neg (by omega), decide_eq_true (by omega)]
    rfl
theorem parts_at (x : Int) (h0 : 1 ≤ x) (h1 : x ≤ 1000000) : num_Parts.f x 256 = some ((x - 1) / 256 + 1) := by
  unfold num_Parts.f
  have e1 : wrap64 (x - 1) = x - 1 := by unfold wrap64; omega
  have e2 : (x - 1).tdiv 256 = (x - 1) / 256 := Int.tdiv_eq_ediv_of_nonneg (by omega)
  have e3 : wrap64 ((x - 1) / 256) = (x - 1) / 256 := by unfold wrap64; omega
  have e4 : wrap64 ((x - 1) / 256 + 1) = (x - 1) / 256 + 1 := by unfold wrap64; omega
  rw [if_neg (by omega), if_neg (by decide), if_neg (by decide), e1, e2, e3, e4]

theorem roomP (n al : Int) (h1 : 1 ≤ n) (h2 : n ≤ 8000) (a1 : 1 ≤ al) (a2 : al ≤ 256) (hp : num_Power.f al = some true) : ∃ kk r : Nat, model_room.f kk n al = some (r : Int) ∧ 1 ≤ r ∧ r ≤ 1000000 := by
  obtain ⟨t, ht, t1, t2⟩ := up_ok al a1 a2 hp
  obtain ⟨v, hv, hc⟩ := for_ok n h1
  have hN : guard_Need.f 30 n al = some ((t + n - 1) / 256 + 1, 0) := by
    unfold guard_Need.f
    have e : wrap64 (t + n) = t + n := by unfold wrap64; omega
    rw [if_neg (by omega), hp, Option.bind_some, if_pos rfl, decide_eq_false (by omega)]
    simp only [guard_Need.j0]
    rw [if_neg (by decide), if_neg (by omega), ht, Option.bind_some, e, parts_at (t + n) (by omega) (by omega)]
    rfl
  have hbig : model_room.j0 31 n al v false = some (((((t + n - 1) / 256 + 1) * 256 - t).toNat : Nat) : Int) := by
    simp only [model_room.j0]
    rw [if_neg (by decide), hN, Option.bind_some, ht, Option.bind_some]
    congr 1
    unfold wrap64
    omega
  have hf : class_For.f 31 n = some v := class_For.mono _ 30 v hv
  by_cases c : v ≥ 0 ∧ al ≤ 16
  · have h := of_small v.toNat (by omega)
    rw [show ((v.toNat : Nat) : Int) = v by omega] at h
    cases ho : class_Of.f 30 v with
    | none => rw [ho] at h; simp at h
    | some r =>
      rw [ho] at h
      simp at h
      refine ⟨31, r.toNat, ?_, by omega, by omega⟩
      unfold model_room.f
      rw [hf, Option.bind_some, if_pos c.1, decide_eq_true c.2]
      simp only [model_room.j0]
      simp only [if_true, ho, Option.bind_some]
      congr 1
      omega
  · refine ⟨31, (((t + n - 1) / 256 + 1) * 256 - t).toNat, ?_, by omega, by omega⟩
    unfold model_room.f
    rw [hf, Option.bind_some]
    by_cases c1 : v ≥ 0
    · rw [if_pos c1, decide_eq_false (by omega)]; exact hbig
    · rw [if_neg c1]; exact hbig

theorem rfor_small : ∀ n, n < 251 → ∀ m, m < 32 → ((cubbyholeref16_For.f 60 ((32 * n + m : Nat) : Int)).any fun v => (v == -1) || (decide (0 ≤ v) && decide (v < 20))) = true := by decide +kernel
theorem rfor_ok (x : Int) (h0 : 1 ≤ x) (h1 : x ≤ 8000) : ∃ v, cubbyholeref16_For.f 60 x = some v ∧ (v = -1 ∨ (0 ≤ v ∧ v < 20)) := by
  obtain ⟨n, rfl⟩ : ∃ n : Nat, x = n := ⟨x.toNat, by omega⟩
  have h := rfor_small (n / 32) (by omega) (n % 32) (by omega)
  rw [show 32 * (n / 32) + n % 32 = n by omega] at h
  cases hf : cubbyholeref16_For.f 60 (n : Int) with
  | none => rw [hf] at h; simp at h
  | some v => rw [hf] at h; simp at h; exact ⟨v, rfl, by omega⟩
theorem sizes_ok : ∃ l, cubbyholeref16_Sizes.f = some l ∧ l.length = 20 ∧ ∀ i, i < 20 → 1 ≤ rd l ((i : Nat) : Int) ∧ rd l ((i : Nat) : Int) ≤ 1024 := ⟨_, rfl, rfl, by decide +kernel⟩
theorem roomR (n al : Int) (h1 : 1 ≤ n) (h2 : n ≤ 8000) (a1 : 1 ≤ al) (a2 : al ≤ 256) : ∃ kk r : Nat, cubbyholeref44_room.f kk n al = some (r : Int) ∧ 1 ≤ r ∧ r ≤ 1000000 := by
  obtain ⟨v, hv, hc⟩ := rfor_ok n h1 h2
  obtain ⟨l, hl, hn, hs⟩ := sizes_ok
  obtain ⟨m, hm, m1, m2⟩ : ∃ m, mx al 16 = m ∧ 16 ≤ m ∧ m ≤ 256 := ⟨_, rfl, by unfold mx; split <;> omega, by unfold mx; split <;> omega⟩
  have hbig : wrap64 ((wrap64 ((wrap64 (Int.tdiv (wrap64 ((wrap64 (m + n)) + 255)) 256)) * 256)) - m) = ((((m + n + 255) / 256 * 256 - m).toNat : Nat) : Int) := by
    have e1 : wrap64 (m + n) = m + n := by unfold wrap64; omega
    have e2 : wrap64 (m + n + 255) = m + n + 255 := by unfold wrap64; omega
    have e3 : (m + n + 255).tdiv 256 = (m + n + 255) / 256 := Int.tdiv_eq_ediv_of_nonneg (by omega)
    rw [e1, e2, e3]
    unfold wrap64
    omega
  unfold cubbyholeref44_room.f
  by_cases c : v ≥ 0 ∧ al ≤ 16
  · have h := hs v.toNat (by omega)
    rw [show ((v.toNat : Nat) : Int) = v by omega] at h
    refine ⟨60, (rd l v).toNat, ?_, by omega, by omega⟩
    rw [hv, Option.bind_some, if_pos c.1, if_pos c.2, hl, Option.bind_some, if_pos c.1, if_pos (by omega)]
    congr 1
    omega
  · refine ⟨60, ((m + n + 255) / 256 * 256 - m).toNat, ?_, by omega, by omega⟩
    rw [hv, Option.bind_some, hm]
    by_cases c1 : v ≥ 0
    · rw [if_pos c1, if_neg (by omega), hbig]
    · rw [if_neg c1, hbig]

theorem confOk (n0 n1 n2 n3 : Int) : ∃ r1 r2 r3 r4 r5 r6 r7 r9 r10 r11 : Int, ∃ r8 : Nat, cubbyholeref38_Conf.f n0 n1 n2 n3 true = some (r1, r2, r3, r4, r5, r6, r7, (r8 : Int), r9, r10, r11) ∧ 1 ≤ r8 ∧ r8 ≤ 64 ∧ 1 ≤ r9 ∧ r9 ≤ 8000 := by
  have e7 : Go.bits .and .i64 n2 7 = n2 % 8 := and_7 n2
  have e7b : Go.bits .and .i64 (n2 / 2048) 7 = n2 / 2048 % 8 := and_7 _
  obtain ⟨i, hi⟩ : ∃ i : Nat, n2 / 2048 % 8 = i := ⟨(n2 / 2048 % 8).toNat, by omega⟩
  have hb : ∀ i, i < 8 → 1 ≤ rd ([48, 300, 1024, 3000, 8000, 1500, 20, 1] : List Int) ((i : Nat) : Int) ∧ rd ([48, 300, 1024, 3000, 8000, 1500, 20, 1] : List Int) ((i : Nat) : Int) ≤ 8000 := by decide +kernel
  obtain ⟨b1, b2⟩ := hb i (by omega)
  have hw : wrap64 (6 + n2 % 8) = (((6 + n2 % 8).toNat : Nat) : Int) := by unfold wrap64; omega
  refine ⟨wrap64 ((wrap64 (20 * (wrap64 (5 + (Go.bits .and .i64 n0 3))))) + (wrap64 (12 + (Go.bits .and .i64 (n0 / 4) 63)))), wrap64 (5 + (Go.bits .and .i64 n0 3)), wrap64 (12 + (Go.bits .and .i64 (n0 / 4) 63)), wrap64 (1 + (Go.bits .and .i64 n1 3)), wrap64 ((wrap64 (1 + (Go.bits .and .i64 (n1 / 4) 7))) + (Go.bits .and .i64 (n1 / 128) 7)), wrap64 (1 + (Go.bits .and .i64 (n1 / 4) 7)), Go.bits .and .i64 (n1 / 32) 3, rd ([48, 300, 1024, 3000, 8000, 1500, 20, 1] : List Int) (i : Int), Go.bits .and .i64 (n2 / 8) 255, IntKind.u64.wrap (Go.bits .and .i64 n3 16777215), (6 + n2 % 8).toNat, ?_, by omega, by omega, b1, b2⟩
  unfold cubbyholeref38_Conf.f
  rw [e7b, hi, Option.bind_some, if_pos (by omega), if_pos (by show (i : Int) < 8; omega), if_pos rfl, ← hw, e7]

end Go.Proofs.Ytneejihmakfaoaa.OwnModel
