/- The plain statement of the law PermTexts is proved: for every p and s the law's Lean function answers true. Conditions: those of the statement. -/
import Derived.Test.YtifakhddmlalcaaQPermTextsx1
import Derived.Test.YtifakhddmlalcaaOwnMask
namespace Go.Proofs.Ytifakhddmlalcaa.Pure
open Go.RowKit Go.Proofs.Ytifakhddmlalcaa.QPermTexts Go.Proofs.Ytifakhddmlalcaa.OwnMask Go.Proofs.YtifakhddmlalcaaW.PrintWords Go.Proofs.YtifakhddmlalcaaW.PrintLast Go.Proofs.YtifakhddmlalcaaW.PrintMore

/-- The letters. -/
def lets : ByteArray := ⟨#[114, 119, 82, 87, 102]⟩
/-- The text of permissions n. -/
def txt (n : Nat) : ByteArray := (perm_Show.f 9 (n : Int)).getD ⟨#[]⟩
/-- The letter that stands in the text of permissions n at a place. -/
def piece (n i : Nat) : ByteArray := if Go.bits .and .i64 (shr .i64 (n : Int) (IntKind.u64.wrap (i : Int))) 1 = 0 then ⟨#[45]⟩ else lets.extract i (i + 1)

theorem PermTexts_awake : cubbyholelaw09_awake.f 30 = some true := by decide +kernel
theorem show_at : ∀ n, n < 32 → perm_Show.f 9 ((n : Nat) : Int) = some (txt n) := by decide +kernel
theorem show_low (x : Int) (h : x < 0 ∨ 31 < x) (k : Nat) : perm_Show.f k x = some ⟨#[]⟩ := by
  unfold perm_Show.f perm_May.f
  by_cases c : x ≥ 0
  · rw [if_pos c, Option.bind_some, decide_eq_false (by omega)]; rfl
  · rw [if_neg c]; rfl
theorem read_at : ∀ n, n < 32 → perm_Read.f 9 (txt n) = some ((n : Int), true) := by decide +kernel
theorem want_at : ∀ n, n < 32 → ((((((⟨#[]⟩ : ByteArray) ++ piece n 0) ++ piece n 1) ++ piece n 2) ++ piece n 3) ++ piece n 4).toList = (txt n).toList := by decide +kernel
theorem piece_size : ∀ n, n < 32 → ∀ i, i < 5 → (piece n i).size = 1 := by decide +kernel
theorem txt_bits : ∀ n, n < 32 → ((txt n).size = 5) ∧ ∀ j, j < 5 → bt (txt n) ((j : Nat) : Int) = if n.testBit j then bt lets ((j : Nat) : Int) else 45 := by decide +kernel
theorem or_at : ∀ i, i < 5 → ∀ p, p < 2 ^ i → Go.bits .or .i64 ((p : Nat) : Int) (shl .i64 1 (IntKind.u64.wrap ((i : Nat) : Int))) = ((p + 2 ^ i : Nat) : Int) := by decide +kernel
theorem bit_at : ∀ i, i < 5 → ∀ p, p < 2 ^ i → (p + 2 ^ i).testBit i = true ∧ p.testBit i = false ∧ ∀ j, j < i → (p + 2 ^ i).testBit j = p.testBit j := by decide +kernel

/-- A round of the law's loop. -/
theorem want_step (k : Nat) (x1 : ByteArray) (n : Nat) (x6 : Int) (x7 : Bool) (x8 : Int) (x9 : Bool) (w : ByteArray) (i : Nat) (hi : i < 5) (hn : n < 32) (hw : w.size ≤ 100) :
    cubbyholelaw09_PermTexts.l0 (k + 1) x1 (n : Int) x6 x7 x8 x9 w (i : Int) = cubbyholelaw09_PermTexts.l0 k x1 (n : Int) x6 x7 x8 x9 (w ++ piece n i) ((i + 1 : Nat) : Int) := by
  have hp := piece_size n hn i hi
  simp only [cubbyholelaw09_PermTexts.l0]
  have e : wrap64 ((i : Int) + 1) = ((i + 1 : Nat) : Int) := by rw [w64 (by omega)]; rfl
  rw [if_pos (by omega), if_pos (by omega), e, if_pos (by omega), if_pos (by omega), if_pos (by rw [u64w (by omega)]; omega)]
  unfold piece at hp ⊢
  by_cases c : Go.bits .and .i64 (shr .i64 (n : Int) (IntKind.u64.wrap (i : Int))) 1 = 0
  · rw [if_pos c, if_pos c, if_pos (by omega)]
  · rw [if_neg c, if_neg c]
    rw [if_neg c] at hp
    have e2 : ((⟨#[114, 119, 82, 87, 102]⟩ : ByteArray).extract (i : Int).toNat ((i + 1 : Nat) : Int).toNat) = lets.extract i (i + 1) := rfl
    rw [e2, if_pos (by omega)]

theorem want_all (k : Nat) (x1 : ByteArray) (n : Nat) (x6 : Int) (x7 : Bool) (x8 : Int) (x9 : Bool) (hn : n < 32) : ∃ w : ByteArray, w.toList = (txt n).toList ∧
    cubbyholelaw09_PermTexts.l0 (k + 5) x1 (n : Int) x6 x7 x8 x9 (⟨#[]⟩ : ByteArray) 0 = cubbyholelaw09_PermTexts.l0 k x1 (n : Int) x6 x7 x8 x9 w 5 := by
  have hp := piece_size n hn
  refine ⟨_, want_at n hn, ?_⟩
  have s0 : (⟨#[]⟩ : ByteArray).size = 0 := rfl
  have h0 := hp 0 (by omega)
  have h1 := hp 1 (by omega)
  have h2 := hp 2 (by omega)
  have h3 := hp 3 (by omega)
  have e0 := want_step (k + 4) x1 n x6 x7 x8 x9 ⟨#[]⟩ 0 (by omega) hn (by omega)
  have e1 := want_step (k + 3) x1 n x6 x7 x8 x9 (⟨#[]⟩ ++ piece n 0) 1 (by omega) hn (by simp [ByteArray.size_append]; omega)
  have e2 := want_step (k + 2) x1 n x6 x7 x8 x9 (⟨#[]⟩ ++ piece n 0 ++ piece n 1) 2 (by omega) hn (by simp [ByteArray.size_append]; omega)
  have e3 := want_step (k + 1) x1 n x6 x7 x8 x9 (⟨#[]⟩ ++ piece n 0 ++ piece n 1 ++ piece n 2) 3 (by omega) hn (by simp [ByteArray.size_append]; omega)
  have e4 := want_step k x1 n x6 x7 x8 x9 (⟨#[]⟩ ++ piece n 0 ++ piece n 1 ++ piece n 2 ++ piece n 3) 4 (by omega) hn (by simp [ByteArray.size_append]; omega)
  exact e0.trans (e1.trans (e2.trans (e3.trans e4)))

/-- What reading answers: nothing, or permissions whose text it is. -/
def Told (s : ByteArray) (r : Option (Int × Bool)) : Prop := r = some (0, false) ∨ ∃ n : Nat, n < 32 ∧ r = some ((n : Int), true) ∧ s.toList = (txt n).toList

theorem byte_list (s t : ByteArray) (hs : s.size = 5) (ht : t.size = 5) (h : ∀ j, j < 5 → bt s ((j : Nat) : Int) = bt t ((j : Nat) : Int)) : s = t := by
  apply ByteArray.ext
  apply Array.ext
  · exact hs.trans ht.symm
  · intro i h1 h2
    have h1' : i < s.size := h1
    have h2' : i < t.size := h2
    have := h i (by omega)
    unfold bt at this
    rw [dif_pos (by simpa using h1'), dif_pos (by simpa using h2')] at this
    have e : (s[i]).toNat = (t[i]).toNat := Int.ofNat.inj this
    exact UInt8.toNat_inj.1 e

theorem read_loop (s : ByteArray) (hs : s.size = 5) (d : Nat) : ∀ (i p k : Nat), i + d = 5 → p < 2 ^ i → d < k → (∀ j, j < i → bt s ((j : Nat) : Int) = if p.testBit j then bt lets ((j : Nat) : Int) else 45) →
    Told s (perm_Read.l0 k s (p : Int) 5 (i : Int)) := by
  induction d with
  | zero =>
    intro i p k hi hp hk h
    obtain ⟨k, rfl⟩ : ∃ m, k = m + 1 := ⟨k - 1, by omega⟩
    obtain rfl : i = 5 := by omega
    have hp5 : p < 32 := hp
    obtain ⟨ht, hb⟩ := txt_bits p hp5
    refine .inr ⟨p, hp5, ?_, ?_⟩
    · simp only [perm_Read.l0]
      rw [if_neg (by omega)]
    · rw [byte_list s (txt p) hs ht (fun j hj => (h j hj).trans (hb j hj).symm)]
  | succ d ih =>
    intro i p k hi hp hk h
    obtain ⟨k, rfl⟩ : ∃ m, k = m + 1 := ⟨k - 1, by omega⟩
    obtain ⟨b1, b2, b3⟩ := bit_at i (by omega) p hp
    have hp2 : 2 ^ (i + 1) = 2 * 2 ^ i := by rw [Nat.pow_succ]; omega
    have e : wrap64 ((i : Int) + 1) = ((i + 1 : Nat) : Int) := by rw [w64 (by omega)]; rfl
    simp only [perm_Read.l0]
    rw [if_pos (by omega), if_pos (by omega), if_pos (by omega), if_pos (by omega), e]
    by_cases c : bt s (i : Int) = bt (⟨#[114, 119, 82, 87, 102]⟩ : ByteArray) (i : Int)
    · rw [if_pos c, if_pos (by rw [u64w (by omega)]; omega), or_at i (by omega) p hp]
      refine ih (i + 1) (p + 2 ^ i) k (by omega) (by omega) (by omega) (fun j hj => ?_)
      by_cases e : j = i
      · subst e
        rw [if_pos b1]; exact c
      · rw [b3 j (by omega)]; exact h j (by omega)
    · rw [if_neg c]
      by_cases c2 : bt s (i : Int) = 45
      · rw [if_pos c2]
        refine ih (i + 1) p k (by omega) (by omega) (by omega) (fun j hj => ?_)
        by_cases e : j = i
        · subst e
          rw [if_neg (by simp [b2])]; exact c2
        · exact h j (by omega)
      · rw [if_neg c2]
        exact .inl rfl

theorem read_told (s : ByteArray) (k : Nat) (hk : 9 ≤ k) : Told s (perm_Read.f k s) := by
  unfold perm_Read.f
  by_cases c : (s.size : Int) = 5
  · rw [if_pos c, c]
    exact read_loop s (by omega) 5 0 0 k (by omega) (by omega) (by omega) (fun j hj => by omega)
  · rw [if_neg c]
    exact .inl rfl

theorem PermTexts : cubbyholelaw09_PermTexts.Pure := by
  intro a0 a1 _ _
  refine ⟨36, ?_⟩
  unfold cubbyholelaw09_PermTexts.f
  rw [and_31]
  obtain ⟨n, hn⟩ := Int.eq_ofNat_of_zero_le (show 0 ≤ a0 % 32 by omega)
  have hn32 : n < 32 := by omega
  rw [hn]
  have sh : ∀ (m k : Nat), m < 32 → 9 ≤ k → perm_Show.f k (m : Int) = some (txt m) := fun m k hm hk => at_rounds (g := fun k => perm_Show.f k (m : Int)) (fun k => perm_Show.mono _ k) hk (show_at m hm)
  have rdt : perm_Read.f 36 (txt n) = some ((n : Int), true) := at_rounds (g := fun k => perm_Read.f k (txt n)) (fun k => perm_Read.mono _ k) (show 9 ≤ 36 by decide) (read_at n hn32)
  have ha := at_rounds (g := fun k => cubbyholelaw09_awake.f k) (fun k => cubbyholelaw09_awake.mono k) (show 30 ≤ 30 by decide) PermTexts_awake
  rw [sh n 36 hn32 (by decide), Option.bind_some, rdt, Option.bind_some]
  have hlow : ∀ k, perm_Show.f k (wrap64 ((n : Int) - 32)) = some ⟨#[]⟩ := fun k => show_low _ (by rw [w64 (by omega)]; omega) k
  have hhigh : ∀ k, perm_Show.f k (wrap64 ((n : Int) + 32)) = some ⟨#[]⟩ := fun k => show_low _ (by rw [w64 (by omega)]; omega) k
  have fin : ∀ (x8 : Int) (x9 : Bool), (x9 = false ∧ x8 = 0 ∨ ∃ m : Nat, m < 32 ∧ x8 = (m : Nat) ∧ x9 = true ∧ a1.toList = (txt m).toList) → cubbyholelaw09_PermTexts.l0 36 a1 (n : Int) (n : Int) true x8 x9 (⟨#[]⟩ : ByteArray) 0 = some true := by
    intro x8 x9 hx
    obtain ⟨w, hw, e⟩ := want_all 31 a1 n (n : Int) true x8 x9 hn32
    refine e.trans ?_
    rw [cubbyholelaw09_PermTexts.l0, if_neg (by decide), ha, Option.bind_some, if_pos rfl, sh n 30 hn32 (by decide), Option.bind_some, if_pos hw.symm, if_pos rfl, if_pos rfl]
    rcases hx with ⟨rfl, rfl⟩ | ⟨m, hm, rfl, rfl, ht⟩
    · rw [if_neg (by decide), if_pos rfl, hlow, hhigh]; simp
    · rw [if_pos rfl, sh m 30 hm (by decide), Option.bind_some, if_pos ht.symm, hlow, hhigh]; simp
  rcases read_told a1 36 (by decide) with h | ⟨m, hm, h, ht⟩
  · rw [h, Option.bind_some]
    exact fin _ _ (.inl ⟨rfl, rfl⟩)
  · rw [h, Option.bind_some]
    exact fin _ _ (.inr ⟨m, hm, rfl, rfl, ht⟩)

end Go.Proofs.Ytifakhddmlalcaa.Pure
