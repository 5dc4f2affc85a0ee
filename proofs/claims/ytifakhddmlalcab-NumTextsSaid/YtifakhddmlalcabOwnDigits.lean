/- What a number's digits are: they are read as it. Conditions: the number is below ten to the fifteenth. -/
import Derived.Test.YtifakhddmlalcabQNumTextsx2
import Derived.Test.YtifakhddmlalcabOwnMask
namespace Go.Proofs.Ytifakhddmlalcab.OwnDigits
open Go.RowKit Go.Proofs.Ytifakhddmlalcab.QNumTexts Go.Proofs.Ytifakhddmlalcab.OwnMask Go.Proofs.YtifakhddmlalcabW.PrintWords Go.Proofs.YtifakhddmlalcabW.PrintLast Go.Proofs.YtifakhddmlalcabW.PrintMore

/-- A list of bytes, read behind a number. -/
def scanL : List Int → Int → Option Int
  | [], n => some n
  | c :: l, n => if c < 48 ∨ 57 < c then none else scanL l (n * 10 + (c - 48))

theorem scan_list (s : ByteArray) (d : Nat) : ∀ (pos : Nat) (n : Int), pos + d = s.size → num_Parse.scan s d pos n = scanL ((bytesOf s).drop pos) n := by
  induction d with
  | zero =>
    intro pos n h
    rw [List.drop_eq_nil_of_le (by rw [bytesOf_length]; omega)]
    rfl
  | succ d ih =>
    intro pos n h
    have hl : pos < (bytesOf s).length := by rw [bytesOf_length]; omega
    have e : (bytesOf s)[pos] = bt s (pos : Int) := by
      rw [← rd_bytesOf]
      unfold rd
      rw [Int.toNat_natCast, List.getD_eq_getElem?_getD, List.getElem?_eq_getElem hl]; rfl
    rw [List.drop_eq_getElem_cons hl, e]
    simp only [num_Parse.scan, scanL]
    split
    · rfl
    · exact ih (pos + 1) _ (by omega)

theorem scanL_append (l m : List Int) : ∀ n, scanL (l ++ m) n = (scanL l n).bind (scanL m) := by
  induction l with
  | nil => intro n; rfl
  | cons c l ih =>
    intro n
    simp only [List.cons_append, scanL]
    split
    · rfl
    · exact ih _

theorem scanL_bound (l : List Int) : ∀ (n r : Int) (j : Nat), 0 ≤ n → n < 10 ^ j → scanL l n = some r → 0 ≤ r ∧ r < 10 ^ (j + l.length) := by
  induction l with
  | nil =>
    intro n r j h0 h1 h
    obtain rfl := Option.some.inj h
    exact ⟨h0, by simpa using h1⟩
  | cons c l ih =>
    intro n r j h0 h1 h
    simp only [scanL] at h
    split at h
    · cases h
    · have := ih _ r (j + 1) (by omega) (by rw [Int.pow_succ]; omega) h
      rw [List.length_cons, show j + (l.length + 1) = j + 1 + l.length by omega]
      exact this

theorem bytesOf_append (a b : ByteArray) : bytesOf (a ++ b) = bytesOf a ++ bytesOf b := by
  unfold bytesOf
  simp [ByteArray.data_append]
theorem bytesOf_one (x : Int) (h0 : 0 ≤ x) (h1 : x < 256) : bytesOf (strOfNums [x]) = [x] := by
  unfold bytesOf strOfNums
  simp
  omega

theorem digits_at (m : Nat) (hm : m ≤ 18) : ∀ (n k : Nat), n < 10 ^ (m + 1) → m < k → ∃ t, num_digits.f k (n : Int) = some t ∧ scanL (bytesOf t) 0 = some (n : Int) ∧ 1 ≤ t.size ∧ t.size ≤ m + 1 := by
  have one : ∀ n k : Nat, n < 10 → ∃ t, num_digits.f (k + 1) (n : Int) = some t ∧ scanL (bytesOf t) 0 = some (n : Int) ∧ t.size = 1 := by
    intro n k h
    refine ⟨strOfNums [48 + (n : Int)], ?_, ?_, by rw [strOfNums_size]; rfl⟩
    · rw [num_digits.f, if_pos (by omega), u64w (by omega), show (48 + (n : Int)) % 256 = 48 + n by omega]
    · rw [bytesOf_one _ (by omega) (by omega)]
      simp only [scanL]
      rw [if_neg (by omega)]
      congr 1
      omega
  induction m with
  | zero =>
    intro n k h hk
    obtain ⟨k, rfl⟩ : ∃ j, k = j + 1 := ⟨k - 1, by omega⟩
    obtain ⟨t, h1, h2, h3⟩ := one n k (by simpa using h)
    exact ⟨t, h1, h2, by omega, by omega⟩
  | succ m ih =>
    intro n k h hk
    obtain ⟨k, rfl⟩ : ∃ j, k = j + 1 := ⟨k - 1, by omega⟩
    by_cases c : n < 10
    · obtain ⟨t, h1, h2, h3⟩ := one n k c
      exact ⟨t, h1, h2, by omega, by omega⟩
    · have hp : 10 ^ (m + 1 + 1) = 10 ^ (m + 1) * 10 := Nat.pow_succ ..
      have hp2 : 10 ^ (m + 1 + 1) ≤ 10 ^ 19 := Nat.pow_le_pow_right (by decide) (by omega)
      obtain ⟨t, h1, h2, h3, h4⟩ := ih (by omega) (n / 10) k (by omega) (by omega)
      have e1 : IntKind.u64.wrap (Int.tdiv (n : Int) 10) = ((n / 10 : Nat) : Int) := by
        rw [Int.tdiv_eq_ediv_of_nonneg (by omega), u64w (by omega)]; omega
      have e2 : (IntKind.u64.wrap (48 + Int.tmod (n : Int) 10)) % 256 = 48 + ((n % 10 : Nat) : Int) := by
        rw [Int.tmod_eq_emod_of_nonneg (by omega), u64w (by omega)]; omega
      have hs : (strOfNums [48 + ((n % 10 : Nat) : Int)]).size = 1 := by rw [strOfNums_size]; rfl
      refine ⟨t ++ strOfNums [48 + ((n % 10 : Nat) : Int)], ?_, ?_, ?_, ?_⟩
      · rw [num_digits.f, if_neg (by omega), e1, h1, Option.bind_some, e2, Option.bind_some, if_pos (by omega)]
      · rw [bytesOf_append, scanL_append, h2, bytesOf_one _ (by omega) (by omega), Option.bind_some]
        simp only [scanL]
        rw [if_neg (by omega)]
        congr 1
        omega
      · rw [ByteArray.size_append]; omega
      · rw [ByteArray.size_append]; omega

theorem Digits_at (n k : Nat) (h : n < 1000000000000000) (hk : 20 < k) : ∃ t, num_Digits.f k (n : Int) = some t ∧ scanL (bytesOf t) 0 = some (n : Int) ∧ 1 ≤ t.size ∧ t.size ≤ 15 := by
  obtain ⟨t, h1, h2, h3, h4⟩ := digits_at 14 (by omega) n k (by omega) (by omega)
  refine ⟨t, ?_, h2, h3, h4⟩
  unfold num_Digits.f
  rw [if_neg (by omega), u64w (by omega), h1]
  rfl

theorem Digits_neg (n k : Nat) (h : n < 100000000000000) (hk : 20 < k) : ∃ t, num_Digits.f k (-1 - (n : Int)) = some (⟨#[45]⟩ ++ t) ∧ num_Digits.f k ((n : Int) + 1) = some t := by
  obtain ⟨t, h1, h2, h3, h4⟩ := digits_at 14 (by omega) (n + 1) k (by omega) (by omega)
  refine ⟨t, ?_, ?_⟩
  · unfold num_Digits.f
    have e1 : wrap64 (-1 - (n : Int) + 1) = -(n : Int) := by rw [w64 (by omega)]; omega
    have e2 : wrap64 (-(-(n : Int))) = (n : Int) := by rw [w64 (by omega)]; omega
    rw [if_pos (by omega), e1, e2, u64w (x := (n : Int)) (by omega), u64w (by omega), show (n : Int) + 1 = ((n + 1 : Nat) : Int) by omega, h1, Option.bind_some, if_pos (by omega)]
  · unfold num_Digits.f
    rw [if_neg (by omega), show (n : Int) + 1 = ((n + 1 : Nat) : Int) by omega, u64w (by omega), h1]
    rfl

/-- A number's digits, read. -/
theorem Parse_digits (n k : Nat) (most : Int) (t : ByteArray) (hd : num_Digits.f k (n : Int) = some t) (hs : scanL (bytesOf t) 0 = some (n : Int)) (h1 : 1 ≤ t.size) (h2 : t.size ≤ 15) :
    num_Parse.f k t most = some (if (n : Int) > most then (0, false) else ((n : Int), true)) := by
  unfold num_Parse.f
  rw [if_neg (by omega), scan_list t t.size 0 0 (by omega), List.drop_zero, hs]
  simp only []
  rw [hd, Option.bind_some, if_pos rfl]
  split <;> rfl

/-- A text, read: nothing, or a number whose text it is. -/
theorem Parse_any (s : ByteArray) (k : Nat) (most : Int) (hk : 20 < k) : num_Parse.f k s most = some (0, false) ∨ ∃ (n : Int) (t : ByteArray), num_Parse.f k s most = some (n, true) ∧ num_Digits.f k n = some t ∧ t.toList = s.toList := by
  unfold num_Parse.f
  by_cases c : s.size = 0 ∨ 15 < s.size
  · rw [if_pos c]; exact .inl rfl
  · rw [if_neg c, scan_list s s.size 0 0 (by omega), List.drop_zero]
    cases h : scanL (bytesOf s) 0 with
    | none => exact .inl rfl
    | some n =>
      obtain ⟨h0, h1⟩ := scanL_bound (bytesOf s) 0 n 0 (by omega) (by decide) h
      have hp : (10 : Int) ^ (0 + (bytesOf s).length) ≤ 10 ^ 15 := by
        have : (10 : Nat) ^ (0 + (bytesOf s).length) ≤ 10 ^ 15 := Nat.pow_le_pow_right (by decide) (by rw [bytesOf_length]; omega)
        exact_mod_cast this
      obtain ⟨m, rfl⟩ := Int.eq_ofNat_of_zero_le h0
      obtain ⟨t, ht, _⟩ := Digits_at m k (by omega) hk
      simp only []
      rw [ht, Option.bind_some]
      by_cases c1 : t.toList = s.toList
      · rw [if_pos c1]
        by_cases c2 : (m : Int) > most
        · rw [if_pos c2]; exact .inl rfl
        · rw [if_neg c2]; exact .inr ⟨_, t, rfl, ht, c1⟩
      · rw [if_neg c1]; exact .inl rfl

end Go.Proofs.Ytifakhddmlalcab.OwnDigits
