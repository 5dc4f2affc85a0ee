/- The plain statement of the law NumTexts is proved: for every number, text and bound the law's Lean function answers true. Conditions: those of the statement. -/
import Derived.Test.YtifakhddmlalcabQNumTextsx3
import Derived.Test.YtifakhddmlalcabOwnDigits
namespace Go.Proofs.Ytifakhddmlalcab.Pure
open Go.RowKit Go.Proofs.Ytifakhddmlalcab.QNumTexts Go.Proofs.Ytifakhddmlalcab.OwnMask Go.Proofs.Ytifakhddmlalcab.OwnDigits Go.Proofs.YtifakhddmlalcabW.PrintWords Go.Proofs.YtifakhddmlalcabW.PrintLast Go.Proofs.YtifakhddmlalcabW.PrintMore

theorem NumTexts_awake : cubbyholelaw01_awake.f 30 = some true := by decide +kernel

theorem minus_size (t : ByteArray) : ((⟨#[45]⟩ : ByteArray) ++ t).size = 1 + t.size := by rw [ByteArray.size_append]; rfl
theorem minus_first (t : ByteArray) : bt ((⟨#[45]⟩ : ByteArray) ++ t) 0 = 45 := by
  rw [← rd_bytesOf, bytesOf_append]
  rfl
theorem minus_rest (t : ByteArray) : ((⟨#[45]⟩ : ByteArray) ++ t).extract 1 ((⟨#[45]⟩ : ByteArray) ++ t).size = t := by
  rw [minus_size]
  apply ByteArray.ext
  simp [ByteArray.data_extract, ByteArray.data_append]

theorem NumTexts : cubbyholelaw01_NumTexts.Pure := by
  intro a0 s most _ _ _
  refine ⟨40, ?_⟩
  unfold cubbyholelaw01_NumTexts.f
  rw [and_4294967295]
  obtain ⟨n, hn⟩ := Int.eq_ofNat_of_zero_le (show 0 ≤ a0 % 4294967296 by omega)
  rw [hn, w64 (x := -1 - (n : Int)) (by omega), w64 (x := (n : Int) + 1) (by omega)]
  obtain ⟨t, h1, h2, h3, h4⟩ := Digits_at n 40 (by omega) (by decide)
  obtain ⟨u, h5, h6⟩ := Digits_neg n 40 (by omega) (by decide)
  have hp := Parse_digits n 40 most t h1 h2 h3 h4
  have ha := at_rounds (g := fun k => cubbyholelaw01_awake.f k) (fun k => cubbyholelaw01_awake.mono k) (show 30 ≤ 40 by decide) NumTexts_awake
  have hend : (if 0 < ((((⟨#[45]⟩ : ByteArray) ++ u).size : Nat) : Int) then (if (bt ((⟨#[45]⟩ : ByteArray) ++ u) 0) = 45 then (if 1 ≤ ((((⟨#[45]⟩ : ByteArray) ++ u).size : Nat) : Int) then ((num_Digits.f 40 ((n : Int) + 1)).bind fun t125 => (some ((((⟨#[45]⟩ : ByteArray) ++ u).extract 1 ((⟨#[45]⟩ : ByteArray) ++ u).size).toList == t125.toList))) else (none)) else (some false)) else (none)) = some true := by
    rw [minus_rest, minus_first, minus_size, if_pos (by omega), if_pos rfl, if_pos (by omega), h6, Option.bind_some]
    simp
  rw [h1, Option.bind_some, hp, Option.bind_some]
  have rest : ∀ b : Int × Bool, b = (if (n : Int) > most then (0, false) else ((n : Int), true)) → ((num_Parse.f 40 s 1099511627776).bind fun bt120 => ((num_Digits.f 40 (-1 - (n : Int))).bind fun t122 => ((cubbyholelaw01_awake.f 40).bind fun t123 => (if t123 = true then (if (b.2 == (decide ((n : Int) ≤ most))) = true then (if b.2 = true then (if b.1 = (n : Int) then (if bt120.2 = true then ((num_Digits.f 40 bt120.1).bind fun t124 => (if t124.toList = s.toList then (if 0 < (t122.size : Int) then (if (bt t122 0) = 45 then (if 1 ≤ (t122.size : Int) then ((num_Digits.f 40 ((n : Int) + 1)).bind fun t125 => (some ((t122.extract 1 t122.size).toList == t125.toList))) else (none)) else (some false)) else (none)) else (some false))) else (if bt120.1 = 0 then (if 0 < (t122.size : Int) then (if (bt t122 0) = 45 then (if 1 ≤ (t122.size : Int) then ((num_Digits.f 40 ((n : Int) + 1)).bind fun t126 => (some ((t122.extract 1 t122.size).toList == t126.toList))) else (none)) else (some false)) else (none)) else (some false))) else (some false)) else (if b.1 = 0 then (if bt120.2 = true then ((num_Digits.f 40 bt120.1).bind fun t127 => (if t127.toList = s.toList then (if 0 < (t122.size : Int) then (if (bt t122 0) = 45 then (if 1 ≤ (t122.size : Int) then ((num_Digits.f 40 ((n : Int) + 1)).bind fun t128 => (some ((t122.extract 1 t122.size).toList == t128.toList))) else (none)) else (some false)) else (none)) else (some false))) else (if bt120.1 = 0 then (if 0 < (t122.size : Int) then (if (bt t122 0) = 45 then (if 1 ≤ (t122.size : Int) then ((num_Digits.f 40 ((n : Int) + 1)).bind fun t129 => (some ((t122.extract 1 t122.size).toList == t129.toList))) else (none)) else (some false)) else (none)) else (some false))) else (some false))) else (some false)) else (some false))))) = some true := by
    rintro b rfl
    have hq : ∃ (m : Int) (is : Bool), num_Parse.f 40 s 1099511627776 = some (m, is) ∧ (is = false ∧ m = 0 ∨ is = true ∧ ∃ v, num_Digits.f 40 m = some v ∧ v.toList = s.toList) := by
      rcases Parse_any s 40 1099511627776 (by decide) with h | ⟨m, v, h, hv, hs⟩
      · exact ⟨0, false, h, .inl ⟨rfl, rfl⟩⟩
      · exact ⟨m, true, h, .inr ⟨rfl, v, hv, hs⟩⟩
    obtain ⟨m, is, hq, hm⟩ := hq
    rw [hq, Option.bind_some, h5, Option.bind_some, ha, Option.bind_some, if_pos rfl]
    by_cases c : (n : Int) > most
    · rw [if_pos c, if_pos (by rw [decide_eq_false (by omega)]; rfl), if_neg (by decide), if_pos rfl]
      rcases hm with ⟨rfl, rfl⟩ | ⟨rfl, v, hv, hs⟩
      · rw [if_neg (by decide), if_pos rfl]; exact hend
      · rw [if_pos rfl, hv, Option.bind_some, if_pos hs]; exact hend
    · rw [if_neg c, if_pos (by rw [decide_eq_true (by omega)]; rfl), if_pos rfl, if_pos rfl]
      rcases hm with ⟨rfl, rfl⟩ | ⟨rfl, v, hv, hs⟩
      · rw [if_neg (by decide), if_pos rfl]; exact hend
      · rw [if_pos rfl, hv, Option.bind_some, if_pos hs]; exact hend
  exact rest _ rfl

end Go.Proofs.Ytifakhddmlalcab.Pure
