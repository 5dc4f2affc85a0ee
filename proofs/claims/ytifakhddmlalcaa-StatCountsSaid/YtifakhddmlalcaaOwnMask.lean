/- Small laws on masks: a whole number and a mask of low ones is its remainder. Conditions: the mask is a power of two less one, of at most 62 bits. -/
import Derived.Laws.BitsLemmas
import Derived.RowKit
import Derived.IntWalk
namespace Go.Proofs.Ytifakhddmlalcaa.OwnMask
open Go.RowKit

theorem and_pow (n : Nat) (hn : n ≤ 62) (a : Int) : Go.bits .and .i64 a ((2 ^ n - 1 : Nat) : Int) = a % ((2 ^ n : Nat) : Int) := by
  have hpos : 0 < 2 ^ n := Nat.two_pow_pos n
  have hle : 2 ^ n ≤ 2 ^ 62 := Nat.pow_le_pow_right (by decide) hn
  have hm : (2 ^ n - 1) % 2 ^ 64 = 2 ^ n - 1 := Nat.mod_eq_of_lt (by omega)
  have s : Go.bits .and .i64 a ((2 ^ n - 1 : Nat) : Int) = IntKind.i64.wrap ((BitVec.ofInt 64 a &&& BitVec.ofInt 64 ((2 ^ n - 1 : Nat) : Int)).toNat : Int) := rfl
  rw [s, BitVec.toNat_and, BitVec.ofInt_natCast, BitVec.toNat_ofNat, hm, BitVec.toNat_ofInt, Nat.and_two_pow_sub_one_eq_mod]
  have e : ((a % ((2 ^ 64 : Nat) : Int)).toNat % 2 ^ n : Nat) = (a % ((2 ^ n : Nat) : Int)).toNat := by
    have h0 : 0 ≤ a % ((2 ^ 64 : Nat) : Int) := Int.emod_nonneg _ (by decide)
    have h1 : 0 ≤ a % ((2 ^ n : Nat) : Int) := Int.emod_nonneg _ (by omega)
    have hd : ((2 ^ n : Nat) : Int) ∣ ((2 ^ 64 : Nat) : Int) := Int.natCast_dvd_natCast.2 (Nat.pow_dvd_pow 2 (by omega))
    apply Int.ofNat.inj
    show (((a % ((2 ^ 64 : Nat) : Int)).toNat % 2 ^ n : Nat) : Int) = ((a % ((2 ^ n : Nat) : Int)).toNat : Int)
    rw [Int.natCast_emod, Int.toNat_of_nonneg h0, Int.toNat_of_nonneg h1, Int.emod_emod_of_dvd _ hd]
  rw [e]
  have h1 : 0 ≤ a % ((2 ^ n : Nat) : Int) := Int.emod_nonneg _ (by omega)
  have h2 : a % ((2 ^ n : Nat) : Int) < ((2 ^ n : Nat) : Int) := Int.emod_lt_of_pos _ (by omega)
  rw [Int.toNat_of_nonneg h1]
  exact IntWalk.i64_in _ (by omega)

theorem and_1 (a : Int) : Go.bits .and .i64 a 1 = a % 2 := and_pow 1 (by decide) a
theorem and_3 (a : Int) : Go.bits .and .i64 a 3 = a % 4 := and_pow 2 (by decide) a
theorem and_7 (a : Int) : Go.bits .and .i64 a 7 = a % 8 := and_pow 3 (by decide) a
theorem and_15 (a : Int) : Go.bits .and .i64 a 15 = a % 16 := and_pow 4 (by decide) a
theorem and_31 (a : Int) : Go.bits .and .i64 a 31 = a % 32 := and_pow 5 (by decide) a
theorem and_63 (a : Int) : Go.bits .and .i64 a 63 = a % 64 := and_pow 6 (by decide) a
theorem and_127 (a : Int) : Go.bits .and .i64 a 127 = a % 128 := and_pow 7 (by decide) a
theorem and_255 (a : Int) : Go.bits .and .i64 a 255 = a % 256 := and_pow 8 (by decide) a
theorem and_1023 (a : Int) : Go.bits .and .i64 a 1023 = a % 1024 := and_pow 10 (by decide) a
theorem and_2047 (a : Int) : Go.bits .and .i64 a 2047 = a % 2048 := and_pow 11 (by decide) a
theorem and_4095 (a : Int) : Go.bits .and .i64 a 4095 = a % 4096 := and_pow 12 (by decide) a
theorem and_16383 (a : Int) : Go.bits .and .i64 a 16383 = a % 16384 := and_pow 14 (by decide) a
theorem and_32767 (a : Int) : Go.bits .and .i64 a 32767 = a % 32768 := and_pow 15 (by decide) a
theorem and_65535 (a : Int) : Go.bits .and .i64 a 65535 = a % 65536 := and_pow 16 (by decide) a
theorem and_262143 (a : Int) : Go.bits .and .i64 a 262143 = a % 262144 := and_pow 18 (by decide) a
theorem and_16777215 (a : Int) : Go.bits .and .i64 a 16777215 = a % 16777216 := and_pow 24 (by decide) a
theorem and_4294967295 (a : Int) : Go.bits .and .i64 a 4294967295 = a % 4294967296 := and_pow 32 (by decide) a

theorem w64 {x : Int} (h : -9223372036854775808 ≤ x ∧ x ≤ 9223372036854775807) : wrap64 x = x := by unfold wrap64; omega
theorem u64w {x : Int} (h : 0 ≤ x ∧ x ≤ 18446744073709551615) : IntKind.u64.wrap x = x := IntWalk.u64_in x h

end Go.Proofs.Ytifakhddmlalcaa.OwnMask
