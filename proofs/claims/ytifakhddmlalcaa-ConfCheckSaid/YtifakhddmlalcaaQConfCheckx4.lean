/- YtifakhddmlalcaaQConfCheckx4: the functions that the law ConfCheck uses, each as a Lean function with the proof that the call tells the same. Turned out of the print of print.sh by qprint.py (own sections: bits_Len64, perm_Show). Conditions: none beyond each theorem's own. -/
import Derived.Test.YtifakhddmlalcaaQConfCheckx0
import Derived.Test.YtifakhddmlalcaaQConfCheckx1
import Derived.Test.YtifakhddmlalcaaQConfCheckx2
import Derived.Test.YtifakhddmlalcaaQConfCheckx3
namespace Go.Proofs.Ytifakhddmlalcaa.QConfCheck
open Go.RowKit Go.Proofs.YtifakhddmlalcaaW.PrintWords Go.Proofs.YtifakhddmlalcaaW.PrintLast Go.Proofs.YtifakhddmlalcaaW.PrintMore
attribute [local go_sem] max2_int min2_int max_two min_two max_three min_three max_four min_four   -- for this text's walks alone
set_option linter.unusedVariables false
set_option linter.unusedSimpArgs false

/-! ### cubbyholelaw38_ConfCheck: function 7 -/
mutual
def cubbyholelaw38_ConfCheck.j0 : Nat → Bool → Int → Int → Int → Int → Int → Int → Int → Int → Int → Int → Int → Int → Option (Bool)
  | 0, _, _, _, _, _, _, _, _, _, _, _, _, _ => none
  | k + 1, x8, x9, x160000, x160001, x160002, x160003, x160004, x160005, x160006, x160007, x160008, x160009, x160010 => if x9 = 0 then (cubbyholelaw38_ConfCheck.j1 k x8 x9 (decide ((wrap64 ((wrap64 (20 * x160001)) + x160002)) > 1024)) x160000 x160001 x160002 x160003 x160004 x160005 x160006 x160007 x160008 x160009 x160010) else (cubbyholelaw38_ConfCheck.j1 k x8 x9 false x160000 x160001 x160002 x160003 x160004 x160005 x160006 x160007 x160008 x160009 x160010)
def cubbyholelaw38_ConfCheck.j1 : Nat → Bool → Int → Bool → Int → Int → Int → Int → Int → Int → Int → Int → Int → Int → Int → Option (Bool)
  | 0, _, _, _, _, _, _, _, _, _, _, _, _, _, _ => none
  | k + 1, x8, x9, x182, x160000, x160001, x160002, x160003, x160004, x160005, x160006, x160007, x160008, x160009, x160010 => if x182 = true then ((cubbyholelaw38_awake.f k).bind fun t161 => (if t161 = true then (if x8 = true then ((conf_Check.f k x160000 x160001 x160002 x160003 x160004 x160005 x160006 x160007 x160008 x160009 x160010).bind fun t162 => (if t162 = 4 then ((conf_Ample.f k x160000 x160001 x160002 x160003 x160004 x160005 x160006 x160007 x160008 x160009 x160010).bind fun t163 => (if 4 = 0 then (some (t163 == (decide (x160000 ≥ (wrap64 ((wrap64 (20 * x160001)) + x160002)))))) else (some (t163 == false)))) else (some false))) else (some false)) else (some false))) else ((cubbyholelaw38_awake.f k).bind fun t164 => (if t164 = true then (if x8 = true then ((conf_Check.f k x160000 x160001 x160002 x160003 x160004 x160005 x160006 x160007 x160008 x160009 x160010).bind fun t165 => (if t165 = x9 then ((conf_Ample.f k x160000 x160001 x160002 x160003 x160004 x160005 x160006 x160007 x160008 x160009 x160010).bind fun t166 => (if x9 = 0 then (some (t166 == (decide (x160000 ≥ (wrap64 ((wrap64 (20 * x160001)) + x160002)))))) else (some (t166 == false)))) else (some false))) else (some false)) else (some false)))
end
def cubbyholelaw38_ConfCheck.f (k : Nat) (a0_0 : Int) (a0_1 : Int) (a0_2 : Int) (a0_3 : Int) (a1 : Int) (a2 : Int) : Option (Bool) := (cubbyholeref38_Conf.f a0_0 a0_1 a0_2 a0_3 ((Go.bits .and .i64 a1 1) == 0)).bind fun bt148 => ((conf_Check.f k bt148.1 bt148.2.1 bt148.2.2.1 bt148.2.2.2.1 bt148.2.2.2.2.1 bt148.2.2.2.2.2.1 bt148.2.2.2.2.2.2.1 bt148.2.2.2.2.2.2.2.1 bt148.2.2.2.2.2.2.2.2.1 bt148.2.2.2.2.2.2.2.2.2.1 bt148.2.2.2.2.2.2.2.2.2.2).bind fun t160 => (if (Int.tmod (Go.bits .and .i64 (a1 / 2) 31) 12) = 0 then (if (wrap64 ((Go.bits .and .i64 a2 65535) - 5)) < 1 then (cubbyholelaw38_ConfCheck.j0 k (t160 == 0) 1 (wrap64 ((Go.bits .and .i64 a2 65535) - 5)) bt148.2.1 bt148.2.2.1 bt148.2.2.2.1 bt148.2.2.2.2.1 bt148.2.2.2.2.2.1 bt148.2.2.2.2.2.2.1 bt148.2.2.2.2.2.2.2.1 bt148.2.2.2.2.2.2.2.2.1 bt148.2.2.2.2.2.2.2.2.2.1 bt148.2.2.2.2.2.2.2.2.2.2) else (if (wrap64 ((Go.bits .and .i64 a2 65535) - 5)) > 1024 then (cubbyholelaw38_ConfCheck.j0 k (t160 == 0) 1 (wrap64 ((Go.bits .and .i64 a2 65535) - 5)) bt148.2.1 bt148.2.2.1 bt148.2.2.2.1 bt148.2.2.2.2.1 bt148.2.2.2.2.2.1 bt148.2.2.2.2.2.2.1 bt148.2.2.2.2.2.2.2.1 bt148.2.2.2.2.2.2.2.2.1 bt148.2.2.2.2.2.2.2.2.2.1 bt148.2.2.2.2.2.2.2.2.2.2) else (cubbyholelaw38_ConfCheck.j0 k (t160 == 0) 0 (wrap64 ((Go.bits .and .i64 a2 65535) - 5)) bt148.2.1 bt148.2.2.1 bt148.2.2.2.1 bt148.2.2.2.2.1 bt148.2.2.2.2.2.1 bt148.2.2.2.2.2.2.1 bt148.2.2.2.2.2.2.2.1 bt148.2.2.2.2.2.2.2.2.1 bt148.2.2.2.2.2.2.2.2.2.1 bt148.2.2.2.2.2.2.2.2.2.2))) else (if (Int.tmod (Go.bits .and .i64 (a1 / 2) 31) 12) = 1 then (if (wrap64 ((Go.bits .and .i64 (Go.bits .and .i64 a2 65535) 31) - 2)) < 5 then (cubbyholelaw38_ConfCheck.j0 k (t160 == 0) 1 bt148.1 (wrap64 ((Go.bits .and .i64 (Go.bits .and .i64 a2 65535) 31) - 2)) bt148.2.2.1 bt148.2.2.2.1 bt148.2.2.2.2.1 bt148.2.2.2.2.2.1 bt148.2.2.2.2.2.2.1 bt148.2.2.2.2.2.2.2.1 bt148.2.2.2.2.2.2.2.2.1 bt148.2.2.2.2.2.2.2.2.2.1 bt148.2.2.2.2.2.2.2.2.2.2) else (if (wrap64 ((Go.bits .and .i64 (Go.bits .and .i64 a2 65535) 31) - 2)) > 16 then (cubbyholelaw38_ConfCheck.j0 k (t160 == 0) 1 bt148.1 (wrap64 ((Go.bits .and .i64 (Go.bits .and .i64 a2 65535) 31) - 2)) bt148.2.2.1 bt148.2.2.2.1 bt148.2.2.2.2.1 bt148.2.2.2.2.2.1 bt148.2.2.2.2.2.2.1 bt148.2.2.2.2.2.2.2.1 bt148.2.2.2.2.2.2.2.2.1 bt148.2.2.2.2.2.2.2.2.2.1 bt148.2.2.2.2.2.2.2.2.2.2) else (cubbyholelaw38_ConfCheck.j0 k (t160 == 0) 0 bt148.1 (wrap64 ((Go.bits .and .i64 (Go.bits .and .i64 a2 65535) 31) - 2)) bt148.2.2.1 bt148.2.2.2.1 bt148.2.2.2.2.1 bt148.2.2.2.2.2.1 bt148.2.2.2.2.2.2.1 bt148.2.2.2.2.2.2.2.1 bt148.2.2.2.2.2.2.2.2.1 bt148.2.2.2.2.2.2.2.2.2.1 bt148.2.2.2.2.2.2.2.2.2.2))) else (if (Int.tmod (Go.bits .and .i64 (a1 / 2) 31) 12) = 2 then (if (wrap64 ((Go.bits .and .i64 (Go.bits .and .i64 a2 65535) 2047) - 5)) < 0 then (cubbyholelaw38_ConfCheck.j0 k (t160 == 0) 1 bt148.1 bt148.2.1 (wrap64 ((Go.bits .and .i64 (Go.bits .and .i64 a2 65535) 2047) - 5)) bt148.2.2.2.1 bt148.2.2.2.2.1 bt148.2.2.2.2.2.1 bt148.2.2.2.2.2.2.1 bt148.2.2.2.2.2.2.2.1 bt148.2.2.2.2.2.2.2.2.1 bt148.2.2.2.2.2.2.2.2.2.1 bt148.2.2.2.2.2.2.2.2.2.2) else (if (wrap64 ((Go.bits .and .i64 (Go.bits .and .i64 a2 65535) 2047) - 5)) > 1024 then (cubbyholelaw38_ConfCheck.j0 k (t160 == 0) 1 bt148.1 bt148.2.1 (wrap64 ((Go.bits .and .i64 (Go.bits .and .i64 a2 65535) 2047) - 5)) bt148.2.2.2.1 bt148.2.2.2.2.1 bt148.2.2.2.2.2.1 bt148.2.2.2.2.2.2.1 bt148.2.2.2.2.2.2.2.1 bt148.2.2.2.2.2.2.2.2.1 bt148.2.2.2.2.2.2.2.2.2.1 bt148.2.2.2.2.2.2.2.2.2.2) else (cubbyholelaw38_ConfCheck.j0 k (t160 == 0) 0 bt148.1 bt148.2.1 (wrap64 ((Go.bits .and .i64 (Go.bits .and .i64 a2 65535) 2047) - 5)) bt148.2.2.2.1 bt148.2.2.2.2.1 bt148.2.2.2.2.2.1 bt148.2.2.2.2.2.2.1 bt148.2.2.2.2.2.2.2.1 bt148.2.2.2.2.2.2.2.2.1 bt148.2.2.2.2.2.2.2.2.2.1 bt148.2.2.2.2.2.2.2.2.2.2))) else (if (Int.tmod (Go.bits .and .i64 (a1 / 2) 31) 12) = 3 then (if (wrap64 ((Go.bits .and .i64 (Go.bits .and .i64 a2 65535) 15) - 2)) < 1 then (cubbyholelaw38_ConfCheck.j0 k (t160 == 0) 1 bt148.1 bt148.2.1 bt148.2.2.1 (wrap64 ((Go.bits .and .i64 (Go.bits .and .i64 a2 65535) 15) - 2)) bt148.2.2.2.2.1 bt148.2.2.2.2.2.1 bt148.2.2.2.2.2.2.1 bt148.2.2.2.2.2.2.2.1 bt148.2.2.2.2.2.2.2.2.1 bt148.2.2.2.2.2.2.2.2.2.1 bt148.2.2.2.2.2.2.2.2.2.2) else (if (wrap64 ((Go.bits .and .i64 (Go.bits .and .i64 a2 65535) 15) - 2)) > 8 then (cubbyholelaw38_ConfCheck.j0 k (t160 == 0) 1 bt148.1 bt148.2.1 bt148.2.2.1 (wrap64 ((Go.bits .and .i64 (Go.bits .and .i64 a2 65535) 15) - 2)) bt148.2.2.2.2.1 bt148.2.2.2.2.2.1 bt148.2.2.2.2.2.2.1 bt148.2.2.2.2.2.2.2.1 bt148.2.2.2.2.2.2.2.2.1 bt148.2.2.2.2.2.2.2.2.2.1 bt148.2.2.2.2.2.2.2.2.2.2) else (cubbyholelaw38_ConfCheck.j0 k (t160 == 0) 0 bt148.1 bt148.2.1 bt148.2.2.1 (wrap64 ((Go.bits .and .i64 (Go.bits .and .i64 a2 65535) 15) - 2)) bt148.2.2.2.2.1 bt148.2.2.2.2.2.1 bt148.2.2.2.2.2.2.1 bt148.2.2.2.2.2.2.2.1 bt148.2.2.2.2.2.2.2.2.1 bt148.2.2.2.2.2.2.2.2.2.1 bt148.2.2.2.2.2.2.2.2.2.2))) else (if (Int.tmod (Go.bits .and .i64 (a1 / 2) 31) 12) = 4 then (if (wrap64 ((Go.bits .and .i64 (Go.bits .and .i64 a2 65535) 31) - 2)) < 1 then (cubbyholelaw38_ConfCheck.j0 k (t160 == 0) 1 bt148.1 bt148.2.1 bt148.2.2.1 bt148.2.2.2.1 bt148.2.2.2.2.1 (wrap64 ((Go.bits .and .i64 (Go.bits .and .i64 a2 65535) 31) - 2)) bt148.2.2.2.2.2.2.1 bt148.2.2.2.2.2.2.2.1 bt148.2.2.2.2.2.2.2.2.1 bt148.2.2.2.2.2.2.2.2.2.1 bt148.2.2.2.2.2.2.2.2.2.2) else (if (wrap64 ((Go.bits .and .i64 (Go.bits .and .i64 a2 65535) 31) - 2)) > 16 then (cubbyholelaw38_ConfCheck.j0 k (t160 == 0) 1 bt148.1 bt148.2.1 bt148.2.2.1 bt148.2.2.2.1 bt148.2.2.2.2.1 (wrap64 ((Go.bits .and .i64 (Go.bits .and .i64 a2 65535) 31) - 2)) bt148.2.2.2.2.2.2.1 bt148.2.2.2.2.2.2.2.1 bt148.2.2.2.2.2.2.2.2.1 bt148.2.2.2.2.2.2.2.2.2.1 bt148.2.2.2.2.2.2.2.2.2.2) else (if bt148.2.2.2.2.1 < (wrap64 ((Go.bits .and .i64 (Go.bits .and .i64 a2 65535) 31) - 2)) then (cubbyholelaw38_ConfCheck.j0 k (t160 == 0) 1 bt148.1 bt148.2.1 bt148.2.2.1 bt148.2.2.2.1 bt148.2.2.2.2.1 (wrap64 ((Go.bits .and .i64 (Go.bits .and .i64 a2 65535) 31) - 2)) bt148.2.2.2.2.2.2.1 bt148.2.2.2.2.2.2.2.1 bt148.2.2.2.2.2.2.2.2.1 bt148.2.2.2.2.2.2.2.2.2.1 bt148.2.2.2.2.2.2.2.2.2.2) else (cubbyholelaw38_ConfCheck.j0 k (t160 == 0) 0 bt148.1 bt148.2.1 bt148.2.2.1 bt148.2.2.2.1 bt148.2.2.2.2.1 (wrap64 ((Go.bits .and .i64 (Go.bits .and .i64 a2 65535) 31) - 2)) bt148.2.2.2.2.2.2.1 bt148.2.2.2.2.2.2.2.1 bt148.2.2.2.2.2.2.2.2.1 bt148.2.2.2.2.2.2.2.2.2.1 bt148.2.2.2.2.2.2.2.2.2.2)))) else (if (Int.tmod (Go.bits .and .i64 (a1 / 2) 31) 12) = 5 then (if (wrap64 ((Go.bits .and .i64 (Go.bits .and .i64 a2 65535) 63) - 2)) < bt148.2.2.2.2.2.1 then (cubbyholelaw38_ConfCheck.j0 k (t160 == 0) 1 bt148.1 bt148.2.1 bt148.2.2.1 bt148.2.2.2.1 (wrap64 ((Go.bits .and .i64 (Go.bits .and .i64 a2 65535) 63) - 2)) bt148.2.2.2.2.2.1 bt148.2.2.2.2.2.2.1 bt148.2.2.2.2.2.2.2.1 bt148.2.2.2.2.2.2.2.2.1 bt148.2.2.2.2.2.2.2.2.2.1 bt148.2.2.2.2.2.2.2.2.2.2) else (if (wrap64 ((Go.bits .and .i64 (Go.bits .and .i64 a2 65535) 63) - 2)) > 32 then (cubbyholelaw38_ConfCheck.j0 k (t160 == 0) 1 bt148.1 bt148.2.1 bt148.2.2.1 bt148.2.2.2.1 (wrap64 ((Go.bits .and .i64 (Go.bits .and .i64 a2 65535) 63) - 2)) bt148.2.2.2.2.2.1 bt148.2.2.2.2.2.2.1 bt148.2.2.2.2.2.2.2.1 bt148.2.2.2.2.2.2.2.2.1 bt148.2.2.2.2.2.2.2.2.2.1 bt148.2.2.2.2.2.2.2.2.2.2) else (cubbyholelaw38_ConfCheck.j0 k (t160 == 0) 0 bt148.1 bt148.2.1 bt148.2.2.1 bt148.2.2.2.1 (wrap64 ((Go.bits .and .i64 (Go.bits .and .i64 a2 65535) 63) - 2)) bt148.2.2.2.2.2.1 bt148.2.2.2.2.2.2.1 bt148.2.2.2.2.2.2.2.1 bt148.2.2.2.2.2.2.2.2.1 bt148.2.2.2.2.2.2.2.2.2.1 bt148.2.2.2.2.2.2.2.2.2.2))) else (if (Int.tmod (Go.bits .and .i64 (a1 / 2) 31) 12) = 6 then (if (wrap64 ((Go.bits .and .i64 (Go.bits .and .i64 a2 65535) 31) - 2)) < 0 then (cubbyholelaw38_ConfCheck.j0 k (t160 == 0) 1 bt148.1 bt148.2.1 bt148.2.2.1 bt148.2.2.2.1 bt148.2.2.2.2.1 bt148.2.2.2.2.2.1 (wrap64 ((Go.bits .and .i64 (Go.bits .and .i64 a2 65535) 31) - 2)) bt148.2.2.2.2.2.2.2.1 bt148.2.2.2.2.2.2.2.2.1 bt148.2.2.2.2.2.2.2.2.2.1 bt148.2.2.2.2.2.2.2.2.2.2) else (if (wrap64 ((Go.bits .and .i64 (Go.bits .and .i64 a2 65535) 31) - 2)) > 16 then (cubbyholelaw38_ConfCheck.j0 k (t160 == 0) 1 bt148.1 bt148.2.1 bt148.2.2.1 bt148.2.2.2.1 bt148.2.2.2.2.1 bt148.2.2.2.2.2.1 (wrap64 ((Go.bits .and .i64 (Go.bits .and .i64 a2 65535) 31) - 2)) bt148.2.2.2.2.2.2.2.1 bt148.2.2.2.2.2.2.2.2.1 bt148.2.2.2.2.2.2.2.2.2.1 bt148.2.2.2.2.2.2.2.2.2.2) else (cubbyholelaw38_ConfCheck.j0 k (t160 == 0) 0 bt148.1 bt148.2.1 bt148.2.2.1 bt148.2.2.2.1 bt148.2.2.2.2.1 bt148.2.2.2.2.2.1 (wrap64 ((Go.bits .and .i64 (Go.bits .and .i64 a2 65535) 31) - 2)) bt148.2.2.2.2.2.2.2.1 bt148.2.2.2.2.2.2.2.2.1 bt148.2.2.2.2.2.2.2.2.2.1 bt148.2.2.2.2.2.2.2.2.2.2))) else (if (Int.tmod (Go.bits .and .i64 (a1 / 2) 31) 12) = 7 then (if (wrap64 ((Go.bits .and .i64 (Go.bits .and .i64 a2 65535) 127) - 2)) < 1 then (cubbyholelaw38_ConfCheck.j0 k (t160 == 0) 1 bt148.1 bt148.2.1 bt148.2.2.1 bt148.2.2.2.1 bt148.2.2.2.2.1 bt148.2.2.2.2.2.1 bt148.2.2.2.2.2.2.1 (wrap64 ((Go.bits .and .i64 (Go.bits .and .i64 a2 65535) 127) - 2)) bt148.2.2.2.2.2.2.2.2.1 bt148.2.2.2.2.2.2.2.2.2.1 bt148.2.2.2.2.2.2.2.2.2.2) else (if (wrap64 ((Go.bits .and .i64 (Go.bits .and .i64 a2 65535) 127) - 2)) > 64 then (cubbyholelaw38_ConfCheck.j0 k (t160 == 0) 1 bt148.1 bt148.2.1 bt148.2.2.1 bt148.2.2.2.1 bt148.2.2.2.2.1 bt148.2.2.2.2.2.1 bt148.2.2.2.2.2.2.1 (wrap64 ((Go.bits .and .i64 (Go.bits .and .i64 a2 65535) 127) - 2)) bt148.2.2.2.2.2.2.2.2.1 bt148.2.2.2.2.2.2.2.2.2.1 bt148.2.2.2.2.2.2.2.2.2.2) else (cubbyholelaw38_ConfCheck.j0 k (t160 == 0) 0 bt148.1 bt148.2.1 bt148.2.2.1 bt148.2.2.2.1 bt148.2.2.2.2.1 bt148.2.2.2.2.2.1 bt148.2.2.2.2.2.2.1 (wrap64 ((Go.bits .and .i64 (Go.bits .and .i64 a2 65535) 127) - 2)) bt148.2.2.2.2.2.2.2.2.1 bt148.2.2.2.2.2.2.2.2.2.1 bt148.2.2.2.2.2.2.2.2.2.2))) else (if (Int.tmod (Go.bits .and .i64 (a1 / 2) 31) 12) = 8 then (if (wrap64 ((Go.bits .and .i64 a2 65535) - 5)) < 1 then (cubbyholelaw38_ConfCheck.j0 k (t160 == 0) 1 bt148.1 bt148.2.1 bt148.2.2.1 bt148.2.2.2.1 bt148.2.2.2.2.1 bt148.2.2.2.2.2.1 bt148.2.2.2.2.2.2.1 bt148.2.2.2.2.2.2.2.1 (wrap64 ((Go.bits .and .i64 a2 65535) - 5)) bt148.2.2.2.2.2.2.2.2.2.1 bt148.2.2.2.2.2.2.2.2.2.2) else (if (wrap64 ((Go.bits .and .i64 a2 65535) - 5)) > 16384 then (cubbyholelaw38_ConfCheck.j0 k (t160 == 0) 1 bt148.1 bt148.2.1 bt148.2.2.1 bt148.2.2.2.1 bt148.2.2.2.2.1 bt148.2.2.2.2.2.1 bt148.2.2.2.2.2.2.1 bt148.2.2.2.2.2.2.2.1 (wrap64 ((Go.bits .and .i64 a2 65535) - 5)) bt148.2.2.2.2.2.2.2.2.2.1 bt148.2.2.2.2.2.2.2.2.2.2) else (cubbyholelaw38_ConfCheck.j0 k (t160 == 0) 0 bt148.1 bt148.2.1 bt148.2.2.1 bt148.2.2.2.1 bt148.2.2.2.2.1 bt148.2.2.2.2.2.1 bt148.2.2.2.2.2.2.1 bt148.2.2.2.2.2.2.2.1 (wrap64 ((Go.bits .and .i64 a2 65535) - 5)) bt148.2.2.2.2.2.2.2.2.2.1 bt148.2.2.2.2.2.2.2.2.2.2))) else (if (Int.tmod (Go.bits .and .i64 (a1 / 2) 31) 12) = 9 then (if (wrap64 ((Go.bits .and .i64 (Go.bits .and .i64 a2 65535) 1023) - 5)) < 0 then (cubbyholelaw38_ConfCheck.j0 k (t160 == 0) 1 bt148.1 bt148.2.1 bt148.2.2.1 bt148.2.2.2.1 bt148.2.2.2.2.1 bt148.2.2.2.2.2.1 bt148.2.2.2.2.2.2.1 bt148.2.2.2.2.2.2.2.1 bt148.2.2.2.2.2.2.2.2.1 (wrap64 ((Go.bits .and .i64 (Go.bits .and .i64 a2 65535) 1023) - 5)) bt148.2.2.2.2.2.2.2.2.2.2) else (if (wrap64 ((Go.bits .and .i64 (Go.bits .and .i64 a2 65535) 1023) - 5)) > 255 then (cubbyholelaw38_ConfCheck.j0 k (t160 == 0) 1 bt148.1 bt148.2.1 bt148.2.2.1 bt148.2.2.2.1 bt148.2.2.2.2.1 bt148.2.2.2.2.2.1 bt148.2.2.2.2.2.2.1 bt148.2.2.2.2.2.2.2.1 bt148.2.2.2.2.2.2.2.2.1 (wrap64 ((Go.bits .and .i64 (Go.bits .and .i64 a2 65535) 1023) - 5)) bt148.2.2.2.2.2.2.2.2.2.2) else (cubbyholelaw38_ConfCheck.j0 k (t160 == 0) 0 bt148.1 bt148.2.1 bt148.2.2.1 bt148.2.2.2.1 bt148.2.2.2.2.1 bt148.2.2.2.2.2.1 bt148.2.2.2.2.2.2.1 bt148.2.2.2.2.2.2.2.1 bt148.2.2.2.2.2.2.2.2.1 (wrap64 ((Go.bits .and .i64 (Go.bits .and .i64 a2 65535) 1023) - 5)) bt148.2.2.2.2.2.2.2.2.2.2))) else (cubbyholelaw38_ConfCheck.j0 k (t160 == 0) 0 bt148.1 bt148.2.1 bt148.2.2.1 bt148.2.2.2.1 bt148.2.2.2.2.1 bt148.2.2.2.2.2.1 bt148.2.2.2.2.2.2.1 bt148.2.2.2.2.2.2.2.1 bt148.2.2.2.2.2.2.2.2.1 bt148.2.2.2.2.2.2.2.2.2.1 bt148.2.2.2.2.2.2.2.2.2.2))))))))))))
theorem cubbyholelaw38_ConfCheck.mono_l : ∀ k, (∀ y0 y1 y2 y3 y4 y5 y6 y7 y8 y9 y10 y11 y12, LeO (cubbyholelaw38_ConfCheck.j0 k y0 y1 y2 y3 y4 y5 y6 y7 y8 y9 y10 y11 y12) (cubbyholelaw38_ConfCheck.j0 (k + 1) y0 y1 y2 y3 y4 y5 y6 y7 y8 y9 y10 y11 y12)) ∧ (∀ y0 y1 y2 y3 y4 y5 y6 y7 y8 y9 y10 y11 y12 y13, LeO (cubbyholelaw38_ConfCheck.j1 k y0 y1 y2 y3 y4 y5 y6 y7 y8 y9 y10 y11 y12 y13) (cubbyholelaw38_ConfCheck.j1 (k + 1) y0 y1 y2 y3 y4 y5 y6 y7 y8 y9 y10 y11 y12 y13))
  | 0 => ⟨fun _ _ _ _ _ _ _ _ _ _ _ _ _ r h => by simp [cubbyholelaw38_ConfCheck.j0] at h, fun _ _ _ _ _ _ _ _ _ _ _ _ _ _ r h => by simp [cubbyholelaw38_ConfCheck.j1] at h⟩
  | k + 1 => by
    obtain ⟨ih0, ih1⟩ := cubbyholelaw38_ConfCheck.mono_l k
    refine ⟨?_, ?_⟩
    · intro y0 y1 y2 y3 y4 y5 y6 y7 y8 y9 y10 y11 y12
      unfold cubbyholelaw38_ConfCheck.j0
      repeat' first
      | (with_reducible exact ih0 _ _ _ _ _ _ _ _ _ _ _ _ _)
      | (with_reducible exact ih1 _ _ _ _ _ _ _ _ _ _ _ _ _ _)
      | (with_reducible exact conf_Ample.mono _ _ _ _ _ _ _ _ _ _ _ _)
      | (with_reducible exact conf_Check.mono _ _ _ _ _ _ _ _ _ _ _ _)
      | (with_reducible exact cubbyholelaw38_awake.mono _)
      | (with_reducible exact LeO.refl _)
      | (with_reducible exact LeO.none _)
      | (with_reducible refine LeO.ite ?_ ?_)
      | (with_reducible refine LeO.bind ?_ (fun _ => ?_))
      | exact ih0 _ _ _ _ _ _ _ _ _ _ _ _ _
      | exact ih1 _ _ _ _ _ _ _ _ _ _ _ _ _ _
      | exact conf_Ample.mono _ _ _ _ _ _ _ _ _ _ _ _
      | exact conf_Check.mono _ _ _ _ _ _ _ _ _ _ _ _
      | exact cubbyholelaw38_awake.mono _
      | exact LeO.none _
      | refine LeO.ite ?_ ?_
      | refine LeO.bind ?_ (fun _ => ?_)
    · intro y0 y1 y2 y3 y4 y5 y6 y7 y8 y9 y10 y11 y12 y13
      unfold cubbyholelaw38_ConfCheck.j1
      repeat' first
      | (with_reducible exact ih0 _ _ _ _ _ _ _ _ _ _ _ _ _)
      | (with_reducible exact ih1 _ _ _ _ _ _ _ _ _ _ _ _ _ _)
      | (with_reducible exact conf_Ample.mono _ _ _ _ _ _ _ _ _ _ _ _)
      | (with_reducible exact conf_Check.mono _ _ _ _ _ _ _ _ _ _ _ _)
      | (with_reducible exact cubbyholelaw38_awake.mono _)
      | (with_reducible exact LeO.refl _)
      | (with_reducible exact LeO.none _)
      | (with_reducible refine LeO.ite ?_ ?_)
      | (with_reducible refine LeO.bind ?_ (fun _ => ?_))
      | exact ih0 _ _ _ _ _ _ _ _ _ _ _ _ _
      | exact ih1 _ _ _ _ _ _ _ _ _ _ _ _ _ _
      | exact conf_Ample.mono _ _ _ _ _ _ _ _ _ _ _ _
      | exact conf_Check.mono _ _ _ _ _ _ _ _ _ _ _ _
      | exact cubbyholelaw38_awake.mono _
      | exact LeO.none _
      | refine LeO.ite ?_ ?_
      | refine LeO.bind ?_ (fun _ => ?_)
theorem cubbyholelaw38_ConfCheck.mono : ∀ a0 a1 a2 a3 a4 a5 k, LeO (cubbyholelaw38_ConfCheck.f k a0 a1 a2 a3 a4 a5) (cubbyholelaw38_ConfCheck.f (k + 1) a0 a1 a2 a3 a4 a5) := by
  intro a0 a1 a2 a3 a4 a5 k
  obtain ⟨ih0, ih1⟩ := cubbyholelaw38_ConfCheck.mono_l k
  unfold cubbyholelaw38_ConfCheck.f
  repeat' first
      | (with_reducible exact ih0 _ _ _ _ _ _ _ _ _ _ _ _ _)
      | (with_reducible exact ih1 _ _ _ _ _ _ _ _ _ _ _ _ _ _)
      | (with_reducible exact conf_Ample.mono _ _ _ _ _ _ _ _ _ _ _ _)
      | (with_reducible exact conf_Check.mono _ _ _ _ _ _ _ _ _ _ _ _)
      | (with_reducible exact cubbyholelaw38_awake.mono _)
      | (with_reducible exact LeO.refl _)
      | (with_reducible exact LeO.none _)
      | (with_reducible refine LeO.ite ?_ ?_)
      | (with_reducible refine LeO.bind ?_ (fun _ => ?_))
      | exact ih0 _ _ _ _ _ _ _ _ _ _ _ _ _
      | exact ih1 _ _ _ _ _ _ _ _ _ _ _ _ _ _
      | exact conf_Ample.mono _ _ _ _ _ _ _ _ _ _ _ _
      | exact conf_Check.mono _ _ _ _ _ _ _ _ _ _ _ _
      | exact cubbyholelaw38_awake.mono _
      | exact LeO.none _
      | refine LeO.ite ?_ ?_
      | refine LeO.bind ?_ (fun _ => ?_)
set_option maxHeartbeats 8000000 in
set_option maxRecDepth 100000 in
theorem cubbyholelaw38_ConfCheck.calls (k : Nat) (a0_0 : Int) (a0_1 : Int) (a0_2 : Int) (a0_3 : Int) (a1 : Int) (a2 : Int) (r : Bool) (hr : Aside0 (r = true)) (w : World) (h : cubbyholelaw38_ConfCheck.f k a0_0 a0_1 a0_2 a0_3 a1 a2 = some r) :
    Calls Try.prog 7 #[.agg #[.int .i64 a0_0, .int .i64 a0_1, .int .i64 a0_2, .int .i64 a0_3], .int .i64 a1, .int .i64 a2] w fun e w' => e = .returned (.bool r) ∧ Below w.heap.size w w' := by
  have hu47 := Try.underlying47
  have hu50 := Try.underlying50
  have HB := Aside0.mk (Below.refl w.heap.size w)
  have H : ((cubbyholeref38_Conf.f a0_0 a0_1 a0_2 a0_3 ((Go.bits .and .i64 a1 1) == 0)).bind fun bt148 => ((conf_Check.f k bt148.1 bt148.2.1 bt148.2.2.1 bt148.2.2.2.1 bt148.2.2.2.2.1 bt148.2.2.2.2.2.1 bt148.2.2.2.2.2.2.1 bt148.2.2.2.2.2.2.2.1 bt148.2.2.2.2.2.2.2.2.1 bt148.2.2.2.2.2.2.2.2.2.1 bt148.2.2.2.2.2.2.2.2.2.2).bind fun t160 => (if (Int.tmod (Go.bits .and .i64 (a1 / 2) 31) 12) = 0 then (if (wrap64 ((Go.bits .and .i64 a2 65535) - 5)) < 1 then (cubbyholelaw38_ConfCheck.j0 k (t160 == 0) 1 (wrap64 ((Go.bits .and .i64 a2 65535) - 5)) bt148.2.1 bt148.2.2.1 bt148.2.2.2.1 bt148.2.2.2.2.1 bt148.2.2.2.2.2.1 bt148.2.2.2.2.2.2.1 bt148.2.2.2.2.2.2.2.1 bt148.2.2.2.2.2.2.2.2.1 bt148.2.2.2.2.2.2.2.2.2.1 bt148.2.2.2.2.2.2.2.2.2.2) else (if (wrap64 ((Go.bits .and .i64 a2 65535) - 5)) > 1024 then (cubbyholelaw38_ConfCheck.j0 k (t160 == 0) 1 (wrap64 ((Go.bits .and .i64 a2 65535) - 5)) bt148.2.1 bt148.2.2.1 bt148.2.2.2.1 bt148.2.2.2.2.1 bt148.2.2.2.2.2.1 bt148.2.2.2.2.2.2.1 bt148.2.2.2.2.2.2.2.1 bt148.2.2.2.2.2.2.2.2.1 bt148.2.2.2.2.2.2.2.2.2.1 bt148.2.2.2.2.2.2.2.2.2.2) else (cubbyholelaw38_ConfCheck.j0 k (t160 == 0) 0 (wrap64 ((Go.bits .and .i64 a2 65535) - 5)) bt148.2.1 bt148.2.2.1 bt148.2.2.2.1 bt148.2.2.2.2.1 bt148.2.2.2.2.2.1 bt148.2.2.2.2.2.2.1 bt148.2.2.2.2.2.2.2.1 bt148.2.2.2.2.2.2.2.2.1 bt148.2.2.2.2.2.2.2.2.2.1 bt148.2.2.2.2.2.2.2.2.2.2))) else (if (Int.tmod (Go.bits .and .i64 (a1 / 2) 31) 12) = 1 then (if (wrap64 ((Go.bits .and .i64 (Go.bits .and .i64 a2 65535) 31) - 2)) < 5 then (cubbyholelaw38_ConfCheck.j0 k (t160 == 0) 1 bt148.1 (wrap64 ((Go.bits .and .i64 (Go.bits .and .i64 a2 65535) 31) - 2)) bt148.2.2.1 bt148.2.2.2.1 bt148.2.2.2.2.1 bt148.2.2.2.2.2.1 bt148.2.2.2.2.2.2.1 bt148.2.2.2.2.2.2.2.1 bt148.2.2.2.2.2.2.2.2.1 bt148.2.2.2.2.2.2.2.2.2.1 bt148.2.2.2.2.2.2.2.2.2.2) else (if (wrap64 ((Go.bits .and .i64 (Go.bits .and .i64 a2 65535) 31) - 2)) > 16 then (cubbyholelaw38_ConfCheck.j0 k (t160 == 0) 1 bt148.1 (wrap64 ((Go.bits .and .i64 (Go.bits .and .i64 a2 65535) 31) - 2)) bt148.2.2.1 bt148.2.2.2.1 bt148.2.2.2.2.1 bt148.2.2.2.2.2.1 bt148.2.2.2.2.2.2.1 bt148.2.2.2.2.2.2.2.1 bt148.2.2.2.2.2.2.2.2.1 bt148.2.2.2.2.2.2.2.2.2.1 bt148.2.2.2.2.2.2.2.2.2.2) else (cubbyholelaw38_ConfCheck.j0 k (t160 == 0) 0 bt148.1 (wrap64 ((Go.bits .and .i64 (Go.bits .and .i64 a2 65535) 31) - 2)) bt148.2.2.1 bt148.2.2.2.1 bt148.2.2.2.2.1 bt148.2.2.2.2.2.1 bt148.2.2.2.2.2.2.1 bt148.2.2.2.2.2.2.2.1 bt148.2.2.2.2.2.2.2.2.1 bt148.2.2.2.2.2.2.2.2.2.1 bt148.2.2.2.2.2.2.2.2.2.2))) else (if (Int.tmod (Go.bits .and .i64 (a1 / 2) 31) 12) = 2 then (if (wrap64 ((Go.bits .and .i64 (Go.bits .and .i64 a2 65535) 2047) - 5)) < 0 then (cubbyholelaw38_ConfCheck.j0 k (t160 == 0) 1 bt148.1 bt148.2.1 (wrap64 ((Go.bits .and .i64 (Go.bits .and .i64 a2 65535) 2047) - 5)) bt148.2.2.2.1 bt148.2.2.2.2.1 bt148.2.2.2.2.2.1 bt148.2.2.2.2.2.2.1 bt148.2.2.2.2.2.2.2.1 bt148.2.2.2.2.2.2.2.2.1 bt148.2.2.2.2.2.2.2.2.2.1 bt148.2.2.2.2.2.2.2.2.2.2) else (if (wrap64 ((Go.bits .and .i64 (Go.bits .and .i64 a2 65535) 2047) - 5)) > 1024 then (cubbyholelaw38_ConfCheck.j0 k (t160 == 0) 1 bt148.1 bt148.2.1 (wrap64 ((Go.bits .and .i64 (Go.bits .and .i64 a2 65535) 2047) - 5)) bt148.2.2.2.1 bt148.2.2.2.2.1 bt148.2.2.2.2.2.1 bt148.2.2.2.2.2.2.1 bt148.2.2.2.2.2.2.2.1 bt148.2.2.2.2.2.2.2.2.1 bt148.2.2.2.2.2.2.2.2.2.1 bt148.2.2.2.2.2.2.2.2.2.2) else (cubbyholelaw38_ConfCheck.j0 k (t160 == 0) 0 bt148.1 bt148.2.1 (wrap64 ((Go.bits .and .i64 (Go.bits .and .i64 a2 65535) 2047) - 5)) bt148.2.2.2.1 bt148.2.2.2.2.1 bt148.2.2.2.2.2.1 bt148.2.2.2.2.2.2.1 bt148.2.2.2.2.2.2.2.1 bt148.2.2.2.2.2.2.2.2.1 bt148.2.2.2.2.2.2.2.2.2.1 bt148.2.2.2.2.2.2.2.2.2.2))) else (if (Int.tmod (Go.bits .and .i64 (a1 / 2) 31) 12) = 3 then (if (wrap64 ((Go.bits .and .i64 (Go.bits .and .i64 a2 65535) 15) - 2)) < 1 then (cubbyholelaw38_ConfCheck.j0 k (t160 == 0) 1 bt148.1 bt148.2.1 bt148.2.2.1 (wrap64 ((Go.bits .and .i64 (Go.bits .and .i64 a2 65535) 15) - 2)) bt148.2.2.2.2.1 bt148.2.2.2.2.2.1 bt148.2.2.2.2.2.2.1 bt148.2.2.2.2.2.2.2.1 bt148.2.2.2.2.2.2.2.2.1 bt148.2.2.2.2.2.2.2.2.2.1 bt148.2.2.2.2.2.2.2.2.2.2) else (if (wrap64 ((Go.bits .and .i64 (Go.bits .and .i64 a2 65535) 15) - 2)) > 8 then (cubbyholelaw38_ConfCheck.j0 k (t160 == 0) 1 bt148.1 bt148.2.1 bt148.2.2.1 (wrap64 ((Go.bits .and .i64 (Go.bits .and .i64 a2 65535) 15) - 2)) bt148.2.2.2.2.1 bt148.2.2.2.2.2.1 bt148.2.2.2.2.2.2.1 bt148.2.2.2.2.2.2.2.1 bt148.2.2.2.2.2.2.2.2.1 bt148.2.2.2.2.2.2.2.2.2.1 bt148.2.2.2.2.2.2.2.2.2.2) else (cubbyholelaw38_ConfCheck.j0 k (t160 == 0) 0 bt148.1 bt148.2.1 bt148.2.2.1 (wrap64 ((Go.bits .and .i64 (Go.bits .and .i64 a2 65535) 15) - 2)) bt148.2.2.2.2.1 bt148.2.2.2.2.2.1 bt148.2.2.2.2.2.2.1 bt148.2.2.2.2.2.2.2.1 bt148.2.2.2.2.2.2.2.2.1 bt148.2.2.2.2.2.2.2.2.2.1 bt148.2.2.2.2.2.2.2.2.2.2))) else (if (Int.tmod (Go.bits .and .i64 (a1 / 2) 31) 12) = 4 then (if (wrap64 ((Go.bits .and .i64 (Go.bits .and .i64 a2 65535) 31) - 2)) < 1 then (cubbyholelaw38_ConfCheck.j0 k (t160 == 0) 1 bt148.1 bt148.2.1 bt148.2.2.1 bt148.2.2.2.1 bt148.2.2.2.2.1 (wrap64 ((Go.bits .and .i64 (Go.bits .and .i64 a2 65535) 31) - 2)) bt148.2.2.2.2.2.2.1 bt148.2.2.2.2.2.2.2.1 bt148.2.2.2.2.2.2.2.2.1 bt148.2.2.2.2.2.2.2.2.2.1 bt148.2.2.2.2.2.2.2.2.2.2) else (if (wrap64 ((Go.bits .and .i64 (Go.bits .and .i64 a2 65535) 31) - 2)) > 16 then (cubbyholelaw38_ConfCheck.j0 k (t160 == 0) 1 bt148.1 bt148.2.1 bt148.2.2.1 bt148.2.2.2.1 bt148.2.2.2.2.1 (wrap64 ((Go.bits .and .i64 (Go.bits .and .i64 a2 65535) 31) - 2)) bt148.2.2.2.2.2.2.1 bt148.2.2.2.2.2.2.2.1 bt148.2.2.2.2.2.2.2.2.1 bt148.2.2.2.2.2.2.2.2.2.1 bt148.2.2.2.2.2.2.2.2.2.2) else (if bt148.2.2.2.2.1 < (wrap64 ((Go.bits .and .i64 (Go.bits .and .i64 a2 65535) 31) - 2)) then (cubbyholelaw38_ConfCheck.j0 k (t160 == 0) 1 bt148.1 bt148.2.1 bt148.2.2.1 bt148.2.2.2.1 bt148.2.2.2.2.1 (wrap64 ((Go.bits .and .i64 (Go.bits .and .i64 a2 65535) 31) - 2)) bt148.2.2.2.2.2.2.1 bt148.2.2.2.2.2.2.2.1 bt148.2.2.2.2.2.2.2.2.1 bt148.2.2.2.2.2.2.2.2.2.1 bt148.2.2.2.2.2.2.2.2.2.2) else (cubbyholelaw38_ConfCheck.j0 k (t160 == 0) 0 bt148.1 bt148.2.1 bt148.2.2.1 bt148.2.2.2.1 bt148.2.2.2.2.1 (wrap64 ((Go.bits .and .i64 (Go.bits .and .i64 a2 65535) 31) - 2)) bt148.2.2.2.2.2.2.1 bt148.2.2.2.2.2.2.2.1 bt148.2.2.2.2.2.2.2.2.1 bt148.2.2.2.2.2.2.2.2.2.1 bt148.2.2.2.2.2.2.2.2.2.2)))) else (if (Int.tmod (Go.bits .and .i64 (a1 / 2) 31) 12) = 5 then (if (wrap64 ((Go.bits .and .i64 (Go.bits .and .i64 a2 65535) 63) - 2)) < bt148.2.2.2.2.2.1 then (cubbyholelaw38_ConfCheck.j0 k (t160 == 0) 1 bt148.1 bt148.2.1 bt148.2.2.1 bt148.2.2.2.1 (wrap64 ((Go.bits .and .i64 (Go.bits .and .i64 a2 65535) 63) - 2)) bt148.2.2.2.2.2.1 bt148.2.2.2.2.2.2.1 bt148.2.2.2.2.2.2.2.1 bt148.2.2.2.2.2.2.2.2.1 bt148.2.2.2.2.2.2.2.2.2.1 bt148.2.2.2.2.2.2.2.2.2.2) else (if (wrap64 ((Go.bits .and .i64 (Go.bits .and .i64 a2 65535) 63) - 2)) > 32 then (cubbyholelaw38_ConfCheck.j0 k (t160 == 0) 1 bt148.1 bt148.2.1 bt148.2.2.1 bt148.2.2.2.1 (wrap64 ((Go.bits .and .i64 (Go.bits .and .i64 a2 65535) 63) - 2)) bt148.2.2.2.2.2.1 bt148.2.2.2.2.2.2.1 bt148.2.2.2.2.2.2.2.1 bt148.2.2.2.2.2.2.2.2.1 bt148.2.2.2.2.2.2.2.2.2.1 bt148.2.2.2.2.2.2.2.2.2.2) else (cubbyholelaw38_ConfCheck.j0 k (t160 == 0) 0 bt148.1 bt148.2.1 bt148.2.2.1 bt148.2.2.2.1 (wrap64 ((Go.bits .and .i64 (Go.bits .and .i64 a2 65535) 63) - 2)) bt148.2.2.2.2.2.1 bt148.2.2.2.2.2.2.1 bt148.2.2.2.2.2.2.2.1 bt148.2.2.2.2.2.2.2.2.1 bt148.2.2.2.2.2.2.2.2.2.1 bt148.2.2.2.2.2.2.2.2.2.2))) else (if (Int.tmod (Go.bits .and .i64 (a1 / 2) 31) 12) = 6 then (if (wrap64 ((Go.bits .and .i64 (Go.bits .and .i64 a2 65535) 31) - 2)) < 0 then (cubbyholelaw38_ConfCheck.j0 k (t160 == 0) 1 bt148.1 bt148.2.1 bt148.2.2.1 bt148.2.2.2.1 bt148.2.2.2.2.1 bt148.2.2.2.2.2.1 (wrap64 ((Go.bits .and .i64 (Go.bits .and .i64 a2 65535) 31) - 2)) bt148.2.2.2.2.2.2.2.1 bt148.2.2.2.2.2.2.2.2.1 bt148.2.2.2.2.2.2.2.2.2.1 bt148.2.2.2.2.2.2.2.2.2.2) else (if (wrap64 ((Go.bits .and .i64 (Go.bits .and .i64 a2 65535) 31) - 2)) > 16 then (cubbyholelaw38_ConfCheck.j0 k (t160 == 0) 1 bt148.1 bt148.2.1 bt148.2.2.1 bt148.2.2.2.1 bt148.2.2.2.2.1 bt148.2.2.2.2.2.1 (wrap64 ((Go.bits .and .i64 (Go.bits .and .i64 a2 65535) 31) - 2)) bt148.2.2.2.2.2.2.2.1 bt148.2.2.2.2.2.2.2.2.1 bt148.2.2.2.2.2.2.2.2.2.1 bt148.2.2.2.2.2.2.2.2.2.2) else (cubbyholelaw38_ConfCheck.j0 k (t160 == 0) 0 bt148.1 bt148.2.1 bt148.2.2.1 bt148.2.2.2.1 bt148.2.2.2.2.1 bt148.2.2.2.2.2.1 (wrap64 ((Go.bits .and .i64 (Go.bits .and .i64 a2 65535) 31) - 2)) bt148.2.2.2.2.2.2.2.1 bt148.2.2.2.2.2.2.2.2.1 bt148.2.2.2.2.2.2.2.2.2.1 bt148.2.2.2.2.2.2.2.2.2.2))) else (if (Int.tmod (Go.bits .and .i64 (a1 / 2) 31) 12) = 7 then (if (wrap64 ((Go.bits .and .i64 (Go.bits .and .i64 a2 65535) 127) - 2)) < 1 then (cubbyholelaw38_ConfCheck.j0 k (t160 == 0) 1 bt148.1 bt148.2.1 bt148.2.2.1 bt148.2.2.2.1 bt148.2.2.2.2.1 bt148.2.2.2.2.2.1 bt148.2.2.2.2.2.2.1 (wrap64 ((Go.bits .and .i64 (Go.bits .and .i64 a2 65535) 127) - 2)) bt148.2.2.2.2.2.2.2.2.1 bt148.2.2.2.2.2.2.2.2.2.1 bt148.2.2.2.2.2.2.2.2.2.2) else (if (wrap64 ((Go.bits .and .i64 (Go.bits .and .i64 a2 65535) 127) - 2)) > 64 then (cubbyholelaw38_ConfCheck.j0 k (t160 == 0) 1 bt148.1 bt148.2.1 bt148.2.2.1 bt148.2.2.2.1 bt148.2.2.2.2.1 bt148.2.2.2.2.2.1 bt148.2.2.2.2.2.2.1 (wrap64 ((Go.bits .and .i64 (Go.bits .and .i64 a2 65535) 127) - 2)) bt148.2.2.2.2.2.2.2.2.1 bt148.2.2.2.2.2.2.2.2.2.1 bt148.2.2.2.2.2.2.2.2.2.2) else (cubbyholelaw38_ConfCheck.j0 k (t160 == 0) 0 bt148.1 bt148.2.1 bt148.2.2.1 bt148.2.2.2.1 bt148.2.2.2.2.1 bt148.2.2.2.2.2.1 bt148.2.2.2.2.2.2.1 (wrap64 ((Go.bits .and .i64 (Go.bits .and .i64 a2 65535) 127) - 2)) bt148.2.2.2.2.2.2.2.2.1 bt148.2.2.2.2.2.2.2.2.2.1 bt148.2.2.2.2.2.2.2.2.2.2))) else (if (Int.tmod (Go.bits .and .i64 (a1 / 2) 31) 12) = 8 then (if (wrap64 ((Go.bits .and .i64 a2 65535) - 5)) < 1 then (cubbyholelaw38_ConfCheck.j0 k (t160 == 0) 1 bt148.1 bt148.2.1 bt148.2.2.1 bt148.2.2.2.1 bt148.2.2.2.2.1 bt148.2.2.2.2.2.1 bt148.2.2.2.2.2.2.1 bt148.2.2.2.2.2.2.2.1 (wrap64 ((Go.bits .and .i64 a2 65535) - 5)) bt148.2.2.2.2.2.2.2.2.2.1 bt148.2.2.2.2.2.2.2.2.2.2) else (if (wrap64 ((Go.bits .and .i64 a2 65535) - 5)) > 16384 then (cubbyholelaw38_ConfCheck.j0 k (t160 == 0) 1 bt148.1 bt148.2.1 bt148.2.2.1 bt148.2.2.2.1 bt148.2.2.2.2.1 bt148.2.2.2.2.2.1 bt148.2.2.2.2.2.2.1 bt148.2.2.2.2.2.2.2.1 (wrap64 ((Go.bits .and .i64 a2 65535) - 5)) bt148.2.2.2.2.2.2.2.2.2.1 bt148.2.2.2.2.2.2.2.2.2.2) else (cubbyholelaw38_ConfCheck.j0 k (t160 == 0) 0 bt148.1 bt148.2.1 bt148.2.2.1 bt148.2.2.2.1 bt148.2.2.2.2.1 bt148.2.2.2.2.2.1 bt148.2.2.2.2.2.2.1 bt148.2.2.2.2.2.2.2.1 (wrap64 ((Go.bits .and .i64 a2 65535) - 5)) bt148.2.2.2.2.2.2.2.2.2.1 bt148.2.2.2.2.2.2.2.2.2.2))) else (if (Int.tmod (Go.bits .and .i64 (a1 / 2) 31) 12) = 9 then (if (wrap64 ((Go.bits .and .i64 (Go.bits .and .i64 a2 65535) 1023) - 5)) < 0 then (cubbyholelaw38_ConfCheck.j0 k (t160 == 0) 1 bt148.1 bt148.2.1 bt148.2.2.1 bt148.2.2.2.1 bt148.2.2.2.2.1 bt148.2.2.2.2.2.1 bt148.2.2.2.2.2.2.1 bt148.2.2.2.2.2.2.2.1 bt148.2.2.2.2.2.2.2.2.1 (wrap64 ((Go.bits .and .i64 (Go.bits .and .i64 a2 65535) 1023) - 5)) bt148.2.2.2.2.2.2.2.2.2.2) else (if (wrap64 ((Go.bits .and .i64 (Go.bits .and .i64 a2 65535) 1023) - 5)) > 255 then (cubbyholelaw38_ConfCheck.j0 k (t160 == 0) 1 bt148.1 bt148.2.1 bt148.2.2.1 bt148.2.2.2.1 bt148.2.2.2.2.1 bt148.2.2.2.2.2.1 bt148.2.2.2.2.2.2.1 bt148.2.2.2.2.2.2.2.1 bt148.2.2.2.2.2.2.2.2.1 (wrap64 ((Go.bits .and .i64 (Go.bits .and .i64 a2 65535) 1023) - 5)) bt148.2.2.2.2.2.2.2.2.2.2) else (cubbyholelaw38_ConfCheck.j0 k (t160 == 0) 0 bt148.1 bt148.2.1 bt148.2.2.1 bt148.2.2.2.1 bt148.2.2.2.2.1 bt148.2.2.2.2.2.1 bt148.2.2.2.2.2.2.1 bt148.2.2.2.2.2.2.2.1 bt148.2.2.2.2.2.2.2.2.1 (wrap64 ((Go.bits .and .i64 (Go.bits .and .i64 a2 65535) 1023) - 5)) bt148.2.2.2.2.2.2.2.2.2.2))) else (cubbyholelaw38_ConfCheck.j0 k (t160 == 0) 0 bt148.1 bt148.2.1 bt148.2.2.1 bt148.2.2.2.1 bt148.2.2.2.2.1 bt148.2.2.2.2.2.1 bt148.2.2.2.2.2.2.1 bt148.2.2.2.2.2.2.2.1 bt148.2.2.2.2.2.2.2.2.1 bt148.2.2.2.2.2.2.2.2.2.1 bt148.2.2.2.2.2.2.2.2.2.2))))))))))))) = some r := h
  clear h
  replace H := Option.bind_eq_some_iff.mp H
  obtain ⟨⟨t148, t149, t150, t151, t152, t153, t154, t155, t156, t157, t158⟩, A40, H⟩ := H
  replace H : ((conf_Check.f k t148 t149 t150 t151 t152 t153 t154 t155 t156 t157 t158).bind fun t160 => (if (Int.tmod (Go.bits .and .i64 (a1 / 2) 31) 12) = 0 then (if (wrap64 ((Go.bits .and .i64 a2 65535) - 5)) < 1 then (cubbyholelaw38_ConfCheck.j0 k (t160 == 0) 1 (wrap64 ((Go.bits .and .i64 a2 65535) - 5)) t149 t150 t151 t152 t153 t154 t155 t156 t157 t158) else (if (wrap64 ((Go.bits .and .i64 a2 65535) - 5)) > 1024 then (cubbyholelaw38_ConfCheck.j0 k (t160 == 0) 1 (wrap64 ((Go.bits .and .i64 a2 65535) - 5)) t149 t150 t151 t152 t153 t154 t155 t156 t157 t158) else (cubbyholelaw38_ConfCheck.j0 k (t160 == 0) 0 (wrap64 ((Go.bits .and .i64 a2 65535) - 5)) t149 t150 t151 t152 t153 t154 t155 t156 t157 t158))) else (if (Int.tmod (Go.bits .and .i64 (a1 / 2) 31) 12) = 1 then (if (wrap64 ((Go.bits .and .i64 (Go.bits .and .i64 a2 65535) 31) - 2)) < 5 then (cubbyholelaw38_ConfCheck.j0 k (t160 == 0) 1 t148 (wrap64 ((Go.bits .and .i64 (Go.bits .and .i64 a2 65535) 31) - 2)) t150 t151 t152 t153 t154 t155 t156 t157 t158) else (if (wrap64 ((Go.bits .and .i64 (Go.bits .and .i64 a2 65535) 31) - 2)) > 16 then (cubbyholelaw38_ConfCheck.j0 k (t160 == 0) 1 t148 (wrap64 ((Go.bits .and .i64 (Go.bits .and .i64 a2 65535) 31) - 2)) t150 t151 t152 t153 t154 t155 t156 t157 t158) else (cubbyholelaw38_ConfCheck.j0 k (t160 == 0) 0 t148 (wrap64 ((Go.bits .and .i64 (Go.bits .and .i64 a2 65535) 31) - 2)) t150 t151 t152 t153 t154 t155 t156 t157 t158))) else (if (Int.tmod (Go.bits .and .i64 (a1 / 2) 31) 12) = 2 then (if (wrap64 ((Go.bits .and .i64 (Go.bits .and .i64 a2 65535) 2047) - 5)) < 0 then (cubbyholelaw38_ConfCheck.j0 k (t160 == 0) 1 t148 t149 (wrap64 ((Go.bits .and .i64 (Go.bits .and .i64 a2 65535) 2047) - 5)) t151 t152 t153 t154 t155 t156 t157 t158) else (if (wrap64 ((Go.bits .and .i64 (Go.bits .and .i64 a2 65535) 2047) - 5)) > 1024 then (cubbyholelaw38_ConfCheck.j0 k (t160 == 0) 1 t148 t149 (wrap64 ((Go.bits .and .i64 (Go.bits .and .i64 a2 65535) 2047) - 5)) t151 t152 t153 t154 t155 t156 t157 t158) else (cubbyholelaw38_ConfCheck.j0 k (t160 == 0) 0 t148 t149 (wrap64 ((Go.bits .and .i64 (Go.bits .and .i64 a2 65535) 2047) - 5)) t151 t152 t153 t154 t155 t156 t157 t158))) else (if (Int.tmod (Go.bits .and .i64 (a1 / 2) 31) 12) = 3 then (if (wrap64 ((Go.bits .and .i64 (Go.bits .and .i64 a2 65535) 15) - 2)) < 1 then (cubbyholelaw38_ConfCheck.j0 k (t160 == 0) 1 t148 t149 t150 (wrap64 ((Go.bits .and .i64 (Go.bits .and .i64 a2 65535) 15) - 2)) t152 t153 t154 t155 t156 t157 t158) else (if (wrap64 ((Go.bits .and .i64 (Go.bits .and .i64 a2 65535) 15) - 2)) > 8 then (cubbyholelaw38_ConfCheck.j0 k (t160 == 0) 1 t148 t149 t150 (wrap64 ((Go.bits .and .i64 (Go.bits .and .i64 a2 65535) 15) - 2)) t152 t153 t154 t155 t156 t157 t158) else (cubbyholelaw38_ConfCheck.j0 k (t160 == 0) 0 t148 t149 t150 (wrap64 ((Go.bits .and .i64 (Go.bits .and .i64 a2 65535) 15) - 2)) t152 t153 t154 t155 t156 t157 t158))) else (if (Int.tmod (Go.bits .and .i64 (a1 / 2) 31) 12) = 4 then (if (wrap64 ((Go.bits .and .i64 (Go.bits .and .i64 a2 65535) 31) - 2)) < 1 then (cubbyholelaw38_ConfCheck.j0 k (t160 == 0) 1 t148 t149 t150 t151 t152 (wrap64 ((Go.bits .and .i64 (Go.bits .and .i64 a2 65535) 31) - 2)) t154 t155 t156 t157 t158) else (if (wrap64 ((Go.bits .and .i64 (Go.bits .and .i64 a2 65535) 31) - 2)) > 16 then (cubbyholelaw38_ConfCheck.j0 k (t160 == 0) 1 t148 t149 t150 t151 t152 (wrap64 ((Go.bits .and .i64 (Go.bits .and .i64 a2 65535) 31) - 2)) t154 t155 t156 t157 t158) else (if t152 < (wrap64 ((Go.bits .and .i64 (Go.bits .and .i64 a2 65535) 31) - 2)) then (cubbyholelaw38_ConfCheck.j0 k (t160 == 0) 1 t148 t149 t150 t151 t152 (wrap64 ((Go.bits .and .i64 (Go.bits .and .i64 a2 65535) 31) - 2)) t154 t155 t156 t157 t158) else (cubbyholelaw38_ConfCheck.j0 k (t160 == 0) 0 t148 t149 t150 t151 t152 (wrap64 ((Go.bits .and .i64 (Go.bits .and .i64 a2 65535) 31) - 2)) t154 t155 t156 t157 t158)))) else (if (Int.tmod (Go.bits .and .i64 (a1 / 2) 31) 12) = 5 then (if (wrap64 ((Go.bits .and .i64 (Go.bits .and .i64 a2 65535) 63) - 2)) < t153 then (cubbyholelaw38_ConfCheck.j0 k (t160 == 0) 1 t148 t149 t150 t151 (wrap64 ((Go.bits .and .i64 (Go.bits .and .i64 a2 65535) 63) - 2)) t153 t154 t155 t156 t157 t158) else (if (wrap64 ((Go.bits .and .i64 (Go.bits .and .i64 a2 65535) 63) - 2)) > 32 then (cubbyholelaw38_ConfCheck.j0 k (t160 == 0) 1 t148 t149 t150 t151 (wrap64 ((Go.bits .and .i64 (Go.bits .and .i64 a2 65535) 63) - 2)) t153 t154 t155 t156 t157 t158) else (cubbyholelaw38_ConfCheck.j0 k (t160 == 0) 0 t148 t149 t150 t151 (wrap64 ((Go.bits .and .i64 (Go.bits .and .i64 a2 65535) 63) - 2)) t153 t154 t155 t156 t157 t158))) else (if (Int.tmod (Go.bits .and .i64 (a1 / 2) 31) 12) = 6 then (if (wrap64 ((Go.bits .and .i64 (Go.bits .and .i64 a2 65535) 31) - 2)) < 0 then (cubbyholelaw38_ConfCheck.j0 k (t160 == 0) 1 t148 t149 t150 t151 t152 t153 (wrap64 ((Go.bits .and .i64 (Go.bits .and .i64 a2 65535) 31) - 2)) t155 t156 t157 t158) else (if (wrap64 ((Go.bits .and .i64 (Go.bits .and .i64 a2 65535) 31) - 2)) > 16 then (cubbyholelaw38_ConfCheck.j0 k (t160 == 0) 1 t148 t149 t150 t151 t152 t153 (wrap64 ((Go.bits .and .i64 (Go.bits .and .i64 a2 65535) 31) - 2)) t155 t156 t157 t158) else (cubbyholelaw38_ConfCheck.j0 k (t160 == 0) 0 t148 t149 t150 t151 t152 t153 (wrap64 ((Go.bits .and .i64 (Go.bits .and .i64 a2 65535) 31) - 2)) t155 t156 t157 t158))) else (if (Int.tmod (Go.bits .and .i64 (a1 / 2) 31) 12) = 7 then (if (wrap64 ((Go.bits .and .i64 (Go.bits .and .i64 a2 65535) 127) - 2)) < 1 then (cubbyholelaw38_ConfCheck.j0 k (t160 == 0) 1 t148 t149 t150 t151 t152 t153 t154 (wrap64 ((Go.bits .and .i64 (Go.bits .and .i64 a2 65535) 127) - 2)) t156 t157 t158) else (if (wrap64 ((Go.bits .and .i64 (Go.bits .and .i64 a2 65535) 127) - 2)) > 64 then (cubbyholelaw38_ConfCheck.j0 k (t160 == 0) 1 t148 t149 t150 t151 t152 t153 t154 (wrap64 ((Go.bits .and .i64 (Go.bits .and .i64 a2 65535) 127) - 2)) t156 t157 t158) else (cubbyholelaw38_ConfCheck.j0 k (t160 == 0) 0 t148 t149 t150 t151 t152 t153 t154 (wrap64 ((Go.bits .and .i64 (Go.bits .and .i64 a2 65535) 127) - 2)) t156 t157 t158))) else (if (Int.tmod (Go.bits .and .i64 (a1 / 2) 31) 12) = 8 then (if (wrap64 ((Go.bits .and .i64 a2 65535) - 5)) < 1 then (cubbyholelaw38_ConfCheck.j0 k (t160 == 0) 1 t148 t149 t150 t151 t152 t153 t154 t155 (wrap64 ((Go.bits .and .i64 a2 65535) - 5)) t157 t158) else (if (wrap64 ((Go.bits .and .i64 a2 65535) - 5)) > 16384 then (cubbyholelaw38_ConfCheck.j0 k (t160 == 0) 1 t148 t149 t150 t151 t152 t153 t154 t155 (wrap64 ((Go.bits .and .i64 a2 65535) - 5)) t157 t158) else (cubbyholelaw38_ConfCheck.j0 k (t160 == 0) 0 t148 t149 t150 t151 t152 t153 t154 t155 (wrap64 ((Go.bits .and .i64 a2 65535) - 5)) t157 t158))) else (if (Int.tmod (Go.bits .and .i64 (a1 / 2) 31) 12) = 9 then (if (wrap64 ((Go.bits .and .i64 (Go.bits .and .i64 a2 65535) 1023) - 5)) < 0 then (cubbyholelaw38_ConfCheck.j0 k (t160 == 0) 1 t148 t149 t150 t151 t152 t153 t154 t155 t156 (wrap64 ((Go.bits .and .i64 (Go.bits .and .i64 a2 65535) 1023) - 5)) t158) else (if (wrap64 ((Go.bits .and .i64 (Go.bits .and .i64 a2 65535) 1023) - 5)) > 255 then (cubbyholelaw38_ConfCheck.j0 k (t160 == 0) 1 t148 t149 t150 t151 t152 t153 t154 t155 t156 (wrap64 ((Go.bits .and .i64 (Go.bits .and .i64 a2 65535) 1023) - 5)) t158) else (cubbyholelaw38_ConfCheck.j0 k (t160 == 0) 0 t148 t149 t150 t151 t152 t153 t154 t155 t156 (wrap64 ((Go.bits .and .i64 (Go.bits .and .i64 a2 65535) 1023) - 5)) t158))) else (cubbyholelaw38_ConfCheck.j0 k (t160 == 0) 0 t148 t149 t150 t151 t152 t153 t154 t155 t156 t157 t158)))))))))))) = some r := H
  have A4 := Aside0.mk A40
  clear A40
  replace H := Option.bind_eq_some_iff.mp H
  obtain ⟨t160, A50, H⟩ := H
  replace H : (if (Int.tmod (Go.bits .and .i64 (a1 / 2) 31) 12) = 0 then (if (wrap64 ((Go.bits .and .i64 a2 65535) - 5)) < 1 then (cubbyholelaw38_ConfCheck.j0 k (t160 == 0) 1 (wrap64 ((Go.bits .and .i64 a2 65535) - 5)) t149 t150 t151 t152 t153 t154 t155 t156 t157 t158) else (if (wrap64 ((Go.bits .and .i64 a2 65535) - 5)) > 1024 then (cubbyholelaw38_ConfCheck.j0 k (t160 == 0) 1 (wrap64 ((Go.bits .and .i64 a2 65535) - 5)) t149 t150 t151 t152 t153 t154 t155 t156 t157 t158) else (cubbyholelaw38_ConfCheck.j0 k (t160 == 0) 0 (wrap64 ((Go.bits .and .i64 a2 65535) - 5)) t149 t150 t151 t152 t153 t154 t155 t156 t157 t158))) else (if (Int.tmod (Go.bits .and .i64 (a1 / 2) 31) 12) = 1 then (if (wrap64 ((Go.bits .and .i64 (Go.bits .and .i64 a2 65535) 31) - 2)) < 5 then (cubbyholelaw38_ConfCheck.j0 k (t160 == 0) 1 t148 (wrap64 ((Go.bits .and .i64 (Go.bits .and .i64 a2 65535) 31) - 2)) t150 t151 t152 t153 t154 t155 t156 t157 t158) else (if (wrap64 ((Go.bits .and .i64 (Go.bits .and .i64 a2 65535) 31) - 2)) > 16 then (cubbyholelaw38_ConfCheck.j0 k (t160 == 0) 1 t148 (wrap64 ((Go.bits .and .i64 (Go.bits .and .i64 a2 65535) 31) - 2)) t150 t151 t152 t153 t154 t155 t156 t157 t158) else (cubbyholelaw38_ConfCheck.j0 k (t160 == 0) 0 t148 (wrap64 ((Go.bits .and .i64 (Go.bits .and .i64 a2 65535) 31) - 2)) t150 t151 t152 t153 t154 t155 t156 t157 t158))) else (if (Int.tmod (Go.bits .and .i64 (a1 / 2) 31) 12) = 2 then (if (wrap64 ((Go.bits .and .i64 (Go.bits .and .i64 a2 65535) 2047) - 5)) < 0 then (cubbyholelaw38_ConfCheck.j0 k (t160 == 0) 1 t148 t149 (wrap64 ((Go.bits .and .i64 (Go.bits .and .i64 a2 65535) 2047) - 5)) t151 t152 t153 t154 t155 t156 t157 t158) else (if (wrap64 ((Go.bits .and .i64 (Go.bits .and .i64 a2 65535) 2047) - 5)) > 1024 then (cubbyholelaw38_ConfCheck.j0 k (t160 == 0) 1 t148 t149 (wrap64 ((Go.bits .and .i64 (Go.bits .and .i64 a2 65535) 2047) - 5)) t151 t152 t153 t154 t155 t156 t157 t158) else (cubbyholelaw38_ConfCheck.j0 k (t160 == 0) 0 t148 t149 (wrap64 ((Go.bits .and .i64 (Go.bits .and .i64 a2 65535) 2047) - 5)) t151 t152 t153 t154 t155 t156 t157 t158))) else (if (Int.tmod (Go.bits .and .i64 (a1 / 2) 31) 12) = 3 then (if (wrap64 ((Go.bits .and .i64 (Go.bits .and .i64 a2 65535) 15) - 2)) < 1 then (cubbyholelaw38_ConfCheck.j0 k (t160 == 0) 1 t148 t149 t150 (wrap64 ((Go.bits .and .i64 (Go.bits .and .i64 a2 65535) 15) - 2)) t152 t153 t154 t155 t156 t157 t158) else (if (wrap64 ((Go.bits .and .i64 (Go.bits .and .i64 a2 65535) 15) - 2)) > 8 then (cubbyholelaw38_ConfCheck.j0 k (t160 == 0) 1 t148 t149 t150 (wrap64 ((Go.bits .and .i64 (Go.bits .and .i64 a2 65535) 15) - 2)) t152 t153 t154 t155 t156 t157 t158) else (cubbyholelaw38_ConfCheck.j0 k (t160 == 0) 0 t148 t149 t150 (wrap64 ((Go.bits .and .i64 (Go.bits .and .i64 a2 65535) 15) - 2)) t152 t153 t154 t155 t156 t157 t158))) else (if (Int.tmod (Go.bits .and .i64 (a1 / 2) 31) 12) = 4 then (if (wrap64 ((Go.bits .and .i64 (Go.bits .and .i64 a2 65535) 31) - 2)) < 1 then (cubbyholelaw38_ConfCheck.j0 k (t160 == 0) 1 t148 t149 t150 t151 t152 (wrap64 ((Go.bits .and .i64 (Go.bits .and .i64 a2 65535) 31) - 2)) t154 t155 t156 t157 t158) else (if (wrap64 ((Go.bits .and .i64 (Go.bits .and .i64 a2 65535) 31) - 2)) > 16 then (cubbyholelaw38_ConfCheck.j0 k (t160 == 0) 1 t148 t149 t150 t151 t152 (wrap64 ((Go.bits .and .i64 (Go.bits .and .i64 a2 65535) 31) - 2)) t154 t155 t156 t157 t158) else (if t152 < (wrap64 ((Go.bits .and .i64 (Go.bits .and .i64 a2 65535) 31) - 2)) then (cubbyholelaw38_ConfCheck.j0 k (t160 == 0) 1 t148 t149 t150 t151 t152 (wrap64 ((Go.bits .and .i64 (Go.bits .and .i64 a2 65535) 31) - 2)) t154 t155 t156 t157 t158) else (cubbyholelaw38_ConfCheck.j0 k (t160 == 0) 0 t148 t149 t150 t151 t152 (wrap64 ((Go.bits .and .i64 (Go.bits .and .i64 a2 65535) 31) - 2)) t154 t155 t156 t157 t158)))) else (if (Int.tmod (Go.bits .and .i64 (a1 / 2) 31) 12) = 5 then (if (wrap64 ((Go.bits .and .i64 (Go.bits .and .i64 a2 65535) 63) - 2)) < t153 then (cubbyholelaw38_ConfCheck.j0 k (t160 == 0) 1 t148 t149 t150 t151 (wrap64 ((Go.bits .and .i64 (Go.bits .and .i64 a2 65535) 63) - 2)) t153 t154 t155 t156 t157 t158) else (if (wrap64 ((Go.bits .and .i64 (Go.bits .and .i64 a2 65535) 63) - 2)) > 32 then (cubbyholelaw38_ConfCheck.j0 k (t160 == 0) 1 t148 t149 t150 t151 (wrap64 ((Go.bits .and .i64 (Go.bits .and .i64 a2 65535) 63) - 2)) t153 t154 t155 t156 t157 t158) else (cubbyholelaw38_ConfCheck.j0 k (t160 == 0) 0 t148 t149 t150 t151 (wrap64 ((Go.bits .and .i64 (Go.bits .and .i64 a2 65535) 63) - 2)) t153 t154 t155 t156 t157 t158))) else (if (Int.tmod (Go.bits .and .i64 (a1 / 2) 31) 12) = 6 then (if (wrap64 ((Go.bits .and .i64 (Go.bits .and .i64 a2 65535) 31) - 2)) < 0 then (cubbyholelaw38_ConfCheck.j0 k (t160 == 0) 1 t148 t149 t150 t151 t152 t153 (wrap64 ((Go.bits .and .i64 (Go.bits .and .i64 a2 65535) 31) - 2)) t155 t156 t157 t158) else (if (wrap64 ((Go.bits .and .i64 (Go.bits .and .i64 a2 65535) 31) - 2)) > 16 then (cubbyholelaw38_ConfCheck.j0 k (t160 == 0) 1 t148 t149 t150 t151 t152 t153 (wrap64 ((Go.bits .and .i64 (Go.bits .and .i64 a2 65535) 31) - 2)) t155 t156 t157 t158) else (cubbyholelaw38_ConfCheck.j0 k (t160 == 0) 0 t148 t149 t150 t151 t152 t153 (wrap64 ((Go.bits .and .i64 (Go.bits .and .i64 a2 65535) 31) - 2)) t155 t156 t157 t158))) else (if (Int.tmod (Go.bits .and .i64 (a1 / 2) 31) 12) = 7 then (if (wrap64 ((Go.bits .and .i64 (Go.bits .and .i64 a2 65535) 127) - 2)) < 1 then (cubbyholelaw38_ConfCheck.j0 k (t160 == 0) 1 t148 t149 t150 t151 t152 t153 t154 (wrap64 ((Go.bits .and .i64 (Go.bits .and .i64 a2 65535) 127) - 2)) t156 t157 t158) else (if (wrap64 ((Go.bits .and .i64 (Go.bits .and .i64 a2 65535) 127) - 2)) > 64 then (cubbyholelaw38_ConfCheck.j0 k (t160 == 0) 1 t148 t149 t150 t151 t152 t153 t154 (wrap64 ((Go.bits .and .i64 (Go.bits .and .i64 a2 65535) 127) - 2)) t156 t157 t158) else (cubbyholelaw38_ConfCheck.j0 k (t160 == 0) 0 t148 t149 t150 t151 t152 t153 t154 (wrap64 ((Go.bits .and .i64 (Go.bits .and .i64 a2 65535) 127) - 2)) t156 t157 t158))) else (if (Int.tmod (Go.bits .and .i64 (a1 / 2) 31) 12) = 8 then (if (wrap64 ((Go.bits .and .i64 a2 65535) - 5)) < 1 then (cubbyholelaw38_ConfCheck.j0 k (t160 == 0) 1 t148 t149 t150 t151 t152 t153 t154 t155 (wrap64 ((Go.bits .and .i64 a2 65535) - 5)) t157 t158) else (if (wrap64 ((Go.bits .and .i64 a2 65535) - 5)) > 16384 then (cubbyholelaw38_ConfCheck.j0 k (t160 == 0) 1 t148 t149 t150 t151 t152 t153 t154 t155 (wrap64 ((Go.bits .and .i64 a2 65535) - 5)) t157 t158) else (cubbyholelaw38_ConfCheck.j0 k (t160 == 0) 0 t148 t149 t150 t151 t152 t153 t154 t155 (wrap64 ((Go.bits .and .i64 a2 65535) - 5)) t157 t158))) else (if (Int.tmod (Go.bits .and .i64 (a1 / 2) 31) 12) = 9 then (if (wrap64 ((Go.bits .and .i64 (Go.bits .and .i64 a2 65535) 1023) - 5)) < 0 then (cubbyholelaw38_ConfCheck.j0 k (t160 == 0) 1 t148 t149 t150 t151 t152 t153 t154 t155 t156 (wrap64 ((Go.bits .and .i64 (Go.bits .and .i64 a2 65535) 1023) - 5)) t158) else (if (wrap64 ((Go.bits .and .i64 (Go.bits .and .i64 a2 65535) 1023) - 5)) > 255 then (cubbyholelaw38_ConfCheck.j0 k (t160 == 0) 1 t148 t149 t150 t151 t152 t153 t154 t155 t156 (wrap64 ((Go.bits .and .i64 (Go.bits .and .i64 a2 65535) 1023) - 5)) t158) else (cubbyholelaw38_ConfCheck.j0 k (t160 == 0) 0 t148 t149 t150 t151 t152 t153 t154 t155 t156 (wrap64 ((Go.bits .and .i64 (Go.bits .and .i64 a2 65535) 1023) - 5)) t158))) else (cubbyholelaw38_ConfCheck.j0 k (t160 == 0) 0 t148 t149 t150 t151 t152 t153 t154 t155 t156 t157 t158))))))))))) = some r := H
  have A5 := Aside0.mk A50
  clear A50
  have HC6 := Aside0.mk H
  clear H
  go_enter Try.func7, Try.ntmps7
  go_upto_block 0 with (first | ((with_reducible refine gate_dst (N := 3) rfl ?_); refine box_event ?hg (N := 3) ?hd (cs := #[.int .i64 a0_0, .int .i64 a0_1, .int .i64 a0_2, .int .i64 a0_3]) (t := 47) ?hr ?_; (case hd => rfl); (case hg => rfl); (case hr => first | (go_simp; done) | (go_simp; rfl)); intro gb147 hg w7 hbox hb; have n0_ := Aside0.mk (below_step (by repeat (first | (with_reducible first | exact HB.out | apply below_alloc | apply pw_below_drewN | apply below_drew1) | exact HB.out)) hb); have n1_ := Aside0.mk (hbox); have n2_ := Aside0.mk ((by rw [hg]; exact (below_size (by repeat (first | (with_reducible first | exact HB.out | apply below_alloc | apply pw_below_drewN | apply below_drew1) | exact HB.out))) : w.heap.size ≤ gb147)); have n3_ := Aside0.mk ((by rw [hg]; exact (below_size (by repeat (first | (with_reducible first | exact HB.out | apply below_alloc | apply pw_below_drewN | apply below_drew1) | exact HB.out))) : w.heap.size ≤ gb147)); clear HB; have HB := n0_; have BK147 := n1_; have GW147 := n2_; have GE147 := n3_; clear n0_ n1_ n2_ n3_; clear hb hbox hg; have hcz8_0 : w7.cell? ⟨gb147, 0, none⟩ = some (.int .i64 a0_0) := (blk_cell BK147.out 0).trans rfl; have hcz8_1 : w7.cell? ⟨gb147, 1, none⟩ = some (.int .i64 a0_1) := (blk_cell BK147.out 1).trans rfl; have hcz8_2 : w7.cell? ⟨gb147, 2, none⟩ = some (.int .i64 a0_2) := (blk_cell BK147.out 2).trans rfl; have hcz8_3 : w7.cell? ⟨gb147, 3, none⟩ = some (.int .i64 a0_3) := (blk_cell BK147.out 3).trans rfl; have hfz8_0 := blk_frozen BK147.out 0; have hfz8_1 := blk_frozen BK147.out 1; have hfz8_2 := blk_frozen BK147.out 2; have hfz8_3 := blk_frozen BK147.out 3) | ((with_reducible refine gate_callee (f := 27) rfl ?_); refine goesL_ (some 15) rfl rfl Try.func27 (by kernel_rfl) rfl #[.agg #[.int .i64 a0_0, .int .i64 a0_1, .int .i64 a0_2, .int .i64 a0_3], .bool ((Go.bits .and .i64 a1 1) == 0)] rfl (by (try simp only [List.map_toArray, List.map_cons, List.map_nil]); first | done | rfl | (simp only [List.length_drop, List.length_take]; rfl)) ?_; (with_reducible refine (cubbyholeref38_Conf.calls a0_0 a0_1 a0_2 a0_3 ((Go.bits .and .i64 a1 1) == 0) t148 t149 t150 t151 t152 t153 t154 t155 t156 t157 t158 _ A4.out).mono ?_); rintro e w9 ⟨rfl, hb⟩; refine ⟨_, rfl, ?_⟩; have n0_ := Aside0.mk (blk_below (g := gb147) (o := .cells #[.int .i64 a0_0, .int .i64 a0_1, .int .i64 a0_2, .int .i64 a0_3] 47 (0, 0)) (by (with_reducible repeat (first | refine blk_drewN ?_ _ | refine blk_drew ?_ | refine blk_alloc ?_ _)); exact BK147.out) hb); have n1_ := Aside0.mk (below_step (by repeat (first | (with_reducible first | exact HB.out | apply below_alloc | apply pw_below_drewN | apply below_drew1 | refine below_set ?_ GE147.out) | exact HB.out)) hb); clear BK147; clear HB; have BK147 := n0_; have HB := n1_; clear n0_ n1_; (try clear hb); (try clear hb2); (try clear hk); (try clear hi)) | ((with_reducible refine gate_dst (N := 7) rfl ?_); refine box_event ?hg (N := 7) ?hd (cs := #[.int .i64 0, .int .i64 0, .int .i64 0, .int .i64 0, .int .i64 0, .int .i64 0, .int .i64 0, .int .i64 0, .int .i64 0, .int .i64 0, .int .u64 0]) (t := 50) ?hr ?_; (case hd => rfl); (case hg => rfl); (case hr => first | (go_simp; done) | (go_simp; rfl)); intro gb159 hg w10 hbox hb; have n0_ := Aside0.mk (blk_below (g := gb147) (o := .cells #[.int .i64 a0_0, .int .i64 a0_1, .int .i64 a0_2, .int .i64 a0_3] 47 (0, 0)) (by (with_reducible repeat (first | refine blk_drewN ?_ _ | refine blk_drew ?_ | refine blk_alloc ?_ _)); exact BK147.out) hb); have n1_ := Aside0.mk (below_step (by repeat (first | (with_reducible first | exact HB.out | apply below_alloc | apply pw_below_drewN | apply below_drew1 | refine below_set ?_ GE147.out) | exact HB.out)) hb); have n2_ := Aside0.mk (hbox); have n3_ := Aside0.mk ((by rw [hg]; exact (below_size (by repeat (first | (with_reducible first | exact HB.out | apply below_alloc | apply pw_below_drewN | apply below_drew1 | refine below_set ?_ GE147.out) | exact HB.out))) : w.heap.size ≤ gb159)); have n4_ := Aside0.mk ((by rw [hg]; exact (below_size (by repeat (first | (with_reducible first | exact HB.out | apply below_alloc | apply pw_below_drewN | apply below_drew1 | refine below_set ?_ GE147.out) | exact HB.out))) : w.heap.size ≤ gb159)); have n5_ := Aside0.mk ((by rw [hg]; exact Nat.ne_of_lt (blk_lt (g := gb147) (o := .cells #[.int .i64 a0_0, .int .i64 a0_1, .int .i64 a0_2, .int .i64 a0_3] 47 (0, 0)) (by (with_reducible repeat (first | refine blk_drewN ?_ _ | refine blk_drew ?_ | refine blk_alloc ?_ _)); exact BK147.out)) : gb147 ≠ gb159)); have n6_ := Aside0.mk ((by rw [hg]; exact Nat.ne_of_gt (blk_lt (g := gb147) (o := .cells #[.int .i64 a0_0, .int .i64 a0_1, .int .i64 a0_2, .int .i64 a0_3] 47 (0, 0)) (by (with_reducible repeat (first | refine blk_drewN ?_ _ | refine blk_drew ?_ | refine blk_alloc ?_ _)); exact BK147.out)) : gb159 ≠ gb147)); clear BK147; clear HB; have BK147 := n0_; have HB := n1_; have BK159 := n2_; have GW159 := n3_; have GE159 := n4_; have NB147_159 := n5_; have NB159_147 := n6_; clear n0_ n1_ n2_ n3_ n4_ n5_ n6_; clear hb hbox hg; have hnb11 := NB159_147.out; have hnc11 := NB147_159.out; have hcz12_0 : w10.cell? ⟨gb159, 0, none⟩ = some (.int .i64 0) := (blk_cell BK159.out 0).trans rfl; have hcz12_1 : w10.cell? ⟨gb159, 1, none⟩ = some (.int .i64 0) := (blk_cell BK159.out 1).trans rfl; have hcz12_2 : w10.cell? ⟨gb159, 2, none⟩ = some (.int .i64 0) := (blk_cell BK159.out 2).trans rfl; have hcz12_3 : w10.cell? ⟨gb159, 3, none⟩ = some (.int .i64 0) := (blk_cell BK159.out 3).trans rfl; have hcz12_4 : w10.cell? ⟨gb159, 4, none⟩ = some (.int .i64 0) := (blk_cell BK159.out 4).trans rfl; have hcz12_5 : w10.cell? ⟨gb159, 5, none⟩ = some (.int .i64 0) := (blk_cell BK159.out 5).trans rfl; have hcz12_6 : w10.cell? ⟨gb159, 6, none⟩ = some (.int .i64 0) := (blk_cell BK159.out 6).trans rfl; have hcz12_7 : w10.cell? ⟨gb159, 7, none⟩ = some (.int .i64 0) := (blk_cell BK159.out 7).trans rfl; have hcz12_8 : w10.cell? ⟨gb159, 8, none⟩ = some (.int .i64 0) := (blk_cell BK159.out 8).trans rfl; have hcz12_9 : w10.cell? ⟨gb159, 9, none⟩ = some (.int .i64 0) := (blk_cell BK159.out 9).trans rfl; have hcz12_10 : w10.cell? ⟨gb159, 10, none⟩ = some (.int .u64 0) := (blk_cell BK159.out 10).trans rfl; have hfz12_0 := blk_frozen BK159.out 0; have hfz12_1 := blk_frozen BK159.out 1; have hfz12_2 := blk_frozen BK159.out 2; have hfz12_3 := blk_frozen BK159.out 3; have hfz12_4 := blk_frozen BK159.out 4; have hfz12_5 := blk_frozen BK159.out 5; have hfz12_6 := blk_frozen BK159.out 6; have hfz12_7 := blk_frozen BK159.out 7; have hfz12_8 := blk_frozen BK159.out 8; have hfz12_9 := blk_frozen BK159.out 9; have hfz12_10 := blk_frozen BK159.out 10) | ((with_reducible refine gate_callee (f := 28) rfl ?_); refine goesL_ (some 17) rfl rfl Try.func28 (by kernel_rfl) rfl #[.agg #[.int .i64 t148, .int .i64 t149, .int .i64 t150, .int .i64 t151, .int .i64 t152, .int .i64 t153, .int .i64 t154, .int .i64 t155, .int .i64 t156, .int .i64 t157, .int .u64 t158]] rfl (by (try simp only [List.map_toArray, List.map_cons, List.map_nil]); first | done | rfl | (simp only [List.length_drop, List.length_take]; rfl)) ?_; (with_reducible refine (conf_Check.calls k t148 t149 t150 t151 t152 t153 t154 t155 t156 t157 t158 t160 _ A5.out).mono ?_); rintro e w13 ⟨rfl, hb⟩; refine ⟨_, rfl, ?_⟩; have n0_ := Aside0.mk (blk_below (g := gb147) (o := .cells #[.int .i64 a0_0, .int .i64 a0_1, .int .i64 a0_2, .int .i64 a0_3] 47 (0, 0)) (by (with_reducible repeat (first | refine blk_drewN ?_ _ | refine blk_drew ?_ | refine blk_alloc ?_ _)); refine blk_far ?_ NB147_159.out _; (with_reducible repeat (first | refine blk_drewN ?_ _ | refine blk_drew ?_ | refine blk_alloc ?_ _)); refine blk_far ?_ NB147_159.out _; (with_reducible repeat (first | refine blk_drewN ?_ _ | refine blk_drew ?_ | refine blk_alloc ?_ _)); refine blk_far ?_ NB147_159.out _; (with_reducible repeat (first | refine blk_drewN ?_ _ | refine blk_drew ?_ | refine blk_alloc ?_ _)); refine blk_far ?_ NB147_159.out _; (with_reducible repeat (first | refine blk_drewN ?_ _ | refine blk_drew ?_ | refine blk_alloc ?_ _)); refine blk_far ?_ NB147_159.out _; (with_reducible repeat (first | refine blk_drewN ?_ _ | refine blk_drew ?_ | refine blk_alloc ?_ _)); refine blk_far ?_ NB147_159.out _; (with_reducible repeat (first | refine blk_drewN ?_ _ | refine blk_drew ?_ | refine blk_alloc ?_ _)); refine blk_far ?_ NB147_159.out _; (with_reducible repeat (first | refine blk_drewN ?_ _ | refine blk_drew ?_ | refine blk_alloc ?_ _)); refine blk_far ?_ NB147_159.out _; (with_reducible repeat (first | refine blk_drewN ?_ _ | refine blk_drew ?_ | refine blk_alloc ?_ _)); refine blk_far ?_ NB147_159.out _; (with_reducible repeat (first | refine blk_drewN ?_ _ | refine blk_drew ?_ | refine blk_alloc ?_ _)); refine blk_far ?_ NB147_159.out _; (with_reducible repeat (first | refine blk_drewN ?_ _ | refine blk_drew ?_ | refine blk_alloc ?_ _)); refine blk_far ?_ NB147_159.out _; (with_reducible repeat (first | refine blk_drewN ?_ _ | refine blk_drew ?_ | refine blk_alloc ?_ _)); exact BK147.out) hb); have n1_ := Aside0.mk (blk_below (g := gb159) (o := .cells #[.int .i64 t148, .int .i64 t149, .int .i64 t150, .int .i64 t151, .int .i64 t152, .int .i64 t153, .int .i64 t154, .int .i64 t155, .int .i64 t156, .int .i64 t157, .int .u64 t158] 50 (0, 0)) (by (with_reducible repeat (first | refine blk_drewN ?_ _ | refine blk_drew ?_ | refine blk_alloc ?_ _)); refine blk_put (cs := #[.int .i64 t148, .int .i64 t149, .int .i64 t150, .int .i64 t151, .int .i64 t152, .int .i64 t153, .int .i64 t154, .int .i64 t155, .int .i64 t156, .int .i64 t157, .int .u64 0]) ?_ 10 _ rfl; (with_reducible repeat (first | refine blk_drewN ?_ _ | refine blk_drew ?_ | refine blk_alloc ?_ _)); refine blk_put (cs := #[.int .i64 t148, .int .i64 t149, .int .i64 t150, .int .i64 t151, .int .i64 t152, .int .i64 t153, .int .i64 t154, .int .i64 t155, .int .i64 t156, .int .i64 0, .int .u64 0]) ?_ 9 _ rfl; (with_reducible repeat (first | refine blk_drewN ?_ _ | refine blk_drew ?_ | refine blk_alloc ?_ _)); refine blk_put (cs := #[.int .i64 t148, .int .i64 t149, .int .i64 t150, .int .i64 t151, .int .i64 t152, .int .i64 t153, .int .i64 t154, .int .i64 t155, .int .i64 0, .int .i64 0, .int .u64 0]) ?_ 8 _ rfl; (with_reducible repeat (first | refine blk_drewN ?_ _ | refine blk_drew ?_ | refine blk_alloc ?_ _)); refine blk_put (cs := #[.int .i64 t148, .int .i64 t149, .int .i64 t150, .int .i64 t151, .int .i64 t152, .int .i64 t153, .int .i64 t154, .int .i64 0, .int .i64 0, .int .i64 0, .int .u64 0]) ?_ 7 _ rfl; (with_reducible repeat (first | refine blk_drewN ?_ _ | refine blk_drew ?_ | refine blk_alloc ?_ _)); refine blk_put (cs := #[.int .i64 t148, .int .i64 t149, .int .i64 t150, .int .i64 t151, .int .i64 t152, .int .i64 t153, .int .i64 0, .int .i64 0, .int .i64 0, .int .i64 0, .int .u64 0]) ?_ 6 _ rfl; (with_reducible repeat (first | refine blk_drewN ?_ _ | refine blk_drew ?_ | refine blk_alloc ?_ _)); refine blk_put (cs := #[.int .i64 t148, .int .i64 t149, .int .i64 t150, .int .i64 t151, .int .i64 t152, .int .i64 0, .int .i64 0, .int .i64 0, .int .i64 0, .int .i64 0, .int .u64 0]) ?_ 5 _ rfl; (with_reducible repeat (first | refine blk_drewN ?_ _ | refine blk_drew ?_ | refine blk_alloc ?_ _)); refine blk_put (cs := #[.int .i64 t148, .int .i64 t149, .int .i64 t150, .int .i64 t151, .int .i64 0, .int .i64 0, .int .i64 0, .int .i64 0, .int .i64 0, .int .i64 0, .int .u64 0]) ?_ 4 _ rfl; (with_reducible repeat (first | refine blk_drewN ?_ _ | refine blk_drew ?_ | refine blk_alloc ?_ _)); refine blk_put (cs := #[.int .i64 t148, .int .i64 t149, .int .i64 t150, .int .i64 0, .int .i64 0, .int .i64 0, .int .i64 0, .int .i64 0, .int .i64 0, .int .i64 0, .int .u64 0]) ?_ 3 _ rfl; (with_reducible repeat (first | refine blk_drewN ?_ _ | refine blk_drew ?_ | refine blk_alloc ?_ _)); refine blk_put (cs := #[.int .i64 t148, .int .i64 t149, .int .i64 0, .int .i64 0, .int .i64 0, .int .i64 0, .int .i64 0, .int .i64 0, .int .i64 0, .int .i64 0, .int .u64 0]) ?_ 2 _ rfl; (with_reducible repeat (first | refine blk_drewN ?_ _ | refine blk_drew ?_ | refine blk_alloc ?_ _)); refine blk_put (cs := #[.int .i64 t148, .int .i64 0, .int .i64 0, .int .i64 0, .int .i64 0, .int .i64 0, .int .i64 0, .int .i64 0, .int .i64 0, .int .i64 0, .int .u64 0]) ?_ 1 _ rfl; (with_reducible repeat (first | refine blk_drewN ?_ _ | refine blk_drew ?_ | refine blk_alloc ?_ _)); refine blk_put (cs := #[.int .i64 0, .int .i64 0, .int .i64 0, .int .i64 0, .int .i64 0, .int .i64 0, .int .i64 0, .int .i64 0, .int .i64 0, .int .i64 0, .int .u64 0]) ?_ 0 _ rfl; (with_reducible repeat (first | refine blk_drewN ?_ _ | refine blk_drew ?_ | refine blk_alloc ?_ _)); exact BK159.out) hb); have n2_ := Aside0.mk (below_step (by repeat (first | (with_reducible first | exact HB.out | apply below_alloc | apply pw_below_drewN | apply below_drew1 | refine below_set ?_ GE147.out | refine below_set ?_ GE159.out) | exact HB.out)) hb); clear BK147; clear BK159; clear HB; have BK147 := n0_; have BK159 := n1_; have HB := n2_; clear n0_ n1_ n2_; (try clear hb); (try clear hb2); (try clear hk); (try clear hi)))
  (try simp only [Act.put, List.setIfInBounds_toArray, List.set_cons_zero, List.set_cons_succ])
  go_cut [9] (fun v9 wc => ∃ (kq : Nat) (x9_5 : Int) (x160000_5 : Int) (x160001_5 : Int) (x160002_5 : Int) (x160003_5 : Int) (x160004_5 : Int) (x160005_5 : Int) (x160006_5 : Int) (x160007_5 : Int) (x160008_5 : Int) (x160009_5 : Int), v9 = .int .i64 x9_5 ∧ Aside0 (cubbyholelaw38_ConfCheck.j0 kq (t160 == 0) x9_5 x160000_5 x160001_5 x160002_5 x160003_5 x160004_5 x160005_5 x160006_5 x160007_5 x160008_5 x160009_5 t158 = some r) ∧ Aside0 (kq ≤ k) ∧ Aside0 (wc.heap[gb147]? = some (.cells #[.int .i64 a0_0, .int .i64 a0_1, .int .i64 a0_2, .int .i64 a0_3] 47 (0, 0))) ∧ Aside0 (wc.heap[gb159]? = some (.cells #[.int .i64 x160000_5, .int .i64 x160001_5, .int .i64 x160002_5, .int .i64 x160003_5, .int .i64 x160004_5, .int .i64 x160005_5, .int .i64 x160006_5, .int .i64 x160007_5, .int .i64 x160008_5, .int .i64 x160009_5, .int .u64 t158] 50 (0, 0))) ∧ Aside0 (Below w.heap.size w wc))
  case first =>
    have H := HC6.out
    clear HC6
    by_cases c14 : (Int.tmod (Go.bits .and .i64 (a1 / 2) 31) 12) = 0
    · rw [if_pos c14] at H
      have c14b0 : ((Int.tmod (Go.bits .and .i64 (a1 / 2) 31) 12) == 0) = true := beq_iff_eq.mpr c14
      have c14b1 : ((Int.tmod (Go.bits .and .i64 (a1 / 2) 31) 12) != 0) = false := bne_eq_false_iff_eq.mpr c14
      clear c14
      (first | rw [c14b0] | (simp only [i64_w, i32_w]; rw [c14b0]) | skip)
      by_cases c15 : (wrap64 ((Go.bits .and .i64 a2 65535) - 5)) < 1
      · rw [if_pos c15] at H
        have c15b0 : decide ((wrap64 ((Go.bits .and .i64 a2 65535) - 5)) < 1) = true := decide_eq_true c15
        clear c15
        have H' := Aside0.mk H
        clear H
        have hnb16 := NB159_147.out
        have hnc16 := NB147_159.out
        have hcz17_0 : w13.cell? ⟨gb159, 0, none⟩ = some (.int .i64 t148) := (blk_cell BK159.out 0).trans rfl
        have hcz17_1 : w13.cell? ⟨gb159, 1, none⟩ = some (.int .i64 t149) := (blk_cell BK159.out 1).trans rfl
        have hcz17_2 : w13.cell? ⟨gb159, 2, none⟩ = some (.int .i64 t150) := (blk_cell BK159.out 2).trans rfl
        have hcz17_3 : w13.cell? ⟨gb159, 3, none⟩ = some (.int .i64 t151) := (blk_cell BK159.out 3).trans rfl
        have hcz17_4 : w13.cell? ⟨gb159, 4, none⟩ = some (.int .i64 t152) := (blk_cell BK159.out 4).trans rfl
        have hcz17_5 : w13.cell? ⟨gb159, 5, none⟩ = some (.int .i64 t153) := (blk_cell BK159.out 5).trans rfl
        have hcz17_6 : w13.cell? ⟨gb159, 6, none⟩ = some (.int .i64 t154) := (blk_cell BK159.out 6).trans rfl
        have hcz17_7 : w13.cell? ⟨gb159, 7, none⟩ = some (.int .i64 t155) := (blk_cell BK159.out 7).trans rfl
        have hcz17_8 : w13.cell? ⟨gb159, 8, none⟩ = some (.int .i64 t156) := (blk_cell BK159.out 8).trans rfl
        have hcz17_9 : w13.cell? ⟨gb159, 9, none⟩ = some (.int .i64 t157) := (blk_cell BK159.out 9).trans rfl
        have hcz17_10 : w13.cell? ⟨gb159, 10, none⟩ = some (.int .u64 t158) := (blk_cell BK159.out 10).trans rfl
        have hfz17_0 := blk_frozen BK159.out 0
        have hfz17_1 := blk_frozen BK159.out 1
        have hfz17_2 := blk_frozen BK159.out 2
        have hfz17_3 := blk_frozen BK159.out 3
        have hfz17_4 := blk_frozen BK159.out 4
        have hfz17_5 := blk_frozen BK159.out 5
        have hfz17_6 := blk_frozen BK159.out 6
        have hfz17_7 := blk_frozen BK159.out 7
        have hfz17_8 := blk_frozen BK159.out 8
        have hfz17_9 := blk_frozen BK159.out 9
        have hfz17_10 := blk_frozen BK159.out 10
        as_aux_lemma =>
          go_wp2
          go_meet
          case rel => exact ⟨_, (1), (wrap64 ((Go.bits .and .i64 a2 65535) - 5)), (t149), (t150), (t151), (t152), (t153), (t154), (t155), (t156), (t157), (by first | rfl | (simp; done) | (simp [*]; done)), H', ⟨by first | omega | exact Nat.le_refl _⟩, ⟨by (with_reducible repeat (first | refine blk_drewN ?_ _ | refine blk_drew ?_ | refine blk_alloc ?_ _)); refine blk_far ?_ NB147_159.out _; (with_reducible repeat (first | refine blk_drewN ?_ _ | refine blk_drew ?_ | refine blk_alloc ?_ _)); exact BK147.out⟩, ⟨by (with_reducible repeat (first | refine blk_drewN ?_ _ | refine blk_drew ?_ | refine blk_alloc ?_ _)); refine blk_put (cs := #[.int .i64 t148, .int .i64 t149, .int .i64 t150, .int .i64 t151, .int .i64 t152, .int .i64 t153, .int .i64 t154, .int .i64 t155, .int .i64 t156, .int .i64 t157, .int .u64 t158]) ?_ 0 _ rfl; (with_reducible repeat (first | refine blk_drewN ?_ _ | refine blk_drew ?_ | refine blk_alloc ?_ _)); exact BK159.out⟩, ⟨by repeat (first | (with_reducible first | exact HB.out | apply below_alloc | apply pw_below_drewN | apply below_drew1 | refine below_set ?_ GE147.out | refine below_set ?_ GE159.out) | exact HB.out)⟩⟩
      · rw [if_neg c15] at H
        have c15b0 : decide ((wrap64 ((Go.bits .and .i64 a2 65535) - 5)) < 1) = false := decide_eq_false c15
        clear c15
        by_cases c18 : (wrap64 ((Go.bits .and .i64 a2 65535) - 5)) > 1024
        · rw [if_pos c18] at H
          have c18b0 : decide (1024 < (wrap64 ((Go.bits .and .i64 a2 65535) - 5))) = true := decide_eq_true c18
          clear c18
          have H' := Aside0.mk H
          clear H
          have hnb19 := NB159_147.out
          have hnc19 := NB147_159.out
          have hcz20_0 : w13.cell? ⟨gb159, 0, none⟩ = some (.int .i64 t148) := (blk_cell BK159.out 0).trans rfl
          have hcz20_1 : w13.cell? ⟨gb159, 1, none⟩ = some (.int .i64 t149) := (blk_cell BK159.out 1).trans rfl
          have hcz20_2 : w13.cell? ⟨gb159, 2, none⟩ = some (.int .i64 t150) := (blk_cell BK159.out 2).trans rfl
          have hcz20_3 : w13.cell? ⟨gb159, 3, none⟩ = some (.int .i64 t151) := (blk_cell BK159.out 3).trans rfl
          have hcz20_4 : w13.cell? ⟨gb159, 4, none⟩ = some (.int .i64 t152) := (blk_cell BK159.out 4).trans rfl
          have hcz20_5 : w13.cell? ⟨gb159, 5, none⟩ = some (.int .i64 t153) := (blk_cell BK159.out 5).trans rfl
          have hcz20_6 : w13.cell? ⟨gb159, 6, none⟩ = some (.int .i64 t154) := (blk_cell BK159.out 6).trans rfl
          have hcz20_7 : w13.cell? ⟨gb159, 7, none⟩ = some (.int .i64 t155) := (blk_cell BK159.out 7).trans rfl
          have hcz20_8 : w13.cell? ⟨gb159, 8, none⟩ = some (.int .i64 t156) := (blk_cell BK159.out 8).trans rfl
          have hcz20_9 : w13.cell? ⟨gb159, 9, none⟩ = some (.int .i64 t157) := (blk_cell BK159.out 9).trans rfl
          have hcz20_10 : w13.cell? ⟨gb159, 10, none⟩ = some (.int .u64 t158) := (blk_cell BK159.out 10).trans rfl
          have hfz20_0 := blk_frozen BK159.out 0
          have hfz20_1 := blk_frozen BK159.out 1
          have hfz20_2 := blk_frozen BK159.out 2
          have hfz20_3 := blk_frozen BK159.out 3
          have hfz20_4 := blk_frozen BK159.out 4
          have hfz20_5 := blk_frozen BK159.out 5
          have hfz20_6 := blk_frozen BK159.out 6
          have hfz20_7 := blk_frozen BK159.out 7
          have hfz20_8 := blk_frozen BK159.out 8
          have hfz20_9 := blk_frozen BK159.out 9
          have hfz20_10 := blk_frozen BK159.out 10
          as_aux_lemma =>
            go_wp2
            go_meet
            case rel => exact ⟨_, (1), (wrap64 ((Go.bits .and .i64 a2 65535) - 5)), (t149), (t150), (t151), (t152), (t153), (t154), (t155), (t156), (t157), (by first | rfl | (simp; done) | (simp [*]; done)), H', ⟨by first | omega | exact Nat.le_refl _⟩, ⟨by (with_reducible repeat (first | refine blk_drewN ?_ _ | refine blk_drew ?_ | refine blk_alloc ?_ _)); refine blk_far ?_ NB147_159.out _; (with_reducible repeat (first | refine blk_drewN ?_ _ | refine blk_drew ?_ | refine blk_alloc ?_ _)); exact BK147.out⟩, ⟨by (with_reducible repeat (first | refine blk_drewN ?_ _ | refine blk_drew ?_ | refine blk_alloc ?_ _)); refine blk_put (cs := #[.int .i64 t148, .int .i64 t149, .int .i64 t150, .int .i64 t151, .int .i64 t152, .int .i64 t153, .int .i64 t154, .int .i64 t155, .int .i64 t156, .int .i64 t157, .int .u64 t158]) ?_ 0 _ rfl; (with_reducible repeat (first | refine blk_drewN ?_ _ | refine blk_drew ?_ | refine blk_alloc ?_ _)); exact BK159.out⟩, ⟨by repeat (first | (with_reducible first | exact HB.out | apply below_alloc | apply pw_below_drewN | apply below_drew1 | refine below_set ?_ GE147.out | refine below_set ?_ GE159.out) | exact HB.out)⟩⟩
        · rw [if_neg c18] at H
          have c18b0 : decide (1024 < (wrap64 ((Go.bits .and .i64 a2 65535) - 5))) = false := decide_eq_false c18
          clear c18
          have H' := Aside0.mk H
          clear H
          have hnb21 := NB159_147.out
          have hnc21 := NB147_159.out
          have hcz22_0 : w13.cell? ⟨gb159, 0, none⟩ = some (.int .i64 t148) := (blk_cell BK159.out 0).trans rfl
          have hcz22_1 : w13.cell? ⟨gb159, 1, none⟩ = some (.int .i64 t149) := (blk_cell BK159.out 1).trans rfl
          have hcz22_2 : w13.cell? ⟨gb159, 2, none⟩ = some (.int .i64 t150) := (blk_cell BK159.out 2).trans rfl
          have hcz22_3 : w13.cell? ⟨gb159, 3, none⟩ = some (.int .i64 t151) := (blk_cell BK159.out 3).trans rfl
          have hcz22_4 : w13.cell? ⟨gb159, 4, none⟩ = some (.int .i64 t152) := (blk_cell BK159.out 4).trans rfl
          have hcz22_5 : w13.cell? ⟨gb159, 5, none⟩ = some (.int .i64 t153) := (blk_cell BK159.out 5).trans rfl
          have hcz22_6 : w13.cell? ⟨gb159, 6, none⟩ = some (.int .i64 t154) := (blk_cell BK159.out 6).trans rfl
          have hcz22_7 : w13.cell? ⟨gb159, 7, none⟩ = some (.int .i64 t155) := (blk_cell BK159.out 7).trans rfl
          have hcz22_8 : w13.cell? ⟨gb159, 8, none⟩ = some (.int .i64 t156) := (blk_cell BK159.out 8).trans rfl
          have hcz22_9 : w13.cell? ⟨gb159, 9, none⟩ = some (.int .i64 t157) := (blk_cell BK159.out 9).trans rfl
          have hcz22_10 : w13.cell? ⟨gb159, 10, none⟩ = some (.int .u64 t158) := (blk_cell BK159.out 10).trans rfl
          have hfz22_0 := blk_frozen BK159.out 0
          have hfz22_1 := blk_frozen BK159.out 1
          have hfz22_2 := blk_frozen BK159.out 2
          have hfz22_3 := blk_frozen BK159.out 3
          have hfz22_4 := blk_frozen BK159.out 4
          have hfz22_5 := blk_frozen BK159.out 5
          have hfz22_6 := blk_frozen BK159.out 6
          have hfz22_7 := blk_frozen BK159.out 7
          have hfz22_8 := blk_frozen BK159.out 8
          have hfz22_9 := blk_frozen BK159.out 9
          have hfz22_10 := blk_frozen BK159.out 10
          as_aux_lemma =>
            go_wp2
            go_meet
            case rel => exact ⟨_, (0), (wrap64 ((Go.bits .and .i64 a2 65535) - 5)), (t149), (t150), (t151), (t152), (t153), (t154), (t155), (t156), (t157), (by first | rfl | (simp; done) | (simp [*]; done)), H', ⟨by first | omega | exact Nat.le_refl _⟩, ⟨by (with_reducible repeat (first | refine blk_drewN ?_ _ | refine blk_drew ?_ | refine blk_alloc ?_ _)); refine blk_far ?_ NB147_159.out _; (with_reducible repeat (first | refine blk_drewN ?_ _ | refine blk_drew ?_ | refine blk_alloc ?_ _)); exact BK147.out⟩, ⟨by (with_reducible repeat (first | refine blk_drewN ?_ _ | refine blk_drew ?_ | refine blk_alloc ?_ _)); refine blk_put (cs := #[.int .i64 t148, .int .i64 t149, .int .i64 t150, .int .i64 t151, .int .i64 t152, .int .i64 t153, .int .i64 t154, .int .i64 t155, .int .i64 t156, .int .i64 t157, .int .u64 t158]) ?_ 0 _ rfl; (with_reducible repeat (first | refine blk_drewN ?_ _ | refine blk_drew ?_ | refine blk_alloc ?_ _)); exact BK159.out⟩, ⟨by repeat (first | (with_reducible first | exact HB.out | apply below_alloc | apply pw_below_drewN | apply below_drew1 | refine below_set ?_ GE147.out | refine below_set ?_ GE159.out) | exact HB.out)⟩⟩
    · rw [if_neg c14] at H
      have c14b0 : ((Int.tmod (Go.bits .and .i64 (a1 / 2) 31) 12) == 0) = false := beq_eq_false_iff_ne.mpr c14
      have c14b1 : ((Int.tmod (Go.bits .and .i64 (a1 / 2) 31) 12) != 0) = true := bne_iff_ne.mpr c14
      (first | rw [c14b0] | (simp only [i64_w, i32_w]; rw [c14b0]) | skip)
      by_cases c23 : (Int.tmod (Go.bits .and .i64 (a1 / 2) 31) 12) = 1
      · rw [if_pos c23] at H
        have c23b0 : ((Int.tmod (Go.bits .and .i64 (a1 / 2) 31) 12) == 1) = true := beq_iff_eq.mpr c23
        have c23b1 : ((Int.tmod (Go.bits .and .i64 (a1 / 2) 31) 12) != 1) = false := bne_eq_false_iff_eq.mpr c23
        clear c23
        by_cases c24 : (wrap64 ((Go.bits .and .i64 (Go.bits .and .i64 a2 65535) 31) - 2)) < 5
        · rw [if_pos c24] at H
          have c24b0 : decide ((wrap64 ((Go.bits .and .i64 (Go.bits .and .i64 a2 65535) 31) - 2)) < 5) = true := decide_eq_true c24
          clear c24
          have H' := Aside0.mk H
          clear H
          have hnb25 := NB159_147.out
          have hnc25 := NB147_159.out
          have hcz26_0 : w13.cell? ⟨gb159, 0, none⟩ = some (.int .i64 t148) := (blk_cell BK159.out 0).trans rfl
          have hcz26_1 : w13.cell? ⟨gb159, 1, none⟩ = some (.int .i64 t149) := (blk_cell BK159.out 1).trans rfl
          have hcz26_2 : w13.cell? ⟨gb159, 2, none⟩ = some (.int .i64 t150) := (blk_cell BK159.out 2).trans rfl
          have hcz26_3 : w13.cell? ⟨gb159, 3, none⟩ = some (.int .i64 t151) := (blk_cell BK159.out 3).trans rfl
          have hcz26_4 : w13.cell? ⟨gb159, 4, none⟩ = some (.int .i64 t152) := (blk_cell BK159.out 4).trans rfl
          have hcz26_5 : w13.cell? ⟨gb159, 5, none⟩ = some (.int .i64 t153) := (blk_cell BK159.out 5).trans rfl
          have hcz26_6 : w13.cell? ⟨gb159, 6, none⟩ = some (.int .i64 t154) := (blk_cell BK159.out 6).trans rfl
          have hcz26_7 : w13.cell? ⟨gb159, 7, none⟩ = some (.int .i64 t155) := (blk_cell BK159.out 7).trans rfl
          have hcz26_8 : w13.cell? ⟨gb159, 8, none⟩ = some (.int .i64 t156) := (blk_cell BK159.out 8).trans rfl
          have hcz26_9 : w13.cell? ⟨gb159, 9, none⟩ = some (.int .i64 t157) := (blk_cell BK159.out 9).trans rfl
          have hcz26_10 : w13.cell? ⟨gb159, 10, none⟩ = some (.int .u64 t158) := (blk_cell BK159.out 10).trans rfl
          have hfz26_0 := blk_frozen BK159.out 0
          have hfz26_1 := blk_frozen BK159.out 1
          have hfz26_2 := blk_frozen BK159.out 2
          have hfz26_3 := blk_frozen BK159.out 3
          have hfz26_4 := blk_frozen BK159.out 4
          have hfz26_5 := blk_frozen BK159.out 5
          have hfz26_6 := blk_frozen BK159.out 6
          have hfz26_7 := blk_frozen BK159.out 7
          have hfz26_8 := blk_frozen BK159.out 8
          have hfz26_9 := blk_frozen BK159.out 9
          have hfz26_10 := blk_frozen BK159.out 10
          as_aux_lemma =>
            go_wp2
            go_meet
            case rel => exact ⟨_, (1), (t148), (wrap64 ((Go.bits .and .i64 (Go.bits .and .i64 a2 65535) 31) - 2)), (t150), (t151), (t152), (t153), (t154), (t155), (t156), (t157), (by first | rfl | (simp; done) | (simp [*]; done)), H', ⟨by first | omega | exact Nat.le_refl _⟩, ⟨by (with_reducible repeat (first | refine blk_drewN ?_ _ | refine blk_drew ?_ | refine blk_alloc ?_ _)); refine blk_far ?_ NB147_159.out _; (with_reducible repeat (first | refine blk_drewN ?_ _ | refine blk_drew ?_ | refine blk_alloc ?_ _)); exact BK147.out⟩, ⟨by (with_reducible repeat (first | refine blk_drewN ?_ _ | refine blk_drew ?_ | refine blk_alloc ?_ _)); refine blk_put (cs := #[.int .i64 t148, .int .i64 t149, .int .i64 t150, .int .i64 t151, .int .i64 t152, .int .i64 t153, .int .i64 t154, .int .i64 t155, .int .i64 t156, .int .i64 t157, .int .u64 t158]) ?_ 1 _ rfl; (with_reducible repeat (first | refine blk_drewN ?_ _ | refine blk_drew ?_ | refine blk_alloc ?_ _)); exact BK159.out⟩, ⟨by repeat (first | (with_reducible first | exact HB.out | apply below_alloc | apply pw_below_drewN | apply below_drew1 | refine below_set ?_ GE147.out | refine below_set ?_ GE159.out) | exact HB.out)⟩⟩
        · rw [if_neg c24] at H
          have c24b0 : decide ((wrap64 ((Go.bits .and .i64 (Go.bits .and .i64 a2 65535) 31) - 2)) < 5) = false := decide_eq_false c24
          clear c24
          by_cases c27 : (wrap64 ((Go.bits .and .i64 (Go.bits .and .i64 a2 65535) 31) - 2)) > 16
          · rw [if_pos c27] at H
            have c27b0 : decide (16 < (wrap64 ((Go.bits .and .i64 (Go.bits .and .i64 a2 65535) 31) - 2))) = true := decide_eq_true c27
            clear c27
            have H' := Aside0.mk H
            clear H
            have hnb28 := NB159_147.out
            have hnc28 := NB147_159.out
            have hcz29_0 : w13.cell? ⟨gb159, 0, none⟩ = some (.int .i64 t148) := (blk_cell BK159.out 0).trans rfl
            have hcz29_1 : w13.cell? ⟨gb159, 1, none⟩ = some (.int .i64 t149) := (blk_cell BK159.out 1).trans rfl
            have hcz29_2 : w13.cell? ⟨gb159, 2, none⟩ = some (.int .i64 t150) := (blk_cell BK159.out 2).trans rfl
            have hcz29_3 : w13.cell? ⟨gb159, 3, none⟩ = some (.int .i64 t151) := (blk_cell BK159.out 3).trans rfl
            have hcz29_4 : w13.cell? ⟨gb159, 4, none⟩ = some (.int .i64 t152) := (blk_cell BK159.out 4).trans rfl
            have hcz29_5 : w13.cell? ⟨gb159, 5, none⟩ = some (.int .i64 t153) := (blk_cell BK159.out 5).trans rfl
            have hcz29_6 : w13.cell? ⟨gb159, 6, none⟩ = some (.int .i64 t154) := (blk_cell BK159.out 6).trans rfl
            have hcz29_7 : w13.cell? ⟨gb159, 7, none⟩ = some (.int .i64 t155) := (blk_cell BK159.out 7).trans rfl
            have hcz29_8 : w13.cell? ⟨gb159, 8, none⟩ = some (.int .i64 t156) := (blk_cell BK159.out 8).trans rfl
            have hcz29_9 : w13.cell? ⟨gb159, 9, none⟩ = some (.int .i64 t157) := (blk_cell BK159.out 9).trans rfl
            have hcz29_10 : w13.cell? ⟨gb159, 10, none⟩ = some (.int .u64 t158) := (blk_cell BK159.out 10).trans rfl
            have hfz29_0 := blk_frozen BK159.out 0
            have hfz29_1 := blk_frozen BK159.out 1
            have hfz29_2 := blk_frozen BK159.out 2
            have hfz29_3 := blk_frozen BK159.out 3
            have hfz29_4 := blk_frozen BK159.out 4
            have hfz29_5 := blk_frozen BK159.out 5
            have hfz29_6 := blk_frozen BK159.out 6
            have hfz29_7 := blk_frozen BK159.out 7
            have hfz29_8 := blk_frozen BK159.out 8
            have hfz29_9 := blk_frozen BK159.out 9
            have hfz29_10 := blk_frozen BK159.out 10
            as_aux_lemma =>
              go_wp2
              go_meet
              case rel => exact ⟨_, (1), (t148), (wrap64 ((Go.bits .and .i64 (Go.bits .and .i64 a2 65535) 31) - 2)), (t150), (t151), (t152), (t153), (t154), (t155), (t156), (t157), (by first | rfl | (simp; done) | (simp [*]; done)), H', ⟨by first | omega | exact Nat.le_refl _⟩, ⟨by (with_reducible repeat (first | refine blk_drewN ?_ _ | refine blk_drew ?_ | refine blk_alloc ?_ _)); refine blk_far ?_ NB147_159.out _; (with_reducible repeat (first | refine blk_drewN ?_ _ | refine blk_drew ?_ | refine blk_alloc ?_ _)); exact BK147.out⟩, ⟨by (with_reducible repeat (first | refine blk_drewN ?_ _ | refine blk_drew ?_ | refine blk_alloc ?_ _)); refine blk_put (cs := #[.int .i64 t148, .int .i64 t149, .int .i64 t150, .int .i64 t151, .int .i64 t152, .int .i64 t153, .int .i64 t154, .int .i64 t155, .int .i64 t156, .int .i64 t157, .int .u64 t158]) ?_ 1 _ rfl; (with_reducible repeat (first | refine blk_drewN ?_ _ | refine blk_drew ?_ | refine blk_alloc ?_ _)); exact BK159.out⟩, ⟨by repeat (first | (with_reducible first | exact HB.out | apply below_alloc | apply pw_below_drewN | apply below_drew1 | refine below_set ?_ GE147.out | refine below_set ?_ GE159.out) | exact HB.out)⟩⟩
          · rw [if_neg c27] at H
            have c27b0 : decide (16 < (wrap64 ((Go.bits .and .i64 (Go.bits .and .i64 a2 65535) 31) - 2))) = false := decide_eq_false c27
            clear c27
            have H' := Aside0.mk H
            clear H
            have hnb30 := NB159_147.out
            have hnc30 := NB147_159.out
            have hcz31_0 : w13.cell? ⟨gb159, 0, none⟩ = some (.int .i64 t148) := (blk_cell BK159.out 0).trans rfl
            have hcz31_1 : w13.cell? ⟨gb159, 1, none⟩ = some (.int .i64 t149) := (blk_cell BK159.out 1).trans rfl
            have hcz31_2 : w13.cell? ⟨gb159, 2, none⟩ = some (.int .i64 t150) := (blk_cell BK159.out 2).trans rfl
            have hcz31_3 : w13.cell? ⟨gb159, 3, none⟩ = some (.int .i64 t151) := (blk_cell BK159.out 3).trans rfl
            have hcz31_4 : w13.cell? ⟨gb159, 4, none⟩ = some (.int .i64 t152) := (blk_cell BK159.out 4).trans rfl
            have hcz31_5 : w13.cell? ⟨gb159, 5, none⟩ = some (.int .i64 t153) := (blk_cell BK159.out 5).trans rfl
            have hcz31_6 : w13.cell? ⟨gb159, 6, none⟩ = some (.int .i64 t154) := (blk_cell BK159.out 6).trans rfl
            have hcz31_7 : w13.cell? ⟨gb159, 7, none⟩ = some (.int .i64 t155) := (blk_cell BK159.out 7).trans rfl
            have hcz31_8 : w13.cell? ⟨gb159, 8, none⟩ = some (.int .i64 t156) := (blk_cell BK159.out 8).trans rfl
            have hcz31_9 : w13.cell? ⟨gb159, 9, none⟩ = some (.int .i64 t157) := (blk_cell BK159.out 9).trans rfl
            have hcz31_10 : w13.cell? ⟨gb159, 10, none⟩ = some (.int .u64 t158) := (blk_cell BK159.out 10).trans rfl
            have hfz31_0 := blk_frozen BK159.out 0
            have hfz31_1 := blk_frozen BK159.out 1
            have hfz31_2 := blk_frozen BK159.out 2
            have hfz31_3 := blk_frozen BK159.out 3
            have hfz31_4 := blk_frozen BK159.out 4
            have hfz31_5 := blk_frozen BK159.out 5
            have hfz31_6 := blk_frozen BK159.out 6
            have hfz31_7 := blk_frozen BK159.out 7
            have hfz31_8 := blk_frozen BK159.out 8
            have hfz31_9 := blk_frozen BK159.out 9
            have hfz31_10 := blk_frozen BK159.out 10
            as_aux_lemma =>
              go_wp2
              go_meet
              case rel => exact ⟨_, (0), (t148), (wrap64 ((Go.bits .and .i64 (Go.bits .and .i64 a2 65535) 31) - 2)), (t150), (t151), (t152), (t153), (t154), (t155), (t156), (t157), (by first | rfl | (simp; done) | (simp [*]; done)), H', ⟨by first | omega | exact Nat.le_refl _⟩, ⟨by (with_reducible repeat (first | refine blk_drewN ?_ _ | refine blk_drew ?_ | refine blk_alloc ?_ _)); refine blk_far ?_ NB147_159.out _; (with_reducible repeat (first | refine blk_drewN ?_ _ | refine blk_drew ?_ | refine blk_alloc ?_ _)); exact BK147.out⟩, ⟨by (with_reducible repeat (first | refine blk_drewN ?_ _ | refine blk_drew ?_ | refine blk_alloc ?_ _)); refine blk_put (cs := #[.int .i64 t148, .int .i64 t149, .int .i64 t150, .int .i64 t151, .int .i64 t152, .int .i64 t153, .int .i64 t154, .int .i64 t155, .int .i64 t156, .int .i64 t157, .int .u64 t158]) ?_ 1 _ rfl; (with_reducible repeat (first | refine blk_drewN ?_ _ | refine blk_drew ?_ | refine blk_alloc ?_ _)); exact BK159.out⟩, ⟨by repeat (first | (with_reducible first | exact HB.out | apply below_alloc | apply pw_below_drewN | apply below_drew1 | refine below_set ?_ GE147.out | refine below_set ?_ GE159.out) | exact HB.out)⟩⟩
      · rw [if_neg c23] at H
        have c23b0 : ((Int.tmod (Go.bits .and .i64 (a1 / 2) 31) 12) == 1) = false := beq_eq_false_iff_ne.mpr c23
        have c23b1 : ((Int.tmod (Go.bits .and .i64 (a1 / 2) 31) 12) != 1) = true := bne_iff_ne.mpr c23
        by_cases c32 : (Int.tmod (Go.bits .and .i64 (a1 / 2) 31) 12) = 2
        · rw [if_pos c32] at H
          have c32b0 : ((Int.tmod (Go.bits .and .i64 (a1 / 2) 31) 12) == 2) = true := beq_iff_eq.mpr c32
          have c32b1 : ((Int.tmod (Go.bits .and .i64 (a1 / 2) 31) 12) != 2) = false := bne_eq_false_iff_eq.mpr c32
          clear c32
          by_cases c33 : (wrap64 ((Go.bits .and .i64 (Go.bits .and .i64 a2 65535) 2047) - 5)) < 0
          · rw [if_pos c33] at H
            have c33b0 : decide ((wrap64 ((Go.bits .and .i64 (Go.bits .and .i64 a2 65535) 2047) - 5)) < 0) = true := decide_eq_true c33
            clear c33
            have H' := Aside0.mk H
            clear H
            have hnb34 := NB159_147.out
            have hnc34 := NB147_159.out
            have hcz35_0 : w13.cell? ⟨gb159, 0, none⟩ = some (.int .i64 t148) := (blk_cell BK159.out 0).trans rfl
            have hcz35_1 : w13.cell? ⟨gb159, 1, none⟩ = some (.int .i64 t149) := (blk_cell BK159.out 1).trans rfl
            have hcz35_2 : w13.cell? ⟨gb159, 2, none⟩ = some (.int .i64 t150) := (blk_cell BK159.out 2).trans rfl
            have hcz35_3 : w13.cell? ⟨gb159, 3, none⟩ = some (.int .i64 t151) := (blk_cell BK159.out 3).trans rfl
            have hcz35_4 : w13.cell? ⟨gb159, 4, none⟩ = some (.int .i64 t152) := (blk_cell BK159.out 4).trans rfl
            have hcz35_5 : w13.cell? ⟨gb159, 5, none⟩ = some (.int .i64 t153) := (blk_cell BK159.out 5).trans rfl
            have hcz35_6 : w13.cell? ⟨gb159, 6, none⟩ = some (.int .i64 t154) := (blk_cell BK159.out 6).trans rfl
            have hcz35_7 : w13.cell? ⟨gb159, 7, none⟩ = some (.int .i64 t155) := (blk_cell BK159.out 7).trans rfl
            have hcz35_8 : w13.cell? ⟨gb159, 8, none⟩ = some (.int .i64 t156) := (blk_cell BK159.out 8).trans rfl
            have hcz35_9 : w13.cell? ⟨gb159, 9, none⟩ = some (.int .i64 t157) := (blk_cell BK159.out 9).trans rfl
            have hcz35_10 : w13.cell? ⟨gb159, 10, none⟩ = some (.int .u64 t158) := (blk_cell BK159.out 10).trans rfl
            have hfz35_0 := blk_frozen BK159.out 0
            have hfz35_1 := blk_frozen BK159.out 1
            have hfz35_2 := blk_frozen BK159.out 2
            have hfz35_3 := blk_frozen BK159.out 3
            have hfz35_4 := blk_frozen BK159.out 4
            have hfz35_5 := blk_frozen BK159.out 5
            have hfz35_6 := blk_frozen BK159.out 6
            have hfz35_7 := blk_frozen BK159.out 7
            have hfz35_8 := blk_frozen BK159.out 8
            have hfz35_9 := blk_frozen BK159.out 9
            have hfz35_10 := blk_frozen BK159.out 10
            as_aux_lemma =>
              go_wp2
              go_meet
              case rel => exact ⟨_, (1), (t148), (t149), (wrap64 ((Go.bits .and .i64 (Go.bits .and .i64 a2 65535) 2047) - 5)), (t151), (t152), (t153), (t154), (t155), (t156), (t157), (by first | rfl | (simp; done) | (simp [*]; done)), H', ⟨by first | omega | exact Nat.le_refl _⟩, ⟨by (with_reducible repeat (first | refine blk_drewN ?_ _ | refine blk_drew ?_ | refine blk_alloc ?_ _)); refine blk_far ?_ NB147_159.out _; (with_reducible repeat (first | refine blk_drewN ?_ _ | refine blk_drew ?_ | refine blk_alloc ?_ _)); exact BK147.out⟩, ⟨by (with_reducible repeat (first | refine blk_drewN ?_ _ | refine blk_drew ?_ | refine blk_alloc ?_ _)); refine blk_put (cs := #[.int .i64 t148, .int .i64 t149, .int .i64 t150, .int .i64 t151, .int .i64 t152, .int .i64 t153, .int .i64 t154, .int .i64 t155, .int .i64 t156, .int .i64 t157, .int .u64 t158]) ?_ 2 _ rfl; (with_reducible repeat (first | refine blk_drewN ?_ _ | refine blk_drew ?_ | refine blk_alloc ?_ _)); exact BK159.out⟩, ⟨by repeat (first | (with_reducible first | exact HB.out | apply below_alloc | apply pw_below_drewN | apply below_drew1 | refine below_set ?_ GE147.out | refine below_set ?_ GE159.out) | exact HB.out)⟩⟩
          · rw [if_neg c33] at H
            have c33b0 : decide ((wrap64 ((Go.bits .and .i64 (Go.bits .and .i64 a2 65535) 2047) - 5)) < 0) = false := decide_eq_false c33
            clear c33
            by_cases c36 : (wrap64 ((Go.bits .and .i64 (Go.bits .and .i64 a2 65535) 2047) - 5)) > 1024
            · rw [if_pos c36] at H
              have c36b0 : decide (1024 < (wrap64 ((Go.bits .and .i64 (Go.bits .and .i64 a2 65535) 2047) - 5))) = true := decide_eq_true c36
              clear c36
              have H' := Aside0.mk H
              clear H
              have hnb37 := NB159_147.out
              have hnc37 := NB147_159.out
              have hcz38_0 : w13.cell? ⟨gb159, 0, none⟩ = some (.int .i64 t148) := (blk_cell BK159.out 0).trans rfl
              have hcz38_1 : w13.cell? ⟨gb159, 1, none⟩ = some (.int .i64 t149) := (blk_cell BK159.out 1).trans rfl
              have hcz38_2 : w13.cell? ⟨gb159, 2, none⟩ = some (.int .i64 t150) := (blk_cell BK159.out 2).trans rfl
              have hcz38_3 : w13.cell? ⟨gb159, 3, none⟩ = some (.int .i64 t151) := (blk_cell BK159.out 3).trans rfl
              have hcz38_4 : w13.cell? ⟨gb159, 4, none⟩ = some (.int .i64 t152) := (blk_cell BK159.out 4).trans rfl
              have hcz38_5 : w13.cell? ⟨gb159, 5, none⟩ = some (.int .i64 t153) := (blk_cell BK159.out 5).trans rfl
              have hcz38_6 : w13.cell? ⟨gb159, 6, none⟩ = some (.int .i64 t154) := (blk_cell BK159.out 6).trans rfl
              have hcz38_7 : w13.cell? ⟨gb159, 7, none⟩ = some (.int .i64 t155) := (blk_cell BK159.out 7).trans rfl
              have hcz38_8 : w13.cell? ⟨gb159, 8, none⟩ = some (.int .i64 t156) := (blk_cell BK159.out 8).trans rfl
              have hcz38_9 : w13.cell? ⟨gb159, 9, none⟩ = some (.int .i64 t157) := (blk_cell BK159.out 9).trans rfl
              have hcz38_10 : w13.cell? ⟨gb159, 10, none⟩ = some (.int .u64 t158) := (blk_cell BK159.out 10).trans rfl
              have hfz38_0 := blk_frozen BK159.out 0
              have hfz38_1 := blk_frozen BK159.out 1
              have hfz38_2 := blk_frozen BK159.out 2
              have hfz38_3 := blk_frozen BK159.out 3
              have hfz38_4 := blk_frozen BK159.out 4
              have hfz38_5 := blk_frozen BK159.out 5
              have hfz38_6 := blk_frozen BK159.out 6
              have hfz38_7 := blk_frozen BK159.out 7
              have hfz38_8 := blk_frozen BK159.out 8
              have hfz38_9 := blk_frozen BK159.out 9
              have hfz38_10 := blk_frozen BK159.out 10
              as_aux_lemma =>
                go_wp2
                go_meet
                case rel => exact ⟨_, (1), (t148), (t149), (wrap64 ((Go.bits .and .i64 (Go.bits .and .i64 a2 65535) 2047) - 5)), (t151), (t152), (t153), (t154), (t155), (t156), (t157), (by first | rfl | (simp; done) | (simp [*]; done)), H', ⟨by first | omega | exact Nat.le_refl _⟩, ⟨by (with_reducible repeat (first | refine blk_drewN ?_ _ | refine blk_drew ?_ | refine blk_alloc ?_ _)); refine blk_far ?_ NB147_159.out _; (with_reducible repeat (first | refine blk_drewN ?_ _ | refine blk_drew ?_ | refine blk_alloc ?_ _)); exact BK147.out⟩, ⟨by (with_reducible repeat (first | refine blk_drewN ?_ _ | refine blk_drew ?_ | refine blk_alloc ?_ _)); refine blk_put (cs := #[.int .i64 t148, .int .i64 t149, .int .i64 t150, .int .i64 t151, .int .i64 t152, .int .i64 t153, .int .i64 t154, .int .i64 t155, .int .i64 t156, .int .i64 t157, .int .u64 t158]) ?_ 2 _ rfl; (with_reducible repeat (first | refine blk_drewN ?_ _ | refine blk_drew ?_ | refine blk_alloc ?_ _)); exact BK159.out⟩, ⟨by repeat (first | (with_reducible first | exact HB.out | apply below_alloc | apply pw_below_drewN | apply below_drew1 | refine below_set ?_ GE147.out | refine below_set ?_ GE159.out) | exact HB.out)⟩⟩
            · rw [if_neg c36] at H
              have c36b0 : decide (1024 < (wrap64 ((Go.bits .and .i64 (Go.bits .and .i64 a2 65535) 2047) - 5))) = false := decide_eq_false c36
              clear c36
              have H' := Aside0.mk H
              clear H
              have hnb39 := NB159_147.out
              have hnc39 := NB147_159.out
              have hcz40_0 : w13.cell? ⟨gb159, 0, none⟩ = some (.int .i64 t148) := (blk_cell BK159.out 0).trans rfl
              have hcz40_1 : w13.cell? ⟨gb159, 1, none⟩ = some (.int .i64 t149) := (blk_cell BK159.out 1).trans rfl
              have hcz40_2 : w13.cell? ⟨gb159, 2, none⟩ = some (.int .i64 t150) := (blk_cell BK159.out 2).trans rfl
              have hcz40_3 : w13.cell? ⟨gb159, 3, none⟩ = some (.int .i64 t151) := (blk_cell BK159.out 3).trans rfl
              have hcz40_4 : w13.cell? ⟨gb159, 4, none⟩ = some (.int .i64 t152) := (blk_cell BK159.out 4).trans rfl
              have hcz40_5 : w13.cell? ⟨gb159, 5, none⟩ = some (.int .i64 t153) := (blk_cell BK159.out 5).trans rfl
              have hcz40_6 : w13.cell? ⟨gb159, 6, none⟩ = some (.int .i64 t154) := (blk_cell BK159.out 6).trans rfl
              have hcz40_7 : w13.cell? ⟨gb159, 7, none⟩ = some (.int .i64 t155) := (blk_cell BK159.out 7).trans rfl
              have hcz40_8 : w13.cell? ⟨gb159, 8, none⟩ = some (.int .i64 t156) := (blk_cell BK159.out 8).trans rfl
              have hcz40_9 : w13.cell? ⟨gb159, 9, none⟩ = some (.int .i64 t157) := (blk_cell BK159.out 9).trans rfl
              have hcz40_10 : w13.cell? ⟨gb159, 10, none⟩ = some (.int .u64 t158) := (blk_cell BK159.out 10).trans rfl
              have hfz40_0 := blk_frozen BK159.out 0
              have hfz40_1 := blk_frozen BK159.out 1
              have hfz40_2 := blk_frozen BK159.out 2
              have hfz40_3 := blk_frozen BK159.out 3
              have hfz40_4 := blk_frozen BK159.out 4
              have hfz40_5 := blk_frozen BK159.out 5
              have hfz40_6 := blk_frozen BK159.out 6
              have hfz40_7 := blk_frozen BK159.out 7
              have hfz40_8 := blk_frozen BK159.out 8
              have hfz40_9 := blk_frozen BK159.out 9
              have hfz40_10 := blk_frozen BK159.out 10
              as_aux_lemma =>
                go_wp2
                go_meet
                case rel => exact ⟨_, (0), (t148), (t149), (wrap64 ((Go.bits .and .i64 (Go.bits .and .i64 a2 65535) 2047) - 5)), (t151), (t152), (t153), (t154), (t155), (t156), (t157), (by first | rfl | (simp; done) | (simp [*]; done)), H', ⟨by first | omega | exact Nat.le_refl _⟩, ⟨by (with_reducible repeat (first | refine blk_drewN ?_ _ | refine blk_drew ?_ | refine blk_alloc ?_ _)); refine blk_far ?_ NB147_159.out _; (with_reducible repeat (first | refine blk_drewN ?_ _ | refine blk_drew ?_ | refine blk_alloc ?_ _)); exact BK147.out⟩, ⟨by (with_reducible repeat (first | refine blk_drewN ?_ _ | refine blk_drew ?_ | refine blk_alloc ?_ _)); refine blk_put (cs := #[.int .i64 t148, .int .i64 t149, .int .i64 t150, .int .i64 t151, .int .i64 t152, .int .i64 t153, .int .i64 t154, .int .i64 t155, .int .i64 t156, .int .i64 t157, .int .u64 t158]) ?_ 2 _ rfl; (with_reducible repeat (first | refine blk_drewN ?_ _ | refine blk_drew ?_ | refine blk_alloc ?_ _)); exact BK159.out⟩, ⟨by repeat (first | (with_reducible first | exact HB.out | apply below_alloc | apply pw_below_drewN | apply below_drew1 | refine below_set ?_ GE147.out | refine below_set ?_ GE159.out) | exact HB.out)⟩⟩
        · rw [if_neg c32] at H
          have c32b0 : ((Int.tmod (Go.bits .and .i64 (a1 / 2) 31) 12) == 2) = false := beq_eq_false_iff_ne.mpr c32
          have c32b1 : ((Int.tmod (Go.bits .and .i64 (a1 / 2) 31) 12) != 2) = true := bne_iff_ne.mpr c32
          by_cases c41 : (Int.tmod (Go.bits .and .i64 (a1 / 2) 31) 12) = 3
          · rw [if_pos c41] at H
            have c41b0 : ((Int.tmod (Go.bits .and .i64 (a1 / 2) 31) 12) == 3) = true := beq_iff_eq.mpr c41
            have c41b1 : ((Int.tmod (Go.bits .and .i64 (a1 / 2) 31) 12) != 3) = false := bne_eq_false_iff_eq.mpr c41
            clear c41
            by_cases c42 : (wrap64 ((Go.bits .and .i64 (Go.bits .and .i64 a2 65535) 15) - 2)) < 1
            · rw [if_pos c42] at H
              have c42b0 : decide ((wrap64 ((Go.bits .and .i64 (Go.bits .and .i64 a2 65535) 15) - 2)) < 1) = true := decide_eq_true c42
              clear c42
              have H' := Aside0.mk H
              clear H
              have hnb43 := NB159_147.out
              have hnc43 := NB147_159.out
              have hcz44_0 : w13.cell? ⟨gb159, 0, none⟩ = some (.int .i64 t148) := (blk_cell BK159.out 0).trans rfl
              have hcz44_1 : w13.cell? ⟨gb159, 1, none⟩ = some (.int .i64 t149) := (blk_cell BK159.out 1).trans rfl
              have hcz44_2 : w13.cell? ⟨gb159, 2, none⟩ = some (.int .i64 t150) := (blk_cell BK159.out 2).trans rfl
              have hcz44_3 : w13.cell? ⟨gb159, 3, none⟩ = some (.int .i64 t151) := (blk_cell BK159.out 3).trans rfl
              have hcz44_4 : w13.cell? ⟨gb159, 4, none⟩ = some (.int .i64 t152) := (blk_cell BK159.out 4).trans rfl
              have hcz44_5 : w13.cell? ⟨gb159, 5, none⟩ = some (.int .i64 t153) := (blk_cell BK159.out 5).trans rfl
              have hcz44_6 : w13.cell? ⟨gb159, 6, none⟩ = some (.int .i64 t154) := (blk_cell BK159.out 6).trans rfl
              have hcz44_7 : w13.cell? ⟨gb159, 7, none⟩ = some (.int .i64 t155) := (blk_cell BK159.out 7).trans rfl
              have hcz44_8 : w13.cell? ⟨gb159, 8, none⟩ = some (.int .i64 t156) := (blk_cell BK159.out 8).trans rfl
              have hcz44_9 : w13.cell? ⟨gb159, 9, none⟩ = some (.int .i64 t157) := (blk_cell BK159.out 9).trans rfl
              have hcz44_10 : w13.cell? ⟨gb159, 10, none⟩ = some (.int .u64 t158) := (blk_cell BK159.out 10).trans rfl
              have hfz44_0 := blk_frozen BK159.out 0
              have hfz44_1 := blk_frozen BK159.out 1
              have hfz44_2 := blk_frozen BK159.out 2
              have hfz44_3 := blk_frozen BK159.out 3
              have hfz44_4 := blk_frozen BK159.out 4
              have hfz44_5 := blk_frozen BK159.out 5
              have hfz44_6 := blk_frozen BK159.out 6
              have hfz44_7 := blk_frozen BK159.out 7
              have hfz44_8 := blk_frozen BK159.out 8
              have hfz44_9 := blk_frozen BK159.out 9
              have hfz44_10 := blk_frozen BK159.out 10
              as_aux_lemma =>
                go_wp2
                go_meet
                case rel => exact ⟨_, (1), (t148), (t149), (t150), (wrap64 ((Go.bits .and .i64 (Go.bits .and .i64 a2 65535) 15) - 2)), (t152), (t153), (t154), (t155), (t156), (t157), (by first | rfl | (simp; done) | (simp [*]; done)), H', ⟨by first | omega | exact Nat.le_refl _⟩, ⟨by (with_reducible repeat (first | refine blk_drewN ?_ _ | refine blk_drew ?_ | refine blk_alloc ?_ _)); refine blk_far ?_ NB147_159.out _; (with_reducible repeat (first | refine blk_drewN ?_ _ | refine blk_drew ?_ | refine blk_alloc ?_ _)); exact BK147.out⟩, ⟨by (with_reducible repeat (first | refine blk_drewN ?_ _ | refine blk_drew ?_ | refine blk_alloc ?_ _)); refine blk_put (cs := #[.int .i64 t148, .int .i64 t149, .int .i64 t150, .int .i64 t151, .int .i64 t152, .int .i64 t153, .int .i64 t154, .int .i64 t155, .int .i64 t156, .int .i64 t157, .int .u64 t158]) ?_ 3 _ rfl; (with_reducible repeat (first | refine blk_drewN ?_ _ | refine blk_drew ?_ | refine blk_alloc ?_ _)); exact BK159.out⟩, ⟨by repeat (first | (with_reducible first | exact HB.out | apply below_alloc | apply pw_below_drewN | apply below_drew1 | refine below_set ?_ GE147.out | refine below_set ?_ GE159.out) | exact HB.out)⟩⟩
            · rw [if_neg c42] at H
              have c42b0 : decide ((wrap64 ((Go.bits .and .i64 (Go.bits .and .i64 a2 65535) 15) - 2)) < 1) = false := decide_eq_false c42
              clear c42
              by_cases c45 : (wrap64 ((Go.bits .and .i64 (Go.bits .and .i64 a2 65535) 15) - 2)) > 8
              · rw [if_pos c45] at H
                have c45b0 : decide (8 < (wrap64 ((Go.bits .and .i64 (Go.bits .and .i64 a2 65535) 15) - 2))) = true := decide_eq_true c45
                clear c45
                have H' := Aside0.mk H
                clear H
                have hnb46 := NB159_147.out
                have hnc46 := NB147_159.out
                have hcz47_0 : w13.cell? ⟨gb159, 0, none⟩ = some (.int .i64 t148) := (blk_cell BK159.out 0).trans rfl
                have hcz47_1 : w13.cell? ⟨gb159, 1, none⟩ = some (.int .i64 t149) := (blk_cell BK159.out 1).trans rfl
                have hcz47_2 : w13.cell? ⟨gb159, 2, none⟩ = some (.int .i64 t150) := (blk_cell BK159.out 2).trans rfl
                have hcz47_3 : w13.cell? ⟨gb159, 3, none⟩ = some (.int .i64 t151) := (blk_cell BK159.out 3).trans rfl
                have hcz47_4 : w13.cell? ⟨gb159, 4, none⟩ = some (.int .i64 t152) := (blk_cell BK159.out 4).trans rfl
                have hcz47_5 : w13.cell? ⟨gb159, 5, none⟩ = some (.int .i64 t153) := (blk_cell BK159.out 5).trans rfl
                have hcz47_6 : w13.cell? ⟨gb159, 6, none⟩ = some (.int .i64 t154) := (blk_cell BK159.out 6).trans rfl
                have hcz47_7 : w13.cell? ⟨gb159, 7, none⟩ = some (.int .i64 t155) := (blk_cell BK159.out 7).trans rfl
                have hcz47_8 : w13.cell? ⟨gb159, 8, none⟩ = some (.int .i64 t156) := (blk_cell BK159.out 8).trans rfl
                have hcz47_9 : w13.cell? ⟨gb159, 9, none⟩ = some (.int .i64 t157) := (blk_cell BK159.out 9).trans rfl
                have hcz47_10 : w13.cell? ⟨gb159, 10, none⟩ = some (.int .u64 t158) := (blk_cell BK159.out 10).trans rfl
                have hfz47_0 := blk_frozen BK159.out 0
                have hfz47_1 := blk_frozen BK159.out 1
                have hfz47_2 := blk_frozen BK159.out 2
                have hfz47_3 := blk_frozen BK159.out 3
                have hfz47_4 := blk_frozen BK159.out 4
                have hfz47_5 := blk_frozen BK159.out 5
                have hfz47_6 := blk_frozen BK159.out 6
                have hfz47_7 := blk_frozen BK159.out 7
                have hfz47_8 := blk_frozen BK159.out 8
                have hfz47_9 := blk_frozen BK159.out 9
                have hfz47_10 := blk_frozen BK159.out 10
                as_aux_lemma =>
                  go_wp2
                  go_meet
                  case rel => exact ⟨_, (1), (t148), (t149), (t150), (wrap64 ((Go.bits .and .i64 (Go.bits .and .i64 a2 65535) 15) - 2)), (t152), (t153), (t154), (t155), (t156), (t157), (by first | rfl | (simp; done) | (simp [*]; done)), H', ⟨by first | omega | exact Nat.le_refl _⟩, ⟨by (with_reducible repeat (first | refine blk_drewN ?_ _ | refine blk_drew ?_ | refine blk_alloc ?_ _)); refine blk_far ?_ NB147_159.out _; (with_reducible repeat (first | refine blk_drewN ?_ _ | refine blk_drew ?_ | refine blk_alloc ?_ _)); exact BK147.out⟩, ⟨by (with_reducible repeat (first | refine blk_drewN ?_ _ | refine blk_drew ?_ | refine blk_alloc ?_ _)); refine blk_put (cs := #[.int .i64 t148, .int .i64 t149, .int .i64 t150, .int .i64 t151, .int .i64 t152, .int .i64 t153, .int .i64 t154, .int .i64 t155, .int .i64 t156, .int .i64 t157, .int .u64 t158]) ?_ 3 _ rfl; (with_reducible repeat (first | refine blk_drewN ?_ _ | refine blk_drew ?_ | refine blk_alloc ?_ _)); exact BK159.out⟩, ⟨by repeat (first | (with_reducible first | exact HB.out | apply below_alloc | apply pw_below_drewN | apply below_drew1 | refine below_set ?_ GE147.out | refine below_set ?_ GE159.out) | exact HB.out)⟩⟩
              · rw [if_neg c45] at H
                have c45b0 : decide (8 < (wrap64 ((Go.bits .and .i64 (Go.bits .and .i64 a2 65535) 15) - 2))) = false := decide_eq_false c45
                clear c45
                have H' := Aside0.mk H
                clear H
                have hnb48 := NB159_147.out
                have hnc48 := NB147_159.out
                have hcz49_0 : w13.cell? ⟨gb159, 0, none⟩ = some (.int .i64 t148) := (blk_cell BK159.out 0).trans rfl
                have hcz49_1 : w13.cell? ⟨gb159, 1, none⟩ = some (.int .i64 t149) := (blk_cell BK159.out 1).trans rfl
                have hcz49_2 : w13.cell? ⟨gb159, 2, none⟩ = some (.int .i64 t150) := (blk_cell BK159.out 2).trans rfl
                have hcz49_3 : w13.cell? ⟨gb159, 3, none⟩ = some (.int .i64 t151) := (blk_cell BK159.out 3).trans rfl
                have hcz49_4 : w13.cell? ⟨gb159, 4, none⟩ = some (.int .i64 t152) := (blk_cell BK159.out 4).trans rfl
                have hcz49_5 : w13.cell? ⟨gb159, 5, none⟩ = some (.int .i64 t153) := (blk_cell BK159.out 5).trans rfl
                have hcz49_6 : w13.cell? ⟨gb159, 6, none⟩ = some (.int .i64 t154) := (blk_cell BK159.out 6).trans rfl
                have hcz49_7 : w13.cell? ⟨gb159, 7, none⟩ = some (.int .i64 t155) := (blk_cell BK159.out 7).trans rfl
                have hcz49_8 : w13.cell? ⟨gb159, 8, none⟩ = some (.int .i64 t156) := (blk_cell BK159.out 8).trans rfl
                have hcz49_9 : w13.cell? ⟨gb159, 9, none⟩ = some (.int .i64 t157) := (blk_cell BK159.out 9).trans rfl
                have hcz49_10 : w13.cell? ⟨gb159, 10, none⟩ = some (.int .u64 t158) := (blk_cell BK159.out 10).trans rfl
                have hfz49_0 := blk_frozen BK159.out 0
                have hfz49_1 := blk_frozen BK159.out 1
                have hfz49_2 := blk_frozen BK159.out 2
                have hfz49_3 := blk_frozen BK159.out 3
                have hfz49_4 := blk_frozen BK159.out 4
                have hfz49_5 := blk_frozen BK159.out 5
                have hfz49_6 := blk_frozen BK159.out 6
                have hfz49_7 := blk_frozen BK159.out 7
                have hfz49_8 := blk_frozen BK159.out 8
                have hfz49_9 := blk_frozen BK159.out 9
                have hfz49_10 := blk_frozen BK159.out 10
                as_aux_lemma =>
                  go_wp2
                  go_meet
                  case rel => exact ⟨_, (0), (t148), (t149), (t150), (wrap64 ((Go.bits .and .i64 (Go.bits .and .i64 a2 65535) 15) - 2)), (t152), (t153), (t154), (t155), (t156), (t157), (by first | rfl | (simp; done) | (simp [*]; done)), H', ⟨by first | omega | exact Nat.le_refl _⟩, ⟨by (with_reducible repeat (first | refine blk_drewN ?_ _ | refine blk_drew ?_ | refine blk_alloc ?_ _)); refine blk_far ?_ NB147_159.out _; (with_reducible repeat (first | refine blk_drewN ?_ _ | refine blk_drew ?_ | refine blk_alloc ?_ _)); exact BK147.out⟩, ⟨by (with_reducible repeat (first | refine blk_drewN ?_ _ | refine blk_drew ?_ | refine blk_alloc ?_ _)); refine blk_put (cs := #[.int .i64 t148, .int .i64 t149, .int .i64 t150, .int .i64 t151, .int .i64 t152, .int .i64 t153, .int .i64 t154, .int .i64 t155, .int .i64 t156, .int .i64 t157, .int .u64 t158]) ?_ 3 _ rfl; (with_reducible repeat (first | refine blk_drewN ?_ _ | refine blk_drew ?_ | refine blk_alloc ?_ _)); exact BK159.out⟩, ⟨by repeat (first | (with_reducible first | exact HB.out | apply below_alloc | apply pw_below_drewN | apply below_drew1 | refine below_set ?_ GE147.out | refine below_set ?_ GE159.out) | exact HB.out)⟩⟩
          · rw [if_neg c41] at H
            have c41b0 : ((Int.tmod (Go.bits .and .i64 (a1 / 2) 31) 12) == 3) = false := beq_eq_false_iff_ne.mpr c41
            have c41b1 : ((Int.tmod (Go.bits .and .i64 (a1 / 2) 31) 12) != 3) = true := bne_iff_ne.mpr c41
            by_cases c50 : (Int.tmod (Go.bits .and .i64 (a1 / 2) 31) 12) = 4
            · rw [if_pos c50] at H
              have c50b0 : ((Int.tmod (Go.bits .and .i64 (a1 / 2) 31) 12) == 4) = true := beq_iff_eq.mpr c50
              have c50b1 : ((Int.tmod (Go.bits .and .i64 (a1 / 2) 31) 12) != 4) = false := bne_eq_false_iff_eq.mpr c50
              clear c50
              by_cases c51 : (wrap64 ((Go.bits .and .i64 (Go.bits .and .i64 a2 65535) 31) - 2)) < 1
              · rw [if_pos c51] at H
                have c51b0 : decide ((wrap64 ((Go.bits .and .i64 (Go.bits .and .i64 a2 65535) 31) - 2)) < 1) = true := decide_eq_true c51
                clear c51
                have H' := Aside0.mk H
                clear H
                have hnb52 := NB159_147.out
                have hnc52 := NB147_159.out
                have hcz53_0 : w13.cell? ⟨gb159, 0, none⟩ = some (.int .i64 t148) := (blk_cell BK159.out 0).trans rfl
                have hcz53_1 : w13.cell? ⟨gb159, 1, none⟩ = some (.int .i64 t149) := (blk_cell BK159.out 1).trans rfl
                have hcz53_2 : w13.cell? ⟨gb159, 2, none⟩ = some (.int .i64 t150) := (blk_cell BK159.out 2).trans rfl
                have hcz53_3 : w13.cell? ⟨gb159, 3, none⟩ = some (.int .i64 t151) := (blk_cell BK159.out 3).trans rfl
                have hcz53_4 : w13.cell? ⟨gb159, 4, none⟩ = some (.int .i64 t152) := (blk_cell BK159.out 4).trans rfl
                have hcz53_5 : w13.cell? ⟨gb159, 5, none⟩ = some (.int .i64 t153) := (blk_cell BK159.out 5).trans rfl
                have hcz53_6 : w13.cell? ⟨gb159, 6, none⟩ = some (.int .i64 t154) := (blk_cell BK159.out 6).trans rfl
                have hcz53_7 : w13.cell? ⟨gb159, 7, none⟩ = some (.int .i64 t155) := (blk_cell BK159.out 7).trans rfl
                have hcz53_8 : w13.cell? ⟨gb159, 8, none⟩ = some (.int .i64 t156) := (blk_cell BK159.out 8).trans rfl
                have hcz53_9 : w13.cell? ⟨gb159, 9, none⟩ = some (.int .i64 t157) := (blk_cell BK159.out 9).trans rfl
                have hcz53_10 : w13.cell? ⟨gb159, 10, none⟩ = some (.int .u64 t158) := (blk_cell BK159.out 10).trans rfl
                have hfz53_0 := blk_frozen BK159.out 0
                have hfz53_1 := blk_frozen BK159.out 1
                have hfz53_2 := blk_frozen BK159.out 2
                have hfz53_3 := blk_frozen BK159.out 3
                have hfz53_4 := blk_frozen BK159.out 4
                have hfz53_5 := blk_frozen BK159.out 5
                have hfz53_6 := blk_frozen BK159.out 6
                have hfz53_7 := blk_frozen BK159.out 7
                have hfz53_8 := blk_frozen BK159.out 8
                have hfz53_9 := blk_frozen BK159.out 9
                have hfz53_10 := blk_frozen BK159.out 10
                as_aux_lemma =>
                  go_wp2
                  go_meet
                  case rel => exact ⟨_, (1), (t148), (t149), (t150), (t151), (t152), (wrap64 ((Go.bits .and .i64 (Go.bits .and .i64 a2 65535) 31) - 2)), (t154), (t155), (t156), (t157), (by first | rfl | (simp; done) | (simp [*]; done)), H', ⟨by first | omega | exact Nat.le_refl _⟩, ⟨by (with_reducible repeat (first | refine blk_drewN ?_ _ | refine blk_drew ?_ | refine blk_alloc ?_ _)); refine blk_far ?_ NB147_159.out _; (with_reducible repeat (first | refine blk_drewN ?_ _ | refine blk_drew ?_ | refine blk_alloc ?_ _)); exact BK147.out⟩, ⟨by (with_reducible repeat (first | refine blk_drewN ?_ _ | refine blk_drew ?_ | refine blk_alloc ?_ _)); refine blk_put (cs := #[.int .i64 t148, .int .i64 t149, .int .i64 t150, .int .i64 t151, .int .i64 t152, .int .i64 t153, .int .i64 t154, .int .i64 t155, .int .i64 t156, .int .i64 t157, .int .u64 t158]) ?_ 5 _ rfl; (with_reducible repeat (first | refine blk_drewN ?_ _ | refine blk_drew ?_ | refine blk_alloc ?_ _)); exact BK159.out⟩, ⟨by repeat (first | (with_reducible first | exact HB.out | apply below_alloc | apply pw_below_drewN | apply below_drew1 | refine below_set ?_ GE147.out | refine below_set ?_ GE159.out) | exact HB.out)⟩⟩
              · rw [if_neg c51] at H
                have c51b0 : decide ((wrap64 ((Go.bits .and .i64 (Go.bits .and .i64 a2 65535) 31) - 2)) < 1) = false := decide_eq_false c51
                clear c51
                by_cases c54 : (wrap64 ((Go.bits .and .i64 (Go.bits .and .i64 a2 65535) 31) - 2)) > 16
                · rw [if_pos c54] at H
                  have c54b0 : decide (16 < (wrap64 ((Go.bits .and .i64 (Go.bits .and .i64 a2 65535) 31) - 2))) = true := decide_eq_true c54
                  clear c54
                  have H' := Aside0.mk H
                  clear H
                  have hnb55 := NB159_147.out
                  have hnc55 := NB147_159.out
                  have hcz56_0 : w13.cell? ⟨gb159, 0, none⟩ = some (.int .i64 t148) := (blk_cell BK159.out 0).trans rfl
                  have hcz56_1 : w13.cell? ⟨gb159, 1, none⟩ = some (.int .i64 t149) := (blk_cell BK159.out 1).trans rfl
                  have hcz56_2 : w13.cell? ⟨gb159, 2, none⟩ = some (.int .i64 t150) := (blk_cell BK159.out 2).trans rfl
                  have hcz56_3 : w13.cell? ⟨gb159, 3, none⟩ = some (.int .i64 t151) := (blk_cell BK159.out 3).trans rfl
                  have hcz56_4 : w13.cell? ⟨gb159, 4, none⟩ = some (.int .i64 t152) := (blk_cell BK159.out 4).trans rfl
                  have hcz56_5 : w13.cell? ⟨gb159, 5, none⟩ = some (.int .i64 t153) := (blk_cell BK159.out 5).trans rfl
                  have hcz56_6 : w13.cell? ⟨gb159, 6, none⟩ = some (.int .i64 t154) := (blk_cell BK159.out 6).trans rfl
                  have hcz56_7 : w13.cell? ⟨gb159, 7, none⟩ = some (.int .i64 t155) := (blk_cell BK159.out 7).trans rfl
                  have hcz56_8 : w13.cell? ⟨gb159, 8, none⟩ = some (.int .i64 t156) := (blk_cell BK159.out 8).trans rfl
                  have hcz56_9 : w13.cell? ⟨gb159, 9, none⟩ = some (.int .i64 t157) := (blk_cell BK159.out 9).trans rfl
                  have hcz56_10 : w13.cell? ⟨gb159, 10, none⟩ = some (.int .u64 t158) := (blk_cell BK159.out 10).trans rfl
                  have hfz56_0 := blk_frozen BK159.out 0
                  have hfz56_1 := blk_frozen BK159.out 1
                  have hfz56_2 := blk_frozen BK159.out 2
                  have hfz56_3 := blk_frozen BK159.out 3
                  have hfz56_4 := blk_frozen BK159.out 4
                  have hfz56_5 := blk_frozen BK159.out 5
                  have hfz56_6 := blk_frozen BK159.out 6
                  have hfz56_7 := blk_frozen BK159.out 7
                  have hfz56_8 := blk_frozen BK159.out 8
                  have hfz56_9 := blk_frozen BK159.out 9
                  have hfz56_10 := blk_frozen BK159.out 10
                  as_aux_lemma =>
                    go_wp2
                    go_meet
                    case rel => exact ⟨_, (1), (t148), (t149), (t150), (t151), (t152), (wrap64 ((Go.bits .and .i64 (Go.bits .and .i64 a2 65535) 31) - 2)), (t154), (t155), (t156), (t157), (by first | rfl | (simp; done) | (simp [*]; done)), H', ⟨by first | omega | exact Nat.le_refl _⟩, ⟨by (with_reducible repeat (first | refine blk_drewN ?_ _ | refine blk_drew ?_ | refine blk_alloc ?_ _)); refine blk_far ?_ NB147_159.out _; (with_reducible repeat (first | refine blk_drewN ?_ _ | refine blk_drew ?_ | refine blk_alloc ?_ _)); exact BK147.out⟩, ⟨by (with_reducible repeat (first | refine blk_drewN ?_ _ | refine blk_drew ?_ | refine blk_alloc ?_ _)); refine blk_put (cs := #[.int .i64 t148, .int .i64 t149, .int .i64 t150, .int .i64 t151, .int .i64 t152, .int .i64 t153, .int .i64 t154, .int .i64 t155, .int .i64 t156, .int .i64 t157, .int .u64 t158]) ?_ 5 _ rfl; (with_reducible repeat (first | refine blk_drewN ?_ _ | refine blk_drew ?_ | refine blk_alloc ?_ _)); exact BK159.out⟩, ⟨by repeat (first | (with_reducible first | exact HB.out | apply below_alloc | apply pw_below_drewN | apply below_drew1 | refine below_set ?_ GE147.out | refine below_set ?_ GE159.out) | exact HB.out)⟩⟩
                · rw [if_neg c54] at H
                  have c54b0 : decide (16 < (wrap64 ((Go.bits .and .i64 (Go.bits .and .i64 a2 65535) 31) - 2))) = false := decide_eq_false c54
                  clear c54
                  by_cases c57 : t152 < (wrap64 ((Go.bits .and .i64 (Go.bits .and .i64 a2 65535) 31) - 2))
                  · rw [if_pos c57] at H
                    have c57b0 : decide (t152 < (wrap64 ((Go.bits .and .i64 (Go.bits .and .i64 a2 65535) 31) - 2))) = true := decide_eq_true c57
                    clear c57
                    have H' := Aside0.mk H
                    clear H
                    have hnb58 := NB159_147.out
                    have hnc58 := NB147_159.out
                    have hcz59_0 : w13.cell? ⟨gb159, 0, none⟩ = some (.int .i64 t148) := (blk_cell BK159.out 0).trans rfl
                    have hcz59_1 : w13.cell? ⟨gb159, 1, none⟩ = some (.int .i64 t149) := (blk_cell BK159.out 1).trans rfl
                    have hcz59_2 : w13.cell? ⟨gb159, 2, none⟩ = some (.int .i64 t150) := (blk_cell BK159.out 2).trans rfl
                    have hcz59_3 : w13.cell? ⟨gb159, 3, none⟩ = some (.int .i64 t151) := (blk_cell BK159.out 3).trans rfl
                    have hcz59_4 : w13.cell? ⟨gb159, 4, none⟩ = some (.int .i64 t152) := (blk_cell BK159.out 4).trans rfl
                    have hcz59_5 : w13.cell? ⟨gb159, 5, none⟩ = some (.int .i64 t153) := (blk_cell BK159.out 5).trans rfl
                    have hcz59_6 : w13.cell? ⟨gb159, 6, none⟩ = some (.int .i64 t154) := (blk_cell BK159.out 6).trans rfl
                    have hcz59_7 : w13.cell? ⟨gb159, 7, none⟩ = some (.int .i64 t155) := (blk_cell BK159.out 7).trans rfl
                    have hcz59_8 : w13.cell? ⟨gb159, 8, none⟩ = some (.int .i64 t156) := (blk_cell BK159.out 8).trans rfl
                    have hcz59_9 : w13.cell? ⟨gb159, 9, none⟩ = some (.int .i64 t157) := (blk_cell BK159.out 9).trans rfl
                    have hcz59_10 : w13.cell? ⟨gb159, 10, none⟩ = some (.int .u64 t158) := (blk_cell BK159.out 10).trans rfl
                    have hfz59_0 := blk_frozen BK159.out 0
                    have hfz59_1 := blk_frozen BK159.out 1
                    have hfz59_2 := blk_frozen BK159.out 2
                    have hfz59_3 := blk_frozen BK159.out 3
                    have hfz59_4 := blk_frozen BK159.out 4
                    have hfz59_5 := blk_frozen BK159.out 5
                    have hfz59_6 := blk_frozen BK159.out 6
                    have hfz59_7 := blk_frozen BK159.out 7
                    have hfz59_8 := blk_frozen BK159.out 8
                    have hfz59_9 := blk_frozen BK159.out 9
                    have hfz59_10 := blk_frozen BK159.out 10
                    as_aux_lemma =>
                      go_wp2
                      go_meet
                      case rel => exact ⟨_, (1), (t148), (t149), (t150), (t151), (t152), (wrap64 ((Go.bits .and .i64 (Go.bits .and .i64 a2 65535) 31) - 2)), (t154), (t155), (t156), (t157), (by first | rfl | (simp; done) | (simp [*]; done)), H', ⟨by first | omega | exact Nat.le_refl _⟩, ⟨by (with_reducible repeat (first | refine blk_drewN ?_ _ | refine blk_drew ?_ | refine blk_alloc ?_ _)); refine blk_far ?_ NB147_159.out _; (with_reducible repeat (first | refine blk_drewN ?_ _ | refine blk_drew ?_ | refine blk_alloc ?_ _)); exact BK147.out⟩, ⟨by (with_reducible repeat (first | refine blk_drewN ?_ _ | refine blk_drew ?_ | refine blk_alloc ?_ _)); refine blk_put (cs := #[.int .i64 t148, .int .i64 t149, .int .i64 t150, .int .i64 t151, .int .i64 t152, .int .i64 t153, .int .i64 t154, .int .i64 t155, .int .i64 t156, .int .i64 t157, .int .u64 t158]) ?_ 5 _ rfl; (with_reducible repeat (first | refine blk_drewN ?_ _ | refine blk_drew ?_ | refine blk_alloc ?_ _)); exact BK159.out⟩, ⟨by repeat (first | (with_reducible first | exact HB.out | apply below_alloc | apply pw_below_drewN | apply below_drew1 | refine below_set ?_ GE147.out | refine below_set ?_ GE159.out) | exact HB.out)⟩⟩
                  · rw [if_neg c57] at H
                    have c57b0 : decide (t152 < (wrap64 ((Go.bits .and .i64 (Go.bits .and .i64 a2 65535) 31) - 2))) = false := decide_eq_false c57
                    clear c57
                    have H' := Aside0.mk H
                    clear H
                    have hnb60 := NB159_147.out
                    have hnc60 := NB147_159.out
                    have hcz61_0 : w13.cell? ⟨gb159, 0, none⟩ = some (.int .i64 t148) := (blk_cell BK159.out 0).trans rfl
                    have hcz61_1 : w13.cell? ⟨gb159, 1, none⟩ = some (.int .i64 t149) := (blk_cell BK159.out 1).trans rfl
                    have hcz61_2 : w13.cell? ⟨gb159, 2, none⟩ = some (.int .i64 t150) := (blk_cell BK159.out 2).trans rfl
                    have hcz61_3 : w13.cell? ⟨gb159, 3, none⟩ = some (.int .i64 t151) := (blk_cell BK159.out 3).trans rfl
                    have hcz61_4 : w13.cell? ⟨gb159, 4, none⟩ = some (.int .i64 t152) := (blk_cell BK159.out 4).trans rfl
                    have hcz61_5 : w13.cell? ⟨gb159, 5, none⟩ = some (.int .i64 t153) := (blk_cell BK159.out 5).trans rfl
                    have hcz61_6 : w13.cell? ⟨gb159, 6, none⟩ = some (.int .i64 t154) := (blk_cell BK159.out 6).trans rfl
                    have hcz61_7 : w13.cell? ⟨gb159, 7, none⟩ = some (.int .i64 t155) := (blk_cell BK159.out 7).trans rfl
                    have hcz61_8 : w13.cell? ⟨gb159, 8, none⟩ = some (.int .i64 t156) := (blk_cell BK159.out 8).trans rfl
                    have hcz61_9 : w13.cell? ⟨gb159, 9, none⟩ = some (.int .i64 t157) := (blk_cell BK159.out 9).trans rfl
                    have hcz61_10 : w13.cell? ⟨gb159, 10, none⟩ = some (.int .u64 t158) := (blk_cell BK159.out 10).trans rfl
                    have hfz61_0 := blk_frozen BK159.out 0
                    have hfz61_1 := blk_frozen BK159.out 1
                    have hfz61_2 := blk_frozen BK159.out 2
                    have hfz61_3 := blk_frozen BK159.out 3
                    have hfz61_4 := blk_frozen BK159.out 4
                    have hfz61_5 := blk_frozen BK159.out 5
                    have hfz61_6 := blk_frozen BK159.out 6
                    have hfz61_7 := blk_frozen BK159.out 7
                    have hfz61_8 := blk_frozen BK159.out 8
                    have hfz61_9 := blk_frozen BK159.out 9
                    have hfz61_10 := blk_frozen BK159.out 10
                    as_aux_lemma =>
                      go_wp2
                      go_meet
                      case rel => exact ⟨_, (0), (t148), (t149), (t150), (t151), (t152), (wrap64 ((Go.bits .and .i64 (Go.bits .and .i64 a2 65535) 31) - 2)), (t154), (t155), (t156), (t157), (by first | rfl | (simp; done) | (simp [*]; done)), H', ⟨by first | omega | exact Nat.le_refl _⟩, ⟨by (with_reducible repeat (first | refine blk_drewN ?_ _ | refine blk_drew ?_ | refine blk_alloc ?_ _)); refine blk_far ?_ NB147_159.out _; (with_reducible repeat (first | refine blk_drewN ?_ _ | refine blk_drew ?_ | refine blk_alloc ?_ _)); exact BK147.out⟩, ⟨by (with_reducible repeat (first | refine blk_drewN ?_ _ | refine blk_drew ?_ | refine blk_alloc ?_ _)); refine blk_put (cs := #[.int .i64 t148, .int .i64 t149, .int .i64 t150, .int .i64 t151, .int .i64 t152, .int .i64 t153, .int .i64 t154, .int .i64 t155, .int .i64 t156, .int .i64 t157, .int .u64 t158]) ?_ 5 _ rfl; (with_reducible repeat (first | refine blk_drewN ?_ _ | refine blk_drew ?_ | refine blk_alloc ?_ _)); exact BK159.out⟩, ⟨by repeat (first | (with_reducible first | exact HB.out | apply below_alloc | apply pw_below_drewN | apply below_drew1 | refine below_set ?_ GE147.out | refine below_set ?_ GE159.out) | exact HB.out)⟩⟩
            · rw [if_neg c50] at H
              have c50b0 : ((Int.tmod (Go.bits .and .i64 (a1 / 2) 31) 12) == 4) = false := beq_eq_false_iff_ne.mpr c50
              have c50b1 : ((Int.tmod (Go.bits .and .i64 (a1 / 2) 31) 12) != 4) = true := bne_iff_ne.mpr c50
              by_cases c62 : (Int.tmod (Go.bits .and .i64 (a1 / 2) 31) 12) = 5
              · rw [if_pos c62] at H
                have c62b0 : ((Int.tmod (Go.bits .and .i64 (a1 / 2) 31) 12) == 5) = true := beq_iff_eq.mpr c62
                have c62b1 : ((Int.tmod (Go.bits .and .i64 (a1 / 2) 31) 12) != 5) = false := bne_eq_false_iff_eq.mpr c62
                clear c62
                by_cases c63 : (wrap64 ((Go.bits .and .i64 (Go.bits .and .i64 a2 65535) 63) - 2)) < t153
                · rw [if_pos c63] at H
                  have c63b0 : decide ((wrap64 ((Go.bits .and .i64 (Go.bits .and .i64 a2 65535) 63) - 2)) < t153) = true := decide_eq_true c63
                  clear c63
                  have H' := Aside0.mk H
                  clear H
                  have hnb64 := NB159_147.out
                  have hnc64 := NB147_159.out
                  have hcz65_0 : w13.cell? ⟨gb159, 0, none⟩ = some (.int .i64 t148) := (blk_cell BK159.out 0).trans rfl
                  have hcz65_1 : w13.cell? ⟨gb159, 1, none⟩ = some (.int .i64 t149) := (blk_cell BK159.out 1).trans rfl
                  have hcz65_2 : w13.cell? ⟨gb159, 2, none⟩ = some (.int .i64 t150) := (blk_cell BK159.out 2).trans rfl
                  have hcz65_3 : w13.cell? ⟨gb159, 3, none⟩ = some (.int .i64 t151) := (blk_cell BK159.out 3).trans rfl
                  have hcz65_4 : w13.cell? ⟨gb159, 4, none⟩ = some (.int .i64 t152) := (blk_cell BK159.out 4).trans rfl
                  have hcz65_5 : w13.cell? ⟨gb159, 5, none⟩ = some (.int .i64 t153) := (blk_cell BK159.out 5).trans rfl
                  have hcz65_6 : w13.cell? ⟨gb159, 6, none⟩ = some (.int .i64 t154) := (blk_cell BK159.out 6).trans rfl
                  have hcz65_7 : w13.cell? ⟨gb159, 7, none⟩ = some (.int .i64 t155) := (blk_cell BK159.out 7).trans rfl
                  have hcz65_8 : w13.cell? ⟨gb159, 8, none⟩ = some (.int .i64 t156) := (blk_cell BK159.out 8).trans rfl
                  have hcz65_9 : w13.cell? ⟨gb159, 9, none⟩ = some (.int .i64 t157) := (blk_cell BK159.out 9).trans rfl
                  have hcz65_10 : w13.cell? ⟨gb159, 10, none⟩ = some (.int .u64 t158) := (blk_cell BK159.out 10).trans rfl
                  have hfz65_0 := blk_frozen BK159.out 0
                  have hfz65_1 := blk_frozen BK159.out 1
                  have hfz65_2 := blk_frozen BK159.out 2
                  have hfz65_3 := blk_frozen BK159.out 3
                  have hfz65_4 := blk_frozen BK159.out 4
                  have hfz65_5 := blk_frozen BK159.out 5
                  have hfz65_6 := blk_frozen BK159.out 6
                  have hfz65_7 := blk_frozen BK159.out 7
                  have hfz65_8 := blk_frozen BK159.out 8
                  have hfz65_9 := blk_frozen BK159.out 9
                  have hfz65_10 := blk_frozen BK159.out 10
                  as_aux_lemma =>
                    go_wp2
                    go_meet
                    case rel => exact ⟨_, (1), (t148), (t149), (t150), (t151), (wrap64 ((Go.bits .and .i64 (Go.bits .and .i64 a2 65535) 63) - 2)), (t153), (t154), (t155), (t156), (t157), (by first | rfl | (simp; done) | (simp [*]; done)), H', ⟨by first | omega | exact Nat.le_refl _⟩, ⟨by (with_reducible repeat (first | refine blk_drewN ?_ _ | refine blk_drew ?_ | refine blk_alloc ?_ _)); refine blk_far ?_ NB147_159.out _; (with_reducible repeat (first | refine blk_drewN ?_ _ | refine blk_drew ?_ | refine blk_alloc ?_ _)); exact BK147.out⟩, ⟨by (with_reducible repeat (first | refine blk_drewN ?_ _ | refine blk_drew ?_ | refine blk_alloc ?_ _)); refine blk_put (cs := #[.int .i64 t148, .int .i64 t149, .int .i64 t150, .int .i64 t151, .int .i64 t152, .int .i64 t153, .int .i64 t154, .int .i64 t155, .int .i64 t156, .int .i64 t157, .int .u64 t158]) ?_ 4 _ rfl; (with_reducible repeat (first | refine blk_drewN ?_ _ | refine blk_drew ?_ | refine blk_alloc ?_ _)); exact BK159.out⟩, ⟨by repeat (first | (with_reducible first | exact HB.out | apply below_alloc | apply pw_below_drewN | apply below_drew1 | refine below_set ?_ GE147.out | refine below_set ?_ GE159.out) | exact HB.out)⟩⟩
                · rw [if_neg c63] at H
                  have c63b0 : decide ((wrap64 ((Go.bits .and .i64 (Go.bits .and .i64 a2 65535) 63) - 2)) < t153) = false := decide_eq_false c63
                  clear c63
                  by_cases c66 : (wrap64 ((Go.bits .and .i64 (Go.bits .and .i64 a2 65535) 63) - 2)) > 32
                  · rw [if_pos c66] at H
                    have c66b0 : decide (32 < (wrap64 ((Go.bits .and .i64 (Go.bits .and .i64 a2 65535) 63) - 2))) = true := decide_eq_true c66
                    clear c66
                    have H' := Aside0.mk H
                    clear H
                    have hnb67 := NB159_147.out
                    have hnc67 := NB147_159.out
                    have hcz68_0 : w13.cell? ⟨gb159, 0, none⟩ = some (.int .i64 t148) := (blk_cell BK159.out 0).trans rfl
                    have hcz68_1 : w13.cell? ⟨gb159, 1, none⟩ = some (.int .i64 t149) := (blk_cell BK159.out 1).trans rfl
                    have hcz68_2 : w13.cell? ⟨gb159, 2, none⟩ = some (.int .i64 t150) := (blk_cell BK159.out 2).trans rfl
                    have hcz68_3 : w13.cell? ⟨gb159, 3, none⟩ = some (.int .i64 t151) := (blk_cell BK159.out 3).trans rfl
                    have hcz68_4 : w13.cell? ⟨gb159, 4, none⟩ = some (.int .i64 t152) := (blk_cell BK159.out 4).trans rfl
                    have hcz68_5 : w13.cell? ⟨gb159, 5, none⟩ = some (.int .i64 t153) := (blk_cell BK159.out 5).trans rfl
                    have hcz68_6 : w13.cell? ⟨gb159, 6, none⟩ = some (.int .i64 t154) := (blk_cell BK159.out 6).trans rfl
                    have hcz68_7 : w13.cell? ⟨gb159, 7, none⟩ = some (.int .i64 t155) := (blk_cell BK159.out 7).trans rfl
                    have hcz68_8 : w13.cell? ⟨gb159, 8, none⟩ = some (.int .i64 t156) := (blk_cell BK159.out 8).trans rfl
                    have hcz68_9 : w13.cell? ⟨gb159, 9, none⟩ = some (.int .i64 t157) := (blk_cell BK159.out 9).trans rfl
                    have hcz68_10 : w13.cell? ⟨gb159, 10, none⟩ = some (.int .u64 t158) := (blk_cell BK159.out 10).trans rfl
                    have hfz68_0 := blk_frozen BK159.out 0
                    have hfz68_1 := blk_frozen BK159.out 1
                    have hfz68_2 := blk_frozen BK159.out 2
                    have hfz68_3 := blk_frozen BK159.out 3
                    have hfz68_4 := blk_frozen BK159.out 4
                    have hfz68_5 := blk_frozen BK159.out 5
                    have hfz68_6 := blk_frozen BK159.out 6
                    have hfz68_7 := blk_frozen BK159.out 7
                    have hfz68_8 := blk_frozen BK159.out 8
                    have hfz68_9 := blk_frozen BK159.out 9
                    have hfz68_10 := blk_frozen BK159.out 10
                    as_aux_lemma =>
                      go_wp2
                      go_meet
                      case rel => exact ⟨_, (1), (t148), (t149), (t150), (t151), (wrap64 ((Go.bits .and .i64 (Go.bits .and .i64 a2 65535) 63) - 2)), (t153), (t154), (t155), (t156), (t157), (by first | rfl | (simp; done) | (simp [*]; done)), H', ⟨by first | omega | exact Nat.le_refl _⟩, ⟨by (with_reducible repeat (first | refine blk_drewN ?_ _ | refine blk_drew ?_ | refine blk_alloc ?_ _)); refine blk_far ?_ NB147_159.out _; (with_reducible repeat (first | refine blk_drewN ?_ _ | refine blk_drew ?_ | refine blk_alloc ?_ _)); exact BK147.out⟩, ⟨by (with_reducible repeat (first | refine blk_drewN ?_ _ | refine blk_drew ?_ | refine blk_alloc ?_ _)); refine blk_put (cs := #[.int .i64 t148, .int .i64 t149, .int .i64 t150, .int .i64 t151, .int .i64 t152, .int .i64 t153, .int .i64 t154, .int .i64 t155, .int .i64 t156, .int .i64 t157, .int .u64 t158]) ?_ 4 _ rfl; (with_reducible repeat (first | refine blk_drewN ?_ _ | refine blk_drew ?_ | refine blk_alloc ?_ _)); exact BK159.out⟩, ⟨by repeat (first | (with_reducible first | exact HB.out | apply below_alloc | apply pw_below_drewN | apply below_drew1 | refine below_set ?_ GE147.out | refine below_set ?_ GE159.out) | exact HB.out)⟩⟩
                  · rw [if_neg c66] at H
                    have c66b0 : decide (32 < (wrap64 ((Go.bits .and .i64 (Go.bits .and .i64 a2 65535) 63) - 2))) = false := decide_eq_false c66
                    clear c66
                    have H' := Aside0.mk H
                    clear H
                    have hnb69 := NB159_147.out
                    have hnc69 := NB147_159.out
                    have hcz70_0 : w13.cell? ⟨gb159, 0, none⟩ = some (.int .i64 t148) := (blk_cell BK159.out 0).trans rfl
                    have hcz70_1 : w13.cell? ⟨gb159, 1, none⟩ = some (.int .i64 t149) := (blk_cell BK159.out 1).trans rfl
                    have hcz70_2 : w13.cell? ⟨gb159, 2, none⟩ = some (.int .i64 t150) := (blk_cell BK159.out 2).trans rfl
                    have hcz70_3 : w13.cell? ⟨gb159, 3, none⟩ = some (.int .i64 t151) := (blk_cell BK159.out 3).trans rfl
                    have hcz70_4 : w13.cell? ⟨gb159, 4, none⟩ = some (.int .i64 t152) := (blk_cell BK159.out 4).trans rfl
                    have hcz70_5 : w13.cell? ⟨gb159, 5, none⟩ = some (.int .i64 t153) := (blk_cell BK159.out 5).trans rfl
                    have hcz70_6 : w13.cell? ⟨gb159, 6, none⟩ = some (.int .i64 t154) := (blk_cell BK159.out 6).trans rfl
                    have hcz70_7 : w13.cell? ⟨gb159, 7, none⟩ = some (.int .i64 t155) := (blk_cell BK159.out 7).trans rfl
                    have hcz70_8 : w13.cell? ⟨gb159, 8, none⟩ = some (.int .i64 t156) := (blk_cell BK159.out 8).trans rfl
                    have hcz70_9 : w13.cell? ⟨gb159, 9, none⟩ = some (.int .i64 t157) := (blk_cell BK159.out 9).trans rfl
                    have hcz70_10 : w13.cell? ⟨gb159, 10, none⟩ = some (.int .u64 t158) := (blk_cell BK159.out 10).trans rfl
                    have hfz70_0 := blk_frozen BK159.out 0
                    have hfz70_1 := blk_frozen BK159.out 1
                    have hfz70_2 := blk_frozen BK159.out 2
                    have hfz70_3 := blk_frozen BK159.out 3
                    have hfz70_4 := blk_frozen BK159.out 4
                    have hfz70_5 := blk_frozen BK159.out 5
                    have hfz70_6 := blk_frozen BK159.out 6
                    have hfz70_7 := blk_frozen BK159.out 7
                    have hfz70_8 := blk_frozen BK159.out 8
                    have hfz70_9 := blk_frozen BK159.out 9
                    have hfz70_10 := blk_frozen BK159.out 10
                    as_aux_lemma =>
                      go_wp2
                      go_meet
                      case rel => exact ⟨_, (0), (t148), (t149), (t150), (t151), (wrap64 ((Go.bits .and .i64 (Go.bits .and .i64 a2 65535) 63) - 2)), (t153), (t154), (t155), (t156), (t157), (by first | rfl | (simp; done) | (simp [*]; done)), H', ⟨by first | omega | exact Nat.le_refl _⟩, ⟨by (with_reducible repeat (first | refine blk_drewN ?_ _ | refine blk_drew ?_ | refine blk_alloc ?_ _)); refine blk_far ?_ NB147_159.out _; (with_reducible repeat (first | refine blk_drewN ?_ _ | refine blk_drew ?_ | refine blk_alloc ?_ _)); exact BK147.out⟩, ⟨by (with_reducible repeat (first | refine blk_drewN ?_ _ | refine blk_drew ?_ | refine blk_alloc ?_ _)); refine blk_put (cs := #[.int .i64 t148, .int .i64 t149, .int .i64 t150, .int .i64 t151, .int .i64 t152, .int .i64 t153, .int .i64 t154, .int .i64 t155, .int .i64 t156, .int .i64 t157, .int .u64 t158]) ?_ 4 _ rfl; (with_reducible repeat (first | refine blk_drewN ?_ _ | refine blk_drew ?_ | refine blk_alloc ?_ _)); exact BK159.out⟩, ⟨by repeat (first | (with_reducible first | exact HB.out | apply below_alloc | apply pw_below_drewN | apply below_drew1 | refine below_set ?_ GE147.out | refine below_set ?_ GE159.out) | exact HB.out)⟩⟩
              · rw [if_neg c62] at H
                have c62b0 : ((Int.tmod (Go.bits .and .i64 (a1 / 2) 31) 12) == 5) = false := beq_eq_false_iff_ne.mpr c62
                have c62b1 : ((Int.tmod (Go.bits .and .i64 (a1 / 2) 31) 12) != 5) = true := bne_iff_ne.mpr c62
                by_cases c71 : (Int.tmod (Go.bits .and .i64 (a1 / 2) 31) 12) = 6
                · rw [if_pos c71] at H
                  have c71b0 : ((Int.tmod (Go.bits .and .i64 (a1 / 2) 31) 12) == 6) = true := beq_iff_eq.mpr c71
                  have c71b1 : ((Int.tmod (Go.bits .and .i64 (a1 / 2) 31) 12) != 6) = false := bne_eq_false_iff_eq.mpr c71
                  clear c71
                  by_cases c72 : (wrap64 ((Go.bits .and .i64 (Go.bits .and .i64 a2 65535) 31) - 2)) < 0
                  · rw [if_pos c72] at H
                    have c72b0 : decide ((wrap64 ((Go.bits .and .i64 (Go.bits .and .i64 a2 65535) 31) - 2)) < 0) = true := decide_eq_true c72
                    clear c72
                    have H' := Aside0.mk H
                    clear H
                    have hnb73 := NB159_147.out
                    have hnc73 := NB147_159.out
                    have hcz74_0 : w13.cell? ⟨gb159, 0, none⟩ = some (.int .i64 t148) := (blk_cell BK159.out 0).trans rfl
                    have hcz74_1 : w13.cell? ⟨gb159, 1, none⟩ = some (.int .i64 t149) := (blk_cell BK159.out 1).trans rfl
                    have hcz74_2 : w13.cell? ⟨gb159, 2, none⟩ = some (.int .i64 t150) := (blk_cell BK159.out 2).trans rfl
                    have hcz74_3 : w13.cell? ⟨gb159, 3, none⟩ = some (.int .i64 t151) := (blk_cell BK159.out 3).trans rfl
                    have hcz74_4 : w13.cell? ⟨gb159, 4, none⟩ = some (.int .i64 t152) := (blk_cell BK159.out 4).trans rfl
                    have hcz74_5 : w13.cell? ⟨gb159, 5, none⟩ = some (.int .i64 t153) := (blk_cell BK159.out 5).trans rfl
                    have hcz74_6 : w13.cell? ⟨gb159, 6, none⟩ = some (.int .i64 t154) := (blk_cell BK159.out 6).trans rfl
                    have hcz74_7 : w13.cell? ⟨gb159, 7, none⟩ = some (.int .i64 t155) := (blk_cell BK159.out 7).trans rfl
                    have hcz74_8 : w13.cell? ⟨gb159, 8, none⟩ = some (.int .i64 t156) := (blk_cell BK159.out 8).trans rfl
                    have hcz74_9 : w13.cell? ⟨gb159, 9, none⟩ = some (.int .i64 t157) := (blk_cell BK159.out 9).trans rfl
                    have hcz74_10 : w13.cell? ⟨gb159, 10, none⟩ = some (.int .u64 t158) := (blk_cell BK159.out 10).trans rfl
                    have hfz74_0 := blk_frozen BK159.out 0
                    have hfz74_1 := blk_frozen BK159.out 1
                    have hfz74_2 := blk_frozen BK159.out 2
                    have hfz74_3 := blk_frozen BK159.out 3
                    have hfz74_4 := blk_frozen BK159.out 4
                    have hfz74_5 := blk_frozen BK159.out 5
                    have hfz74_6 := blk_frozen BK159.out 6
                    have hfz74_7 := blk_frozen BK159.out 7
                    have hfz74_8 := blk_frozen BK159.out 8
                    have hfz74_9 := blk_frozen BK159.out 9
                    have hfz74_10 := blk_frozen BK159.out 10
                    as_aux_lemma =>
                      go_wp2
                      go_meet
                      case rel => exact ⟨_, (1), (t148), (t149), (t150), (t151), (t152), (t153), (wrap64 ((Go.bits .and .i64 (Go.bits .and .i64 a2 65535) 31) - 2)), (t155), (t156), (t157), (by first | rfl | (simp; done) | (simp [*]; done)), H', ⟨by first | omega | exact Nat.le_refl _⟩, ⟨by (with_reducible repeat (first | refine blk_drewN ?_ _ | refine blk_drew ?_ | refine blk_alloc ?_ _)); refine blk_far ?_ NB147_159.out _; (with_reducible repeat (first | refine blk_drewN ?_ _ | refine blk_drew ?_ | refine blk_alloc ?_ _)); exact BK147.out⟩, ⟨by (with_reducible repeat (first | refine blk_drewN ?_ _ | refine blk_drew ?_ | refine blk_alloc ?_ _)); refine blk_put (cs := #[.int .i64 t148, .int .i64 t149, .int .i64 t150, .int .i64 t151, .int .i64 t152, .int .i64 t153, .int .i64 t154, .int .i64 t155, .int .i64 t156, .int .i64 t157, .int .u64 t158]) ?_ 6 _ rfl; (with_reducible repeat (first | refine blk_drewN ?_ _ | refine blk_drew ?_ | refine blk_alloc ?_ _)); exact BK159.out⟩, ⟨by repeat (first | (with_reducible first | exact HB.out | apply below_alloc | apply pw_below_drewN | apply below_drew1 | refine below_set ?_ GE147.out | refine below_set ?_ GE159.out) | exact HB.out)⟩⟩
                  · rw [if_neg c72] at H
                    have c72b0 : decide ((wrap64 ((Go.bits .and .i64 (Go.bits .and .i64 a2 65535) 31) - 2)) < 0) = false := decide_eq_false c72
                    clear c72
                    by_cases c75 : (wrap64 ((Go.bits .and .i64 (Go.bits .and .i64 a2 65535) 31) - 2)) > 16
                    · rw [if_pos c75] at H
                      have c75b0 : decide (16 < (wrap64 ((Go.bits .and .i64 (Go.bits .and .i64 a2 65535) 31) - 2))) = true := decide_eq_true c75
                      clear c75
                      have H' := Aside0.mk H
                      clear H
                      have hnb76 := NB159_147.out
                      have hnc76 := NB147_159.out
                      have hcz77_0 : w13.cell? ⟨gb159, 0, none⟩ = some (.int .i64 t148) := (blk_cell BK159.out 0).trans rfl
                      have hcz77_1 : w13.cell? ⟨gb159, 1, none⟩ = some (.int .i64 t149) := (blk_cell BK159.out 1).trans rfl
                      have hcz77_2 : w13.cell? ⟨gb159, 2, none⟩ = some (.int .i64 t150) := (blk_cell BK159.out 2).trans rfl
                      have hcz77_3 : w13.cell? ⟨gb159, 3, none⟩ = some (.int .i64 t151) := (blk_cell BK159.out 3).trans rfl
                      have hcz77_4 : w13.cell? ⟨gb159, 4, none⟩ = some (.int .i64 t152) := (blk_cell BK159.out 4).trans rfl
                      have hcz77_5 : w13.cell? ⟨gb159, 5, none⟩ = some (.int .i64 t153) := (blk_cell BK159.out 5).trans rfl
                      have hcz77_6 : w13.cell? ⟨gb159, 6, none⟩ = some (.int .i64 t154) := (blk_cell BK159.out 6).trans rfl
                      have hcz77_7 : w13.cell? ⟨gb159, 7, none⟩ = some (.int .i64 t155) := (blk_cell BK159.out 7).trans rfl
                      have hcz77_8 : w13.cell? ⟨gb159, 8, none⟩ = some (.int .i64 t156) := (blk_cell BK159.out 8).trans rfl
                      have hcz77_9 : w13.cell? ⟨gb159, 9, none⟩ = some (.int .i64 t157) := (blk_cell BK159.out 9).trans rfl
                      have hcz77_10 : w13.cell? ⟨gb159, 10, none⟩ = some (.int .u64 t158) := (blk_cell BK159.out 10).trans rfl
                      have hfz77_0 := blk_frozen BK159.out 0
                      have hfz77_1 := blk_frozen BK159.out 1
                      have hfz77_2 := blk_frozen BK159.out 2
                      have hfz77_3 := blk_frozen BK159.out 3
                      have hfz77_4 := blk_frozen BK159.out 4
                      have hfz77_5 := blk_frozen BK159.out 5
                      have hfz77_6 := blk_frozen BK159.out 6
                      have hfz77_7 := blk_frozen BK159.out 7
                      have hfz77_8 := blk_frozen BK159.out 8
                      have hfz77_9 := blk_frozen BK159.out 9
                      have hfz77_10 := blk_frozen BK159.out 10
                      as_aux_lemma =>
                        go_wp2
                        go_meet
                        case rel => exact ⟨_, (1), (t148), (t149), (t150), (t151), (t152), (t153), (wrap64 ((Go.bits .and .i64 (Go.bits .and .i64 a2 65535) 31) - 2)), (t155), (t156), (t157), (by first | rfl | (simp; done) | (simp [*]; done)), H', ⟨by first | omega | exact Nat.le_refl _⟩, ⟨by (with_reducible repeat (first | refine blk_drewN ?_ _ | refine blk_drew ?_ | refine blk_alloc ?_ _)); refine blk_far ?_ NB147_159.out _; (with_reducible repeat (first | refine blk_drewN ?_ _ | refine blk_drew ?_ | refine blk_alloc ?_ _)); exact BK147.out⟩, ⟨by (with_reducible repeat (first | refine blk_drewN ?_ _ | refine blk_drew ?_ | refine blk_alloc ?_ _)); refine blk_put (cs := #[.int .i64 t148, .int .i64 t149, .int .i64 t150, .int .i64 t151, .int .i64 t152, .int .i64 t153, .int .i64 t154, .int .i64 t155, .int .i64 t156, .int .i64 t157, .int .u64 t158]) ?_ 6 _ rfl; (with_reducible repeat (first | refine blk_drewN ?_ _ | refine blk_drew ?_ | refine blk_alloc ?_ _)); exact BK159.out⟩, ⟨by repeat (first | (with_reducible first | exact HB.out | apply below_alloc | apply pw_below_drewN | apply below_drew1 | refine below_set ?_ GE147.out | refine below_set ?_ GE159.out) | exact HB.out)⟩⟩
                    · rw [if_neg c75] at H
                      have c75b0 : decide (16 < (wrap64 ((Go.bits .and .i64 (Go.bits .and .i64 a2 65535) 31) - 2))) = false := decide_eq_false c75
                      clear c75
                      have H' := Aside0.mk H
                      clear H
                      have hnb78 := NB159_147.out
                      have hnc78 := NB147_159.out
                      have hcz79_0 : w13.cell? ⟨gb159, 0, none⟩ = some (.int .i64 t148) := (blk_cell BK159.out 0).trans rfl
                      have hcz79_1 : w13.cell? ⟨gb159, 1, none⟩ = some (.int .i64 t149) := (blk_cell BK159.out 1).trans rfl
                      have hcz79_2 : w13.cell? ⟨gb159, 2, none⟩ = some (.int .i64 t150) := (blk_cell BK159.out 2).trans rfl
                      have hcz79_3 : w13.cell? ⟨gb159, 3, none⟩ = some (.int .i64 t151) := (blk_cell BK159.out 3).trans rfl
                      have hcz79_4 : w13.cell? ⟨gb159, 4, none⟩ = some (.int .i64 t152) := (blk_cell BK159.out 4).trans rfl
                      have hcz79_5 : w13.cell? ⟨gb159, 5, none⟩ = some (.int .i64 t153) := (blk_cell BK159.out 5).trans rfl
                      have hcz79_6 : w13.cell? ⟨gb159, 6, none⟩ = some (.int .i64 t154) := (blk_cell BK159.out 6).trans rfl
                      have hcz79_7 : w13.cell? ⟨gb159, 7, none⟩ = some (.int .i64 t155) := (blk_cell BK159.out 7).trans rfl
                      have hcz79_8 : w13.cell? ⟨gb159, 8, none⟩ = some (.int .i64 t156) := (blk_cell BK159.out 8).trans rfl
                      have hcz79_9 : w13.cell? ⟨gb159, 9, none⟩ = some (.int .i64 t157) := (blk_cell BK159.out 9).trans rfl
                      have hcz79_10 : w13.cell? ⟨gb159, 10, none⟩ = some (.int .u64 t158) := (blk_cell BK159.out 10).trans rfl
                      have hfz79_0 := blk_frozen BK159.out 0
                      have hfz79_1 := blk_frozen BK159.out 1
                      have hfz79_2 := blk_frozen BK159.out 2
                      have hfz79_3 := blk_frozen BK159.out 3
                      have hfz79_4 := blk_frozen BK159.out 4
                      have hfz79_5 := blk_frozen BK159.out 5
                      have hfz79_6 := blk_frozen BK159.out 6
                      have hfz79_7 := blk_frozen BK159.out 7
                      have hfz79_8 := blk_frozen BK159.out 8
                      have hfz79_9 := blk_frozen BK159.out 9
                      have hfz79_10 := blk_frozen BK159.out 10
                      as_aux_lemma =>
                        go_wp2
                        go_meet
                        case rel => exact ⟨_, (0), (t148), (t149), (t150), (t151), (t152), (t153), (wrap64 ((Go.bits .and .i64 (Go.bits .and .i64 a2 65535) 31) - 2)), (t155), (t156), (t157), (by first | rfl | (simp; done) | (simp [*]; done)), H', ⟨by first | omega | exact Nat.le_refl _⟩, ⟨by (with_reducible repeat (first | refine blk_drewN ?_ _ | refine blk_drew ?_ | refine blk_alloc ?_ _)); refine blk_far ?_ NB147_159.out _; (with_reducible repeat (first | refine blk_drewN ?_ _ | refine blk_drew ?_ | refine blk_alloc ?_ _)); exact BK147.out⟩, ⟨by (with_reducible repeat (first | refine blk_drewN ?_ _ | refine blk_drew ?_ | refine blk_alloc ?_ _)); refine blk_put (cs := #[.int .i64 t148, .int .i64 t149, .int .i64 t150, .int .i64 t151, .int .i64 t152, .int .i64 t153, .int .i64 t154, .int .i64 t155, .int .i64 t156, .int .i64 t157, .int .u64 t158]) ?_ 6 _ rfl; (with_reducible repeat (first | refine blk_drewN ?_ _ | refine blk_drew ?_ | refine blk_alloc ?_ _)); exact BK159.out⟩, ⟨by repeat (first | (with_reducible first | exact HB.out | apply below_alloc | apply pw_below_drewN | apply below_drew1 | refine below_set ?_ GE147.out | refine below_set ?_ GE159.out) | exact HB.out)⟩⟩
                · rw [if_neg c71] at H
                  have c71b0 : ((Int.tmod (Go.bits .and .i64 (a1 / 2) 31) 12) == 6) = false := beq_eq_false_iff_ne.mpr c71
                  have c71b1 : ((Int.tmod (Go.bits .and .i64 (a1 / 2) 31) 12) != 6) = true := bne_iff_ne.mpr c71
                  by_cases c80 : (Int.tmod (Go.bits .and .i64 (a1 / 2) 31) 12) = 7
                  · rw [if_pos c80] at H
                    have c80b0 : ((Int.tmod (Go.bits .and .i64 (a1 / 2) 31) 12) == 7) = true := beq_iff_eq.mpr c80
                    have c80b1 : ((Int.tmod (Go.bits .and .i64 (a1 / 2) 31) 12) != 7) = false := bne_eq_false_iff_eq.mpr c80
                    clear c80
                    by_cases c81 : (wrap64 ((Go.bits .and .i64 (Go.bits .and .i64 a2 65535) 127) - 2)) < 1
                    · rw [if_pos c81] at H
                      have c81b0 : decide ((wrap64 ((Go.bits .and .i64 (Go.bits .and .i64 a2 65535) 127) - 2)) < 1) = true := decide_eq_true c81
                      clear c81
                      have H' := Aside0.mk H
                      clear H
                      have hnb82 := NB159_147.out
                      have hnc82 := NB147_159.out
                      have hcz83_0 : w13.cell? ⟨gb159, 0, none⟩ = some (.int .i64 t148) := (blk_cell BK159.out 0).trans rfl
                      have hcz83_1 : w13.cell? ⟨gb159, 1, none⟩ = some (.int .i64 t149) := (blk_cell BK159.out 1).trans rfl
                      have hcz83_2 : w13.cell? ⟨gb159, 2, none⟩ = some (.int .i64 t150) := (blk_cell BK159.out 2).trans rfl
                      have hcz83_3 : w13.cell? ⟨gb159, 3, none⟩ = some (.int .i64 t151) := (blk_cell BK159.out 3).trans rfl
                      have hcz83_4 : w13.cell? ⟨gb159, 4, none⟩ = some (.int .i64 t152) := (blk_cell BK159.out 4).trans rfl
                      have hcz83_5 : w13.cell? ⟨gb159, 5, none⟩ = some (.int .i64 t153) := (blk_cell BK159.out 5).trans rfl
                      have hcz83_6 : w13.cell? ⟨gb159, 6, none⟩ = some (.int .i64 t154) := (blk_cell BK159.out 6).trans rfl
                      have hcz83_7 : w13.cell? ⟨gb159, 7, none⟩ = some (.int .i64 t155) := (blk_cell BK159.out 7).trans rfl
                      have hcz83_8 : w13.cell? ⟨gb159, 8, none⟩ = some (.int .i64 t156) := (blk_cell BK159.out 8).trans rfl
                      have hcz83_9 : w13.cell? ⟨gb159, 9, none⟩ = some (.int .i64 t157) := (blk_cell BK159.out 9).trans rfl
                      have hcz83_10 : w13.cell? ⟨gb159, 10, none⟩ = some (.int .u64 t158) := (blk_cell BK159.out 10).trans rfl
                      have hfz83_0 := blk_frozen BK159.out 0
                      have hfz83_1 := blk_frozen BK159.out 1
                      have hfz83_2 := blk_frozen BK159.out 2
                      have hfz83_3 := blk_frozen BK159.out 3
                      have hfz83_4 := blk_frozen BK159.out 4
                      have hfz83_5 := blk_frozen BK159.out 5
                      have hfz83_6 := blk_frozen BK159.out 6
                      have hfz83_7 := blk_frozen BK159.out 7
                      have hfz83_8 := blk_frozen BK159.out 8
                      have hfz83_9 := blk_frozen BK159.out 9
                      have hfz83_10 := blk_frozen BK159.out 10
                      as_aux_lemma =>
                        go_wp2
                        go_meet
                        case rel => exact ⟨_, (1), (t148), (t149), (t150), (t151), (t152), (t153), (t154), (wrap64 ((Go.bits .and .i64 (Go.bits .and .i64 a2 65535) 127) - 2)), (t156), (t157), (by first | rfl | (simp; done) | (simp [*]; done)), H', ⟨by first | omega | exact Nat.le_refl _⟩, ⟨by (with_reducible repeat (first | refine blk_drewN ?_ _ | refine blk_drew ?_ | refine blk_alloc ?_ _)); refine blk_far ?_ NB147_159.out _; (with_reducible repeat (first | refine blk_drewN ?_ _ | refine blk_drew ?_ | refine blk_alloc ?_ _)); exact BK147.out⟩, ⟨by (with_reducible repeat (first | refine blk_drewN ?_ _ | refine blk_drew ?_ | refine blk_alloc ?_ _)); refine blk_put (cs := #[.int .i64 t148, .int .i64 t149, .int .i64 t150, .int .i64 t151, .int .i64 t152, .int .i64 t153, .int .i64 t154, .int .i64 t155, .int .i64 t156, .int .i64 t157, .int .u64 t158]) ?_ 7 _ rfl; (with_reducible repeat (first | refine blk_drewN ?_ _ | refine blk_drew ?_ | refine blk_alloc ?_ _)); exact BK159.out⟩, ⟨by repeat (first | (with_reducible first | exact HB.out | apply below_alloc | apply pw_below_drewN | apply below_drew1 | refine below_set ?_ GE147.out | refine below_set ?_ GE159.out) | exact HB.out)⟩⟩
                    · rw [if_neg c81] at H
                      have c81b0 : decide ((wrap64 ((Go.bits .and .i64 (Go.bits .and .i64 a2 65535) 127) - 2)) < 1) = false := decide_eq_false c81
                      clear c81
                      by_cases c84 : (wrap64 ((Go.bits .and .i64 (Go.bits .and .i64 a2 65535) 127) - 2)) > 64
                      · rw [if_pos c84] at H
                        have c84b0 : decide (64 < (wrap64 ((Go.bits .and .i64 (Go.bits .and .i64 a2 65535) 127) - 2))) = true := decide_eq_true c84
                        clear c84
                        have H' := Aside0.mk H
                        clear H
                        have hnb85 := NB159_147.out
                        have hnc85 := NB147_159.out
                        have hcz86_0 : w13.cell? ⟨gb159, 0, none⟩ = some (.int .i64 t148) := (blk_cell BK159.out 0).trans rfl
                        have hcz86_1 : w13.cell? ⟨gb159, 1, none⟩ = some (.int .i64 t149) := (blk_cell BK159.out 1).trans rfl
                        have hcz86_2 : w13.cell? ⟨gb159, 2, none⟩ = some (.int .i64 t150) := (blk_cell BK159.out 2).trans rfl
                        have hcz86_3 : w13.cell? ⟨gb159, 3, none⟩ = some (.int .i64 t151) := (blk_cell BK159.out 3).trans rfl
                        have hcz86_4 : w13.cell? ⟨gb159, 4, none⟩ = some (.int .i64 t152) := (blk_cell BK159.out 4).trans rfl
                        have hcz86_5 : w13.cell? ⟨gb159, 5, none⟩ = some (.int .i64 t153) := (blk_cell BK159.out 5).trans rfl
                        have hcz86_6 : w13.cell? ⟨gb159, 6, none⟩ = some (.int .i64 t154) := (blk_cell BK159.out 6).trans rfl
                        have hcz86_7 : w13.cell? ⟨gb159, 7, none⟩ = some (.int .i64 t155) := (blk_cell BK159.out 7).trans rfl
                        have hcz86_8 : w13.cell? ⟨gb159, 8, none⟩ = some (.int .i64 t156) := (blk_cell BK159.out 8).trans rfl
                        have hcz86_9 : w13.cell? ⟨gb159, 9, none⟩ = some (.int .i64 t157) := (blk_cell BK159.out 9).trans rfl
                        have hcz86_10 : w13.cell? ⟨gb159, 10, none⟩ = some (.int .u64 t158) := (blk_cell BK159.out 10).trans rfl
                        have hfz86_0 := blk_frozen BK159.out 0
                        have hfz86_1 := blk_frozen BK159.out 1
                        have hfz86_2 := blk_frozen BK159.out 2
                        have hfz86_3 := blk_frozen BK159.out 3
                        have hfz86_4 := blk_frozen BK159.out 4
                        have hfz86_5 := blk_frozen BK159.out 5
                        have hfz86_6 := blk_frozen BK159.out 6
                        have hfz86_7 := blk_frozen BK159.out 7
                        have hfz86_8 := blk_frozen BK159.out 8
                        have hfz86_9 := blk_frozen BK159.out 9
                        have hfz86_10 := blk_frozen BK159.out 10
                        as_aux_lemma =>
                          go_wp2
                          go_meet
                          case rel => exact ⟨_, (1), (t148), (t149), (t150), (t151), (t152), (t153), (t154), (wrap64 ((Go.bits .and .i64 (Go.bits .and .i64 a2 65535) 127) - 2)), (t156), (t157), (by first | rfl | (simp; done) | (simp [*]; done)), H', ⟨by first | omega | exact Nat.le_refl _⟩, ⟨by (with_reducible repeat (first | refine blk_drewN ?_ _ | refine blk_drew ?_ | refine blk_alloc ?_ _)); refine blk_far ?_ NB147_159.out _; (with_reducible repeat (first | refine blk_drewN ?_ _ | refine blk_drew ?_ | refine blk_alloc ?_ _)); exact BK147.out⟩, ⟨by (with_reducible repeat (first | refine blk_drewN ?_ _ | refine blk_drew ?_ | refine blk_alloc ?_ _)); refine blk_put (cs := #[.int .i64 t148, .int .i64 t149, .int .i64 t150, .int .i64 t151, .int .i64 t152, .int .i64 t153, .int .i64 t154, .int .i64 t155, .int .i64 t156, .int .i64 t157, .int .u64 t158]) ?_ 7 _ rfl; (with_reducible repeat (first | refine blk_drewN ?_ _ | refine blk_drew ?_ | refine blk_alloc ?_ _)); exact BK159.out⟩, ⟨by repeat (first | (with_reducible first | exact HB.out | apply below_alloc | apply pw_below_drewN | apply below_drew1 | refine below_set ?_ GE147.out | refine below_set ?_ GE159.out) | exact HB.out)⟩⟩
                      · rw [if_neg c84] at H
                        have c84b0 : decide (64 < (wrap64 ((Go.bits .and .i64 (Go.bits .and .i64 a2 65535) 127) - 2))) = false := decide_eq_false c84
                        clear c84
                        have H' := Aside0.mk H
                        clear H
                        have hnb87 := NB159_147.out
                        have hnc87 := NB147_159.out
                        have hcz88_0 : w13.cell? ⟨gb159, 0, none⟩ = some (.int .i64 t148) := (blk_cell BK159.out 0).trans rfl
                        have hcz88_1 : w13.cell? ⟨gb159, 1, none⟩ = some (.int .i64 t149) := (blk_cell BK159.out 1).trans rfl
                        have hcz88_2 : w13.cell? ⟨gb159, 2, none⟩ = some (.int .i64 t150) := (blk_cell BK159.out 2).trans rfl
                        have hcz88_3 : w13.cell? ⟨gb159, 3, none⟩ = some (.int .i64 t151) := (blk_cell BK159.out 3).trans rfl
                        have hcz88_4 : w13.cell? ⟨gb159, 4, none⟩ = some (.int .i64 t152) := (blk_cell BK159.out 4).trans rfl
                        have hcz88_5 : w13.cell? ⟨gb159, 5, none⟩ = some (.int .i64 t153) := (blk_cell BK159.out 5).trans rfl
                        have hcz88_6 : w13.cell? ⟨gb159, 6, none⟩ = some (.int .i64 t154) := (blk_cell BK159.out 6).trans rfl
                        have hcz88_7 : w13.cell? ⟨gb159, 7, none⟩ = some (.int .i64 t155) := (blk_cell BK159.out 7).trans rfl
                        have hcz88_8 : w13.cell? ⟨gb159, 8, none⟩ = some (.int .i64 t156) := (blk_cell BK159.out 8).trans rfl
                        have hcz88_9 : w13.cell? ⟨gb159, 9, none⟩ = some (.int .i64 t157) := (blk_cell BK159.out 9).trans rfl
                        have hcz88_10 : w13.cell? ⟨gb159, 10, none⟩ = some (.int .u64 t158) := (blk_cell BK159.out 10).trans rfl
                        have hfz88_0 := blk_frozen BK159.out 0
                        have hfz88_1 := blk_frozen BK159.out 1
                        have hfz88_2 := blk_frozen BK159.out 2
                        have hfz88_3 := blk_frozen BK159.out 3
                        have hfz88_4 := blk_frozen BK159.out 4
                        have hfz88_5 := blk_frozen BK159.out 5
                        have hfz88_6 := blk_frozen BK159.out 6
                        have hfz88_7 := blk_frozen BK159.out 7
                        have hfz88_8 := blk_frozen BK159.out 8
                        have hfz88_9 := blk_frozen BK159.out 9
                        have hfz88_10 := blk_frozen BK159.out 10
                        as_aux_lemma =>
                          go_wp2
                          go_meet
                          case rel => exact ⟨_, (0), (t148), (t149), (t150), (t151), (t152), (t153), (t154), (wrap64 ((Go.bits .and .i64 (Go.bits .and .i64 a2 65535) 127) - 2)), (t156), (t157), (by first | rfl | (simp; done) | (simp [*]; done)), H', ⟨by first | omega | exact Nat.le_refl _⟩, ⟨by (with_reducible repeat (first | refine blk_drewN ?_ _ | refine blk_drew ?_ | refine blk_alloc ?_ _)); refine blk_far ?_ NB147_159.out _; (with_reducible repeat (first | refine blk_drewN ?_ _ | refine blk_drew ?_ | refine blk_alloc ?_ _)); exact BK147.out⟩, ⟨by (with_reducible repeat (first | refine blk_drewN ?_ _ | refine blk_drew ?_ | refine blk_alloc ?_ _)); refine blk_put (cs := #[.int .i64 t148, .int .i64 t149, .int .i64 t150, .int .i64 t151, .int .i64 t152, .int .i64 t153, .int .i64 t154, .int .i64 t155, .int .i64 t156, .int .i64 t157, .int .u64 t158]) ?_ 7 _ rfl; (with_reducible repeat (first | refine blk_drewN ?_ _ | refine blk_drew ?_ | refine blk_alloc ?_ _)); exact BK159.out⟩, ⟨by repeat (first | (with_reducible first | exact HB.out | apply below_alloc | apply pw_below_drewN | apply below_drew1 | refine below_set ?_ GE147.out | refine below_set ?_ GE159.out) | exact HB.out)⟩⟩
                  · rw [if_neg c80] at H
                    have c80b0 : ((Int.tmod (Go.bits .and .i64 (a1 / 2) 31) 12) == 7) = false := beq_eq_false_iff_ne.mpr c80
                    have c80b1 : ((Int.tmod (Go.bits .and .i64 (a1 / 2) 31) 12) != 7) = true := bne_iff_ne.mpr c80
                    by_cases c89 : (Int.tmod (Go.bits .and .i64 (a1 / 2) 31) 12) = 8
                    · rw [if_pos c89] at H
                      have c89b0 : ((Int.tmod (Go.bits .and .i64 (a1 / 2) 31) 12) == 8) = true := beq_iff_eq.mpr c89
                      have c89b1 : ((Int.tmod (Go.bits .and .i64 (a1 / 2) 31) 12) != 8) = false := bne_eq_false_iff_eq.mpr c89
                      clear c89
                      by_cases c90 : (wrap64 ((Go.bits .and .i64 a2 65535) - 5)) < 1
                      · rw [if_pos c90] at H
                        have c90b0 : decide ((wrap64 ((Go.bits .and .i64 a2 65535) - 5)) < 1) = true := decide_eq_true c90
                        clear c90
                        have H' := Aside0.mk H
                        clear H
                        have hnb91 := NB159_147.out
                        have hnc91 := NB147_159.out
                        have hcz92_0 : w13.cell? ⟨gb159, 0, none⟩ = some (.int .i64 t148) := (blk_cell BK159.out 0).trans rfl
                        have hcz92_1 : w13.cell? ⟨gb159, 1, none⟩ = some (.int .i64 t149) := (blk_cell BK159.out 1).trans rfl
                        have hcz92_2 : w13.cell? ⟨gb159, 2, none⟩ = some (.int .i64 t150) := (blk_cell BK159.out 2).trans rfl
                        have hcz92_3 : w13.cell? ⟨gb159, 3, none⟩ = some (.int .i64 t151) := (blk_cell BK159.out 3).trans rfl
                        have hcz92_4 : w13.cell? ⟨gb159, 4, none⟩ = some (.int .i64 t152) := (blk_cell BK159.out 4).trans rfl
                        have hcz92_5 : w13.cell? ⟨gb159, 5, none⟩ = some (.int .i64 t153) := (blk_cell BK159.out 5).trans rfl
                        have hcz92_6 : w13.cell? ⟨gb159, 6, none⟩ = some (.int .i64 t154) := (blk_cell BK159.out 6).trans rfl
                        have hcz92_7 : w13.cell? ⟨gb159, 7, none⟩ = some (.int .i64 t155) := (blk_cell BK159.out 7).trans rfl
                        have hcz92_8 : w13.cell? ⟨gb159, 8, none⟩ = some (.int .i64 t156) := (blk_cell BK159.out 8).trans rfl
                        have hcz92_9 : w13.cell? ⟨gb159, 9, none⟩ = some (.int .i64 t157) := (blk_cell BK159.out 9).trans rfl
                        have hcz92_10 : w13.cell? ⟨gb159, 10, none⟩ = some (.int .u64 t158) := (blk_cell BK159.out 10).trans rfl
                        have hfz92_0 := blk_frozen BK159.out 0
                        have hfz92_1 := blk_frozen BK159.out 1
                        have hfz92_2 := blk_frozen BK159.out 2
                        have hfz92_3 := blk_frozen BK159.out 3
                        have hfz92_4 := blk_frozen BK159.out 4
                        have hfz92_5 := blk_frozen BK159.out 5
                        have hfz92_6 := blk_frozen BK159.out 6
                        have hfz92_7 := blk_frozen BK159.out 7
                        have hfz92_8 := blk_frozen BK159.out 8
                        have hfz92_9 := blk_frozen BK159.out 9
                        have hfz92_10 := blk_frozen BK159.out 10
                        as_aux_lemma =>
                          go_wp2
                          go_meet
                          case rel => exact ⟨_, (1), (t148), (t149), (t150), (t151), (t152), (t153), (t154), (t155), (wrap64 ((Go.bits .and .i64 a2 65535) - 5)), (t157), (by first | rfl | (simp; done) | (simp [*]; done)), H', ⟨by first | omega | exact Nat.le_refl _⟩, ⟨by (with_reducible repeat (first | refine blk_drewN ?_ _ | refine blk_drew ?_ | refine blk_alloc ?_ _)); refine blk_far ?_ NB147_159.out _; (with_reducible repeat (first | refine blk_drewN ?_ _ | refine blk_drew ?_ | refine blk_alloc ?_ _)); exact BK147.out⟩, ⟨by (with_reducible repeat (first | refine blk_drewN ?_ _ | refine blk_drew ?_ | refine blk_alloc ?_ _)); refine blk_put (cs := #[.int .i64 t148, .int .i64 t149, .int .i64 t150, .int .i64 t151, .int .i64 t152, .int .i64 t153, .int .i64 t154, .int .i64 t155, .int .i64 t156, .int .i64 t157, .int .u64 t158]) ?_ 8 _ rfl; (with_reducible repeat (first | refine blk_drewN ?_ _ | refine blk_drew ?_ | refine blk_alloc ?_ _)); exact BK159.out⟩, ⟨by repeat (first | (with_reducible first | exact HB.out | apply below_alloc | apply pw_below_drewN | apply below_drew1 | refine below_set ?_ GE147.out | refine below_set ?_ GE159.out) | exact HB.out)⟩⟩
                      · rw [if_neg c90] at H
                        have c90b0 : decide ((wrap64 ((Go.bits .and .i64 a2 65535) - 5)) < 1) = false := decide_eq_false c90
                        clear c90
                        by_cases c93 : (wrap64 ((Go.bits .and .i64 a2 65535) - 5)) > 16384
                        · rw [if_pos c93] at H
                          have c93b0 : decide (16384 < (wrap64 ((Go.bits .and .i64 a2 65535) - 5))) = true := decide_eq_true c93
                          clear c93
                          have H' := Aside0.mk H
                          clear H
                          have hnb94 := NB159_147.out
                          have hnc94 := NB147_159.out
                          have hcz95_0 : w13.cell? ⟨gb159, 0, none⟩ = some (.int .i64 t148) := (blk_cell BK159.out 0).trans rfl
                          have hcz95_1 : w13.cell? ⟨gb159, 1, none⟩ = some (.int .i64 t149) := (blk_cell BK159.out 1).trans rfl
                          have hcz95_2 : w13.cell? ⟨gb159, 2, none⟩ = some (.int .i64 t150) := (blk_cell BK159.out 2).trans rfl
                          have hcz95_3 : w13.cell? ⟨gb159, 3, none⟩ = some (.int .i64 t151) := (blk_cell BK159.out 3).trans rfl
                          have hcz95_4 : w13.cell? ⟨gb159, 4, none⟩ = some (.int .i64 t152) := (blk_cell BK159.out 4).trans rfl
                          have hcz95_5 : w13.cell? ⟨gb159, 5, none⟩ = some (.int .i64 t153) := (blk_cell BK159.out 5).trans rfl
                          have hcz95_6 : w13.cell? ⟨gb159, 6, none⟩ = some (.int .i64 t154) := (blk_cell BK159.out 6).trans rfl
                          have hcz95_7 : w13.cell? ⟨gb159, 7, none⟩ = some (.int .i64 t155) := (blk_cell BK159.out 7).trans rfl
                          have hcz95_8 : w13.cell? ⟨gb159, 8, none⟩ = some (.int .i64 t156) := (blk_cell BK159.out 8).trans rfl
                          have hcz95_9 : w13.cell? ⟨gb159, 9, none⟩ = some (.int .i64 t157) := (blk_cell BK159.out 9).trans rfl
                          have hcz95_10 : w13.cell? ⟨gb159, 10, none⟩ = some (.int .u64 t158) := (blk_cell BK159.out 10).trans rfl
                          have hfz95_0 := blk_frozen BK159.out 0
                          have hfz95_1 := blk_frozen BK159.out 1
                          have hfz95_2 := blk_frozen BK159.out 2
                          have hfz95_3 := blk_frozen BK159.out 3
                          have hfz95_4 := blk_frozen BK159.out 4
                          have hfz95_5 := blk_frozen BK159.out 5
                          have hfz95_6 := blk_frozen BK159.out 6
                          have hfz95_7 := blk_frozen BK159.out 7
                          have hfz95_8 := blk_frozen BK159.out 8
                          have hfz95_9 := blk_frozen BK159.out 9
                          have hfz95_10 := blk_frozen BK159.out 10
                          as_aux_lemma =>
                            go_wp2
                            go_meet
                            case rel => exact ⟨_, (1), (t148), (t149), (t150), (t151), (t152), (t153), (t154), (t155), (wrap64 ((Go.bits .and .i64 a2 65535) - 5)), (t157), (by first | rfl | (simp; done) | (simp [*]; done)), H', ⟨by first | omega | exact Nat.le_refl _⟩, ⟨by (with_reducible repeat (first | refine blk_drewN ?_ _ | refine blk_drew ?_ | refine blk_alloc ?_ _)); refine blk_far ?_ NB147_159.out _; (with_reducible repeat (first | refine blk_drewN ?_ _ | refine blk_drew ?_ | refine blk_alloc ?_ _)); exact BK147.out⟩, ⟨by (with_reducible repeat (first | refine blk_drewN ?_ _ | refine blk_drew ?_ | refine blk_alloc ?_ _)); refine blk_put (cs := #[.int .i64 t148, .int .i64 t149, .int .i64 t150, .int .i64 t151, .int .i64 t152, .int .i64 t153, .int .i64 t154, .int .i64 t155, .int .i64 t156, .int .i64 t157, .int .u64 t158]) ?_ 8 _ rfl; (with_reducible repeat (first | refine blk_drewN ?_ _ | refine blk_drew ?_ | refine blk_alloc ?_ _)); exact BK159.out⟩, ⟨by repeat (first | (with_reducible first | exact HB.out | apply below_alloc | apply pw_below_drewN | apply below_drew1 | refine below_set ?_ GE147.out | refine below_set ?_ GE159.out) | exact HB.out)⟩⟩
                        · rw [if_neg c93] at H
                          have c93b0 : decide (16384 < (wrap64 ((Go.bits .and .i64 a2 65535) - 5))) = false := decide_eq_false c93
                          clear c93
                          have H' := Aside0.mk H
                          clear H
                          have hnb96 := NB159_147.out
                          have hnc96 := NB147_159.out
                          have hcz97_0 : w13.cell? ⟨gb159, 0, none⟩ = some (.int .i64 t148) := (blk_cell BK159.out 0).trans rfl
                          have hcz97_1 : w13.cell? ⟨gb159, 1, none⟩ = some (.int .i64 t149) := (blk_cell BK159.out 1).trans rfl
                          have hcz97_2 : w13.cell? ⟨gb159, 2, none⟩ = some (.int .i64 t150) := (blk_cell BK159.out 2).trans rfl
                          have hcz97_3 : w13.cell? ⟨gb159, 3, none⟩ = some (.int .i64 t151) := (blk_cell BK159.out 3).trans rfl
                          have hcz97_4 : w13.cell? ⟨gb159, 4, none⟩ = some (.int .i64 t152) := (blk_cell BK159.out 4).trans rfl
                          have hcz97_5 : w13.cell? ⟨gb159, 5, none⟩ = some (.int .i64 t153) := (blk_cell BK159.out 5).trans rfl
                          have hcz97_6 : w13.cell? ⟨gb159, 6, none⟩ = some (.int .i64 t154) := (blk_cell BK159.out 6).trans rfl
                          have hcz97_7 : w13.cell? ⟨gb159, 7, none⟩ = some (.int .i64 t155) := (blk_cell BK159.out 7).trans rfl
                          have hcz97_8 : w13.cell? ⟨gb159, 8, none⟩ = some (.int .i64 t156) := (blk_cell BK159.out 8).trans rfl
                          have hcz97_9 : w13.cell? ⟨gb159, 9, none⟩ = some (.int .i64 t157) := (blk_cell BK159.out 9).trans rfl
                          have hcz97_10 : w13.cell? ⟨gb159, 10, none⟩ = some (.int .u64 t158) := (blk_cell BK159.out 10).trans rfl
                          have hfz97_0 := blk_frozen BK159.out 0
                          have hfz97_1 := blk_frozen BK159.out 1
                          have hfz97_2 := blk_frozen BK159.out 2
                          have hfz97_3 := blk_frozen BK159.out 3
                          have hfz97_4 := blk_frozen BK159.out 4
                          have hfz97_5 := blk_frozen BK159.out 5
                          have hfz97_6 := blk_frozen BK159.out 6
                          have hfz97_7 := blk_frozen BK159.out 7
                          have hfz97_8 := blk_frozen BK159.out 8
                          have hfz97_9 := blk_frozen BK159.out 9
                          have hfz97_10 := blk_frozen BK159.out 10
                          as_aux_lemma =>
                            go_wp2
                            go_meet
                            case rel => exact ⟨_, (0), (t148), (t149), (t150), (t151), (t152), (t153), (t154), (t155), (wrap64 ((Go.bits .and .i64 a2 65535) - 5)), (t157), (by first | rfl | (simp; done) | (simp [*]; done)), H', ⟨by first | omega | exact Nat.le_refl _⟩, ⟨by (with_reducible repeat (first | refine blk_drewN ?_ _ | refine blk_drew ?_ | refine blk_alloc ?_ _)); refine blk_far ?_ NB147_159.out _; (with_reducible repeat (first | refine blk_drewN ?_ _ | refine blk_drew ?_ | refine blk_alloc ?_ _)); exact BK147.out⟩, ⟨by (with_reducible repeat (first | refine blk_drewN ?_ _ | refine blk_drew ?_ | refine blk_alloc ?_ _)); refine blk_put (cs := #[.int .i64 t148, .int .i64 t149, .int .i64 t150, .int .i64 t151, .int .i64 t152, .int .i64 t153, .int .i64 t154, .int .i64 t155, .int .i64 t156, .int .i64 t157, .int .u64 t158]) ?_ 8 _ rfl; (with_reducible repeat (first | refine blk_drewN ?_ _ | refine blk_drew ?_ | refine blk_alloc ?_ _)); exact BK159.out⟩, ⟨by repeat (first | (with_reducible first | exact HB.out | apply below_alloc | apply pw_below_drewN | apply below_drew1 | refine below_set ?_ GE147.out | refine below_set ?_ GE159.out) | exact HB.out)⟩⟩
                    · rw [if_neg c89] at H
                      have c89b0 : ((Int.tmod (Go.bits .and .i64 (a1 / 2) 31) 12) == 8) = false := beq_eq_false_iff_ne.mpr c89
                      have c89b1 : ((Int.tmod (Go.bits .and .i64 (a1 / 2) 31) 12) != 8) = true := bne_iff_ne.mpr c89
                      by_cases c98 : (Int.tmod (Go.bits .and .i64 (a1 / 2) 31) 12) = 9
                      · rw [if_pos c98] at H
                        have c98b0 : ((Int.tmod (Go.bits .and .i64 (a1 / 2) 31) 12) == 9) = true := beq_iff_eq.mpr c98
                        have c98b1 : ((Int.tmod (Go.bits .and .i64 (a1 / 2) 31) 12) != 9) = false := bne_eq_false_iff_eq.mpr c98
                        clear c98
                        by_cases c99 : (wrap64 ((Go.bits .and .i64 (Go.bits .and .i64 a2 65535) 1023) - 5)) < 0
                        · rw [if_pos c99] at H
                          have c99b0 : decide ((wrap64 ((Go.bits .and .i64 (Go.bits .and .i64 a2 65535) 1023) - 5)) < 0) = true := decide_eq_true c99
                          clear c99
                          have H' := Aside0.mk H
                          clear H
                          have hnb100 := NB159_147.out
                          have hnc100 := NB147_159.out
                          have hcz101_0 : w13.cell? ⟨gb159, 0, none⟩ = some (.int .i64 t148) := (blk_cell BK159.out 0).trans rfl
                          have hcz101_1 : w13.cell? ⟨gb159, 1, none⟩ = some (.int .i64 t149) := (blk_cell BK159.out 1).trans rfl
                          have hcz101_2 : w13.cell? ⟨gb159, 2, none⟩ = some (.int .i64 t150) := (blk_cell BK159.out 2).trans rfl
                          have hcz101_3 : w13.cell? ⟨gb159, 3, none⟩ = some (.int .i64 t151) := (blk_cell BK159.out 3).trans rfl
                          have hcz101_4 : w13.cell? ⟨gb159, 4, none⟩ = some (.int .i64 t152) := (blk_cell BK159.out 4).trans rfl
                          have hcz101_5 : w13.cell? ⟨gb159, 5, none⟩ = some (.int .i64 t153) := (blk_cell BK159.out 5).trans rfl
                          have hcz101_6 : w13.cell? ⟨gb159, 6, none⟩ = some (.int .i64 t154) := (blk_cell BK159.out 6).trans rfl
                          have hcz101_7 : w13.cell? ⟨gb159, 7, none⟩ = some (.int .i64 t155) := (blk_cell BK159.out 7).trans rfl
                          have hcz101_8 : w13.cell? ⟨gb159, 8, none⟩ = some (.int .i64 t156) := (blk_cell BK159.out 8).trans rfl
                          have hcz101_9 : w13.cell? ⟨gb159, 9, none⟩ = some (.int .i64 t157) := (blk_cell BK159.out 9).trans rfl
                          have hcz101_10 : w13.cell? ⟨gb159, 10, none⟩ = some (.int .u64 t158) := (blk_cell BK159.out 10).trans rfl
                          have hfz101_0 := blk_frozen BK159.out 0
                          have hfz101_1 := blk_frozen BK159.out 1
                          have hfz101_2 := blk_frozen BK159.out 2
                          have hfz101_3 := blk_frozen BK159.out 3
                          have hfz101_4 := blk_frozen BK159.out 4
                          have hfz101_5 := blk_frozen BK159.out 5
                          have hfz101_6 := blk_frozen BK159.out 6
                          have hfz101_7 := blk_frozen BK159.out 7
                          have hfz101_8 := blk_frozen BK159.out 8
                          have hfz101_9 := blk_frozen BK159.out 9
                          have hfz101_10 := blk_frozen BK159.out 10
                          as_aux_lemma =>
                            go_wp2
                            go_meet
                            case rel => exact ⟨_, (1), (t148), (t149), (t150), (t151), (t152), (t153), (t154), (t155), (t156), (wrap64 ((Go.bits .and .i64 (Go.bits .and .i64 a2 65535) 1023) - 5)), (by first | rfl | (simp; done) | (simp [*]; done)), H', ⟨by first | omega | exact Nat.le_refl _⟩, ⟨by (with_reducible repeat (first | refine blk_drewN ?_ _ | refine blk_drew ?_ | refine blk_alloc ?_ _)); refine blk_far ?_ NB147_159.out _; (with_reducible repeat (first | refine blk_drewN ?_ _ | refine blk_drew ?_ | refine blk_alloc ?_ _)); exact BK147.out⟩, ⟨by (with_reducible repeat (first | refine blk_drewN ?_ _ | refine blk_drew ?_ | refine blk_alloc ?_ _)); refine blk_put (cs := #[.int .i64 t148, .int .i64 t149, .int .i64 t150, .int .i64 t151, .int .i64 t152, .int .i64 t153, .int .i64 t154, .int .i64 t155, .int .i64 t156, .int .i64 t157, .int .u64 t158]) ?_ 9 _ rfl; (with_reducible repeat (first | refine blk_drewN ?_ _ | refine blk_drew ?_ | refine blk_alloc ?_ _)); exact BK159.out⟩, ⟨by repeat (first | (with_reducible first | exact HB.out | apply below_alloc | apply pw_below_drewN | apply below_drew1 | refine below_set ?_ GE147.out | refine below_set ?_ GE159.out) | exact HB.out)⟩⟩
                        · rw [if_neg c99] at H
                          have c99b0 : decide ((wrap64 ((Go.bits .and .i64 (Go.bits .and .i64 a2 65535) 1023) - 5)) < 0) = false := decide_eq_false c99
                          clear c99
                          by_cases c102 : (wrap64 ((Go.bits .and .i64 (Go.bits .and .i64 a2 65535) 1023) - 5)) > 255
                          · rw [if_pos c102] at H
                            have c102b0 : decide (255 < (wrap64 ((Go.bits .and .i64 (Go.bits .and .i64 a2 65535) 1023) - 5))) = true := decide_eq_true c102
                            clear c102
                            have H' := Aside0.mk H
                            clear H
                            have hnb103 := NB159_147.out
                            have hnc103 := NB147_159.out
                            have hcz104_0 : w13.cell? ⟨gb159, 0, none⟩ = some (.int .i64 t148) := (blk_cell BK159.out 0).trans rfl
                            have hcz104_1 : w13.cell? ⟨gb159, 1, none⟩ = some (.int .i64 t149) := (blk_cell BK159.out 1).trans rfl
                            have hcz104_2 : w13.cell? ⟨gb159, 2, none⟩ = some (.int .i64 t150) := (blk_cell BK159.out 2).trans rfl
                            have hcz104_3 : w13.cell? ⟨gb159, 3, none⟩ = some (.int .i64 t151) := (blk_cell BK159.out 3).trans rfl
                            have hcz104_4 : w13.cell? ⟨gb159, 4, none⟩ = some (.int .i64 t152) := (blk_cell BK159.out 4).trans rfl
                            have hcz104_5 : w13.cell? ⟨gb159, 5, none⟩ = some (.int .i64 t153) := (blk_cell BK159.out 5).trans rfl
                            have hcz104_6 : w13.cell? ⟨gb159, 6, none⟩ = some (.int .i64 t154) := (blk_cell BK159.out 6).trans rfl
                            have hcz104_7 : w13.cell? ⟨gb159, 7, none⟩ = some (.int .i64 t155) := (blk_cell BK159.out 7).trans rfl
                            have hcz104_8 : w13.cell? ⟨gb159, 8, none⟩ = some (.int .i64 t156) := (blk_cell BK159.out 8).trans rfl
                            have hcz104_9 : w13.cell? ⟨gb159, 9, none⟩ = some (.int .i64 t157) := (blk_cell BK159.out 9).trans rfl
                            have hcz104_10 : w13.cell? ⟨gb159, 10, none⟩ = some (.int .u64 t158) := (blk_cell BK159.out 10).trans rfl
                            have hfz104_0 := blk_frozen BK159.out 0
                            have hfz104_1 := blk_frozen BK159.out 1
                            have hfz104_2 := blk_frozen BK159.out 2
                            have hfz104_3 := blk_frozen BK159.out 3
                            have hfz104_4 := blk_frozen BK159.out 4
                            have hfz104_5 := blk_frozen BK159.out 5
                            have hfz104_6 := blk_frozen BK159.out 6
                            have hfz104_7 := blk_frozen BK159.out 7
                            have hfz104_8 := blk_frozen BK159.out 8
                            have hfz104_9 := blk_frozen BK159.out 9
                            have hfz104_10 := blk_frozen BK159.out 10
                            as_aux_lemma =>
                              go_wp2
                              go_meet
                              case rel => exact ⟨_, (1), (t148), (t149), (t150), (t151), (t152), (t153), (t154), (t155), (t156), (wrap64 ((Go.bits .and .i64 (Go.bits .and .i64 a2 65535) 1023) - 5)), (by first | rfl | (simp; done) | (simp [*]; done)), H', ⟨by first | omega | exact Nat.le_refl _⟩, ⟨by (with_reducible repeat (first | refine blk_drewN ?_ _ | refine blk_drew ?_ | refine blk_alloc ?_ _)); refine blk_far ?_ NB147_159.out _; (with_reducible repeat (first | refine blk_drewN ?_ _ | refine blk_drew ?_ | refine blk_alloc ?_ _)); exact BK147.out⟩, ⟨by (with_reducible repeat (first | refine blk_drewN ?_ _ | refine blk_drew ?_ | refine blk_alloc ?_ _)); refine blk_put (cs := #[.int .i64 t148, .int .i64 t149, .int .i64 t150, .int .i64 t151, .int .i64 t152, .int .i64 t153, .int .i64 t154, .int .i64 t155, .int .i64 t156, .int .i64 t157, .int .u64 t158]) ?_ 9 _ rfl; (with_reducible repeat (first | refine blk_drewN ?_ _ | refine blk_drew ?_ | refine blk_alloc ?_ _)); exact BK159.out⟩, ⟨by repeat (first | (with_reducible first | exact HB.out | apply below_alloc | apply pw_below_drewN | apply below_drew1 | refine below_set ?_ GE147.out | refine below_set ?_ GE159.out) | exact HB.out)⟩⟩
                          · rw [if_neg c102] at H
                            have c102b0 : decide (255 < (wrap64 ((Go.bits .and .i64 (Go.bits .and .i64 a2 65535) 1023) - 5))) = false := decide_eq_false c102
                            clear c102
                            have H' := Aside0.mk H
                            clear H
                            have hnb105 := NB159_147.out
                            have hnc105 := NB147_159.out
                            have hcz106_0 : w13.cell? ⟨gb159, 0, none⟩ = some (.int .i64 t148) := (blk_cell BK159.out 0).trans rfl
                            have hcz106_1 : w13.cell? ⟨gb159, 1, none⟩ = some (.int .i64 t149) := (blk_cell BK159.out 1).trans rfl
                            have hcz106_2 : w13.cell? ⟨gb159, 2, none⟩ = some (.int .i64 t150) := (blk_cell BK159.out 2).trans rfl
                            have hcz106_3 : w13.cell? ⟨gb159, 3, none⟩ = some (.int .i64 t151) := (blk_cell BK159.out 3).trans rfl
                            have hcz106_4 : w13.cell? ⟨gb159, 4, none⟩ = some (.int .i64 t152) := (blk_cell BK159.out 4).trans rfl
                            have hcz106_5 : w13.cell? ⟨gb159, 5, none⟩ = some (.int .i64 t153) := (blk_cell BK159.out 5).trans rfl
                            have hcz106_6 : w13.cell? ⟨gb159, 6, none⟩ = some (.int .i64 t154) := (blk_cell BK159.out 6).trans rfl
                            have hcz106_7 : w13.cell? ⟨gb159, 7, none⟩ = some (.int .i64 t155) := (blk_cell BK159.out 7).trans rfl
                            have hcz106_8 : w13.cell? ⟨gb159, 8, none⟩ = some (.int .i64 t156) := (blk_cell BK159.out 8).trans rfl
                            have hcz106_9 : w13.cell? ⟨gb159, 9, none⟩ = some (.int .i64 t157) := (blk_cell BK159.out 9).trans rfl
                            have hcz106_10 : w13.cell? ⟨gb159, 10, none⟩ = some (.int .u64 t158) := (blk_cell BK159.out 10).trans rfl
                            have hfz106_0 := blk_frozen BK159.out 0
                            have hfz106_1 := blk_frozen BK159.out 1
                            have hfz106_2 := blk_frozen BK159.out 2
                            have hfz106_3 := blk_frozen BK159.out 3
                            have hfz106_4 := blk_frozen BK159.out 4
                            have hfz106_5 := blk_frozen BK159.out 5
                            have hfz106_6 := blk_frozen BK159.out 6
                            have hfz106_7 := blk_frozen BK159.out 7
                            have hfz106_8 := blk_frozen BK159.out 8
                            have hfz106_9 := blk_frozen BK159.out 9
                            have hfz106_10 := blk_frozen BK159.out 10
                            as_aux_lemma =>
                              go_wp2
                              go_meet
                              case rel => exact ⟨_, (0), (t148), (t149), (t150), (t151), (t152), (t153), (t154), (t155), (t156), (wrap64 ((Go.bits .and .i64 (Go.bits .and .i64 a2 65535) 1023) - 5)), (by first | rfl | (simp; done) | (simp [*]; done)), H', ⟨by first | omega | exact Nat.le_refl _⟩, ⟨by (with_reducible repeat (first | refine blk_drewN ?_ _ | refine blk_drew ?_ | refine blk_alloc ?_ _)); refine blk_far ?_ NB147_159.out _; (with_reducible repeat (first | refine blk_drewN ?_ _ | refine blk_drew ?_ | refine blk_alloc ?_ _)); exact BK147.out⟩, ⟨by (with_reducible repeat (first | refine blk_drewN ?_ _ | refine blk_drew ?_ | refine blk_alloc ?_ _)); refine blk_put (cs := #[.int .i64 t148, .int .i64 t149, .int .i64 t150, .int .i64 t151, .int .i64 t152, .int .i64 t153, .int .i64 t154, .int .i64 t155, .int .i64 t156, .int .i64 t157, .int .u64 t158]) ?_ 9 _ rfl; (with_reducible repeat (first | refine blk_drewN ?_ _ | refine blk_drew ?_ | refine blk_alloc ?_ _)); exact BK159.out⟩, ⟨by repeat (first | (with_reducible first | exact HB.out | apply below_alloc | apply pw_below_drewN | apply below_drew1 | refine below_set ?_ GE147.out | refine below_set ?_ GE159.out) | exact HB.out)⟩⟩
                      · rw [if_neg c98] at H
                        have c98b0 : ((Int.tmod (Go.bits .and .i64 (a1 / 2) 31) 12) == 9) = false := beq_eq_false_iff_ne.mpr c98
                        have c98b1 : ((Int.tmod (Go.bits .and .i64 (a1 / 2) 31) 12) != 9) = true := bne_iff_ne.mpr c98
                        have H' := Aside0.mk H
                        clear H
                        as_aux_lemma =>
                          go_wp2
                          go_meet
                          case rel => exact ⟨_, (0), (t148), (t149), (t150), (t151), (t152), (t153), (t154), (t155), (t156), (t157), (by first | rfl | (simp; done) | (simp [*]; done)), H', ⟨by first | omega | exact Nat.le_refl _⟩, ⟨by (with_reducible repeat (first | refine blk_drewN ?_ _ | refine blk_drew ?_ | refine blk_alloc ?_ _)); exact BK147.out⟩, ⟨by (with_reducible repeat (first | refine blk_drewN ?_ _ | refine blk_drew ?_ | refine blk_alloc ?_ _)); exact BK159.out⟩, ⟨by repeat (first | (with_reducible first | exact HB.out | apply below_alloc | apply pw_below_drewN | apply below_drew1 | refine below_set ?_ GE147.out | refine below_set ?_ GE159.out) | exact HB.out)⟩⟩
  case rest =>
    clear HC6
    try clear c1
    try clear p2
    try clear c5
    try clear c6
    try clear p6
    try clear c7
    try clear c8
    try clear c9
    try clear c10
    try clear c50
    try clear c50b0
    try clear c50b1
    try clear c57
    try clear c57b0
    try clear c60
    try clear c62
    try clear c62b0
    try clear c62b1
    try clear c63
    try clear c63b0
    try clear c64
    try clear p64
    try clear c66
    try clear c66b0
    try clear c67
    try clear c69
    try clear c71
    try clear c71b0
    try clear c71b1
    try clear c72
    try clear c72b0
    try clear c73
    try clear c75
    try clear c75b0
    try clear c76
    try clear c78
    try clear c80
    try clear c80b0
    try clear c80b1
    try clear c81
    try clear c81b0
    try clear c82
    try clear c84
    try clear c84b0
    try clear c85
    try clear c87
    try clear c89
    try clear c89b0
    try clear c89b1
    try clear c90
    try clear c90b0
    try clear c91
    try clear c93
    try clear c93b0
    try clear c94
    try clear c96
    try clear c98
    try clear c98b0
    try clear c98b1
    try clear c99
    try clear c99b0
    try clear c100
    try clear c102
    try clear c102b0
    try clear c103
    try clear c105
    try clear hcz101_0
    try clear hcz101_1
    try clear hcz101_10
    try clear hcz101_2
    try clear hcz101_3
    try clear hcz101_4
    try clear hcz101_5
    try clear hcz101_6
    try clear hcz101_7
    try clear hcz101_8
    try clear hcz101_9
    try clear hcz104_0
    try clear hcz104_1
    try clear hcz104_10
    try clear hcz104_2
    try clear hcz104_3
    try clear hcz104_4
    try clear hcz104_5
    try clear hcz104_6
    try clear hcz104_7
    try clear hcz104_8
    try clear hcz104_9
    try clear hcz106_0
    try clear hcz106_1
    try clear hcz106_10
    try clear hcz106_2
    try clear hcz106_3
    try clear hcz106_4
    try clear hcz106_5
    try clear hcz106_6
    try clear hcz106_7
    try clear hcz106_8
    try clear hcz106_9
    try clear hcz61_0
    try clear hcz61_1
    try clear hcz61_10
    try clear hcz61_2
    try clear hcz61_3
    try clear hcz61_4
    try clear hcz61_5
    try clear hcz61_6
    try clear hcz61_7
    try clear hcz61_8
    try clear hcz61_9
    try clear hcz65_0
    try clear hcz65_1
    try clear hcz65_10
    try clear hcz65_2
    try clear hcz65_3
    try clear hcz65_4
    try clear hcz65_5
    try clear hcz65_6
    try clear hcz65_7
    try clear hcz65_8
    try clear hcz65_9
    try clear hcz68_0
    try clear hcz68_1
    try clear hcz68_10
    try clear hcz68_2
    try clear hcz68_3
    try clear hcz68_4
    try clear hcz68_5
    try clear hcz68_6
    try clear hcz68_7
    try clear hcz68_8
    try clear hcz68_9
    try clear hcz70_0
    try clear hcz70_1
    try clear hcz70_10
    try clear hcz70_2
    try clear hcz70_3
    try clear hcz70_4
    try clear hcz70_5
    try clear hcz70_6
    try clear hcz70_7
    try clear hcz70_8
    try clear hcz70_9
    try clear hcz74_0
    try clear hcz74_1
    try clear hcz74_10
    try clear hcz74_2
    try clear hcz74_3
    try clear hcz74_4
    try clear hcz74_5
    try clear hcz74_6
    try clear hcz74_7
    try clear hcz74_8
    try clear hcz74_9
    try clear hcz77_0
    try clear hcz77_1
    try clear hcz77_10
    try clear hcz77_2
    try clear hcz77_3
    try clear hcz77_4
    try clear hcz77_5
    try clear hcz77_6
    try clear hcz77_7
    try clear hcz77_8
    try clear hcz77_9
    try clear hcz79_0
    try clear hcz79_1
    try clear hcz79_10
    try clear hcz79_2
    try clear hcz79_3
    try clear hcz79_4
    try clear hcz79_5
    try clear hcz79_6
    try clear hcz79_7
    try clear hcz79_8
    try clear hcz79_9
    try clear hcz83_0
    try clear hcz83_1
    try clear hcz83_10
    try clear hcz83_2
    try clear hcz83_3
    try clear hcz83_4
    try clear hcz83_5
    try clear hcz83_6
    try clear hcz83_7
    try clear hcz83_8
    try clear hcz83_9
    try clear hcz86_0
    try clear hcz86_1
    try clear hcz86_10
    try clear hcz86_2
    try clear hcz86_3
    try clear hcz86_4
    try clear hcz86_5
    try clear hcz86_6
    try clear hcz86_7
    try clear hcz86_8
    try clear hcz86_9
    try clear hcz88_0
    try clear hcz88_1
    try clear hcz88_10
    try clear hcz88_2
    try clear hcz88_3
    try clear hcz88_4
    try clear hcz88_5
    try clear hcz88_6
    try clear hcz88_7
    try clear hcz88_8
    try clear hcz88_9
    try clear hcz92_0
    try clear hcz92_1
    try clear hcz92_10
    try clear hcz92_2
    try clear hcz92_3
    try clear hcz92_4
    try clear hcz92_5
    try clear hcz92_6
    try clear hcz92_7
    try clear hcz92_8
    try clear hcz92_9
    try clear hcz95_0
    try clear hcz95_1
    try clear hcz95_10
    try clear hcz95_2
    try clear hcz95_3
    try clear hcz95_4
    try clear hcz95_5
    try clear hcz95_6
    try clear hcz95_7
    try clear hcz95_8
    try clear hcz95_9
    try clear hcz97_0
    try clear hcz97_1
    try clear hcz97_10
    try clear hcz97_2
    try clear hcz97_3
    try clear hcz97_4
    try clear hcz97_5
    try clear hcz97_6
    try clear hcz97_7
    try clear hcz97_8
    try clear hcz97_9
    try clear hfz101_0
    try clear hfz101_1
    try clear hfz101_10
    try clear hfz101_2
    try clear hfz101_3
    try clear hfz101_4
    try clear hfz101_5
    try clear hfz101_6
    try clear hfz101_7
    try clear hfz101_8
    try clear hfz101_9
    try clear hfz104_0
    try clear hfz104_1
    try clear hfz104_10
    try clear hfz104_2
    try clear hfz104_3
    try clear hfz104_4
    try clear hfz104_5
    try clear hfz104_6
    try clear hfz104_7
    try clear hfz104_8
    try clear hfz104_9
    try clear hfz106_0
    try clear hfz106_1
    try clear hfz106_10
    try clear hfz106_2
    try clear hfz106_3
    try clear hfz106_4
    try clear hfz106_5
    try clear hfz106_6
    try clear hfz106_7
    try clear hfz106_8
    try clear hfz106_9
    try clear hfz59_1
    try clear hfz59_10
    try clear hfz59_2
    try clear hfz59_3
    try clear hfz59_4
    try clear hfz59_5
    try clear hfz59_6
    try clear hfz59_7
    try clear hfz59_8
    try clear hfz59_9
    try clear hfz61_0
    try clear hfz61_1
    try clear hfz61_10
    try clear hfz61_2
    try clear hfz61_3
    try clear hfz61_4
    try clear hfz61_5
    try clear hfz61_6
    try clear hfz61_7
    try clear hfz61_8
    try clear hfz61_9
    try clear hfz65_0
    try clear hfz65_1
    try clear hfz65_10
    try clear hfz65_2
    try clear hfz65_3
    try clear hfz65_4
    try clear hfz65_5
    try clear hfz65_6
    try clear hfz65_7
    try clear hfz65_8
    try clear hfz65_9
    try clear hfz68_0
    try clear hfz68_1
    try clear hfz68_10
    try clear hfz68_2
    try clear hfz68_3
    try clear hfz68_4
    try clear hfz68_5
    try clear hfz68_6
    try clear hfz68_7
    try clear hfz68_8
    try clear hfz68_9
    try clear hfz70_0
    try clear hfz70_1
    try clear hfz70_10
    try clear hfz70_2
    try clear hfz70_3
    try clear hfz70_4
    try clear hfz70_5
    try clear hfz70_6
    try clear hfz70_7
    try clear hfz70_8
    try clear hfz70_9
    try clear hfz74_0
    try clear hfz74_1
    try clear hfz74_10
    try clear hfz74_2
    try clear hfz74_3
    try clear hfz74_4
    try clear hfz74_5
    try clear hfz74_6
    try clear hfz74_7
    try clear hfz74_8
    try clear hfz74_9
    try clear hfz77_0
    try clear hfz77_1
    try clear hfz77_10
    try clear hfz77_2
    try clear hfz77_3
    try clear hfz77_4
    try clear hfz77_5
    try clear hfz77_6
    try clear hfz77_7
    try clear hfz77_8
    try clear hfz77_9
    try clear hfz79_0
    try clear hfz79_1
    try clear hfz79_10
    try clear hfz79_2
    try clear hfz79_3
    try clear hfz79_4
    try clear hfz79_5
    try clear hfz79_6
    try clear hfz79_7
    try clear hfz79_8
    try clear hfz79_9
    try clear hfz83_0
    try clear hfz83_1
    try clear hfz83_10
    try clear hfz83_2
    try clear hfz83_3
    try clear hfz83_4
    try clear hfz83_5
    try clear hfz83_6
    try clear hfz83_7
    try clear hfz83_8
    try clear hfz83_9
    try clear hfz86_0
    try clear hfz86_1
    try clear hfz86_10
    try clear hfz86_2
    try clear hfz86_3
    try clear hfz86_4
    try clear hfz86_5
    try clear hfz86_6
    try clear hfz86_7
    try clear hfz86_8
    try clear hfz86_9
    try clear hfz88_0
    try clear hfz88_1
    try clear hfz88_10
    try clear hfz88_2
    try clear hfz88_3
    try clear hfz88_4
    try clear hfz88_5
    try clear hfz88_6
    try clear hfz88_7
    try clear hfz88_8
    try clear hfz88_9
    try clear hfz92_0
    try clear hfz92_1
    try clear hfz92_10
    try clear hfz92_2
    try clear hfz92_3
    try clear hfz92_4
    try clear hfz92_5
    try clear hfz92_6
    try clear hfz92_7
    try clear hfz92_8
    try clear hfz92_9
    try clear hfz95_0
    try clear hfz95_1
    try clear hfz95_10
    try clear hfz95_2
    try clear hfz95_3
    try clear hfz95_4
    try clear hfz95_5
    try clear hfz95_6
    try clear hfz95_7
    try clear hfz95_8
    try clear hfz95_9
    try clear hfz97_0
    try clear hfz97_1
    try clear hfz97_10
    try clear hfz97_2
    try clear hfz97_3
    try clear hfz97_4
    try clear hfz97_5
    try clear hfz97_6
    try clear hfz97_7
    try clear hfz97_8
    try clear hfz97_9
    obtain ⟨kq, x9_5, x160000_5, x160001_5, x160002_5, x160003_5, x160004_5, x160005_5, x160006_5, x160007_5, x160008_5, x160009_5, rfl, HA, HJ5, BK147, BK159, HB⟩ := hcut
    cases kq with
    | zero => exact absurd HA.out (by simp [cubbyholelaw38_ConfCheck.j0])
    | succ kj5 =>
      have H := HA.out
      clear HA
      simp only [cubbyholelaw38_ConfCheck.j0] at H
      have HC107 := Aside0.mk H
      clear H
      go_upto_region 45 with (fail)
      go_cut [182] (fun v182 wc => ∃ (kq : Nat) (x182_106 : Bool), v182 = .bool x182_106 ∧ Aside0 (cubbyholelaw38_ConfCheck.j1 kq (t160 == 0) x9_5 x182_106 x160000_5 x160001_5 x160002_5 x160003_5 x160004_5 x160005_5 x160006_5 x160007_5 x160008_5 x160009_5 t158 = some r) ∧ Aside0 (kq ≤ kj5) ∧ Aside0 (wc.heap[gb147]? = some (.cells #[.int .i64 a0_0, .int .i64 a0_1, .int .i64 a0_2, .int .i64 a0_3] 47 (0, 0))) ∧ Aside0 (wc.heap[gb159]? = some (.cells #[.int .i64 x160000_5, .int .i64 x160001_5, .int .i64 x160002_5, .int .i64 x160003_5, .int .i64 x160004_5, .int .i64 x160005_5, .int .i64 x160006_5, .int .i64 x160007_5, .int .i64 x160008_5, .int .i64 x160009_5, .int .u64 t158] 50 (0, 0))) ∧ Aside0 (Below w.heap.size w wc))
      case first =>
        have H := HC107.out
        clear HC107
        by_cases c108 : x9_5 = 0
        · rw [if_pos c108] at H
          have c108b0 : (x9_5 == 0) = true := beq_iff_eq.mpr c108
          have c108b1 : (x9_5 != 0) = false := bne_eq_false_iff_eq.mpr c108
          clear c108
          (first | rw [c108b0] | (simp only [i64_w, i32_w]; rw [c108b0]) | skip)
          have H' := Aside0.mk H
          clear H
          have hnb109 := NB159_147.out
          have hnc109 := NB147_159.out
          have hcz110_0 : wc.cell? ⟨gb159, 0, none⟩ = some (.int .i64 x160000_5) := (blk_cell BK159.out 0).trans rfl
          have hcz110_1 : wc.cell? ⟨gb159, 1, none⟩ = some (.int .i64 x160001_5) := (blk_cell BK159.out 1).trans rfl
          have hcz110_2 : wc.cell? ⟨gb159, 2, none⟩ = some (.int .i64 x160002_5) := (blk_cell BK159.out 2).trans rfl
          have hcz110_3 : wc.cell? ⟨gb159, 3, none⟩ = some (.int .i64 x160003_5) := (blk_cell BK159.out 3).trans rfl
          have hcz110_4 : wc.cell? ⟨gb159, 4, none⟩ = some (.int .i64 x160004_5) := (blk_cell BK159.out 4).trans rfl
          have hcz110_5 : wc.cell? ⟨gb159, 5, none⟩ = some (.int .i64 x160005_5) := (blk_cell BK159.out 5).trans rfl
          have hcz110_6 : wc.cell? ⟨gb159, 6, none⟩ = some (.int .i64 x160006_5) := (blk_cell BK159.out 6).trans rfl
          have hcz110_7 : wc.cell? ⟨gb159, 7, none⟩ = some (.int .i64 x160007_5) := (blk_cell BK159.out 7).trans rfl
          have hcz110_8 : wc.cell? ⟨gb159, 8, none⟩ = some (.int .i64 x160008_5) := (blk_cell BK159.out 8).trans rfl
          have hcz110_9 : wc.cell? ⟨gb159, 9, none⟩ = some (.int .i64 x160009_5) := (blk_cell BK159.out 9).trans rfl
          have hcz110_10 : wc.cell? ⟨gb159, 10, none⟩ = some (.int .u64 t158) := (blk_cell BK159.out 10).trans rfl
          have hfz110_0 := blk_frozen BK159.out 0
          have hfz110_1 := blk_frozen BK159.out 1
          have hfz110_2 := blk_frozen BK159.out 2
          have hfz110_3 := blk_frozen BK159.out 3
          have hfz110_4 := blk_frozen BK159.out 4
          have hfz110_5 := blk_frozen BK159.out 5
          have hfz110_6 := blk_frozen BK159.out 6
          have hfz110_7 := blk_frozen BK159.out 7
          have hfz110_8 := blk_frozen BK159.out 8
          have hfz110_9 := blk_frozen BK159.out 9
          have hfz110_10 := blk_frozen BK159.out 10
          as_aux_lemma =>
            go_wp2
            go_meet
            case rel => exact ⟨_, (decide ((wrap64 ((wrap64 (20 * x160001_5)) + x160002_5)) > 1024)), (by first | rfl | (simp; done) | (simp [*]; done)), H', ⟨by have := HJ5.out; first | omega | exact Nat.le_refl _⟩, ⟨by (with_reducible repeat (first | refine blk_drewN ?_ _ | refine blk_drew ?_ | refine blk_alloc ?_ _)); exact BK147.out⟩, ⟨by (with_reducible repeat (first | refine blk_drewN ?_ _ | refine blk_drew ?_ | refine blk_alloc ?_ _)); exact BK159.out⟩, ⟨by repeat (first | (with_reducible first | exact HB.out | apply below_alloc | apply pw_below_drewN | apply below_drew1 | refine below_set ?_ GE147.out | refine below_set ?_ GE159.out) | exact HB.out)⟩⟩
        · rw [if_neg c108] at H
          have c108b0 : (x9_5 == 0) = false := beq_eq_false_iff_ne.mpr c108
          have c108b1 : (x9_5 != 0) = true := bne_iff_ne.mpr c108
          (first | rw [c108b0] | (simp only [i64_w, i32_w]; rw [c108b0]) | skip)
          have H' := Aside0.mk H
          clear H
          as_aux_lemma =>
            go_wp2
            go_meet
            case rel => exact ⟨_, (false), (by first | rfl | (simp; done) | (simp [*]; done)), H', ⟨by have := HJ5.out; first | omega | exact Nat.le_refl _⟩, ⟨by (with_reducible repeat (first | refine blk_drewN ?_ _ | refine blk_drew ?_ | refine blk_alloc ?_ _)); exact BK147.out⟩, ⟨by (with_reducible repeat (first | refine blk_drewN ?_ _ | refine blk_drew ?_ | refine blk_alloc ?_ _)); exact BK159.out⟩, ⟨by repeat (first | (with_reducible first | exact HB.out | apply below_alloc | apply pw_below_drewN | apply below_drew1 | refine below_set ?_ GE147.out | refine below_set ?_ GE159.out) | exact HB.out)⟩⟩
      case rest =>
        clear HC107
        try clear c1
        try clear p2
        try clear c5
        try clear c6
        try clear p6
        try clear c7
        try clear c8
        try clear c9
        try clear c10
        try clear c50
        try clear c50b0
        try clear c50b1
        try clear c57
        try clear c57b0
        try clear c60
        try clear c62
        try clear c62b0
        try clear c62b1
        try clear c63
        try clear c63b0
        try clear c64
        try clear p64
        try clear c66
        try clear c66b0
        try clear c67
        try clear c69
        try clear c71
        try clear c71b0
        try clear c71b1
        try clear c72
        try clear c72b0
        try clear c73
        try clear c75
        try clear c75b0
        try clear c76
        try clear c78
        try clear c80
        try clear c80b0
        try clear c80b1
        try clear c81
        try clear c81b0
        try clear c82
        try clear c84
        try clear c84b0
        try clear c85
        try clear c87
        try clear c89
        try clear c89b0
        try clear c89b1
        try clear c90
        try clear c90b0
        try clear c91
        try clear c93
        try clear c93b0
        try clear c94
        try clear c96
        try clear c98
        try clear c98b0
        try clear c98b1
        try clear c99
        try clear c99b0
        try clear c100
        try clear c102
        try clear c102b0
        try clear c103
        try clear c105
        try clear c108
        try clear c108b0
        try clear c108b1
        try clear c109
        try clear hcz101_0
        try clear hcz101_1
        try clear hcz101_10
        try clear hcz101_2
        try clear hcz101_3
        try clear hcz101_4
        try clear hcz101_5
        try clear hcz101_6
        try clear hcz101_7
        try clear hcz101_8
        try clear hcz101_9
        try clear hcz104_0
        try clear hcz104_1
        try clear hcz104_10
        try clear hcz104_2
        try clear hcz104_3
        try clear hcz104_4
        try clear hcz104_5
        try clear hcz104_6
        try clear hcz104_7
        try clear hcz104_8
        try clear hcz104_9
        try clear hcz106_0
        try clear hcz106_1
        try clear hcz106_10
        try clear hcz106_2
        try clear hcz106_3
        try clear hcz106_4
        try clear hcz106_5
        try clear hcz106_6
        try clear hcz106_7
        try clear hcz106_8
        try clear hcz106_9
        try clear hcz110_0
        try clear hcz110_1
        try clear hcz110_10
        try clear hcz110_2
        try clear hcz110_3
        try clear hcz110_4
        try clear hcz110_5
        try clear hcz110_6
        try clear hcz110_7
        try clear hcz110_8
        try clear hcz110_9
        try clear hcz61_0
        try clear hcz61_1
        try clear hcz61_10
        try clear hcz61_2
        try clear hcz61_3
        try clear hcz61_4
        try clear hcz61_5
        try clear hcz61_6
        try clear hcz61_7
        try clear hcz61_8
        try clear hcz61_9
        try clear hcz65_0
        try clear hcz65_1
        try clear hcz65_10
        try clear hcz65_2
        try clear hcz65_3
        try clear hcz65_4
        try clear hcz65_5
        try clear hcz65_6
        try clear hcz65_7
        try clear hcz65_8
        try clear hcz65_9
        try clear hcz68_0
        try clear hcz68_1
        try clear hcz68_10
        try clear hcz68_2
        try clear hcz68_3
        try clear hcz68_4
        try clear hcz68_5
        try clear hcz68_6
        try clear hcz68_7
        try clear hcz68_8
        try clear hcz68_9
        try clear hcz70_0
        try clear hcz70_1
        try clear hcz70_10
        try clear hcz70_2
        try clear hcz70_3
        try clear hcz70_4
        try clear hcz70_5
        try clear hcz70_6
        try clear hcz70_7
        try clear hcz70_8
        try clear hcz70_9
        try clear hcz74_0
        try clear hcz74_1
        try clear hcz74_10
        try clear hcz74_2
        try clear hcz74_3
        try clear hcz74_4
        try clear hcz74_5
        try clear hcz74_6
        try clear hcz74_7
        try clear hcz74_8
        try clear hcz74_9
        try clear hcz77_0
        try clear hcz77_1
        try clear hcz77_10
        try clear hcz77_2
        try clear hcz77_3
        try clear hcz77_4
        try clear hcz77_5
        try clear hcz77_6
        try clear hcz77_7
        try clear hcz77_8
        try clear hcz77_9
        try clear hcz79_0
        try clear hcz79_1
        try clear hcz79_10
        try clear hcz79_2
        try clear hcz79_3
        try clear hcz79_4
        try clear hcz79_5
        try clear hcz79_6
        try clear hcz79_7
        try clear hcz79_8
        try clear hcz79_9
        try clear hcz83_0
        try clear hcz83_1
        try clear hcz83_10
        try clear hcz83_2
        try clear hcz83_3
        try clear hcz83_4
        try clear hcz83_5
        try clear hcz83_6
        try clear hcz83_7
        try clear hcz83_8
        try clear hcz83_9
        try clear hcz86_0
        try clear hcz86_1
        try clear hcz86_10
        try clear hcz86_2
        try clear hcz86_3
        try clear hcz86_4
        try clear hcz86_5
        try clear hcz86_6
        try clear hcz86_7
        try clear hcz86_8
        try clear hcz86_9
        try clear hcz88_0
        try clear hcz88_1
        try clear hcz88_10
        try clear hcz88_2
        try clear hcz88_3
        try clear hcz88_4
        try clear hcz88_5
        try clear hcz88_6
        try clear hcz88_7
        try clear hcz88_8
        try clear hcz88_9
        try clear hcz92_0
        try clear hcz92_1
        try clear hcz92_10
        try clear hcz92_2
        try clear hcz92_3
        try clear hcz92_4
        try clear hcz92_5
        try clear hcz92_6
        try clear hcz92_7
        try clear hcz92_8
        try clear hcz92_9
        try clear hcz95_0
        try clear hcz95_1
        try clear hcz95_10
        try clear hcz95_2
        try clear hcz95_3
        try clear hcz95_4
        try clear hcz95_5
        try clear hcz95_6
        try clear hcz95_7
        try clear hcz95_8
        try clear hcz95_9
        try clear hcz97_0
        try clear hcz97_1
        try clear hcz97_10
        try clear hcz97_2
        try clear hcz97_3
        try clear hcz97_4
        try clear hcz97_5
        try clear hcz97_6
        try clear hcz97_7
        try clear hcz97_8
        try clear hcz97_9
        try clear hfz101_0
        try clear hfz101_1
        try clear hfz101_10
        try clear hfz101_2
        try clear hfz101_3
        try clear hfz101_4
        try clear hfz101_5
        try clear hfz101_6
        try clear hfz101_7
        try clear hfz101_8
        try clear hfz101_9
        try clear hfz104_0
        try clear hfz104_1
        try clear hfz104_10
        try clear hfz104_2
        try clear hfz104_3
        try clear hfz104_4
        try clear hfz104_5
        try clear hfz104_6
        try clear hfz104_7
        try clear hfz104_8
        try clear hfz104_9
        try clear hfz106_0
        try clear hfz106_1
        try clear hfz106_10
        try clear hfz106_2
        try clear hfz106_3
        try clear hfz106_4
        try clear hfz106_5
        try clear hfz106_6
        try clear hfz106_7
        try clear hfz106_8
        try clear hfz106_9
        try clear hfz110_0
        try clear hfz110_1
        try clear hfz110_10
        try clear hfz110_2
        try clear hfz110_3
        try clear hfz110_4
        try clear hfz110_5
        try clear hfz110_6
        try clear hfz110_7
        try clear hfz110_8
        try clear hfz110_9
        try clear hfz59_1
        try clear hfz59_10
        try clear hfz59_2
        try clear hfz59_3
        try clear hfz59_4
        try clear hfz59_5
        try clear hfz59_6
        try clear hfz59_7
        try clear hfz59_8
        try clear hfz59_9
        try clear hfz61_0
        try clear hfz61_1
        try clear hfz61_10
        try clear hfz61_2
        try clear hfz61_3
        try clear hfz61_4
        try clear hfz61_5
        try clear hfz61_6
        try clear hfz61_7
        try clear hfz61_8
        try clear hfz61_9
        try clear hfz65_0
        try clear hfz65_1
        try clear hfz65_10
        try clear hfz65_2
        try clear hfz65_3
        try clear hfz65_4
        try clear hfz65_5
        try clear hfz65_6
        try clear hfz65_7
        try clear hfz65_8
        try clear hfz65_9
        try clear hfz68_0
        try clear hfz68_1
        try clear hfz68_10
        try clear hfz68_2
        try clear hfz68_3
        try clear hfz68_4
        try clear hfz68_5
        try clear hfz68_6
        try clear hfz68_7
        try clear hfz68_8
        try clear hfz68_9
        try clear hfz70_0
        try clear hfz70_1
        try clear hfz70_10
        try clear hfz70_2
        try clear hfz70_3
        try clear hfz70_4
        try clear hfz70_5
        try clear hfz70_6
        try clear hfz70_7
        try clear hfz70_8
        try clear hfz70_9
        try clear hfz74_0
        try clear hfz74_1
        try clear hfz74_10
        try clear hfz74_2
        try clear hfz74_3
        try clear hfz74_4
        try clear hfz74_5
        try clear hfz74_6
        try clear hfz74_7
        try clear hfz74_8
        try clear hfz74_9
        try clear hfz77_0
        try clear hfz77_1
        try clear hfz77_10
        try clear hfz77_2
        try clear hfz77_3
        try clear hfz77_4
        try clear hfz77_5
        try clear hfz77_6
        try clear hfz77_7
        try clear hfz77_8
        try clear hfz77_9
        try clear hfz79_0
        try clear hfz79_1
        try clear hfz79_10
        try clear hfz79_2
        try clear hfz79_3
        try clear hfz79_4
        try clear hfz79_5
        try clear hfz79_6
        try clear hfz79_7
        try clear hfz79_8
        try clear hfz79_9
        try clear hfz83_0
        try clear hfz83_1
        try clear hfz83_10
        try clear hfz83_2
        try clear hfz83_3
        try clear hfz83_4
        try clear hfz83_5
        try clear hfz83_6
        try clear hfz83_7
        try clear hfz83_8
        try clear hfz83_9
        try clear hfz86_0
        try clear hfz86_1
        try clear hfz86_10
        try clear hfz86_2
        try clear hfz86_3
        try clear hfz86_4
        try clear hfz86_5
        try clear hfz86_6
        try clear hfz86_7
        try clear hfz86_8
        try clear hfz86_9
        try clear hfz88_0
        try clear hfz88_1
        try clear hfz88_10
        try clear hfz88_2
        try clear hfz88_3
        try clear hfz88_4
        try clear hfz88_5
        try clear hfz88_6
        try clear hfz88_7
        try clear hfz88_8
        try clear hfz88_9
        try clear hfz92_0
        try clear hfz92_1
        try clear hfz92_10
        try clear hfz92_2
        try clear hfz92_3
        try clear hfz92_4
        try clear hfz92_5
        try clear hfz92_6
        try clear hfz92_7
        try clear hfz92_8
        try clear hfz92_9
        try clear hfz95_0
        try clear hfz95_1
        try clear hfz95_10
        try clear hfz95_2
        try clear hfz95_3
        try clear hfz95_4
        try clear hfz95_5
        try clear hfz95_6
        try clear hfz95_7
        try clear hfz95_8
        try clear hfz95_9
        try clear hfz97_0
        try clear hfz97_1
        try clear hfz97_10
        try clear hfz97_2
        try clear hfz97_3
        try clear hfz97_4
        try clear hfz97_5
        try clear hfz97_6
        try clear hfz97_7
        try clear hfz97_8
        try clear hfz97_9
        try clear p2
        try clear p6
        try clear p64
        obtain ⟨kq, x182_106, rfl, HA, HJ106, BK147, BK159, HB⟩ := hcut
        cases kq with
        | zero => exact absurd HA.out (by simp [cubbyholelaw38_ConfCheck.j1])
        | succ kj106 =>
          have H := HA.out
          clear HA
          simp only [cubbyholelaw38_ConfCheck.j1] at H
          by_cases c111 : x182_106 = true
          · subst c111
            have H1 : ((cubbyholelaw38_awake.f kj106).bind fun t161 => (if t161 = true then (if (t160 == 0) = true then ((conf_Check.f kj106 x160000_5 x160001_5 x160002_5 x160003_5 x160004_5 x160005_5 x160006_5 x160007_5 x160008_5 x160009_5 t158).bind fun t162 => (if t162 = 4 then ((conf_Ample.f kj106 x160000_5 x160001_5 x160002_5 x160003_5 x160004_5 x160005_5 x160006_5 x160007_5 x160008_5 x160009_5 t158).bind fun t163 => (if 4 = 0 then (some (t163 == (decide (x160000_5 ≥ (wrap64 ((wrap64 (20 * x160001_5)) + x160002_5)))))) else (some (t163 == false)))) else (some false))) else (some false)) else (some false))) = some r := by rw [if_pos rfl] at H; exact H
            clear H
            have H := H1
            clear H1
            replace H := Option.bind_eq_some_iff.mp H
            obtain ⟨t161, A1120, H⟩ := H
            replace H : (if t161 = true then (if (t160 == 0) = true then ((conf_Check.f kj106 x160000_5 x160001_5 x160002_5 x160003_5 x160004_5 x160005_5 x160006_5 x160007_5 x160008_5 x160009_5 t158).bind fun t162 => (if t162 = 4 then ((conf_Ample.f kj106 x160000_5 x160001_5 x160002_5 x160003_5 x160004_5 x160005_5 x160006_5 x160007_5 x160008_5 x160009_5 t158).bind fun t163 => (if 4 = 0 then (some (t163 == (decide (x160000_5 ≥ (wrap64 ((wrap64 (20 * x160001_5)) + x160002_5)))))) else (some (t163 == false)))) else (some false))) else (some false)) else (some false)) = some r := H
            have A112 := Aside0.mk A1120
            clear A1120
            by_cases c113 : t161 = true
            · subst c113
              have H1 : (if (t160 == 0) = true then ((conf_Check.f kj106 x160000_5 x160001_5 x160002_5 x160003_5 x160004_5 x160005_5 x160006_5 x160007_5 x160008_5 x160009_5 t158).bind fun t162 => (if t162 = 4 then ((conf_Ample.f kj106 x160000_5 x160001_5 x160002_5 x160003_5 x160004_5 x160005_5 x160006_5 x160007_5 x160008_5 x160009_5 t158).bind fun t163 => (if 4 = 0 then (some (t163 == (decide (x160000_5 ≥ (wrap64 ((wrap64 (20 * x160001_5)) + x160002_5)))))) else (some (t163 == false)))) else (some false))) else (some false)) = some r := by rw [if_pos rfl] at H; exact H
              clear H
              have H := H1
              clear H1
              by_cases c114 : (t160 == 0) = true
              · rw [if_pos c114] at H
                have c114b0 : (t160 == 0) = true := c114
                (try (have c114b1 : decide (t160 = 0) = true := by simpa using c114))
                (try (have c114b2 : (t160 == 0) = true := by simpa using c114))
                clear c114
                replace H := Option.bind_eq_some_iff.mp H
                obtain ⟨t162, A1150, H⟩ := H
                replace H : (if t162 = 4 then ((conf_Ample.f kj106 x160000_5 x160001_5 x160002_5 x160003_5 x160004_5 x160005_5 x160006_5 x160007_5 x160008_5 x160009_5 t158).bind fun t163 => (if 4 = 0 then (some (t163 == (decide (x160000_5 ≥ (wrap64 ((wrap64 (20 * x160001_5)) + x160002_5)))))) else (some (t163 == false)))) else (some false)) = some r := H
                have A115 := Aside0.mk A1150
                clear A1150
                by_cases c116 : t162 = 4
                · rw [if_pos c116] at H
                  have c116b0 : (t162 == 4) = true := beq_iff_eq.mpr c116
                  have c116b1 : (t162 != 4) = false := bne_eq_false_iff_eq.mpr c116
                  clear c116
                  replace H := Option.bind_eq_some_iff.mp H
                  obtain ⟨t163, A1170, H⟩ := H
                  replace H : (if 4 = 0 then (some (t163 == (decide (x160000_5 ≥ (wrap64 ((wrap64 (20 * x160001_5)) + x160002_5)))))) else (some (t163 == false))) = some r := H
                  have A117 := Aside0.mk A1170
                  clear A1170
                  by_cases c118 : 4 = 0
                  · exact absurd c118 (by decide)
                  · rw [if_neg c118] at H
                    have c118b0 : (4 == 0) = false := beq_eq_false_iff_ne.mpr c118
                    have c118b1 : (4 != 0) = true := bne_iff_ne.mpr c118
                    obtain rfl := Option.some.inj H
                    as_aux_lemma =>
                      go_wp2_with (first | ((with_reducible refine gate_callee (f := 29) rfl ?_); refine goesL_ (some 183) rfl rfl Try.func29 (by kernel_rfl) rfl #[] rfl (by (try simp only [List.map_toArray, List.map_cons, List.map_nil]); first | done | rfl | (simp only [List.length_drop, List.length_take]; rfl)) ?_; (with_reducible refine (cubbyholelaw38_awake.calls kj106  true _ A112.out).mono ?_); rintro e w126 ⟨rfl, hb⟩; refine ⟨_, rfl, ?_⟩; have n0_ := Aside0.mk (blk_below (g := gb147) (o := .cells #[.int .i64 a0_0, .int .i64 a0_1, .int .i64 a0_2, .int .i64 a0_3] 47 (0, 0)) (by (with_reducible repeat (first | refine blk_drewN ?_ _ | refine blk_drew ?_ | refine blk_alloc ?_ _)); exact BK147.out) hb); have n1_ := Aside0.mk (blk_below (g := gb159) (o := .cells #[.int .i64 x160000_5, .int .i64 x160001_5, .int .i64 x160002_5, .int .i64 x160003_5, .int .i64 x160004_5, .int .i64 x160005_5, .int .i64 x160006_5, .int .i64 x160007_5, .int .i64 x160008_5, .int .i64 x160009_5, .int .u64 t158] 50 (0, 0)) (by (with_reducible repeat (first | refine blk_drewN ?_ _ | refine blk_drew ?_ | refine blk_alloc ?_ _)); exact BK159.out) hb); have n2_ := Aside0.mk (below_step (by repeat (first | (with_reducible first | exact HB.out | apply below_alloc | apply pw_below_drewN | apply below_drew1 | refine below_set ?_ GE147.out | refine below_set ?_ GE159.out) | exact HB.out)) hb); clear BK147; clear BK159; clear HB; have BK147 := n0_; have BK159 := n1_; have HB := n2_; clear n0_ n1_ n2_; (try clear hb); (try clear hb2); (try clear hk); (try clear hi); have hnb127 := NB159_147.out; have hnc127 := NB147_159.out; have hcz128_0 : w126.cell? ⟨gb159, 0, none⟩ = some (.int .i64 x160000_5) := (blk_cell BK159.out 0).trans rfl; have hcz128_1 : w126.cell? ⟨gb159, 1, none⟩ = some (.int .i64 x160001_5) := (blk_cell BK159.out 1).trans rfl; have hcz128_2 : w126.cell? ⟨gb159, 2, none⟩ = some (.int .i64 x160002_5) := (blk_cell BK159.out 2).trans rfl; have hcz128_3 : w126.cell? ⟨gb159, 3, none⟩ = some (.int .i64 x160003_5) := (blk_cell BK159.out 3).trans rfl; have hcz128_4 : w126.cell? ⟨gb159, 4, none⟩ = some (.int .i64 x160004_5) := (blk_cell BK159.out 4).trans rfl; have hcz128_5 : w126.cell? ⟨gb159, 5, none⟩ = some (.int .i64 x160005_5) := (blk_cell BK159.out 5).trans rfl; have hcz128_6 : w126.cell? ⟨gb159, 6, none⟩ = some (.int .i64 x160006_5) := (blk_cell BK159.out 6).trans rfl; have hcz128_7 : w126.cell? ⟨gb159, 7, none⟩ = some (.int .i64 x160007_5) := (blk_cell BK159.out 7).trans rfl; have hcz128_8 : w126.cell? ⟨gb159, 8, none⟩ = some (.int .i64 x160008_5) := (blk_cell BK159.out 8).trans rfl; have hcz128_9 : w126.cell? ⟨gb159, 9, none⟩ = some (.int .i64 x160009_5) := (blk_cell BK159.out 9).trans rfl; have hcz128_10 : w126.cell? ⟨gb159, 10, none⟩ = some (.int .u64 t158) := (blk_cell BK159.out 10).trans rfl; have hfz128_0 := blk_frozen BK159.out 0; have hfz128_1 := blk_frozen BK159.out 1; have hfz128_2 := blk_frozen BK159.out 2; have hfz128_3 := blk_frozen BK159.out 3; have hfz128_4 := blk_frozen BK159.out 4; have hfz128_5 := blk_frozen BK159.out 5; have hfz128_6 := blk_frozen BK159.out 6; have hfz128_7 := blk_frozen BK159.out 7; have hfz128_8 := blk_frozen BK159.out 8; have hfz128_9 := blk_frozen BK159.out 9; have hfz128_10 := blk_frozen BK159.out 10) | (go_at_call 28; (with_reducible refine (conf_Check.calls kj106 x160000_5 x160001_5 x160002_5 x160003_5 x160004_5 x160005_5 x160006_5 x160007_5 x160008_5 x160009_5 t158 t162 _ A115.out).mono ?_); rintro e w129 ⟨rfl, hb⟩; have n0_ := Aside0.mk (blk_below (g := gb147) (o := .cells #[.int .i64 a0_0, .int .i64 a0_1, .int .i64 a0_2, .int .i64 a0_3] 47 (0, 0)) (by (with_reducible repeat (first | refine blk_drewN ?_ _ | refine blk_drew ?_ | refine blk_alloc ?_ _)); exact BK147.out) hb); have n1_ := Aside0.mk (blk_below (g := gb159) (o := .cells #[.int .i64 x160000_5, .int .i64 x160001_5, .int .i64 x160002_5, .int .i64 x160003_5, .int .i64 x160004_5, .int .i64 x160005_5, .int .i64 x160006_5, .int .i64 x160007_5, .int .i64 x160008_5, .int .i64 x160009_5, .int .u64 t158] 50 (0, 0)) (by (with_reducible repeat (first | refine blk_drewN ?_ _ | refine blk_drew ?_ | refine blk_alloc ?_ _)); exact BK159.out) hb); have n2_ := Aside0.mk (below_step (by repeat (first | (with_reducible first | exact HB.out | apply below_alloc | apply pw_below_drewN | apply below_drew1 | refine below_set ?_ GE147.out | refine below_set ?_ GE159.out) | exact HB.out)) hb); clear BK147; clear BK159; clear HB; have BK147 := n0_; have BK159 := n1_; have HB := n2_; clear n0_ n1_ n2_; (try clear hb); (try clear hb2); (try clear hk); (try clear hi); have hcz130_0 : w129.cell? ⟨gb159, 0, none⟩ = some (.int .i64 x160000_5) := (blk_cell BK159.out 0).trans rfl; have hcz130_1 : w129.cell? ⟨gb159, 1, none⟩ = some (.int .i64 x160001_5) := (blk_cell BK159.out 1).trans rfl; have hcz130_2 : w129.cell? ⟨gb159, 2, none⟩ = some (.int .i64 x160002_5) := (blk_cell BK159.out 2).trans rfl; have hcz130_3 : w129.cell? ⟨gb159, 3, none⟩ = some (.int .i64 x160003_5) := (blk_cell BK159.out 3).trans rfl; have hcz130_4 : w129.cell? ⟨gb159, 4, none⟩ = some (.int .i64 x160004_5) := (blk_cell BK159.out 4).trans rfl; have hcz130_5 : w129.cell? ⟨gb159, 5, none⟩ = some (.int .i64 x160005_5) := (blk_cell BK159.out 5).trans rfl; have hcz130_6 : w129.cell? ⟨gb159, 6, none⟩ = some (.int .i64 x160006_5) := (blk_cell BK159.out 6).trans rfl; have hcz130_7 : w129.cell? ⟨gb159, 7, none⟩ = some (.int .i64 x160007_5) := (blk_cell BK159.out 7).trans rfl; have hcz130_8 : w129.cell? ⟨gb159, 8, none⟩ = some (.int .i64 x160008_5) := (blk_cell BK159.out 8).trans rfl; have hcz130_9 : w129.cell? ⟨gb159, 9, none⟩ = some (.int .i64 x160009_5) := (blk_cell BK159.out 9).trans rfl; have hcz130_10 : w129.cell? ⟨gb159, 10, none⟩ = some (.int .u64 t158) := (blk_cell BK159.out 10).trans rfl; have hfz130_0 := blk_frozen BK159.out 0; have hfz130_1 := blk_frozen BK159.out 1; have hfz130_2 := blk_frozen BK159.out 2; have hfz130_3 := blk_frozen BK159.out 3; have hfz130_4 := blk_frozen BK159.out 4; have hfz130_5 := blk_frozen BK159.out 5; have hfz130_6 := blk_frozen BK159.out 6; have hfz130_7 := blk_frozen BK159.out 7; have hfz130_8 := blk_frozen BK159.out 8; have hfz130_9 := blk_frozen BK159.out 9; have hfz130_10 := blk_frozen BK159.out 10) | (go_at_call 30; (with_reducible refine (conf_Ample.calls kj106 x160000_5 x160001_5 x160002_5 x160003_5 x160004_5 x160005_5 x160006_5 x160007_5 x160008_5 x160009_5 t158 t163 _ A117.out).mono ?_); rintro e w131 ⟨rfl, hb⟩; have n0_ := Aside0.mk (blk_below (g := gb147) (o := .cells #[.int .i64 a0_0, .int .i64 a0_1, .int .i64 a0_2, .int .i64 a0_3] 47 (0, 0)) (by (with_reducible repeat (first | refine blk_drewN ?_ _ | refine blk_drew ?_ | refine blk_alloc ?_ _)); exact BK147.out) hb); have n1_ := Aside0.mk (blk_below (g := gb159) (o := .cells #[.int .i64 x160000_5, .int .i64 x160001_5, .int .i64 x160002_5, .int .i64 x160003_5, .int .i64 x160004_5, .int .i64 x160005_5, .int .i64 x160006_5, .int .i64 x160007_5, .int .i64 x160008_5, .int .i64 x160009_5, .int .u64 t158] 50 (0, 0)) (by (with_reducible repeat (first | refine blk_drewN ?_ _ | refine blk_drew ?_ | refine blk_alloc ?_ _)); exact BK159.out) hb); have n2_ := Aside0.mk (below_step (by repeat (first | (with_reducible first | exact HB.out | apply below_alloc | apply pw_below_drewN | apply below_drew1 | refine below_set ?_ GE147.out | refine below_set ?_ GE159.out) | exact HB.out)) hb); clear BK147; clear BK159; clear HB; have BK147 := n0_; have BK159 := n1_; have HB := n2_; clear n0_ n1_ n2_; (try clear hb); (try clear hb2); (try clear hk); (try clear hi)))
                      go_ret
                      exact ⟨by first | rfl | (simp [errW_none, errW_some] <;> rfl) | (simp [*, errW_none, errW_some] <;> rfl), by repeat (first | (with_reducible first | exact HB.out | apply below_alloc | apply pw_below_drewN | apply below_drew1 | refine below_set ?_ GE147.out | refine below_set ?_ GE159.out) | exact HB.out)⟩
                · rw [if_neg c116] at H
                  have c116b0 : (t162 == 4) = false := beq_eq_false_iff_ne.mpr c116
                  have c116b1 : (t162 != 4) = true := bne_iff_ne.mpr c116
                  exact absurd (H.trans (congrArg some hr.out)) (by simp)
              · rw [if_neg c114] at H
                have c114b0 : (t160 == 0) = false := by simpa using c114
                (try (have c114b1 : decide (t160 = 0) = false := by simpa using c114))
                (try (have c114b2 : (t160 == 0) = false := by simpa using c114))
                (try (have c114b3 : ¬ (t160 = 0) := by simpa using c114))
                clear c114
                exact absurd (H.trans (congrArg some hr.out)) (by simp)
            · replace c113 := Bool.eq_false_iff.mpr c113
              subst c113
              have H1 : (some false) = some r := by rw [if_neg (show ¬ (false = true) by decide)] at H; exact H
              clear H
              have H := H1
              clear H1
              exact absurd (H.trans (congrArg some hr.out)) (by simp)
          · replace c111 := Bool.eq_false_iff.mpr c111
            subst c111
            have H1 : ((cubbyholelaw38_awake.f kj106).bind fun t164 => (if t164 = true then (if (t160 == 0) = true then ((conf_Check.f kj106 x160000_5 x160001_5 x160002_5 x160003_5 x160004_5 x160005_5 x160006_5 x160007_5 x160008_5 x160009_5 t158).bind fun t165 => (if t165 = x9_5 then ((conf_Ample.f kj106 x160000_5 x160001_5 x160002_5 x160003_5 x160004_5 x160005_5 x160006_5 x160007_5 x160008_5 x160009_5 t158).bind fun t166 => (if x9_5 = 0 then (some (t166 == (decide (x160000_5 ≥ (wrap64 ((wrap64 (20 * x160001_5)) + x160002_5)))))) else (some (t166 == false)))) else (some false))) else (some false)) else (some false))) = some r := by rw [if_neg (show ¬ (false = true) by decide)] at H; exact H
            clear H
            have H := H1
            clear H1
            replace H := Option.bind_eq_some_iff.mp H
            obtain ⟨t164, A1380, H⟩ := H
            replace H : (if t164 = true then (if (t160 == 0) = true then ((conf_Check.f kj106 x160000_5 x160001_5 x160002_5 x160003_5 x160004_5 x160005_5 x160006_5 x160007_5 x160008_5 x160009_5 t158).bind fun t165 => (if t165 = x9_5 then ((conf_Ample.f kj106 x160000_5 x160001_5 x160002_5 x160003_5 x160004_5 x160005_5 x160006_5 x160007_5 x160008_5 x160009_5 t158).bind fun t166 => (if x9_5 = 0 then (some (t166 == (decide (x160000_5 ≥ (wrap64 ((wrap64 (20 * x160001_5)) + x160002_5)))))) else (some (t166 == false)))) else (some false))) else (some false)) else (some false)) = some r := H
            have A138 := Aside0.mk A1380
            clear A1380
            by_cases c139 : t164 = true
            · subst c139
              have H1 : (if (t160 == 0) = true then ((conf_Check.f kj106 x160000_5 x160001_5 x160002_5 x160003_5 x160004_5 x160005_5 x160006_5 x160007_5 x160008_5 x160009_5 t158).bind fun t165 => (if t165 = x9_5 then ((conf_Ample.f kj106 x160000_5 x160001_5 x160002_5 x160003_5 x160004_5 x160005_5 x160006_5 x160007_5 x160008_5 x160009_5 t158).bind fun t166 => (if x9_5 = 0 then (some (t166 == (decide (x160000_5 ≥ (wrap64 ((wrap64 (20 * x160001_5)) + x160002_5)))))) else (some (t166 == false)))) else (some false))) else (some false)) = some r := by rw [if_pos rfl] at H; exact H
              clear H
              have H := H1
              clear H1
              by_cases c140 : (t160 == 0) = true
              · rw [if_pos c140] at H
                have c140b0 : (t160 == 0) = true := c140
                (try (have c140b1 : decide (t160 = 0) = true := by simpa using c140))
                (try (have c140b2 : (t160 == 0) = true := by simpa using c140))
                clear c140
                replace H := Option.bind_eq_some_iff.mp H
                obtain ⟨t165, A1410, H⟩ := H
                replace H : (if t165 = x9_5 then ((conf_Ample.f kj106 x160000_5 x160001_5 x160002_5 x160003_5 x160004_5 x160005_5 x160006_5 x160007_5 x160008_5 x160009_5 t158).bind fun t166 => (if x9_5 = 0 then (some (t166 == (decide (x160000_5 ≥ (wrap64 ((wrap64 (20 * x160001_5)) + x160002_5)))))) else (some (t166 == false)))) else (some false)) = some r := H
                have A141 := Aside0.mk A1410
                clear A1410
                by_cases c142 : t165 = x9_5
                · rw [if_pos c142] at H
                  have c142b0 : (t165 == x9_5) = true := beq_iff_eq.mpr c142
                  have c142b1 : (t165 != x9_5) = false := bne_eq_false_iff_eq.mpr c142
                  clear c142
                  replace H := Option.bind_eq_some_iff.mp H
                  obtain ⟨t166, A1430, H⟩ := H
                  replace H : (if x9_5 = 0 then (some (t166 == (decide (x160000_5 ≥ (wrap64 ((wrap64 (20 * x160001_5)) + x160002_5)))))) else (some (t166 == false))) = some r := H
                  have A143 := Aside0.mk A1430
                  clear A1430
                  by_cases c144 : x9_5 = 0
                  · rw [if_pos c144] at H
                    have c144b0 : (x9_5 == 0) = true := beq_iff_eq.mpr c144
                    have c144b1 : (x9_5 != 0) = false := bne_eq_false_iff_eq.mpr c144
                    clear c144
                    obtain rfl := Option.some.inj H
                    as_aux_lemma =>
                      go_wp2_with (first | ((with_reducible refine gate_callee (f := 29) rfl ?_); refine goesL_ (some 183) rfl rfl Try.func29 (by kernel_rfl) rfl #[] rfl (by (try simp only [List.map_toArray, List.map_cons, List.map_nil]); first | done | rfl | (simp only [List.length_drop, List.length_take]; rfl)) ?_; (with_reducible refine (cubbyholelaw38_awake.calls kj106  true _ A138.out).mono ?_); rintro e w145 ⟨rfl, hb⟩; refine ⟨_, rfl, ?_⟩; have n0_ := Aside0.mk (blk_below (g := gb147) (o := .cells #[.int .i64 a0_0, .int .i64 a0_1, .int .i64 a0_2, .int .i64 a0_3] 47 (0, 0)) (by (with_reducible repeat (first | refine blk_drewN ?_ _ | refine blk_drew ?_ | refine blk_alloc ?_ _)); exact BK147.out) hb); have n1_ := Aside0.mk (blk_below (g := gb159) (o := .cells #[.int .i64 x160000_5, .int .i64 x160001_5, .int .i64 x160002_5, .int .i64 x160003_5, .int .i64 x160004_5, .int .i64 x160005_5, .int .i64 x160006_5, .int .i64 x160007_5, .int .i64 x160008_5, .int .i64 x160009_5, .int .u64 t158] 50 (0, 0)) (by (with_reducible repeat (first | refine blk_drewN ?_ _ | refine blk_drew ?_ | refine blk_alloc ?_ _)); exact BK159.out) hb); have n2_ := Aside0.mk (below_step (by repeat (first | (with_reducible first | exact HB.out | apply below_alloc | apply pw_below_drewN | apply below_drew1 | refine below_set ?_ GE147.out | refine below_set ?_ GE159.out) | exact HB.out)) hb); clear BK147; clear BK159; clear HB; have BK147 := n0_; have BK159 := n1_; have HB := n2_; clear n0_ n1_ n2_; (try clear hb); (try clear hb2); (try clear hk); (try clear hi); have hnb146 := NB159_147.out; have hnc146 := NB147_159.out; have hcz147_0 : w145.cell? ⟨gb159, 0, none⟩ = some (.int .i64 x160000_5) := (blk_cell BK159.out 0).trans rfl; have hcz147_1 : w145.cell? ⟨gb159, 1, none⟩ = some (.int .i64 x160001_5) := (blk_cell BK159.out 1).trans rfl; have hcz147_2 : w145.cell? ⟨gb159, 2, none⟩ = some (.int .i64 x160002_5) := (blk_cell BK159.out 2).trans rfl; have hcz147_3 : w145.cell? ⟨gb159, 3, none⟩ = some (.int .i64 x160003_5) := (blk_cell BK159.out 3).trans rfl; have hcz147_4 : w145.cell? ⟨gb159, 4, none⟩ = some (.int .i64 x160004_5) := (blk_cell BK159.out 4).trans rfl; have hcz147_5 : w145.cell? ⟨gb159, 5, none⟩ = some (.int .i64 x160005_5) := (blk_cell BK159.out 5).trans rfl; have hcz147_6 : w145.cell? ⟨gb159, 6, none⟩ = some (.int .i64 x160006_5) := (blk_cell BK159.out 6).trans rfl; have hcz147_7 : w145.cell? ⟨gb159, 7, none⟩ = some (.int .i64 x160007_5) := (blk_cell BK159.out 7).trans rfl; have hcz147_8 : w145.cell? ⟨gb159, 8, none⟩ = some (.int .i64 x160008_5) := (blk_cell BK159.out 8).trans rfl; have hcz147_9 : w145.cell? ⟨gb159, 9, none⟩ = some (.int .i64 x160009_5) := (blk_cell BK159.out 9).trans rfl; have hcz147_10 : w145.cell? ⟨gb159, 10, none⟩ = some (.int .u64 t158) := (blk_cell BK159.out 10).trans rfl; have hfz147_0 := blk_frozen BK159.out 0; have hfz147_1 := blk_frozen BK159.out 1; have hfz147_2 := blk_frozen BK159.out 2; have hfz147_3 := blk_frozen BK159.out 3; have hfz147_4 := blk_frozen BK159.out 4; have hfz147_5 := blk_frozen BK159.out 5; have hfz147_6 := blk_frozen BK159.out 6; have hfz147_7 := blk_frozen BK159.out 7; have hfz147_8 := blk_frozen BK159.out 8; have hfz147_9 := blk_frozen BK159.out 9; have hfz147_10 := blk_frozen BK159.out 10) | (go_at_call 28; (with_reducible refine (conf_Check.calls kj106 x160000_5 x160001_5 x160002_5 x160003_5 x160004_5 x160005_5 x160006_5 x160007_5 x160008_5 x160009_5 t158 t165 _ A141.out).mono ?_); rintro e w148 ⟨rfl, hb⟩; have n0_ := Aside0.mk (blk_below (g := gb147) (o := .cells #[.int .i64 a0_0, .int .i64 a0_1, .int .i64 a0_2, .int .i64 a0_3] 47 (0, 0)) (by (with_reducible repeat (first | refine blk_drewN ?_ _ | refine blk_drew ?_ | refine blk_alloc ?_ _)); exact BK147.out) hb); have n1_ := Aside0.mk (blk_below (g := gb159) (o := .cells #[.int .i64 x160000_5, .int .i64 x160001_5, .int .i64 x160002_5, .int .i64 x160003_5, .int .i64 x160004_5, .int .i64 x160005_5, .int .i64 x160006_5, .int .i64 x160007_5, .int .i64 x160008_5, .int .i64 x160009_5, .int .u64 t158] 50 (0, 0)) (by (with_reducible repeat (first | refine blk_drewN ?_ _ | refine blk_drew ?_ | refine blk_alloc ?_ _)); exact BK159.out) hb); have n2_ := Aside0.mk (below_step (by repeat (first | (with_reducible first | exact HB.out | apply below_alloc | apply pw_below_drewN | apply below_drew1 | refine below_set ?_ GE147.out | refine below_set ?_ GE159.out) | exact HB.out)) hb); clear BK147; clear BK159; clear HB; have BK147 := n0_; have BK159 := n1_; have HB := n2_; clear n0_ n1_ n2_; (try clear hb); (try clear hb2); (try clear hk); (try clear hi); have hcz149_0 : w148.cell? ⟨gb159, 0, none⟩ = some (.int .i64 x160000_5) := (blk_cell BK159.out 0).trans rfl; have hcz149_1 : w148.cell? ⟨gb159, 1, none⟩ = some (.int .i64 x160001_5) := (blk_cell BK159.out 1).trans rfl; have hcz149_2 : w148.cell? ⟨gb159, 2, none⟩ = some (.int .i64 x160002_5) := (blk_cell BK159.out 2).trans rfl; have hcz149_3 : w148.cell? ⟨gb159, 3, none⟩ = some (.int .i64 x160003_5) := (blk_cell BK159.out 3).trans rfl; have hcz149_4 : w148.cell? ⟨gb159, 4, none⟩ = some (.int .i64 x160004_5) := (blk_cell BK159.out 4).trans rfl; have hcz149_5 : w148.cell? ⟨gb159, 5, none⟩ = some (.int .i64 x160005_5) := (blk_cell BK159.out 5).trans rfl; have hcz149_6 : w148.cell? ⟨gb159, 6, none⟩ = some (.int .i64 x160006_5) := (blk_cell BK159.out 6).trans rfl; have hcz149_7 : w148.cell? ⟨gb159, 7, none⟩ = some (.int .i64 x160007_5) := (blk_cell BK159.out 7).trans rfl; have hcz149_8 : w148.cell? ⟨gb159, 8, none⟩ = some (.int .i64 x160008_5) := (blk_cell BK159.out 8).trans rfl; have hcz149_9 : w148.cell? ⟨gb159, 9, none⟩ = some (.int .i64 x160009_5) := (blk_cell BK159.out 9).trans rfl; have hcz149_10 : w148.cell? ⟨gb159, 10, none⟩ = some (.int .u64 t158) := (blk_cell BK159.out 10).trans rfl; have hfz149_0 := blk_frozen BK159.out 0; have hfz149_1 := blk_frozen BK159.out 1; have hfz149_2 := blk_frozen BK159.out 2; have hfz149_3 := blk_frozen BK159.out 3; have hfz149_4 := blk_frozen BK159.out 4; have hfz149_5 := blk_frozen BK159.out 5; have hfz149_6 := blk_frozen BK159.out 6; have hfz149_7 := blk_frozen BK159.out 7; have hfz149_8 := blk_frozen BK159.out 8; have hfz149_9 := blk_frozen BK159.out 9; have hfz149_10 := blk_frozen BK159.out 10) | (go_at_call 30; (with_reducible refine (conf_Ample.calls kj106 x160000_5 x160001_5 x160002_5 x160003_5 x160004_5 x160005_5 x160006_5 x160007_5 x160008_5 x160009_5 t158 t166 _ A143.out).mono ?_); rintro e w150 ⟨rfl, hb⟩; have n0_ := Aside0.mk (blk_below (g := gb147) (o := .cells #[.int .i64 a0_0, .int .i64 a0_1, .int .i64 a0_2, .int .i64 a0_3] 47 (0, 0)) (by (with_reducible repeat (first | refine blk_drewN ?_ _ | refine blk_drew ?_ | refine blk_alloc ?_ _)); exact BK147.out) hb); have n1_ := Aside0.mk (blk_below (g := gb159) (o := .cells #[.int .i64 x160000_5, .int .i64 x160001_5, .int .i64 x160002_5, .int .i64 x160003_5, .int .i64 x160004_5, .int .i64 x160005_5, .int .i64 x160006_5, .int .i64 x160007_5, .int .i64 x160008_5, .int .i64 x160009_5, .int .u64 t158] 50 (0, 0)) (by (with_reducible repeat (first | refine blk_drewN ?_ _ | refine blk_drew ?_ | refine blk_alloc ?_ _)); exact BK159.out) hb); have n2_ := Aside0.mk (below_step (by repeat (first | (with_reducible first | exact HB.out | apply below_alloc | apply pw_below_drewN | apply below_drew1 | refine below_set ?_ GE147.out | refine below_set ?_ GE159.out) | exact HB.out)) hb); clear BK147; clear BK159; clear HB; have BK147 := n0_; have BK159 := n1_; have HB := n2_; clear n0_ n1_ n2_; (try clear hb); (try clear hb2); (try clear hk); (try clear hi); have hcz151_0 : w150.cell? ⟨gb159, 0, none⟩ = some (.int .i64 x160000_5) := (blk_cell BK159.out 0).trans rfl; have hcz151_1 : w150.cell? ⟨gb159, 1, none⟩ = some (.int .i64 x160001_5) := (blk_cell BK159.out 1).trans rfl; have hcz151_2 : w150.cell? ⟨gb159, 2, none⟩ = some (.int .i64 x160002_5) := (blk_cell BK159.out 2).trans rfl; have hcz151_3 : w150.cell? ⟨gb159, 3, none⟩ = some (.int .i64 x160003_5) := (blk_cell BK159.out 3).trans rfl; have hcz151_4 : w150.cell? ⟨gb159, 4, none⟩ = some (.int .i64 x160004_5) := (blk_cell BK159.out 4).trans rfl; have hcz151_5 : w150.cell? ⟨gb159, 5, none⟩ = some (.int .i64 x160005_5) := (blk_cell BK159.out 5).trans rfl; have hcz151_6 : w150.cell? ⟨gb159, 6, none⟩ = some (.int .i64 x160006_5) := (blk_cell BK159.out 6).trans rfl; have hcz151_7 : w150.cell? ⟨gb159, 7, none⟩ = some (.int .i64 x160007_5) := (blk_cell BK159.out 7).trans rfl; have hcz151_8 : w150.cell? ⟨gb159, 8, none⟩ = some (.int .i64 x160008_5) := (blk_cell BK159.out 8).trans rfl; have hcz151_9 : w150.cell? ⟨gb159, 9, none⟩ = some (.int .i64 x160009_5) := (blk_cell BK159.out 9).trans rfl; have hcz151_10 : w150.cell? ⟨gb159, 10, none⟩ = some (.int .u64 t158) := (blk_cell BK159.out 10).trans rfl; have hfz151_0 := blk_frozen BK159.out 0; have hfz151_1 := blk_frozen BK159.out 1; have hfz151_2 := blk_frozen BK159.out 2; have hfz151_3 := blk_frozen BK159.out 3; have hfz151_4 := blk_frozen BK159.out 4; have hfz151_5 := blk_frozen BK159.out 5; have hfz151_6 := blk_frozen BK159.out 6; have hfz151_7 := blk_frozen BK159.out 7; have hfz151_8 := blk_frozen BK159.out 8; have hfz151_9 := blk_frozen BK159.out 9; have hfz151_10 := blk_frozen BK159.out 10))
                      go_ret
                      exact ⟨by first | rfl | (simp [errW_none, errW_some] <;> rfl) | (simp [*, errW_none, errW_some] <;> rfl), by repeat (first | (with_reducible first | exact HB.out | apply below_alloc | apply pw_below_drewN | apply below_drew1 | refine below_set ?_ GE147.out | refine below_set ?_ GE159.out) | exact HB.out)⟩
                  · rw [if_neg c144] at H
                    have c144b0 : (x9_5 == 0) = false := beq_eq_false_iff_ne.mpr c144
                    have c144b1 : (x9_5 != 0) = true := bne_iff_ne.mpr c144
                    obtain rfl := Option.some.inj H
                    as_aux_lemma =>
                      go_wp2_with (first | ((with_reducible refine gate_callee (f := 29) rfl ?_); refine goesL_ (some 183) rfl rfl Try.func29 (by kernel_rfl) rfl #[] rfl (by (try simp only [List.map_toArray, List.map_cons, List.map_nil]); first | done | rfl | (simp only [List.length_drop, List.length_take]; rfl)) ?_; (with_reducible refine (cubbyholelaw38_awake.calls kj106  true _ A138.out).mono ?_); rintro e w152 ⟨rfl, hb⟩; refine ⟨_, rfl, ?_⟩; have n0_ := Aside0.mk (blk_below (g := gb147) (o := .cells #[.int .i64 a0_0, .int .i64 a0_1, .int .i64 a0_2, .int .i64 a0_3] 47 (0, 0)) (by (with_reducible repeat (first | refine blk_drewN ?_ _ | refine blk_drew ?_ | refine blk_alloc ?_ _)); exact BK147.out) hb); have n1_ := Aside0.mk (blk_below (g := gb159) (o := .cells #[.int .i64 x160000_5, .int .i64 x160001_5, .int .i64 x160002_5, .int .i64 x160003_5, .int .i64 x160004_5, .int .i64 x160005_5, .int .i64 x160006_5, .int .i64 x160007_5, .int .i64 x160008_5, .int .i64 x160009_5, .int .u64 t158] 50 (0, 0)) (by (with_reducible repeat (first | refine blk_drewN ?_ _ | refine blk_drew ?_ | refine blk_alloc ?_ _)); exact BK159.out) hb); have n2_ := Aside0.mk (below_step (by repeat (first | (with_reducible first | exact HB.out | apply below_alloc | apply pw_below_drewN | apply below_drew1 | refine below_set ?_ GE147.out | refine below_set ?_ GE159.out) | exact HB.out)) hb); clear BK147; clear BK159; clear HB; have BK147 := n0_; have BK159 := n1_; have HB := n2_; clear n0_ n1_ n2_; (try clear hb); (try clear hb2); (try clear hk); (try clear hi); have hnb153 := NB159_147.out; have hnc153 := NB147_159.out; have hcz154_0 : w152.cell? ⟨gb159, 0, none⟩ = some (.int .i64 x160000_5) := (blk_cell BK159.out 0).trans rfl; have hcz154_1 : w152.cell? ⟨gb159, 1, none⟩ = some (.int .i64 x160001_5) := (blk_cell BK159.out 1).trans rfl; have hcz154_2 : w152.cell? ⟨gb159, 2, none⟩ = some (.int .i64 x160002_5) := (blk_cell BK159.out 2).trans rfl; have hcz154_3 : w152.cell? ⟨gb159, 3, none⟩ = some (.int .i64 x160003_5) := (blk_cell BK159.out 3).trans rfl; have hcz154_4 : w152.cell? ⟨gb159, 4, none⟩ = some (.int .i64 x160004_5) := (blk_cell BK159.out 4).trans rfl; have hcz154_5 : w152.cell? ⟨gb159, 5, none⟩ = some (.int .i64 x160005_5) := (blk_cell BK159.out 5).trans rfl; have hcz154_6 : w152.cell? ⟨gb159, 6, none⟩ = some (.int .i64 x160006_5) := (blk_cell BK159.out 6).trans rfl; have hcz154_7 : w152.cell? ⟨gb159, 7, none⟩ = some (.int .i64 x160007_5) := (blk_cell BK159.out 7).trans rfl; have hcz154_8 : w152.cell? ⟨gb159, 8, none⟩ = some (.int .i64 x160008_5) := (blk_cell BK159.out 8).trans rfl; have hcz154_9 : w152.cell? ⟨gb159, 9, none⟩ = some (.int .i64 x160009_5) := (blk_cell BK159.out 9).trans rfl; have hcz154_10 : w152.cell? ⟨gb159, 10, none⟩ = some (.int .u64 t158) := (blk_cell BK159.out 10).trans rfl; have hfz154_0 := blk_frozen BK159.out 0; have hfz154_1 := blk_frozen BK159.out 1; have hfz154_2 := blk_frozen BK159.out 2; have hfz154_3 := blk_frozen BK159.out 3; have hfz154_4 := blk_frozen BK159.out 4; have hfz154_5 := blk_frozen BK159.out 5; have hfz154_6 := blk_frozen BK159.out 6; have hfz154_7 := blk_frozen BK159.out 7; have hfz154_8 := blk_frozen BK159.out 8; have hfz154_9 := blk_frozen BK159.out 9; have hfz154_10 := blk_frozen BK159.out 10) | (go_at_call 28; (with_reducible refine (conf_Check.calls kj106 x160000_5 x160001_5 x160002_5 x160003_5 x160004_5 x160005_5 x160006_5 x160007_5 x160008_5 x160009_5 t158 t165 _ A141.out).mono ?_); rintro e w155 ⟨rfl, hb⟩; have n0_ := Aside0.mk (blk_below (g := gb147) (o := .cells #[.int .i64 a0_0, .int .i64 a0_1, .int .i64 a0_2, .int .i64 a0_3] 47 (0, 0)) (by (with_reducible repeat (first | refine blk_drewN ?_ _ | refine blk_drew ?_ | refine blk_alloc ?_ _)); exact BK147.out) hb); have n1_ := Aside0.mk (blk_below (g := gb159) (o := .cells #[.int .i64 x160000_5, .int .i64 x160001_5, .int .i64 x160002_5, .int .i64 x160003_5, .int .i64 x160004_5, .int .i64 x160005_5, .int .i64 x160006_5, .int .i64 x160007_5, .int .i64 x160008_5, .int .i64 x160009_5, .int .u64 t158] 50 (0, 0)) (by (with_reducible repeat (first | refine blk_drewN ?_ _ | refine blk_drew ?_ | refine blk_alloc ?_ _)); exact BK159.out) hb); have n2_ := Aside0.mk (below_step (by repeat (first | (with_reducible first | exact HB.out | apply below_alloc | apply pw_below_drewN | apply below_drew1 | refine below_set ?_ GE147.out | refine below_set ?_ GE159.out) | exact HB.out)) hb); clear BK147; clear BK159; clear HB; have BK147 := n0_; have BK159 := n1_; have HB := n2_; clear n0_ n1_ n2_; (try clear hb); (try clear hb2); (try clear hk); (try clear hi); have hcz156_0 : w155.cell? ⟨gb159, 0, none⟩ = some (.int .i64 x160000_5) := (blk_cell BK159.out 0).trans rfl; have hcz156_1 : w155.cell? ⟨gb159, 1, none⟩ = some (.int .i64 x160001_5) := (blk_cell BK159.out 1).trans rfl; have hcz156_2 : w155.cell? ⟨gb159, 2, none⟩ = some (.int .i64 x160002_5) := (blk_cell BK159.out 2).trans rfl; have hcz156_3 : w155.cell? ⟨gb159, 3, none⟩ = some (.int .i64 x160003_5) := (blk_cell BK159.out 3).trans rfl; have hcz156_4 : w155.cell? ⟨gb159, 4, none⟩ = some (.int .i64 x160004_5) := (blk_cell BK159.out 4).trans rfl; have hcz156_5 : w155.cell? ⟨gb159, 5, none⟩ = some (.int .i64 x160005_5) := (blk_cell BK159.out 5).trans rfl; have hcz156_6 : w155.cell? ⟨gb159, 6, none⟩ = some (.int .i64 x160006_5) := (blk_cell BK159.out 6).trans rfl; have hcz156_7 : w155.cell? ⟨gb159, 7, none⟩ = some (.int .i64 x160007_5) := (blk_cell BK159.out 7).trans rfl; have hcz156_8 : w155.cell? ⟨gb159, 8, none⟩ = some (.int .i64 x160008_5) := (blk_cell BK159.out 8).trans rfl; have hcz156_9 : w155.cell? ⟨gb159, 9, none⟩ = some (.int .i64 x160009_5) := (blk_cell BK159.out 9).trans rfl; have hcz156_10 : w155.cell? ⟨gb159, 10, none⟩ = some (.int .u64 t158) := (blk_cell BK159.out 10).trans rfl; have hfz156_0 := blk_frozen BK159.out 0; have hfz156_1 := blk_frozen BK159.out 1; have hfz156_2 := blk_frozen BK159.out 2; have hfz156_3 := blk_frozen BK159.out 3; have hfz156_4 := blk_frozen BK159.out 4; have hfz156_5 := blk_frozen BK159.out 5; have hfz156_6 := blk_frozen BK159.out 6; have hfz156_7 := blk_frozen BK159.out 7; have hfz156_8 := blk_frozen BK159.out 8; have hfz156_9 := blk_frozen BK159.out 9; have hfz156_10 := blk_frozen BK159.out 10) | (go_at_call 30; (with_reducible refine (conf_Ample.calls kj106 x160000_5 x160001_5 x160002_5 x160003_5 x160004_5 x160005_5 x160006_5 x160007_5 x160008_5 x160009_5 t158 t166 _ A143.out).mono ?_); rintro e w157 ⟨rfl, hb⟩; have n0_ := Aside0.mk (blk_below (g := gb147) (o := .cells #[.int .i64 a0_0, .int .i64 a0_1, .int .i64 a0_2, .int .i64 a0_3] 47 (0, 0)) (by (with_reducible repeat (first | refine blk_drewN ?_ _ | refine blk_drew ?_ | refine blk_alloc ?_ _)); exact BK147.out) hb); have n1_ := Aside0.mk (blk_below (g := gb159) (o := .cells #[.int .i64 x160000_5, .int .i64 x160001_5, .int .i64 x160002_5, .int .i64 x160003_5, .int .i64 x160004_5, .int .i64 x160005_5, .int .i64 x160006_5, .int .i64 x160007_5, .int .i64 x160008_5, .int .i64 x160009_5, .int .u64 t158] 50 (0, 0)) (by (with_reducible repeat (first | refine blk_drewN ?_ _ | refine blk_drew ?_ | refine blk_alloc ?_ _)); exact BK159.out) hb); have n2_ := Aside0.mk (below_step (by repeat (first | (with_reducible first | exact HB.out | apply below_alloc | apply pw_below_drewN | apply below_drew1 | refine below_set ?_ GE147.out | refine below_set ?_ GE159.out) | exact HB.out)) hb); clear BK147; clear BK159; clear HB; have BK147 := n0_; have BK159 := n1_; have HB := n2_; clear n0_ n1_ n2_; (try clear hb); (try clear hb2); (try clear hk); (try clear hi)))
                      go_ret
                      exact ⟨by first | rfl | (simp [errW_none, errW_some] <;> rfl) | (simp [*, errW_none, errW_some] <;> rfl), by repeat (first | (with_reducible first | exact HB.out | apply below_alloc | apply pw_below_drewN | apply below_drew1 | refine below_set ?_ GE147.out | refine below_set ?_ GE159.out) | exact HB.out)⟩
                · rw [if_neg c142] at H
                  have c142b0 : (t165 == x9_5) = false := beq_eq_false_iff_ne.mpr c142
                  have c142b1 : (t165 != x9_5) = true := bne_iff_ne.mpr c142
                  exact absurd (H.trans (congrArg some hr.out)) (by simp)
              · rw [if_neg c140] at H
                have c140b0 : (t160 == 0) = false := by simpa using c140
                (try (have c140b1 : decide (t160 = 0) = false := by simpa using c140))
                (try (have c140b2 : (t160 == 0) = false := by simpa using c140))
                (try (have c140b3 : ¬ (t160 = 0) := by simpa using c140))
                clear c140
                exact absurd (H.trans (congrArg some hr.out)) (by simp)
            · replace c139 := Bool.eq_false_iff.mpr c139
              subst c139
              have H1 : (some false) = some r := by rw [if_neg (show ¬ (false = true) by decide)] at H; exact H
              clear H
              have H := H1
              clear H1
              exact absurd (H.trans (congrArg some hr.out)) (by simp)
end Go.Proofs.Ytifakhddmlalcaa.QConfCheck
