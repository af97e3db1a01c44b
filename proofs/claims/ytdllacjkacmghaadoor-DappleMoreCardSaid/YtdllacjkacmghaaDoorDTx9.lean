/- Printed by a program (prx.py). -/
import Derived.Test.YtdllacjkacmghaaDoorDTx0
import Derived.Test.YtdllacjkacmghaaDoorDTx3
import Derived.Test.YtdllacjkacmghaaDoorDTx8
namespace Go.Proofs.YtdllacjkacmghaaDoor.DT
open Go.Proofs.YtdllacjkacmghaaDoorD Go.Proofs.YtdllacjkacmghaaDoorK
open Go.RowKit Go.Proofs.YtdllacjkacmghaaDoorW.PrintWords Go.Proofs.YtdllacjkacmghaaDoorW.PrintLast Go.Proofs.YtdllacjkacmghaaDoorW.PrintMore
attribute [local go_sem] max2_int min2_int max_two min_two max_three min_three max_four min_four   -- for this text's walks alone
set_option linter.unusedVariables false
set_option linter.unusedSimpArgs false

/-! ### skewbaldlaw07_DappleBack: function 6 -/
mutual
def skewbaldlaw07_DappleBack.j0 : Nat → Bool → Int → List (List Int) → Int → Int → Int → Option (Bool)
 | 0, _, _, _, _, _, _ => none
 | k + 1, x26, x354000, x354001, x355000, x355001, x355002 => if x26 = true then ((skewbaldlaw07_pressed.f k).bind fun t356 => (some t356)) else ((skewbaldlaw07_two.f x354000 x354001 x355000 x355001).bind fun bt357 => ((skewbaldref00_Round.f x355002 x354000).bind fun t359 => ((dapple_Turns.f x354000 x354001 bt357.1 bt357.2).bind fun bt360 => ((dapple_Turns.f x354000 x354001 bt357.2 bt357.1).bind fun bt364 => ((dapple_Same.f x354000 x354001 bt357.1 bt357.2).bind fun bt368 => ((dapple_Same.f x354000 x354001 bt357.2 bt357.1).bind fun bt370 => (skewbaldlaw07_DappleBack.l0 k bt357.1 bt357.2 t359 bt360.1 bt360.2 bt364.1 bt364.2 bt368.1 bt368.2 bt370.1 bt370.2 true 0 x354000 x354001)))))))
def skewbaldlaw07_DappleBack.l0 : Nat → Int → Int → Int → List Int → Int → List Int → Int → Int → Int → Int → Int → Bool → Int → Int → List (List Int) → Option (Bool)
 | 0, _, _, _, _, _, _, _, _, _, _, _, _, _, _, _ => none
 | k + 1, x5, x6, x7, x8, x9, x10, x11, x12, x13, x14, x15, x16, x17, x354000, x354001 => if x17 < x354000 then (if x16 = true then (if 0 ≤ x5 then (if x5 < (x354001.length : Int) then ((skewbaldref00_Round.f (wrap64 (x17 + x7)) x354000).bind fun t373 => (if 0 ≤ t373 then (if t373 < ((rd_L1 x354001 x5).length : Int) then (if 0 ≤ x6 then (if x6 < (x354001.length : Int) then (if 0 ≤ x17 then (if x17 < ((rd_L1 x354001 x6).length : Int) then (skewbaldlaw07_DappleBack.l0 k x5 x6 x7 x8 x9 x10 x11 x12 x13 x14 x15 ((Go.bits .and .i64 (rd (rd_L1 x354001 x5) t373) (rd (rd_L1 x354001 x6) x17)) != 0) (wrap64 (x17 + 1)) x354000 x354001) else (none)) else (none)) else (none)) else (none)) else (none)) else (none))) else (none)) else (none)) else (skewbaldlaw07_DappleBack.l0 k x5 x6 x7 x8 x9 x10 x11 x12 x13 x14 x15 false (wrap64 (x17 + 1)) x354000 x354001)) else (if x9 = 0 then (if x11 = 0 then (if x13 = 0 then (if x15 = 0 then (if x12 = x14 then (if ((decide (x12 > 0)) == (decide ((x8.length : Int) > 0))) = true then (if (x8.length : Int) = (x10.length : Int) then ((skewbaldref00_Find.f k x8 x7).bind fun t377 => (if ((decide (t377 ≥ 0)) == x16) = true then ((skewbaldref00_Round.f (wrap64 (-x7)) x354000).bind fun t378 => ((skewbaldref00_Find.f k x10 t378).bind fun t379 => (if ((decide (t379 ≥ 0)) == x16) = true then ((skewbaldlaw07_pressed.f k).bind fun t380 => (some t380)) else (some false)))) else (some false))) else (some false)) else (some false)) else (some false)) else (some false)) else (some false)) else (some false)) else (some false))
end
def skewbaldlaw07_DappleBack.f (k : Nat) (a0_0 : Int) (l0_1 : List (List Int)) (a1_0 : Int) (a1_1 : Int) (a1_2 : Int) : Option (Bool) := (skewbaldlaw07_sound.f k a0_0 l0_1).bind fun t355 => (if t355 = true then (skewbaldlaw07_DappleBack.j0 k (decide ((l0_1.length : Int) < 2)) a0_0 l0_1 a1_0 a1_1 a1_2) else (skewbaldlaw07_DappleBack.j0 k true a0_0 l0_1 a1_0 a1_1 a1_2))
end Go.Proofs.YtdllacjkacmghaaDoor.DT
