/- Printed by a program (prx.py). -/
import Derived.Test.YtdllacjkacmghaaDoorDTx0
import Derived.Test.YtdllacjkacmghaaDoorDTx2
import Derived.Test.YtdllacjkacmghaaDoorDTx3
import Derived.Test.YtdllacjkacmghaaDoorDTx8
namespace Go.Proofs.YtdllacjkacmghaaDoor.DT
open Go.Proofs.YtdllacjkacmghaaDoorD Go.Proofs.YtdllacjkacmghaaDoorK
open Go.RowKit Go.Proofs.YtdllacjkacmghaaDoorW.PrintWords Go.Proofs.YtdllacjkacmghaaDoorW.PrintLast Go.Proofs.YtdllacjkacmghaaDoorW.PrintMore
attribute [local go_sem] max2_int min2_int max_two min_two max_three min_three max_four min_four   -- for this text's walks alone
set_option linter.unusedVariables false
set_option linter.unusedSimpArgs false

/-! ### skewbaldlaw07_DappleKnowing: function 7 -/
mutual
def skewbaldlaw07_DappleKnowing.j0 : Nat → Bool → Int → List (List Int) → Int → Int → Option (Bool)
 | 0, _, _, _, _, _ => none
 | k + 1, x21, x382000, x382001, x383000, x383001 => if x21 = true then ((skewbaldlaw07_pressed.f k).bind fun t384 => (some t384)) else ((skewbaldlaw07_two.f x382000 x382001 x383000 x383001).bind fun bt385 => ((dapple_Same.f x382000 x382001 bt385.1 bt385.2).bind fun bt387 => ((dapple_Turns.f x382000 x382001 bt385.1 bt385.2).bind fun bt389 => (skewbaldlaw07_DappleKnowing.l0 k bt385.1 bt385.2 bt387.1 bt387.2 bt389.2 (decide ((bt389.1.length : Int) > 0)) 0 x382000 x382001))))
def skewbaldlaw07_DappleKnowing.l0 : Nat → Int → Int → Int → Int → Int → Bool → Int → Int → List (List Int) → Option (Bool)
 | 0, _, _, _, _, _, _, _, _, _ => none
 | k + 1, x5, x6, x7, x8, x10, x11, x12, x382000, x382001 => if x12 < x382000 then (if x11 = true then (if 0 ≤ x5 then (if x5 < (x382001.length : Int) then (if 0 ≤ x12 then (if x12 < ((rd_L1 x382001 x5).length : Int) then ((skewbaldref00_List.f k (rd (rd_L1 x382001 x5) x12) 4).bind fun t395 => (if (t395.length : Int) = 1 then (if 0 ≤ x6 then (if x6 < (x382001.length : Int) then (if x12 < ((rd_L1 x382001 x6).length : Int) then ((skewbaldref00_List.f k (rd (rd_L1 x382001 x6) x12) 4).bind fun t400 => (skewbaldlaw07_DappleKnowing.l0 k x5 x6 x7 x8 x10 ((t400.length : Int) == 1) (wrap64 (x12 + 1)) x382000 x382001)) else (none)) else (none)) else (none)) else (skewbaldlaw07_DappleKnowing.l0 k x5 x6 x7 x8 x10 false (wrap64 (x12 + 1)) x382000 x382001))) else (none)) else (none)) else (none)) else (none)) else (skewbaldlaw07_DappleKnowing.l0 k x5 x6 x7 x8 x10 false (wrap64 (x12 + 1)) x382000 x382001)) else (if x8 = 0 then (if x10 = 0 then (if ((x7 == 2) == x11) = true then ((skewbaldlaw07_pressed.f k).bind fun t403 => (some t403)) else (some false)) else (some false)) else (some false))
end
def skewbaldlaw07_DappleKnowing.f (k : Nat) (a0_0 : Int) (l0_1 : List (List Int)) (a1_0 : Int) (a1_1 : Int) : Option (Bool) := (skewbaldlaw07_sound.f k a0_0 l0_1).bind fun t383 => (if t383 = true then (skewbaldlaw07_DappleKnowing.j0 k (decide ((l0_1.length : Int) < 2)) a0_0 l0_1 a1_0 a1_1) else (skewbaldlaw07_DappleKnowing.j0 k true a0_0 l0_1 a1_0 a1_1))
end Go.Proofs.YtdllacjkacmghaaDoor.DT
