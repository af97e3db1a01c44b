/- Printed by a program (prx.py). -/
import Derived.Test.YtdllacjkacmghaaDoorDTx0
import Derived.Test.YtdllacjkacmghaaDoorDTx1
import Derived.Test.YtdllacjkacmghaaDoorDTx2
import Derived.Test.YtdllacjkacmghaaDoorDTx13
namespace Go.Proofs.YtdllacjkacmghaaDoor.DT
open Go.Proofs.YtdllacjkacmghaaDoorD Go.Proofs.YtdllacjkacmghaaDoorK
open Go.RowKit Go.Proofs.YtdllacjkacmghaaDoorW.PrintWords Go.Proofs.YtdllacjkacmghaaDoorW.PrintLast Go.Proofs.YtdllacjkacmghaaDoorW.PrintMore
attribute [local go_sem] max2_int min2_int max_two min_two max_three min_three max_four min_four   -- for this text's walks alone
set_option linter.unusedVariables false
set_option linter.unusedSimpArgs false

/-! ### skewbaldref07_first: function 78 -/
mutual
def skewbaldref07_first.l0 : Nat → Int → Int → Int → List (List Int) → Option (Int × Int × Int)
 | 0, _, _, _, _ => none
 | k + 1, x1, x8, x608000, x608001 => if x8 < (x608001.length : Int) then (skewbaldref07_first.l1 k x1 x8 (wrap64 (x8 + 1)) x608000 x608001) else (some (0, 0, 4))
def skewbaldref07_first.l1 : Nat → Int → Int → Int → Int → List (List Int) → Option (Int × Int × Int)
 | 0, _, _, _, _, _ => none
 | k + 1, x1, x8, x9, x608000, x608001 => if x9 < (x608001.length : Int) then ((skewbaldref07_same.f k x608000 x608001 x8 x9).bind fun t609 => (if t609 ≥ x1 then (some (x8, x9, 0)) else (skewbaldref07_first.l1 k x1 x8 (wrap64 (x9 + 1)) x608000 x608001))) else (skewbaldref07_first.l0 k x1 (wrap64 (x8 + 1)) x608000 x608001)
end
/-! ### skewbaldref07_many: function 79 -/
mutual
def skewbaldref07_many.l0 : Nat → Int → Int → Int → Int → List (List Int) → Option (Int)
 | 0, _, _, _, _, _ => none
 | k + 1, x1, x5, x6, x619000, x619001 => if x6 < (x619001.length : Int) then (skewbaldref07_many.l1 k x1 x5 x6 (wrap64 (x6 + 1)) x619000 x619001) else (some x5)
def skewbaldref07_many.l1 : Nat → Int → Int → Int → Int → Int → List (List Int) → Option (Int)
 | 0, _, _, _, _, _, _ => none
 | k + 1, x1, x5, x6, x7, x619000, x619001 => if x7 < (x619001.length : Int) then ((skewbaldref00_Of.f x1 x6).bind fun t619 => (if t619 = true then (skewbaldref07_many.l1 k x1 x5 x6 (wrap64 (x7 + 1)) x619000 x619001) else ((skewbaldref00_Of.f x1 x7).bind fun t620 => (if t620 = true then (skewbaldref07_many.l1 k x1 x5 x6 (wrap64 (x7 + 1)) x619000 x619001) else ((skewbaldref07_same.f k x619000 x619001 x6 x7).bind fun t621 => (if t621 > 0 then (skewbaldref07_many.l1 k x1 (wrap64 (x5 + 1)) x6 (wrap64 (x7 + 1)) x619000 x619001) else (skewbaldref07_many.l1 k x1 x5 x6 (wrap64 (x7 + 1)) x619000 x619001))))))) else (skewbaldref07_many.l0 k x1 x5 (wrap64 (x6 + 1)) x619000 x619001)
end
def skewbaldref07_many.f (k : Nat) (a0_0 : Int) (l0_1 : List (List Int)) (a1 : Int) : Option (Int) := skewbaldref07_many.l0 k a1 0 0 a0_0 l0_1
end Go.Proofs.YtdllacjkacmghaaDoor.DT
