/- Printed by a program (prx.py). -/
import Derived.Test.YtdllacjkacmghaaDoorDTx0
import Derived.Test.YtdllacjkacmghaaDoorDTx2
import Derived.Test.YtdllacjkacmghaaDoorDTx3
import Derived.Test.YtdllacjkacmghaaDoorDTx7
import Derived.Test.YtdllacjkacmghaaDoorDTx8
namespace Go.Proofs.YtdllacjkacmghaaDoor.DT
open Go.Proofs.YtdllacjkacmghaaDoorD
open Go.RowKit Go.Proofs.YtdllacjkacmghaaDoorW.PrintWords Go.Proofs.YtdllacjkacmghaaDoorW.PrintLast Go.Proofs.YtdllacjkacmghaaDoorW.PrintMore
attribute [local go_sem] max2_int min2_int max_two min_two max_three min_three max_four min_four   -- for this text's walks alone
set_option linter.unusedVariables false
set_option linter.unusedSimpArgs false

/-! ### skewbaldlaw07_DappleKnowing: function 7 -/
mutual
def skewbaldlaw07_DappleKnowing.j0 : Nat → Bool → Int → List (List Int) → Int → Int → Option (Bool)
  | 0, _, _, _, _, _ => none
  | k + 1, x21, x470000, x470001, x471000, x471001 => if x21 = true then ((skewbaldlaw07_pressed.f k).bind fun t472 => (some t472)) else ((skewbaldlaw07_two.f x470000 x470001 x471000 x471001).bind fun bt473 => ((dapple_Same.f x470000 x470001 bt473.1 bt473.2).bind fun bt475 => ((dapple_Turns.f x470000 x470001 bt473.1 bt473.2).bind fun bt477 => (skewbaldlaw07_DappleKnowing.l0 k bt473.1 bt473.2 bt475.1 bt475.2 bt477.2 (decide ((bt477.1.length : Int) > 0)) 0 x470000 x470001))))
def skewbaldlaw07_DappleKnowing.l0 : Nat → Int → Int → Int → Int → Int → Bool → Int → Int → List (List Int) → Option (Bool)
  | 0, _, _, _, _, _, _, _, _, _ => none
  | k + 1, x5, x6, x7, x8, x10, x11, x12, x470000, x470001 => if x12 < x470000 then (if x11 = true then (if 0 ≤ x5 then (if x5 < (x470001.length : Int) then (if 0 ≤ x12 then (if x12 < ((rd_L1 x470001 x5).length : Int) then ((skewbaldref00_List.f k (rd (rd_L1 x470001 x5) x12) 4).bind fun t483 => (if (t483.length : Int) = 1 then (if 0 ≤ x6 then (if x6 < (x470001.length : Int) then (if x12 < ((rd_L1 x470001 x6).length : Int) then ((skewbaldref00_List.f k (rd (rd_L1 x470001 x6) x12) 4).bind fun t488 => (skewbaldlaw07_DappleKnowing.l0 k x5 x6 x7 x8 x10 ((t488.length : Int) == 1) (wrap64 (x12 + 1)) x470000 x470001)) else (none)) else (none)) else (none)) else (skewbaldlaw07_DappleKnowing.l0 k x5 x6 x7 x8 x10 false (wrap64 (x12 + 1)) x470000 x470001))) else (none)) else (none)) else (none)) else (none)) else (skewbaldlaw07_DappleKnowing.l0 k x5 x6 x7 x8 x10 false (wrap64 (x12 + 1)) x470000 x470001)) else (if x8 = 0 then (if x10 = 0 then (if ((x7 == 2) == x11) = true then ((skewbaldlaw07_pressed.f k).bind fun t491 => (some t491)) else (some false)) else (some false)) else (some false))
end
def skewbaldlaw07_DappleKnowing.f (k : Nat) (a0_0 : Int) (l0_1 : List (List Int)) (a1_0 : Int) (a1_1 : Int) : Option (Bool) := (skewbaldlaw07_sound.f k a0_0 l0_1).bind fun t471 => (if t471 = true then (skewbaldlaw07_DappleKnowing.j0 k (decide ((l0_1.length : Int) < 2)) a0_0 l0_1 a1_0 a1_1) else (skewbaldlaw07_DappleKnowing.j0 k true a0_0 l0_1 a1_0 a1_1))
end Go.Proofs.YtdllacjkacmghaaDoor.DT
