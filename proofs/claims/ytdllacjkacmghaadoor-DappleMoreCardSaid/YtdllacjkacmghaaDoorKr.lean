/- The walk of the reference's Known: a book in which the size of a dapple is known. -/
import Derived.Test.YtdllacjkacmghaaDoorKn
import Derived.Test.YtdllacjkacmghaaDoorWShare
import Derived.Test.YtdllacjkacmghaaDoorWN
import Derived.Test.YtdllacjkacmghaaDoorWNEv
namespace Go.Proofs.YtdllacjkacmghaaDoorK
open Go.RowKit Go.Proofs.YtdllacjkacmghaaDoorW.PrintWords Go.Proofs.YtdllacjkacmghaaDoorW.PrintLast Go.Proofs.YtdllacjkacmghaaDoorW.PrintMore Go.Proofs.YtdllacjkacmghaaDoorH Go.Proofs.YtdllacjkacmghaaDoorD
set_option linter.unusedVariables false
set_option linter.unusedSimpArgs false

def skewbaldref07_Known.f (a0_0 : Int) (l0_1 : List (List Int)) (a1 a2 a3 : Int) : Option (Int × List (List Int)) :=
  if 0 ≤ a1 ∧ a1 < l0_1.length ∧ 0 ≤ a2 ∧ a2 < (l0_1.getD a1.toNat []).length ∧ 0 ≤ a3 ∧ a3 ≤ 3 ∧ l0_1.length ≤ 64 ∧ (l0_1.getD a1.toNat []).length ≤ 64 then some (a0_0, setAt l0_1 a1.toNat a2.toNat (2 ^ a3.toNat)) else none
end Go.Proofs.YtdllacjkacmghaaDoorK
