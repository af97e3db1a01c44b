/- The walk of known: a book in which the size of a dapple is known. -/
import Derived.Test.YtdllacjkacmghaaDoorGh
import Derived.Test.YtdllacjkacmghaaDoorWShare
import Derived.Test.YtdllacjkacmghaaDoorWN
import Derived.Test.YtdllacjkacmghaaDoorWNEv
namespace Go.Proofs.YtdllacjkacmghaaDoorK
open Go.RowKit Go.Proofs.YtdllacjkacmghaaDoorW.PrintWords Go.Proofs.YtdllacjkacmghaaDoorW.PrintLast Go.Proofs.YtdllacjkacmghaaDoorW.PrintMore Go.Proofs.YtdllacjkacmghaaDoorH Go.Proofs.YtdllacjkacmghaaDoorD
set_option linter.unusedVariables false
set_option linter.unusedSimpArgs false

theorem infoInts : (Tryd.prog.info? 26).map (fun i => (i.zero, i.size, i.bytes)) = some (some (.slice none 0 0), 1, 24) := by kernel_rfl
theorem infoIn : (Tryd.prog.info? 3).map (fun i => (i.zero, i.size, i.bytes)) = some (some (.int .i64 0), 1, 8) := by kernel_rfl
theorem setCells_one (w : World) (g o : Nat) (v : Value) : w.setCells g o [v] = w.setCell ⟨g, o, none⟩ v := rfl
theorem add_at0 (g k : Nat) : (⟨g, 0, none⟩ : Addr).add k = ⟨g, k, none⟩ := by unfold Addr.add; split <;> simp_all

end Go.Proofs.YtdllacjkacmghaaDoorK
