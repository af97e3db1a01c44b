/- The plain law of DappleRows: what the program's functions answer is what the reference's answer, for any book and row. -/
import Derived.Test.YtdllacjkacmghaaDoorDTx6
import Derived.Test.YtdllacjkacmghaaDoorGk
namespace Go.Proofs.YtdllacjkacmghaaDoor.DappleRowsRow.Pure
open Go.RowKit Go.Proofs.YtdllacjkacmghaaDoorW.PrintWords Go.Proofs.YtdllacjkacmghaaDoorEv Go.Proofs.YtdllacjkacmghaaDoorD Go.Proofs.YtdllacjkacmghaaDoor.DT Go.Proofs.YtdllacjkacmghaaDoor.DR Go.Proofs.YtdllacjkacmghaaDoorH
set_option linter.unusedVariables false
theorem dappleRows (W : World) (a0_0 : Int) (l0_1 : List (List Int)) (l1 : List Int) (w0 : (Lit.int .i64 a0_0).wf = true) {A : Option Addr} (hC : Kd.C (Kd.slice 3 (Kd.int .i64)) W A l0_1.length l0_1) (w1 : ∀ x ∈ l0_1, ∀ y ∈ x, (Lit.int .i64 y).wf = true) {B : Option Addr} (hC1 : Kd.C (Kd.int .i64) W B l1.length l1) (w2 : ∀ x ∈ l1, (Lit.int .i64 x).wf = true) :
    ∃ k, skewbaldlaw07_DappleRows.f k a0_0 l0_1 l1 = some true := by
  have hs := small_of hC
  refine Evt.get (f := fun k => skewbaldlaw07_DappleRows.f k a0_0 l0_1 l1) ?_
  unfold skewbaldlaw07_DappleRows.f dapple_Whose.f
  simp only [Option.bind_some]
  refine Evt.bind (refWhose_f a0_0 l0_1 hs l1) (Evt.bind (Equal_f _ _ (whoseD_small _ _ hs.1 _)) ?_)
  refine Evt.pos (by simp) ?_
  refine Evt.succ ?_
  unfold skewbaldlaw07_DappleRows.j0 dapple_New.f
  simp only [Option.bind_some]
  refine Evt.neg (by simp) (Evt.bind (refNew_f a0_0 l0_1 hs) (Evt.bind (Equal_f _ _ (newD_small _ _)) ?_))
  exact Evt.pos (by simp) (Evt.pos rfl (Evt.bind pressed_f (Evt.pure _)))
end Go.Proofs.YtdllacjkacmghaaDoor.DappleRowsRow.Pure
