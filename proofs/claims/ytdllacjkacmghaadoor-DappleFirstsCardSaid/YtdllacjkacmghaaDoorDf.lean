/- The plain law of DappleFirsts: Clash, Sure, Drop and Look answer as the reference does, for any book. -/
import Derived.Test.YtdllacjkacmghaaDoorDTx20
import Derived.Test.YtdllacjkacmghaaDoorGp
namespace Go.Proofs.YtdllacjkacmghaaDoor.DappleFirstsRow.Pure
open Go.RowKit Go.Proofs.YtdllacjkacmghaaDoorW.PrintWords Go.Proofs.YtdllacjkacmghaaDoorEv Go.Proofs.YtdllacjkacmghaaDoorD Go.Proofs.YtdllacjkacmghaaDoor.DT Go.Proofs.YtdllacjkacmghaaDoor.DR Go.Proofs.YtdllacjkacmghaaDoorH
set_option linter.unusedVariables false
theorem dappleFirsts (W : World) (a0_0 : Int) (l0_1 : List (List Int)) (w0 : (Lit.int .i64 a0_0).wf = true) {A : Option Addr} (hC : Kd.C (Kd.slice 3 (Kd.int .i64)) W A l0_1.length l0_1) (w1 : ∀ x ∈ l0_1, ∀ y ∈ x, (Lit.int .i64 y).wf = true) :
    ∃ k, skewbaldlaw07_DappleFirsts.f k a0_0 l0_1 = some true := by
  have hs := small_of hC
  refine Evt.get (f := fun k => skewbaldlaw07_DappleFirsts.f k a0_0 l0_1) ?_
  unfold skewbaldlaw07_DappleFirsts.f dapple_Clash.f
  simp only [Option.bind_some]
  have b : ∀ x : Int, (x != x) = false := fun x => by simp
  refine Evt.bind (rClash_f a0_0 l0_1 hs) (Evt.pos rfl (Evt.pos rfl ?_))
  rw [b]
  refine Evt.succ ?_
  simp only [skewbaldlaw07_DappleFirsts.j0, dapple_Sure.f, Option.bind_some]
  refine Evt.neg (by simp) (Evt.bind (rSure_f a0_0 l0_1 hs) (Evt.pos rfl (Evt.pos rfl ?_)))
  rw [b]
  refine Evt.succ ?_
  simp only [skewbaldlaw07_DappleFirsts.j1, dapple_Drop.f, Option.bind_some]
  refine Evt.neg (by simp) (Evt.bind (rDrop_f a0_0 l0_1 hs) (Evt.bind (Equal_f _ _ (by have := drop_small a0_0 l0_1; omega)) (Evt.pos (by simp) ?_)))
  rw [b]
  refine Evt.succ ?_
  simp only [skewbaldlaw07_DappleFirsts.j2, dapple_Look.f, Option.bind_some]
  exact Evt.neg (by simp) (Evt.bind (rLook_f a0_0 l0_1 hs) (Evt.pos rfl (Evt.pos rfl (Evt.pos rfl (Evt.bind pressed_f (Evt.pure _))))))
end Go.Proofs.YtdllacjkacmghaaDoor.DappleFirstsRow.Pure
