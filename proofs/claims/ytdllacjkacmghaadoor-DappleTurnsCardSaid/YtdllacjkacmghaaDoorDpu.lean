/- The plain law of DappleTurns: what the program's functions answer is what the reference's answer, for any book and two numbers. -/
import Derived.Test.YtdllacjkacmghaaDoorDTx4
import Derived.Test.YtdllacjkacmghaaDoorGj
namespace Go.Proofs.YtdllacjkacmghaaDoor.DappleTurnsRow.Pure
open Go.RowKit Go.Proofs.YtdllacjkacmghaaDoorW.PrintWords Go.Proofs.YtdllacjkacmghaaDoorEv Go.Proofs.YtdllacjkacmghaaDoorD Go.Proofs.YtdllacjkacmghaaDoor.DT Go.Proofs.YtdllacjkacmghaaDoor.DR Go.Proofs.YtdllacjkacmghaaDoorH
theorem turnsD_small (R : Int) (l : List (List Int)) (a b : Int) : (turnsD R l a b).1.length < 9223372036854775808 := by
  unfold turnsD
  split
  · rename_i h
    show (ints _).length < _
    rw [ints_length]
    unfold turnsL
    have := List.length_filter_le (fun t => (List.range R.toNat).all fun k => canB (el (l.getD a.toNat []) ((k + t) % R.toNat)) (el (l.getD b.toNat []) k)) (List.range R.toNat)
    rw [List.length_range] at this
    have hv : validB R l = true := by
      unfold askedD at h
      cases hv : validB R l with
      | true => rfl
      | false => rw [hv] at h; simp at h
    have h8 := ((valid_iff R l).1 hv).r8
    omega
  · simp
theorem dappleTurns (W : World) (a0_0 : Int) (l0_1 : List (List Int)) (a1_0 a1_1 : Int) (w0 : (Lit.int .i64 a0_0).wf = true) {A : Option Addr} (hC : Kd.C (Kd.slice 3 (Kd.int .i64)) W A l0_1.length l0_1) (w1 : ∀ x ∈ l0_1, ∀ y ∈ x, (Lit.int .i64 y).wf = true) (w2 : (Lit.int .i64 a1_0).wf = true) (w3 : (Lit.int .i64 a1_1).wf = true) :
    ∃ k, skewbaldlaw07_DappleTurns.f k a0_0 l0_1 a1_0 a1_1 = some true := by
  have hs := small_of hC
  refine Evt.get (f := fun k => skewbaldlaw07_DappleTurns.f k a0_0 l0_1 a1_0 a1_1) ?_
  unfold skewbaldlaw07_DappleTurns.f dapple_Turns.f dapple_Check.f
  simp only [Option.bind_some]
  refine Evt.bind (refTurns_f a0_0 l0_1 hs a1_0 a1_1) (Evt.bind (Equal_f _ _ (turnsD_small _ _ _ _)) ?_)
  refine Evt.pos (by simp) (Evt.pos rfl (Evt.bind (refCheck_f a0_0 l0_1 hs) ?_))
  refine Evt.succ ?_
  unfold skewbaldlaw07_DappleTurns.j0 dapple_Same.f
  simp only [Option.bind_some]
  refine Evt.neg (by simp) (Evt.bind (refSame_f a0_0 l0_1 hs a1_0 a1_1) ?_)
  exact Evt.pos rfl (Evt.pos rfl (Evt.bind pressed_f (Evt.pure _)))
end Go.Proofs.YtdllacjkacmghaaDoor.DappleTurnsRow.Pure
