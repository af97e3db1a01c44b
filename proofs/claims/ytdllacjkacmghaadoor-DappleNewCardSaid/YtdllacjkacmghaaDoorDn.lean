/- The plain law of DappleNew: no horse can have the row that is told; somebody can have any row before it. -/
import Derived.Test.YtdllacjkacmghaaDoorDTx12
import Derived.Test.YtdllacjkacmghaaDoorGo
namespace Go.Proofs.YtdllacjkacmghaaDoor.DappleNewRow.Pure
open Go.RowKit Go.Proofs.YtdllacjkacmghaaDoorW.PrintWords Go.Proofs.YtdllacjkacmghaaDoorEv Go.Proofs.YtdllacjkacmghaaDoorD Go.Proofs.YtdllacjkacmghaaDoor.DT Go.Proofs.YtdllacjkacmghaaDoor.DR Go.Proofs.YtdllacjkacmghaaDoorH
set_option linter.unusedVariables false
theorem dappleNew (W : World) (a0_0 : Int) (l0_1 : List (List Int)) (l1 : List Int) (w0 : (Lit.int .i64 a0_0).wf = true) {A : Option Addr} (hC : Kd.C (Kd.slice 3 (Kd.int .i64)) W A l0_1.length l0_1) (w1 : ∀ x ∈ l0_1, ∀ y ∈ x, (Lit.int .i64 y).wf = true) {B : Option Addr} (hC1 : Kd.C (Kd.int .i64) W B l1.length l1) (w2 : ∀ x ∈ l1, (Lit.int .i64 x).wf = true) :
    ∃ k, skewbaldlaw07_DappleNew.f k a0_0 l0_1 l1 = some true := by
  have hs1 : l1.length < 9223372036854775808 := by have := hC1.2.1; omega
  refine Evt.get (f := fun k => skewbaldlaw07_DappleNew.f k a0_0 l0_1 l1) ?_
  unfold skewbaldlaw07_DappleNew.f dapple_New.f
  simp only [Option.bind_some]
  refine Evt.bind (sound_f a0_0 l0_1) (Evt.ite (fun hv => ?_) (fun hv => ?_))
  · have hV := (valid_iff a0_0 l0_1).1 hv
    obtain ⟨n, rfl, hn8, hn1⟩ := hV.nat
    obtain ⟨row, hrow, hl, hi⟩ := sizes_f n (by omega) l1 hs1
    refine Evt.bind hrow ?_
    simp only [dapple_Whose.f, Option.bind_some]
    rw [whoseD_ok hV hl hi, newD_ok hV]
    refine Evt.pos (by trivial) ?_
    cases hf : newFrom n l0_1 n [] with
    | none =>
      have hw := new_none n [] hf row hl hi
      rw [List.nil_append] at hw
      refine Evt.neg (by simp) (Evt.pos (by trivial) (Evt.pos (by trivial) (Evt.pos ?_ (Evt.bind pressed_f (Evt.pure _)))))
      rw [ints_length]
      have := List.length_pos_iff.2 hw
      omega
    | some o =>
      obtain ⟨rest, e, h6, h7, h8, h9⟩ := new_some n [] o hf
      rw [List.nil_append] at e
      subst e
      have e2 : whoseD (n : Int) l0_1 o = ([], 0) := by rw [whoseD_ok hV h6 h7, h8]; rfl
      refine Evt.pos (by trivial) ?_
      simp only [e2]
      refine Evt.pos (by trivial) (Evt.pos (by trivial) ?_)
      refine Evt.bind (Less_f row o (by omega) (by omega)) (Evt.ite (fun h => Evt.pos ?_ (Evt.bind pressed_f (Evt.pure _))) (fun _ => Evt.bind pressed_f (Evt.pure _)))
      have hw := h9 row hl hi h
      rw [List.nil_append] at hw
      rw [ints_length]
      have := List.length_pos_iff.2 hw
      omega
  · have hv : validB a0_0 l0_1 = false := by simpa using hv
    have e : newD a0_0 l0_1 = ([], 70) := by unfold newD; rw [hv]; rfl
    rw [e]
    exact Evt.pos (by trivial) (Evt.pos (by trivial) (Evt.bind pressed_f (Evt.pure _)))
end Go.Proofs.YtdllacjkacmghaaDoor.DappleNewRow.Pure
