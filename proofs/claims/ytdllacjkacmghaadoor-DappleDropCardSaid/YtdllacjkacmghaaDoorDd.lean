/- The plain law of DappleDrop: the horses that are told suffice, and none that are better do. -/
import Derived.Test.YtdllacjkacmghaaDoorDTx14
import Derived.Test.YtdllacjkacmghaaDoorGo
namespace Go.Proofs.YtdllacjkacmghaaDoor.DappleDropRow.Pure
open Go.RowKit Go.Proofs.YtdllacjkacmghaaDoorW.PrintWords Go.Proofs.YtdllacjkacmghaaDoorEv Go.Proofs.YtdllacjkacmghaaDoorD Go.Proofs.YtdllacjkacmghaaDoor.DT Go.Proofs.YtdllacjkacmghaaDoor.DR Go.Proofs.YtdllacjkacmghaaDoorH
set_option linter.unusedVariables false
theorem ofSet_len (m s : Nat) : (ints (ofSet m s)).length ≤ m := by
  rw [ints_length]
  unfold ofSet
  have := List.length_filter_le (fun k => s / 2 ^ k % 2 == 1) (List.range m)
  rwa [List.length_range] at this
theorem none_iff {n : Nat} {l : List (List Int)} {t0 : Nat} (ha : apartB n l (ints (ofSet l.length t0)) = true) (hmin : ∀ t, t < 2 ^ l.length → apartB n l (ints (ofSet l.length t)) = true → shorterB (ints (ofSet l.length t)) (ints (ofSet l.length t0)) = false) :
    (((ints (ofSet l.length t0)).length : Int) == 0) = ((match firstFrom n l 0 0 with | some (i, k) => ((i : Int), (k : Int), (0 : Int)) | none => (0, 0, 4)).2.2 == 4) := by
  have hp : 0 < 2 ^ l.length := Nat.two_pow_pos _
  have h0 := hmin 0 hp
  rw [ofSet_zero] at h0
  cases hf : firstFrom n l 0 0 with
  | none =>
    have h1 := h0 (apart_nil.2 (first_none.1 hf))
    have e0 : ((ints []).length : Int) = 0 := rfl
    by_cases e : ((ints (ofSet l.length t0)).length : Int) = 0
    · rw [beq_iff_eq.2 e]; rfl
    · exfalso
      unfold shorterB at h1
      rw [if_neg (fun h => e (by rw [← h]; rfl))] at h1
      have h2 := of_decide_eq_false h1
      omega
  | some o =>
    obtain ⟨i, k⟩ := o
    obtain ⟨h1, h2, h3, _⟩ := first_some hf
    by_cases e : ((ints (ofSet l.length t0)).length : Int) = 0
    · have : ints (ofSet l.length t0) = [] := List.length_eq_zero_iff.1 (by omega)
      rw [this, apart_nil] at ha
      rw [ha i k h1 h2] at h3
      cases h3
    · rw [beq_eq_false_iff_ne.2 e]; rfl
theorem dappleDrop (W : World) (a0_0 : Int) (l0_1 : List (List Int)) (a1 : Int) (w0 : (Lit.int .i64 a0_0).wf = true) {A : Option Addr} (hC : Kd.C (Kd.slice 3 (Kd.int .i64)) W A l0_1.length l0_1) (w1 : ∀ x ∈ l0_1, ∀ y ∈ x, (Lit.int .i64 y).wf = true) (w2 : (Lit.int .i64 a1).wf = true) :
    ∃ k, skewbaldlaw07_DappleDrop.f k a0_0 l0_1 a1 = some true := by
  refine Evt.get (f := fun k => skewbaldlaw07_DappleDrop.f k a0_0 l0_1 a1) ?_
  unfold skewbaldlaw07_DappleDrop.f dapple_Drop.f
  simp only [Option.bind_some]
  refine Evt.bind (sound_f a0_0 l0_1) (Evt.ite (fun hv => ?_) (fun hv => ?_))
  · have hV := (valid_iff a0_0 l0_1).1 hv
    obtain ⟨n, rfl, hn8, hn1⟩ := hV.nat
    have h6 := hV.h6
    obtain ⟨t0, ht0, hd, ha, hmin⟩ := drop_told hV
    have hn := none_iff ha hmin
    refine Evt.bind (kinds_f hV) ?_
    simp only [dapple_Clash.f, Option.bind_some]
    rw [hd, show firstD (n : Int) l0_1 0 = (match firstFrom n l0_1 0 0 with | some (i, k) => ((i : Int), (k : Int), (0 : Int)) | none => (0, 0, 4)) from by unfold firstD; rw [hv, if_pos rfl]; rfl]
    have hsm : (ints (ofSet l0_1.length t0)).length < 9223372036854775807 := by have := ofSet_len l0_1.length t0; omega
    refine Evt.pos (by trivial) ?_
    simp only [kinds_len]
    refine Evt.pos (by trivial) (Evt.bind (Grows_f _ hsm _) (Evt.pos (grows_filter _ _ _ (by omega)) (Evt.neg ?_ ?_)))
    · rw [hn]; simp
    refine Evt.bind (lawApart_f hV _ hsm) ?_
    rw [ha]
    refine Evt.succ ?_
    simp only [skewbaldlaw07_DappleDrop.j0, kinds_len]
    refine Evt.neg (by simp) ?_
    have hp : 1 ≤ 2 ^ l0_1.length := Nat.two_pow_pos _
    have hp2 := pow_le h6
    obtain ⟨t, ht, et⟩ := Round_nat a1 (2 ^ l0_1.length) hp (by omega)
    rw [shl_pow h6, et]
    simp only [Option.bind_some]
    have hs2 : (ints (ofSet l0_1.length t)).length < 9223372036854775807 := by have := ofSet_len l0_1.length t; omega
    refine Evt.bind (List_f t l0_1.length (by omega) (by omega)) (Evt.bind (Shorter_f (ints (ofSet l0_1.length t)) _ hs2 hsm) (Evt.ite (fun h => ?_) (fun _ => Evt.bind pressed_f (Evt.pure _))))
    refine Evt.bind (lawApart_f hV (ints (ofSet l0_1.length t)) hs2) (Evt.neg (fun h2 => ?_) (Evt.bind pressed_f (Evt.pure _)))
    rw [hmin t ht h2] at h
    cases h
  · have hv : validB a0_0 l0_1 = false := by simpa using hv
    have e : dropD a0_0 l0_1 = ([], 70) := by unfold dropD; rw [hv]; rfl
    rw [e]
    exact Evt.pos (by trivial) (Evt.pos (by trivial) (Evt.bind pressed_f (Evt.pure _)))
end Go.Proofs.YtdllacjkacmghaaDoor.DappleDropRow.Pure
