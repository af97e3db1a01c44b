/- Rows: what came in, laid open as the printed contracts read it. -/
import Derived.Test.YtdllacjkacmghaaDoorWMore
import Derived.WalkKit
import Derived.ProofKit
import Derived.OpenShut
import Derived.Deep.Slices
import Derived.Deep.Fields23
import Derived.Deep.DeepHandedRow
import Derived.Lib.LaidTab
import Derived.Below
import Derived.Carry
namespace Go.Proofs.YtdllacjkacmghaaDoorRw
set_option linter.unusedVariables false
set_option linter.unusedSimpArgs false
open Go Go.RowKit Go.ChangeShapes Go.WideShapes Go.Deep Go.Proofs.YtdllacjkacmghaaDoorW.PrintWords

section
variable {H : Type} {enc : TypeId × Value → H} {P : Program} {W : World}

/-- WHAT A TYPE's CELLS ARE READ AS. -/
def Opens (enc : TypeId × Value → H) (P : Program) (W : World) (t : TypeId) {α : Type} (d : Kd α) (G : α → Prop) : Prop :=
  P.cellsOf t = d.sz ∧ ∀ (fuel : Nat) (cs : List Value) (x : DataW H × List MemPlace), DataW.trod enc P W 0 (fun _ => true) true fuel t cs = some x → ∃ y : α, d.K W y cs ∧ G y

theorem opens_int {t : TypeId} {k : IntKind} (ht : P.underlying t = some (.int k)) (hc : P.cellsOf t = 1) : Opens enc P W t (Kd.int k) (fun n => (Lit.int k n).wf = true) :=
  ⟨hc, fun fuel cs x h => by
    obtain ⟨n, h1, _, h2⟩ := DataW.trod_int ht h
    exact ⟨n, h1, h2⟩⟩
theorem opens_slice {α : Type} {t e : TypeId} {d : Kd α} {G : α → Prop} (ht : P.underlying t = some (.slice e)) (hc : P.cellsOf t = 1) (hd : Opens enc P W e d G) : Opens enc P W t (Kd.slice e d) (fun xs => ∀ x ∈ xs, G x) :=
  ⟨hc, fun fuel cs x h => by
    rcases open_slice ht h with ⟨h1, _⟩ | ⟨a, len, cap, m, n, D, Pl, h1, _, hl, hm, hmm, _, hx⟩
    · exact ⟨[], ⟨none, 0, h1, Nat.le_refl _, rfl, by simp, fun h0 => absurd h0 (by simp)⟩, by simp⟩
    · simp only [if_true] at hmm
      have each : ∀ i, ∃ y : Option α, i < len → ∃ z cs', y = some z ∧ d.K W z cs' ∧ cs'.length = d.sz ∧ (∀ j u, cs'[j]? = some u → W.cell? (a.add (i * d.sz + j)) = some u) ∧ G z := fun i => by
        by_cases hi : i < len
        · obtain ⟨cs', hcs, htr⟩ := hx i (by omega)
          obtain ⟨z, hz, hg⟩ := hd.2 _ _ _ htr
          obtain ⟨_, hlen, hcell⟩ := World.cells?_some hcs
          refine ⟨some z, fun _ => ⟨z, cs', rfl, hz, by rw [hlen, hd.1], fun j u hj => ?_, hg⟩⟩
          have hj' : j < P.cellsOf e := by have := (List.getElem?_eq_some_iff.1 hj).1; omega
          have := hcell j hj'
          rw [← hj, ← this, hd.1, Deep.add_add]
        · exact ⟨none, fun h => absurd h hi⟩
      obtain ⟨y, hy⟩ : ∃ y : Nat → Option α, ∀ i, i < len → ∃ z cs', y i = some z ∧ d.K W z cs' ∧ cs'.length = d.sz ∧ (∀ j u, cs'[j]? = some u → W.cell? (a.add (i * d.sz + j)) = some u) ∧ G z := ⟨fun i => (each i).choose, fun i => (each i).choose_spec⟩
      have hxs : ∀ k, k ≤ len → ∃ xs : List α, xs.length = k ∧ ∀ j p, xs[j]? = some p → y j = some p := by
        intro k
        induction k with
        | zero => intro _; exact ⟨[], rfl, fun j p hj => by simp at hj⟩
        | succ k ih =>
          intro hk
          obtain ⟨xs, h1, h2⟩ := ih (by omega)
          obtain ⟨z, _, hz, _⟩ := hy k (by omega)
          refine ⟨xs ++ [z], by simp [h1], fun j p hj => ?_⟩
          by_cases e : j < xs.length
          · exact h2 j p (by rwa [List.getElem?_append_left e] at hj)
          · have hj2 : j = k := by have := (List.getElem?_eq_some_iff.1 hj).1; simp at this; omega
            subst hj2
            rw [List.getElem?_append_right (by omega), h1] at hj
            simp at hj
            rw [hz, hj]
      obtain ⟨xs, hl2, hxs⟩ := hxs len (Nat.le_refl _)
      refine ⟨xs, ⟨some a, cap, by rw [h1, hl2], by omega, rfl, by simp only [maxLen] at hm; omega, fun h0 => ⟨a, rfl, fun j p hj => ?_⟩⟩, fun p hp => ?_⟩
      · have hjl : j < len := by have := (List.getElem?_eq_some_iff.1 hj).1; omega
        obtain ⟨z, cs', hz, hK, hlen, hcell, _⟩ := hy j hjl
        have : z = p := Option.some.inj (hz.symm.trans (hxs j p hj))
        subst this
        exact ⟨cs', hlen, hK, hcell⟩
      · obtain ⟨j, hj, rfl⟩ := List.getElem_of_mem hp
        obtain ⟨z, cs', hz, _, _, _, hg⟩ := hy j (by omega)
        have : z = xs[j] := Option.some.inj (hz.symm.trans (hxs j xs[j] (List.getElem?_eq_getElem hj)))
        rw [← this]; exact hg⟩

/-- a parameter that is one cell -/
theorem open_one {α : Type} {t : TypeId} {v : Value} {d : DataW H} {ps : List MemPlace} {kd : Kd α} {G : α → Prop} (hop : Opens enc P W t kd G) (hc : v.cells.toList = [v]) (hd : DataW.Trod enc P W 0 (fun _ => true) true t v d ps) : ∃ y, kd.K W y [v] ∧ G y := by
  obtain ⟨fuel, hf⟩ := hd
  rw [hc] at hf
  exact hop.2 _ _ _ hf

/-- a struct of two cells -/
theorem open_two {α β : Type} {r : Reach} {b0 : Nat} {t : TypeId} {f0 f1 : Field} {v : Value} {d : DataW H} {ps : List MemPlace} {k0 : Kd α} {k1 : Kd β} {G0 : α → Prop} {G1 : β → Prop} (hs : P.underlying t = some (.struct #[f0, f1]))
    (hone : oneCellFields P #[f0, f1] = true) (hC : P.cellsOf t = 2) (h0 : Opens enc P W f0.type k0 G0) (h1 : Opens enc P W f1.type k1 G1) (hval : Value.okWide P W r b0 t v) (hd : DataW.Trod enc P W 0 (fun _ => true) true t v d ps) :
    ∃ u0 u1 y0 y1, v = .agg #[u0, u1] ∧ k0.K W y0 [u0] ∧ G0 y0 ∧ k1.K W y1 [u1] ∧ G1 y1 := by
  obtain ⟨cs, rfl, hsz⟩ := okWide_struct hs hval
  obtain ⟨fuel, hf⟩ := hd
  have hcs : (Value.agg cs).cells.toList = cs.toList := rfl
  rw [hcs] at hf
  obtain ⟨xs, n, _, _, hlen, hxl, hfl⟩ := DataW.trod_struct hs hf
  rw [hC] at hsz
  obtain ⟨u0, u1, rfl⟩ : ∃ u0 u1, cs = #[u0, u1] := by
    rcases cs with ⟨l⟩
    match l, hsz with
    | [a, b], _ => exact ⟨a, b, rfl⟩
  have a0 := (hone_of hone) 0 f0 rfl
  have a1 := (hone_of hone) 1 f1 rfl
  have g0 := hfl 0 f0 rfl
  have g1 := hfl 1 f1 rfl
  rw [a0.1, a0.2] at g0
  rw [a1.1, a1.2] at g1
  have hx : xs.length = 2 := hxl
  rw [List.getElem?_eq_getElem (by omega)] at g0 g1
  obtain ⟨y0, hy0, hg0⟩ := h0.2 _ _ _ g0
  obtain ⟨y1, hy1, hg1⟩ := h1.2 _ _ _ g1
  exact ⟨u0, u1, y0, y1, rfl, hy0, hg0, hy1, hg1⟩

theorem okWide_array {n : Nat} {e : TypeId} {r : Reach} {base : Nat} {t : TypeId} {v : Value} (ht : P.underlying t = some (.array n e)) (h : Value.okWide P W r base t v) : ∃ cs, v = .agg cs ∧ cs.size = P.cellsOf t := by
  simp only [Value.okWide, ht] at h
  obtain ⟨cs, h1, h2, _⟩ := h
  exact ⟨cs, h1, h2⟩
/-- an array of two whole numbers -/
theorem open_arr2 {r : Reach} {b0 : Nat} {t e : TypeId} {v : Value} {d : DataW H} {ps : List MemPlace} (ht : P.underlying t = some (.array 2 e)) (hC : P.cellsOf t = 2) (he : P.underlying e = some (.int .i64)) (hce : P.cellsOf e = 1)
    (hval : Value.okWide P W r b0 t v) (hd : DataW.Trod enc P W 0 (fun _ => true) true t v d ps) : ∃ a b : Int, v = .agg #[.int .i64 a, .int .i64 b] ∧ (Lit.int .i64 a).wf = true ∧ (Lit.int .i64 b).wf = true := by
  obtain ⟨cs, rfl, hsz⟩ := okWide_array ht hval
  obtain ⟨fuel, hf⟩ := hd
  have hcs : (Value.agg cs).cells.toList = cs.toList := rfl
  rw [hcs] at hf
  obtain ⟨xs, n, _, _, hlen, hxl, hfl⟩ := DataW.trod_array ht hf
  rw [hC] at hsz
  obtain ⟨u0, u1, rfl⟩ : ∃ u0 u1, cs = #[u0, u1] := by
    rcases cs with ⟨l⟩
    match l, hsz with
    | [a, b], _ => exact ⟨a, b, rfl⟩
  have g0 := hfl 0 (by omega)
  have g1 := hfl 1 (by omega)
  rw [hce, List.getElem?_eq_getElem (by omega)] at g0 g1
  obtain ⟨a, ha, _, wa⟩ := DataW.trod_int he g0
  obtain ⟨b, hb, _, wb⟩ := DataW.trod_int he g1
  simp at ha hb
  subst ha hb
  exact ⟨a, b, rfl, wa, wb⟩
theorem open_arr3 {r : Reach} {b0 : Nat} {t e : TypeId} {v : Value} {d : DataW H} {ps : List MemPlace} (ht : P.underlying t = some (.array 3 e)) (hC : P.cellsOf t = 3) (he : P.underlying e = some (.int .i64)) (hce : P.cellsOf e = 1)
    (hval : Value.okWide P W r b0 t v) (hd : DataW.Trod enc P W 0 (fun _ => true) true t v d ps) : ∃ a b c : Int, v = .agg #[.int .i64 a, .int .i64 b, .int .i64 c] ∧ (Lit.int .i64 a).wf = true ∧ (Lit.int .i64 b).wf = true ∧ (Lit.int .i64 c).wf = true := by
  obtain ⟨cs, rfl, hsz⟩ := okWide_array ht hval
  obtain ⟨fuel, hf⟩ := hd
  have hcs : (Value.agg cs).cells.toList = cs.toList := rfl
  rw [hcs] at hf
  obtain ⟨xs, n, _, _, hlen, hxl, hfl⟩ := DataW.trod_array ht hf
  rw [hC] at hsz
  obtain ⟨u0, u1, u2, rfl⟩ : ∃ u0 u1 u2, cs = #[u0, u1, u2] := by
    rcases cs with ⟨l⟩
    match l, hsz with
    | [a, b, c], _ => exact ⟨a, b, c, rfl⟩
  have g0 := hfl 0 (by omega)
  have g1 := hfl 1 (by omega)
  have g2 := hfl 2 (by omega)
  rw [hce, List.getElem?_eq_getElem (by omega)] at g0 g1 g2
  obtain ⟨a, ha, _, wa⟩ := DataW.trod_int he g0
  obtain ⟨b, hb, _, wb⟩ := DataW.trod_int he g1
  obtain ⟨c, hc, _, wc⟩ := DataW.trod_int he g2
  simp at ha hb hc
  subst ha hb hc
  exact ⟨a, b, c, rfl, wa, wb, wc⟩
end
end Go.Proofs.YtdllacjkacmghaaDoorRw
