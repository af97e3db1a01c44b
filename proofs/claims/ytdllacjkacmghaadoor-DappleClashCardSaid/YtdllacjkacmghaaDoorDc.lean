/- The plain law of DappleClash: the two horses that are told, and none before them. -/
import Derived.Test.YtdllacjkacmghaaDoorDTx21
import Derived.Test.YtdllacjkacmghaaDoorGo
namespace Go.Proofs.YtdllacjkacmghaaDoor.DappleClashRow.Pure
open Go.RowKit Go.Proofs.YtdllacjkacmghaaDoorW.PrintWords Go.Proofs.YtdllacjkacmghaaDoorEv Go.Proofs.YtdllacjkacmghaaDoorD Go.Proofs.YtdllacjkacmghaaDoor.DT Go.Proofs.YtdllacjkacmghaaDoor.DR Go.Proofs.YtdllacjkacmghaaDoorH
set_option linter.unusedVariables false
theorem mn_nat (i j : Nat) : mn (i : Int) (j : Int) = ((min i j : Nat) : Int) := by
  unfold mn; split <;> omega
theorem mx_nat (i j : Nat) : mx (i : Int) (j : Int) = ((max i j : Nat) : Int) := by
  unfold mx; split <;> omega
def told (o : Option (Nat × Nat)) : Int × Int × Int := match o with | some (i, k) => ((i : Int), (k : Int), 0) | none => (0, 0, 4)
theorem first_told {n : Nat} {l : List (List Int)} (hV : Valid (n : Int) l) (what : Nat) : firstD (n : Int) l what = told (firstFrom n l what 0) := by
  unfold firstD told
  rw [(valid_iff (n : Int) l).2 hV, if_pos rfl]
  rfl
/-- what is told of pairs is so of each -/
structure Fits (n : Nat) (l : List (List Int)) (what : Nat) (i k e : Int) : Prop where
  err : e = 0 ∨ e = 4 ∧ ∀ p q, p < q → q < l.length → sameB n l p q what = false
  at_ : e = 0 → ∃ p q : Nat, i = p ∧ k = q ∧ p < q ∧ q < l.length ∧ sameB n l p q what = true
  min : e = 0 → ∀ p q : Nat, p < q → q < l.length → sameB n l p q what = true → i < p ∨ i = p ∧ k ≤ q
theorem fits (n : Nat) (l : List (List Int)) (what : Nat) : Fits n l what (told (firstFrom n l what 0)).1 (told (firstFrom n l what 0)).2.1 (told (firstFrom n l what 0)).2.2 := by
  cases h : firstFrom n l what 0 with
  | none => exact ⟨.inr ⟨rfl, first_none.1 h⟩, fun e => (by cases e), fun e => by cases e⟩
  | some o =>
    obtain ⟨i, k⟩ := o
    obtain ⟨h1, h2, h3, h4⟩ := first_some h
    refine ⟨.inl rfl, fun _ => ⟨i, k, rfl, rfl, h1, h2, h3⟩, fun _ p q hpq hq hs => ?_⟩
    show (i : Int) < p ∨ (i : Int) = p ∧ (k : Int) ≤ q
    have := h4 p q hpq hq hs
    omega
theorem clash_end {n : Nat} {l : List (List Int)} (hV : Valid (n : Int) l) {x5 x6 x7 x8 x9 x10 : Int} (h0 : Fits n l 0 x5 x6 x7) (h1 : Fits n l 1 x8 x9 x10) (a b : Int) :
    Evt (fun k => skewbaldlaw07_DappleClash.j1 k x5 x6 x7 x8 x9 x10 (kindsD n l) false (n : Int) l a b) true := by
  have P : Evt (fun k => (skewbaldlaw07_pressed.f k).bind fun t => some t) true := Evt.bind pressed_f (Evt.pure _)
  refine Evt.succ ?_
  simp only [skewbaldlaw07_DappleClash.j1, kinds_len]
  refine Evt.neg (by simp) (Evt.ite (fun hl => Evt.pos ?_ P) (fun hl => ?_))
  · rcases h0.err with e | e
    · obtain ⟨p, q, _, _, h1, h2, _⟩ := h0.at_ e
      omega
    · exact e.1
  obtain ⟨i, j, hi, hj, hij, e⟩ := two_f (R := (n : Int)) (l := l) (by omega) hV.h6 a b
  rw [e]
  simp only [Option.bind_some]
  rw [mn_nat, mx_nat]
  have hmn : min i j < max i j := by omega
  have hmx : max i j < l.length := by omega
  generalize min i j = p at *
  generalize max i j = q at *
  have hk := kind_can hV (show p < l.length by omega) hmx
  have hk2 := kind_sure hV (show p < l.length by omega) hmx
  rw [kinds_at n l (show p < l.length by omega) hmx, show kindAt n l p q = ((kindB n l p q : Nat) : Int) from if_neg (by omega)]
  have T : Evt (fun k => if ((kindB n l p q : Nat) : Int) = 2 then (if x10 = 0 then (if x8 > (p : Int) then (some false) else (if x8 = (p : Int) then (if x9 > (q : Int) then (some false) else ((skewbaldlaw07_pressed.f k).bind fun t => (some t))) else ((skewbaldlaw07_pressed.f k).bind fun t => (some t)))) else (some false)) else ((skewbaldlaw07_pressed.f k).bind fun t => (some t))) true := by
    refine Evt.ite (fun h => ?_) (fun _ => P)
    have hs := hk2.1 (by omega)
    rcases h1.err with e1 | e1
    · have hm := h1.min e1 p q hmn hmx hs
      refine Evt.pos e1 (Evt.neg (by omega) (Evt.ite (fun h3 => Evt.neg (by omega) P) (fun _ => P)))
    · rw [e1.2 p q hmn hmx] at hs
      cases hs
  refine Evt.pos (by omega) (Evt.pos (by omega) (Evt.pos (by omega) (Evt.pos (by rw [rd1_at, kinds_row n l (show p < l.length by omega), krow_len]; omega) ?_)))
  refine Evt.ite (fun h => ?_) (fun _ => T)
  have hs := hk.1 (by omega)
  rcases h0.err with e1 | e1
  · have hm := h0.min e1 p q hmn hmx hs
    exact Evt.pos e1 (Evt.neg (by omega) (Evt.ite (fun h3 => Evt.neg (by omega) T) (fun _ => T)))
  · rw [e1.2 p q hmn hmx] at hs
    cases hs
theorem clash_j0 {n : Nat} {l : List (List Int)} (hV : Valid (n : Int) l) {x5 x6 x7 x8 x9 x10 : Int} (h0 : Fits n l 0 x5 x6 x7) (h1 : Fits n l 1 x8 x9 x10) (a b : Int) :
    Evt (fun k => skewbaldlaw07_DappleClash.j0 k x5 x6 x7 x8 x9 x10 false (n : Int) l a b) true := by
  have h6 := hV.h6
  have E := clash_end hV h0 h1 a b
  have S : Evt (fun k => if x10 = 0 then ((skewbaldref00_In.f x8 0 (wrap64 (x9 - 1))).bind fun t => (if t = true then (if x9 ≥ ((l.length : Nat) : Int) then (skewbaldlaw07_DappleClash.j1 k x5 x6 x7 x8 x9 x10 (kindsD n l) true (n : Int) l a b) else (if 0 ≤ x8 then (if x8 < ((l.length : Nat) : Int) then (if 0 ≤ x9 then (if x9 < ((rd_L1 (kindsD n l) x8).length : Int) then (skewbaldlaw07_DappleClash.j1 k x5 x6 x7 x8 x9 x10 (kindsD n l) ((rd (rd_L1 (kindsD n l) x8) x9) != 2) (n : Int) l a b) else (none)) else (none)) else (none)) else (none))) else (skewbaldlaw07_DappleClash.j1 k x5 x6 x7 x8 x9 x10 (kindsD n l) true (n : Int) l a b))) else (skewbaldlaw07_DappleClash.j1 k x5 x6 x7 x8 x9 x10 (kindsD n l) false (n : Int) l a b)) true := by
    refine Evt.ite (fun e => ?_) (fun _ => E)
    obtain ⟨p, q, rfl, rfl, hpq, hq, hs⟩ := h1.at_ e
    rw [In_f, show (decide ((0 : Int) ≤ (p : Int)) && decide ((p : Int) ≤ wrap64 ((q : Int) - 1))) = true from by rw [Bool.and_eq_true, decide_eq_true_eq, decide_eq_true_eq]; unfold wrap64; omega]
    simp only [Option.bind_some]
    refine Evt.pos (by trivial) (Evt.neg (by omega) (Evt.pos (by omega) (Evt.pos (by omega) (Evt.pos (by omega) (Evt.pos (by rw [rd1_at, kinds_row n l (show p < l.length by omega), krow_len]; omega) ?_)))))
    have hk := (kind_sure hV (show p < l.length by omega) hq).2 hs
    rw [kinds_at n l (show p < l.length by omega) hq, show kindAt n l p q = ((kindB n l p q : Nat) : Int) from if_neg (by omega), hk]
    exact E
  refine Evt.succ ?_
  simp only [skewbaldlaw07_DappleClash.j0]
  refine Evt.neg (by simp) (Evt.bind (kinds_f hV) ?_)
  simp only [kinds_len]
  refine Evt.pos (by trivial) (Evt.ite (fun e => ?_) (fun _ => S))
  obtain ⟨p, q, rfl, rfl, hpq, hq, hs⟩ := h0.at_ e
  rw [In_f, show (decide ((0 : Int) ≤ (p : Int)) && decide ((p : Int) ≤ wrap64 ((q : Int) - 1))) = true from by rw [Bool.and_eq_true, decide_eq_true_eq, decide_eq_true_eq]; unfold wrap64; omega]
  simp only [Option.bind_some]
  refine Evt.pos (by trivial) (Evt.neg (by omega) (Evt.pos (by omega) (Evt.pos (by omega) (Evt.pos (by omega) (Evt.pos (by rw [rd1_at, kinds_row n l (show p < l.length by omega), krow_len]; omega) (Evt.neg ?_ S))))))
  have hk := (kind_can hV (show p < l.length by omega) hq).2 hs
  rw [kinds_at n l (show p < l.length by omega) hq, show kindAt n l p q = ((kindB n l p q : Nat) : Int) from if_neg (by omega)]
  omega
theorem none_sum : (wrap64 ((told none).1 + (told none).2.1) != 0) = false := by
  rw [bne_eq_false_iff_eq]; show wrap64 (0 + 0) = 0; unfold wrap64; omega
theorem dappleClash (W : World) (a0_0 : Int) (l0_1 : List (List Int)) (a1_0 a1_1 : Int) (w0 : (Lit.int .i64 a0_0).wf = true) {A : Option Addr} (hC : Kd.C (Kd.slice 3 (Kd.int .i64)) W A l0_1.length l0_1) (w1 : ∀ x ∈ l0_1, ∀ y ∈ x, (Lit.int .i64 y).wf = true) (w2 : (Lit.int .i64 a1_0).wf = true) (w3 : (Lit.int .i64 a1_1).wf = true) :
    ∃ k, skewbaldlaw07_DappleClash.f k a0_0 l0_1 a1_0 a1_1 = some true := by
  refine Evt.get (f := fun k => skewbaldlaw07_DappleClash.f k a0_0 l0_1 a1_0 a1_1) ?_
  unfold skewbaldlaw07_DappleClash.f dapple_Clash.f
  simp only [Option.bind_some, dapple_Sure.f]
  refine Evt.bind (sound_f a0_0 l0_1) (Evt.ite (fun hv => ?_) (fun hv => ?_))
  · have hV := (valid_iff a0_0 l0_1).1 hv
    obtain ⟨n, rfl, hn8, hn1⟩ := hV.nat
    rw [first_told hV 0, first_told hV 1]
    have F0 := fits n l0_1 0
    have F1 := fits n l0_1 1
    have J := clash_j0 hV F0 F1 a1_0 a1_1
    cases h0 : firstFrom n l0_1 0 0 with
    | none =>
      cases h1 : firstFrom n l0_1 1 0 with
      | none =>
        rw [h0, h1] at J
        have ns := none_sum
        rw [ns]
        exact Evt.neg (by decide) (Evt.pos (by trivial) (Evt.pos (bne_eq_false_iff_eq.1 ns) (Evt.pos (by trivial) (Evt.neg (by decide) (Evt.pos (by trivial) J)))))
      | some o =>
        exfalso
        obtain ⟨i, k⟩ := o
        obtain ⟨e1, e2, e3, _⟩ := first_some h1
        have := first_none.1 h0 i k e1 e2
        rw [sure_can hV (by omega) e2 e3] at this
        cases this
    | some o =>
      obtain ⟨i, k⟩ := o
      cases h1 : firstFrom n l0_1 1 0 with
      | none =>
        rw [h0, h1] at J
        rw [none_sum]
        exact Evt.pos (by trivial) (Evt.neg (by decide) (Evt.pos (by trivial) J))
      | some o =>
        obtain ⟨p, q⟩ := o
        rw [h0, h1] at J
        exact Evt.pos (by trivial) (Evt.pos (by trivial) J)
  · have hv : validB a0_0 l0_1 = false := by simpa using hv
    have e : ∀ what, firstD a0_0 l0_1 what = (0, 0, 70) := fun what => by unfold firstD; rw [hv]; rfl
    rw [e, e]
    exact Evt.pos (by trivial) (Evt.pos (by trivial) (Evt.pos (by show wrap64 (wrap64 (wrap64 (0 + 0) + 0) + 0) = 0; unfold wrap64; omega) (Evt.bind pressed_f (Evt.pure _))))
end Go.Proofs.YtdllacjkacmghaaDoor.DappleClashRow.Pure
