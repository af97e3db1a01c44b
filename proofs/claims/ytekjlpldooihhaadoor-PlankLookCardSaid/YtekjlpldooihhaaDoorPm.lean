/- Package plank: where some parts are cut together, as it is asked. -/
import Derived.Test.YtekjlpldooihhaaDoorHm
namespace Go.Proofs.YtekjlpldooihhaaDoorP
open Go.RowKit Go.Proofs.YtekjlpldooihhaaDoorW.PrintWords Go.Proofs.YtekjlpldooihhaaDoorW.PrintLast Go.Proofs.YtekjlpldooihhaaDoorW.PrintMore Go.Proofs.YtekjlpldooihhaaDoorH Go.Proofs.YtekjlpldooihhaaDoorEv Go.Proofs.YtekjlpldooihhaaDoor.PA
set_option linter.unusedVariables false
set_option linter.unusedSimpArgs false
def knotB (L : Int) (s : S60) : Bool := decide (0 ≤ s.f0) && (decide (s.f0 ≤ s.f1) && (decide (s.f1 < L) && decide (s.f1 - s.f0 ≤ 6)))
def woodB (y : S48) : Bool := (decide (1 ≤ y.f0) && decide (y.f0 ≤ 16)) && (decide (y.f1.length ≤ 3) && y.f1.all (knotB y.f0))
def ascB (L : Int) : Int → List Int → Bool
  | _, [] => true
  | last, n :: l => (decide (last + 1 ≤ n) && decide (n ≤ L - 1)) && ascB L n l
def shapeB (x : S50) : Bool := (decide (1 ≤ x.f0) && decide (x.f0 ≤ 12)) && (decide (x.f1.length ≤ 3) && ascB x.f0 (-1) x.f1)
def validB (P : List S48) (Q : List S50) : Bool :=
  ((decide (1 ≤ P.length) && decide (P.length ≤ 3)) && (decide (1 ≤ Q.length) && decide (Q.length ≤ 5))) && (P.all woodB && Q.all shapeB)
theorem isWood_l0 (L : Int) (l : List S60) (hl : l.length < 9223372036854775808) : ∀ (d j : Nat) (ok : Bool), j + d = l.length → (ok = true → L ≤ 16) →
    Evt (fun k => plank_isWood.l0 k ok l (l.length : Int) (j : Int) L l) (ok && (l.drop j).all (knotB L))
  | 0, j, ok, hj, _ => by
    refine Evt.succ ?_
    simp only [plank_isWood.l0]
    rw [List.drop_eq_nil_of_le (by omega), List.all_nil, Bool.and_true]
    exact Evt.neg (by omega) (Evt.pure _)
  | d + 1, j, ok, hj, hL => by
    have h1 : l.drop j = l[j] :: l.drop (j + 1) := List.drop_eq_getElem_cons (by omega)
    have hg : rd_T60 l (j : Int) = l[j] := by simp [rd_T60, show j < l.length by omega]
    refine Evt.succ ?_
    simp only [plank_isWood.l0]
    refine Evt.pos (by omega) (Evt.pos (by omega) (Evt.pos (by omega) ?_))
    rw [hg, w64 j (by omega), h1, List.all_cons]
    have ih := fun ok h => isWood_l0 L l hl d (j + 1) ok (by omega) h
    cases ok with
    | false =>
      refine Evt.neg (by simp) ?_
      rw [Bool.false_and]
      exact (ih false (fun e => by cases e)).of_eq (Bool.false_and _)
    | true =>
      have hL := hL rfl
      refine Evt.pos rfl ?_
      rw [Bool.true_and]
      generalize l[j] = s at *
      refine Evt.bind (v := decide (0 ≤ s.f0) && decide (s.f0 ≤ s.f1)) (Evt.const (on_f _ _ _)) ?_
      rw [show knotB L s = (decide (0 ≤ s.f0) && (decide (s.f0 ≤ s.f1) && (decide (s.f1 < L) && decide (s.f1 - s.f0 ≤ 6)))) from rfl]
      by_cases h0 : 0 ≤ s.f0
      · by_cases h2 : s.f0 ≤ s.f1
        · refine Evt.pos (by simp [h0, h2]) ?_
          by_cases h3 : s.f1 < L
          · refine Evt.pos h3 ?_
            rw [show wrap64 (s.f1 - s.f0) = s.f1 - s.f0 from by unfold wrap64; omega]
            refine (ih _ (fun _ => hL)).of_eq ?_
            simp [h0, h2, h3]
          · refine Evt.neg h3 ((ih _ (fun e => by cases e)).of_eq ?_)
            simp [h3]
        · refine Evt.neg (by simp [h2]) ((ih _ (fun e => by cases e)).of_eq ?_)
          simp [h2]
      · refine Evt.neg (by simp [h0]) ((ih _ (fun e => by cases e)).of_eq ?_)
        simp [h0]
theorem isWood_f (y : S48) (hl : y.f1.length < 9223372036854775808) : Evt (fun k => plank_isWood.f k y.f0 y.f1) (woodB y) := by
  unfold plank_isWood.f
  refine Evt.bind (f := fun _ => plank_on.f y.f0 1 16) (Evt.const (on_f _ _ _)) ?_
  have h := fun ok h => isWood_l0 y.f0 y.f1 hl y.f1.length 0 ok (by omega) h
  unfold woodB
  by_cases h1 : (decide (1 ≤ y.f0) && decide (y.f0 ≤ 16)) = true
  · refine Evt.pos h1 (Evt.succ ?_)
    simp only [plank_isWood.j0]
    rw [h1]
    simp only [Bool.and_eq_true, decide_eq_true_eq] at h1
    refine (h _ (fun _ => h1.2)).of_eq ?_
    rw [List.drop_zero, Bool.true_and]
    congr 1
    simp
    omega
  · refine Evt.neg h1 (Evt.succ ?_)
    simp only [plank_isWood.j0]
    refine (h _ (fun e => by cases e)).of_eq ?_
    rw [Bool.false_and, show (decide (1 ≤ y.f0) && decide (y.f0 ≤ 16)) = false from by simpa using h1, Bool.false_and]
theorem mx_eq (a b : Int) (h : a ≤ b) : mx a b = b := by unfold mx; omega
theorem isShape_l0 (L : Int) (l : List Int) (t : Bool) (hl : l.length < 9223372036854775808) : ∀ (d j : Nat) (ok : Bool) (last : Int), j + d = l.length → (ok = true → 1 ≤ L ∧ L ≤ 12 ∧ -1 ≤ last ∧ last < L) →
    Evt (fun k => plank_isShape.l0 k ok last l (l.length : Int) (j : Int) L l t) (ok && ascB L last (l.drop j))
  | 0, j, ok, last, hj, _ => by
    refine Evt.succ ?_
    simp only [plank_isShape.l0]
    rw [List.drop_eq_nil_of_le (by omega)]
    unfold ascB
    rw [Bool.and_true]
    exact Evt.neg (by omega) (Evt.pure _)
  | d + 1, j, ok, last, hj, hL => by
    have h1 : l.drop j = l[j] :: l.drop (j + 1) := List.drop_eq_getElem_cons (by omega)
    have hg : rd l (j : Int) = l[j] := by simp [rd, show j < l.length by omega]
    refine Evt.succ ?_
    simp only [plank_isShape.l0]
    refine Evt.pos (by omega) (Evt.pos (by omega) (Evt.pos (by omega) ?_))
    rw [hg, w64 j (by omega), h1]
    have ih := fun ok last h => isShape_l0 L l t hl d (j + 1) ok last (by omega) h
    cases ok with
    | false =>
      refine Evt.neg (by simp) ?_
      exact (ih false _ (fun e => by cases e)).of_eq (by rw [Bool.false_and, Bool.false_and])
    | true =>
      obtain ⟨b1, b2, b3, b4⟩ := hL rfl
      refine Evt.pos rfl ?_
      rw [Bool.true_and]
      generalize l[j] = n at *
      rw [show wrap64 (last + 1) = last + 1 from by unfold wrap64; omega, show wrap64 (L - 1) = L - 1 from by unfold wrap64; omega]
      refine Evt.bind (f := fun _ => plank_on.f n (last + 1) (L - 1)) (Evt.const (on_f _ _ _)) ?_
      by_cases h2 : (decide (last + 1 ≤ n) && decide (n ≤ L - 1)) = true
      · have h3 := h2
        simp only [Bool.and_eq_true, decide_eq_true_eq] at h3
        rw [mx_eq last n (by omega)]
        refine (ih _ _ (fun _ => ⟨b1, b2, by omega, by omega⟩)).of_eq ?_
        conv => rhs; unfold ascB
      · have h3 : (decide (last + 1 ≤ n) && decide (n ≤ L - 1)) = false := by simpa using h2
        rw [h3]
        refine (ih _ _ (fun e => by cases e)).of_eq ?_
        conv => rhs; unfold ascB
        rw [h3, Bool.false_and, Bool.false_and]
theorem isShape_f (x : S50) (hl : x.f1.length < 9223372036854775808) : Evt (fun k => plank_isShape.f k x.f0 x.f1 x.f2) (shapeB x) := by
  unfold plank_isShape.f
  refine Evt.bind (f := fun _ => plank_on.f x.f0 1 12) (Evt.const (on_f _ _ _)) ?_
  have h := fun ok h => isShape_l0 x.f0 x.f1 x.f2 hl x.f1.length 0 ok (-1) (by omega) h
  unfold shapeB
  by_cases h1 : (decide (1 ≤ x.f0) && decide (x.f0 ≤ 12)) = true
  · refine Evt.pos h1 (Evt.succ ?_)
    simp only [plank_isShape.j0]
    rw [h1]
    simp only [Bool.and_eq_true, decide_eq_true_eq] at h1
    refine (h _ (fun _ => ⟨h1.1, h1.2, by omega, by omega⟩)).of_eq ?_
    rw [List.drop_zero, Bool.true_and]
    congr 1
    simp
    omega
  · refine Evt.neg h1 (Evt.succ ?_)
    simp only [plank_isShape.j0]
    refine (h _ (fun e => by cases e)).of_eq ?_
    rw [Bool.false_and, show (decide (1 ≤ x.f0) && decide (x.f0 ≤ 12)) = false from by simpa using h1, Bool.false_and]
theorem Check_l1 (Q : List S50) (hq : Q.length < 9223372036854775808) (hQ : ∀ x ∈ Q, x.f1.length < 9223372036854775808) : ∀ (d j : Nat) (ok : Bool), j + d = Q.length →
    Evt (fun k => plank_Check.l1 k ok Q (Q.length : Int) (j : Int)) (if ok && (Q.drop j).all shapeB then 0 else 10)
  | 0, j, ok, hj => by
    refine Evt.succ ?_
    simp only [plank_Check.l1]
    rw [List.drop_eq_nil_of_le (by omega), List.all_nil, Bool.and_true]
    refine Evt.neg (by omega) ?_
    cases ok
    · exact Evt.pure _
    · exact Evt.pure _
  | d + 1, j, ok, hj => by
    have h1 : Q.drop j = Q[j] :: Q.drop (j + 1) := List.drop_eq_getElem_cons (by omega)
    have hg : rd_T50 Q (j : Int) = Q[j] := by simp [rd_T50, show j < Q.length by omega]
    have hm : Q[j].f1.length < 9223372036854775808 := hQ _ (List.getElem_mem (by omega))
    refine Evt.succ ?_
    simp only [plank_Check.l1]
    refine Evt.pos (by omega) (Evt.pos (by omega) (Evt.pos (by omega) ?_))
    rw [hg, w64 j (by omega), h1, List.all_cons]
    have ih := fun ok => Check_l1 Q hq hQ d (j + 1) ok (by omega)
    cases ok with
    | false => exact Evt.neg (by simp) ((ih false).of_eq (by rw [Bool.false_and, Bool.false_and]))
    | true =>
      refine Evt.pos rfl ?_
      rw [Bool.true_and]
      exact Evt.bind (isShape_f _ hm) (ih _)
theorem Check_l0 (P : List S48) (Q : List S50) (hp : P.length < 9223372036854775808) (hP : ∀ y ∈ P, y.f1.length < 9223372036854775808) (hq : Q.length < 9223372036854775808) (hQ : ∀ x ∈ Q, x.f1.length < 9223372036854775808) : ∀ (d j : Nat) (ok : Bool), j + d = P.length →
    Evt (fun k => plank_Check.l0 k ok P (P.length : Int) (j : Int) P Q) (if ok && ((P.drop j).all woodB && Q.all shapeB) then 0 else 10)
  | 0, j, ok, hj => by
    refine Evt.succ ?_
    simp only [plank_Check.l0]
    rw [List.drop_eq_nil_of_le (by omega), List.all_nil, Bool.true_and]
    refine Evt.neg (by omega) ?_
    have h := Check_l1 Q hq hQ Q.length 0 ok (by omega)
    rwa [List.drop_zero] at h
  | d + 1, j, ok, hj => by
    have h1 : P.drop j = P[j] :: P.drop (j + 1) := List.drop_eq_getElem_cons (by omega)
    have hg : rd_T48 P (j : Int) = P[j] := by simp [rd_T48, show j < P.length by omega]
    have hm : P[j].f1.length < 9223372036854775808 := hP _ (List.getElem_mem (by omega))
    refine Evt.succ ?_
    simp only [plank_Check.l0]
    refine Evt.pos (by omega) (Evt.pos (by omega) (Evt.pos (by omega) ?_))
    rw [hg, w64 j (by omega), h1, List.all_cons]
    have ih := fun ok => Check_l0 P Q hp hP hq hQ d (j + 1) ok (by omega)
    cases ok with
    | false => exact Evt.neg (by simp) ((ih false).of_eq (by rw [Bool.false_and, Bool.false_and]))
    | true =>
      refine Evt.pos rfl ?_
      rw [Bool.true_and, Bool.and_assoc]
      exact Evt.bind (isWood_f _ hm) (ih _)
def checkP (P : List S48) (Q : List S50) : Int := if validB P Q then 0 else 10
theorem Check_f (P : List S48) (Q : List S50) (hp : P.length < 9223372036854775808) (hP : ∀ y ∈ P, y.f1.length < 9223372036854775808) (hq : Q.length < 9223372036854775808) (hQ : ∀ x ∈ Q, x.f1.length < 9223372036854775808) :
    Evt (fun k => plank_Check.f k P Q) (checkP P Q) := by
  unfold plank_Check.f checkP validB
  refine Evt.bind (f := fun _ => plank_on.f (P.length : Int) 1 3) (Evt.const (on_f _ _ _)) ?_
  have h := fun ok => Check_l0 P Q hp hP hq hQ P.length 0 ok (by omega)
  have e1 : (decide ((1 : Int) ≤ (P.length : Int)) && decide ((P.length : Int) ≤ 3)) = (decide (1 ≤ P.length) && decide (P.length ≤ 3)) := by congr 1 <;> (simp; omega)
  have e2 : (decide ((1 : Int) ≤ (Q.length : Int)) && decide ((Q.length : Int) ≤ 5)) = (decide (1 ≤ Q.length) && decide (Q.length ≤ 5)) := by congr 1 <;> (simp; omega)
  rw [e1]
  by_cases h1 : (decide (1 ≤ P.length) && decide (P.length ≤ 3)) = true
  · refine Evt.pos h1 (Evt.bind (f := fun _ => plank_on.f (Q.length : Int) 1 5) (Evt.const (on_f _ _ _)) (Evt.succ ?_))
    simp only [plank_Check.j0]
    rw [e2, h1, Bool.true_and]
    have := h (decide (1 ≤ Q.length) && decide (Q.length ≤ 5))
    rwa [List.drop_zero] at this
  · refine Evt.neg h1 (Evt.succ ?_)
    simp only [plank_Check.j0]
    refine (h false).of_eq ?_
    rw [show (decide (1 ≤ P.length) && decide (P.length ≤ 3)) = false from by simpa using h1, Bool.false_and, Bool.false_and, Bool.false_and]
theorem calls_Check (PA : Option Addr) (pc : Nat) (P : List S48) (QA : Option Addr) (qc : Nat) (Q : List S50) (w : World) (hP : Kd.C k48 w PA P.length P) (hpc : P.length ≤ pc) (hQ : Kd.C k50 w QA Q.length Q) (hqc : Q.length ≤ qc) :
    Calls Tryd.prog 18 #[.agg #[.slice PA P.length pc, .slice QA Q.length qc]] w fun e w' => e = .returned (.int .i64 (checkP P Q)) ∧ Below w.heap.size w w' := by
  have m1 : ∀ y ∈ P, y.f1.length < 9223372036854775808 := fun y hy => by
    obtain ⟨i, hi, rfl⟩ := List.getElem_of_mem hy
    obtain ⟨_, _, _, _, _, _, _, h⟩ := at_wood hP i hi
    have := h.2.1
    simp [List.getD_eq_getElem?_getD, hi] at this
    omega
  have m2 : ∀ x ∈ Q, x.f1.length < 9223372036854775808 := fun y hy => by
    obtain ⟨i, hi, rfl⟩ := List.getElem_of_mem hy
    obtain ⟨_, _, _, _, _, _, _, _, h⟩ := at_shape hQ i hi
    have := h.2.1
    simp [List.getD_eq_getElem?_getD, hi] at this
    omega
  obtain ⟨k, hk⟩ := (Check_f P Q (by have := hP.2.1; omega) m1 (by have := hQ.2.1; omega) m2).get
  exact plank_Check.calls k PA pc P QA qc Q _ w hP hpc hQ hqc hk
theorem calls_isPlank (PA : Option Addr) (pc : Nat) (P : List S48) (QA : Option Addr) (qc : Nat) (Q : List S50) (n : Int) (w : World) (hP : Kd.C k48 w PA P.length P) (hpc : P.length ≤ pc) (hQ : Kd.C k50 w QA Q.length Q) (hqc : Q.length ≤ qc) :
    Calls Tryd.prog 61 #[.agg #[.slice PA P.length pc, .slice QA Q.length qc], .int .i64 n] w fun e w' => e = .returned (.bool (decide (0 ≤ n) && decide (n ≤ (P.length : Int) - 1))) ∧ Below w.heap.size w w' := by
  refine (plank_isPlank.calls PA pc P QA qc Q n (w := w) (hr0_0 := hP) (hc0_0 := hpc) (hr0_1 := hQ) (hc0_1 := hqc) (r := decide (0 ≤ n) && decide (n ≤ (P.length : Int) - 1)) ?_).mono fun e w' h => ⟨h.1, by first | exact h.2 | exact h.2.below⟩
  unfold plank_isPlank.f
  rw [on_f, show wrap64 ((P.length : Int) - 1) = (P.length : Int) - 1 from by have := hP.2.1; unfold wrap64; omega]
  rfl
theorem calls_isPart (PA : Option Addr) (pc : Nat) (P : List S48) (QA : Option Addr) (qc : Nat) (Q : List S50) (n : Int) (w : World) (hP : Kd.C k48 w PA P.length P) (hpc : P.length ≤ pc) (hQ : Kd.C k50 w QA Q.length Q) (hqc : Q.length ≤ qc) :
    Calls Tryd.prog 62 #[.agg #[.slice PA P.length pc, .slice QA Q.length qc], .int .i64 n] w fun e w' => e = .returned (.bool (decide (0 ≤ n) && decide (n ≤ (Q.length : Int) - 1))) ∧ Below w.heap.size w w' := by
  refine (plank_isPart.calls PA pc P QA qc Q n (w := w) (hr0_0 := hP) (hc0_0 := hpc) (hr0_1 := hQ) (hc0_1 := hqc) (r := decide (0 ≤ n) && decide (n ≤ (Q.length : Int) - 1)) ?_).mono fun e w' h => ⟨h.1, by first | exact h.2 | exact h.2.below⟩
  unfold plank_isPart.f
  rw [on_f, show wrap64 ((Q.length : Int) - 1) = (Q.length : Int) - 1 from by have := hQ.2.1; unfold wrap64; omega]
  rfl
theorem asc_mem (L : Int) : ∀ (l : List Int) (last : Int), ascB L last l = true → ∀ n ∈ l, last + 1 ≤ n ∧ n < L
  | [], _, _, n, hn => absurd hn (by simp)
  | a :: l, last, h, n, hn => by
    unfold ascB at h
    simp only [Bool.and_eq_true, decide_eq_true_eq] at h
    rcases List.mem_cons.1 hn with rfl | hn
    · omega
    · have := asc_mem L l a h.2 n hn
      omega
theorem valid_ok {P : List S48} {Q : List S50} (h : validB P Q = true) : Ok P Q := by
  unfold validB at h
  simp only [Bool.and_eq_true, decide_eq_true_eq, List.all_eq_true] at h
  obtain ⟨⟨⟨a1, a2⟩, a3, a4⟩, a5, a6⟩ := h
  refine ⟨a2, a4, fun y hy => ?_, fun x hx => ?_⟩
  · have := a5 y hy
    unfold woodB at this
    simp only [Bool.and_eq_true, decide_eq_true_eq, List.all_eq_true] at this
    refine ⟨this.1.1, this.1.2, this.2.1, fun k hk => ?_⟩
    have h2 := this.2.2 k hk
    unfold knotB at h2
    simp only [Bool.and_eq_true, decide_eq_true_eq] at h2
    omega
  · have := a6 x hx
    unfold shapeB at this
    simp only [Bool.and_eq_true, decide_eq_true_eq] at this
    refine ⟨this.1.1, this.1.2, this.2.1, fun n hn => ?_⟩
    have := asc_mem _ _ _ this.2.2 n hn
    omega
end Go.Proofs.YtekjlpldooihhaaDoorP
namespace Go.Proofs.YtekjlpldooihhaaDoorP
open Go.RowKit Go.Proofs.YtekjlpldooihhaaDoorW.PrintWords Go.Proofs.YtekjlpldooihhaaDoorW.PrintLast Go.Proofs.YtekjlpldooihhaaDoorW.PrintMore Go.Proofs.YtekjlpldooihhaaDoorH Go.Proofs.YtekjlpldooihhaaDoorEv Go.Proofs.YtekjlpldooihhaaDoor.PA
set_option linter.unusedVariables false
set_option linter.unusedSimpArgs false
def cmpL : List Int → List Int → Int
  | [], [] => 0
  | [], _ :: _ => -1
  | _ :: _, [] => 1
  | a :: l, b :: m => if a < b then -1 else if b < a then 1 else cmpL l m
theorem Compare_l0 (l m : List Int) (hl : l.length < 9223372036854775808) : ∀ (d j : Nat), j + d = l.length → j ≤ m.length →
    Evt (fun k => slices_Compare_int_int.l0 k l m l (l.length : Int) (j : Int)) (cmpL (l.drop j) (m.drop j))
  | 0, j, hj, hm => by
    refine Evt.succ ?_
    simp only [slices_Compare_int_int.l0]
    have h1 : l.drop j = [] := List.drop_eq_nil_of_le (by omega)
    rw [h1]
    refine Evt.neg (by omega) ?_
    by_cases h : l.length < m.length
    · refine Evt.pos (by omega) ?_
      have hd : m.drop j = m[j] :: m.drop (j + 1) := List.drop_eq_getElem_cons (by omega)
      rw [hd]; exact Evt.pure _
    · refine Evt.neg (by omega) ?_
      have h2 : m.drop j = [] := List.drop_eq_nil_of_le (by omega)
      rw [h2]; exact Evt.pure _
  | d + 1, j, hj, hm => by
    refine Evt.succ ?_
    simp only [slices_Compare_int_int.l0]
    have h1 : l.drop j = l[j] :: l.drop (j + 1) := List.drop_eq_getElem_cons (by omega)
    have hg : rd l (j : Int) = l[j] := by simp [rd, show j < l.length by omega]
    rw [h1]
    refine Evt.pos (by omega) (Evt.pos (by omega) (Evt.pos (by omega) ?_))
    by_cases h : j < m.length
    · refine Evt.neg (by omega) (Evt.pos (by omega) ?_)
      have h2 : m.drop j = m[j] :: m.drop (j + 1) := List.drop_eq_getElem_cons (by omega)
      have hg2 : rd m (j : Int) = m[j] := by simp [rd, h]
      rw [h2, hg, hg2]
      have hn : ∀ x : Int, (x != x) = false := fun x => by simp
      simp only [cmp_Compare_int.f, cmp_isNaN_int.f, hn, Option.bind_some, Bool.false_eq_true, if_false, cmpL]
      by_cases c1 : l[j] < m[j]
      · simp only [if_pos c1, Option.bind_some]
        exact Evt.neg (by omega) (Evt.pure _)
      · by_cases c2 : m[j] < l[j]
        · simp only [if_neg c1, if_pos c2, show l[j] > m[j] from c2, if_true, Option.bind_some]
          exact Evt.neg (by omega) (Evt.pure _)
        · simp only [if_neg c1, if_neg c2, show ¬ l[j] > m[j] from c2, if_false, Option.bind_some]
          refine Evt.pos trivial ?_
          rw [w64 j (by omega)]
          exact Compare_l0 l m hl d (j + 1) (by omega) (by omega)
    · have h2 : m.drop j = [] := List.drop_eq_nil_of_le (by omega)
      rw [h2]
      exact Evt.pos (by omega) (Evt.pure _)
theorem calls_Compare (A : Option Addr) (c : Nat) (l : List Int) (B : Option Addr) (d : Nat) (m : List Int) (w : World) (hr : Kd.C (Kd.int .i64) w A l.length l) (hc : l.length ≤ c) (hr1 : Kd.C (Kd.int .i64) w B m.length m) (hc1 : m.length ≤ d) :
    Calls Tryd.prog 110 #[.slice A l.length c, .slice B m.length d] w fun e w' => e = .returned (.int .i64 (cmpL l m)) ∧ Below w.heap.size w w' := by
  have hl : l.length < 9223372036854775808 := by have := hr.2.1; omega
  obtain ⟨k, hk⟩ := (Compare_l0 l m hl l.length 0 (by omega) (by omega)).get
  exact (slices_Compare_int_int.calls k A c l B d m _ w hr hc hr1 hc1 hk).mono fun e w' h => ⟨h.1, h.2.below⟩
def betterL (l m : List Int) : Bool := decide (l.length < m.length) || ((l.length == m.length) && decide (cmpL l m < 0))
theorem calls_few1 (A : Option Addr) (c : Nat) (l : List Int) (B : Option Addr) (d : Nat) (m : List Int) (w : World) (hr : Kd.C (Kd.int .i64) w A l.length l) (hc : l.length ≤ c) (hr1 : Kd.C (Kd.int .i64) w B m.length m) (hc1 : m.length ≤ d) :
    Calls Tryd.prog 109 #[.slice A l.length c, .slice B m.length d] w fun e w' => e = .returned (.bool (betterL l m)) ∧ Below w.heap.size w w' := by
  have HR := Lib.hid hr; have HR1 := Lib.hid hr1
  clear hr hr1
  go_enter Tryd.func109, Tryd.ntmps109
  by_cases h1 : l.length < m.length
  · have e : betterL l m = true := by simp [betterL, h1]
    rw [e]
    go_wp2
    go_ret
    exact ⟨rfl, by repeat (first | exact Below.refl _ _ | apply below_drew1 | apply pw_below_drewN)⟩
  · by_cases h2 : l.length = m.length
    · have e : betterL l m = decide (cmpL l m < 0) := by simp [betterL, h2]
      have HE := Lib.hid e; clear e
      have HH := Lib.hid h2; clear h2
      have h2 : ((l.length : Int) == (m.length : Int)) = true := by rw [HH.out]; simp
      go_wp2_with (go_at_call 110; refine (calls_Compare A c l B d m _ HR.out hc HR1.out hc1).mono ?_; rintro e w1 ⟨rfl, hb⟩)
      go_ret
      exact ⟨by rw [HE.out]; rfl, hb⟩
    · have e : betterL l m = false := by simp [betterL, h1, h2]
      rw [e]
      have h3 : ((l.length : Int) == (m.length : Int)) = false := by simp; omega
      go_wp2
      go_ret
      exact ⟨rfl, by repeat (first | exact Below.refl _ _ | apply below_drew1 | apply pw_below_drewN)⟩
def moreL (l m : List Int) : Bool := decide (l.length > m.length) || ((l.length == m.length) && decide (cmpL l m < 0))
theorem calls_many1 (A : Option Addr) (c : Nat) (l : List Int) (B : Option Addr) (d : Nat) (m : List Int) (w : World) (hr : Kd.C (Kd.int .i64) w A l.length l) (hc : l.length ≤ c) (hr1 : Kd.C (Kd.int .i64) w B m.length m) (hc1 : m.length ≤ d) :
    Calls Tryd.prog 113 #[.slice A l.length c, .slice B m.length d] w fun e w' => e = .returned (.bool (moreL l m)) ∧ Below w.heap.size w w' := by
  have HR := Lib.hid hr; have HR1 := Lib.hid hr1
  clear hr hr1
  go_enter Tryd.func113, Tryd.ntmps113
  by_cases h1 : l.length > m.length
  · have e : moreL l m = true := by simp [moreL, h1]
    rw [e]
    go_wp2
    go_ret
    exact ⟨rfl, by repeat (first | exact Below.refl _ _ | apply below_drew1 | apply pw_below_drewN)⟩
  · by_cases h2 : l.length = m.length
    · have e : moreL l m = decide (cmpL l m < 0) := by simp [moreL, h2]
      have HE := Lib.hid e; clear e
      have HH := Lib.hid h2; clear h2
      have h2 : ((l.length : Int) == (m.length : Int)) = true := by rw [HH.out]; simp
      go_wp2_with (go_at_call 110; refine (calls_Compare A c l B d m _ HR.out hc HR1.out hc1).mono ?_; rintro e w1 ⟨rfl, hb⟩)
      go_ret
      exact ⟨by rw [HE.out]; rfl, hb⟩
    · have e : moreL l m = false := by simp [moreL, h1, h2]
      rw [e]
      have h3 : ((l.length : Int) == (m.length : Int)) = false := by simp; omega
      go_wp2
      go_ret
      exact ⟨rfl, by repeat (first | exact Below.refl _ _ | apply below_drew1 | apply pw_below_drewN)⟩
theorem calls_few (w : World) : Calls Tryd.prog 81 #[] w fun e w' => e = .returned (.agg #[.func (.func 109) #[] #[]]) ∧ Below w.heap.size w w' := by
  go_enter Tryd.func81, Tryd.ntmps81
  have hX := blk_new w (.cells #[.nilFunc] 106)
  go_wp2_with ((with_reducible refine gate_store (t := 106) (p := 0) rfl ?_); refine wpList_store_row rfl 106 _ _ rfl w.heap.size _ rfl rfl 106 _ hX (by kernel_rfl) rfl (by simp [Value.oneCell']) ?_)
  have hX2 := setRow_heap (w.alloc (.cells #[.nilFunc] 106)) w.heap.size _ #[.func (.func 109) #[] #[]] 106 _ hX
  exact bodyPost_ret (results_cell_row rfl _ _ w.heap.size 106 _ _ _ rfl hX2 Tryd.underlying106 rfl (by kernel_rfl)) rfl ⟨rfl, below_setRow (below_alloc (Below.refl _ _) _) (Nat.le_refl _) _⟩
theorem calls_many (w : World) : Calls Tryd.prog 107 #[] w fun e w' => e = .returned (.agg #[.func (.func 113) #[] #[]]) ∧ Below w.heap.size w w' := by
  go_enter Tryd.func107, Tryd.ntmps107
  have hX := blk_new w (.cells #[.nilFunc] 106)
  go_wp2_with ((with_reducible refine gate_store (t := 106) (p := 0) rfl ?_); refine wpList_store_row rfl 106 _ _ rfl w.heap.size _ rfl rfl 106 _ hX (by kernel_rfl) rfl (by simp [Value.oneCell']) ?_)
  have hX2 := setRow_heap (w.alloc (.cells #[.nilFunc] 106)) w.heap.size _ #[.func (.func 113) #[] #[]] 106 _ hX
  exact bodyPost_ret (results_cell_row rfl _ _ w.heap.size 106 _ _ _ rfl hX2 Tryd.underlying106 rfl (by kernel_rfl)) rfl ⟨rfl, below_setRow (below_alloc (Below.refl _ _) _) (Nat.le_refl _) _⟩
end Go.Proofs.YtekjlpldooihhaaDoorP
namespace Go.Proofs.YtekjlpldooihhaaDoorP
open Go.RowKit Go.Proofs.YtekjlpldooihhaaDoorW.PrintWords Go.Proofs.YtekjlpldooihhaaDoorW.PrintLast Go.Proofs.YtekjlpldooihhaaDoorW.PrintMore Go.Proofs.YtekjlpldooihhaaDoorH Go.Proofs.YtekjlpldooihhaaDoorEv Go.Proofs.YtekjlpldooihhaaDoor.PA
set_option linter.unusedVariables false
set_option linter.unusedSimpArgs false
theorem pow_small (n : Nat) (h : n ≤ 5) : 1 ≤ 2 ^ n ∧ 2 ^ n ≤ 32 := ⟨Nat.one_le_two_pow, Nat.pow_le_pow_right (n := 2) (by omega) h⟩
theorem pow_int (n : Nat) (h : n ≤ 5) : wrap64 ((2 : Int) ^ n) = ((2 ^ n : Nat) : Int) := by
  have h2 := pow_small n h
  have : ((2 : Int) ^ n) = ((2 ^ n : Nat) : Int) := by simp
  rw [this]; unfold wrap64; omega
set_option maxRecDepth 100000 in
theorem calls_parts (PA : Option Addr) (pn pc : Nat) (QA : Option Addr) (qn qc m : Nat) (hq : qn ≤ 5) (w : World) :
    Calls Tryd.prog 85 #[.agg #[.slice PA pn pc, .slice QA qn qc, .map (some m)]] w fun e w' => e = .returned (.int .i64 ((2 ^ qn - 1 : Nat) : Int)) ∧ Below w.heap.size w w' := by
  obtain ⟨n0, n1, n2⟩ := new1 w (.cells #[.slice PA pn pc, .slice QA qn qc, .map (some m)] 84)
  have HN := Lib.hid n1
  clear n0 n1 n2
  have h2 := pow_int qn hq
  have h3 := pow_small qn hq
  obtain ⟨q, hqq⟩ : ∃ q : Nat, 2 ^ qn = q := ⟨_, rfl⟩
  rw [hqq] at h2 h3 ⊢
  clear hqq
  have h4 : ((q - 1 : Nat) : Int) = (q : Int) - 1 := by omega
  rw [h4]
  go_enter Tryd.func85, Tryd.ntmps85
  go_wp2_with fail
  go_ret
  exact ⟨rfl, HN.out⟩
set_option maxRecDepth 100000 in
theorem calls_planks (PA : Option Addr) (pn pc : Nat) (QA : Option Addr) (qn qc m : Nat) (hp : pn ≤ 5) (w : World) :
    Calls Tryd.prog 90 #[.agg #[.slice PA pn pc, .slice QA qn qc, .map (some m)]] w fun e w' => ∃ v, e = .returned v ∧ VI w.heap.size w' v (ints (setL (2 ^ pn - 1))) ∧ Below w.heap.size w w' := by
  obtain ⟨n0, n1, n2⟩ := new1 w (.cells #[.slice PA pn pc, .slice QA pn qc, .map (some m)] 84)
  obtain ⟨n0, n1, n2⟩ := new1 w (.cells #[.slice PA pn pc, .slice QA qn qc, .map (some m)] 84)
  have HN := Lib.hid n1
  clear n0 n1 n2
  have h2 := pow_int pn hp
  have h3 := pow_small pn hp
  obtain ⟨q, hqq⟩ : ∃ q : Nat, 2 ^ pn = q := ⟨_, rfl⟩
  rw [hqq] at h2 h3 ⊢
  clear hqq
  obtain ⟨q', rfl⟩ : ∃ q' : Nat, q = q' + 1 := ⟨q - 1, by omega⟩
  rw [show q' + 1 - 1 = q' from rfl]
  have h4 : ((q' + 1 : Nat) : Int) - 1 = (q' : Int) := by omega
  go_enter Tryd.func90, Tryd.ntmps90
  go_wp2_with (go_at_call 86; (with_reducible refine (calls_listed q' (by omega) _).mono ?_); rintro e w1 ⟨v, rfl, hv, hb⟩)
  go_ret
  obtain ⟨A, c, h5, h6, h7, h8⟩ := hv
  exact ⟨_, rfl, ⟨A, c, h5, h6, h7, fun ad e => Nat.le_trans (below_size HN.out) (h8 ad e)⟩, HN.out.trans (hb.mono (below_size HN.out))⟩
def bestStep (bt : List Int → List Int → Bool) (is : Nat → Bool) (s : Nat) (z : Bool × List Nat) : Bool × List Nat :=
  if (!z.1 || bt (ints (setL s)) (ints z.2)) && is s then (true, setL s) else z
def bestTo (bt : List Int → List Int → Bool) (is : Nat → Bool) : Nat → Bool × List Nat
  | 0 => (false, [])
  | s + 1 => bestStep bt is s (bestTo bt is s)
def Open (F : Nat) : Prop := ∃ fn, Tryd.prog.funcs[F]? = some fn ∧ (fn.name == "runtime.NumGoroutine") = false ∧ fn.body.isSome = true
structure Better (ob : Nat) (bt : List Int → List Int → Bool) : Prop where
  call : ∀ (A : Option Addr) (c : Nat) (l : List Int) (B : Option Addr) (d : Nat) (m : List Int) (w : World) (hr : Kd.C (Kd.int .i64) w A l.length l) (hc : l.length ≤ c) (hr1 : Kd.C (Kd.int .i64) w B m.length m) (hc1 : m.length ≤ d), Calls Tryd.prog ob #[.slice A l.length c, .slice B m.length d] w fun e w' => e = .returned (.bool (bt l m)) ∧ Below w.heap.size w w'
  fn : Open ob
theorem better_few : Better 109 betterL := ⟨calls_few1, _, Tryd.func109, by kernel_rfl, rfl⟩
theorem better_many : Better 113 moreL := ⟨calls_many1, _, Tryd.func113, by kernel_rfl, rfl⟩
theorem Open.enters {F : Nat} (h : Open F) : ∀ args w, (callFunc F args).run Tryd.prog w = .ok (.enter F args) w := by
  obtain ⟨fn, h1, h2, h3⟩ := h
  obtain ⟨b, hb⟩ := Option.isSome_iff_exists.1 h3
  exact enters_of h1 h2 hb
structure Asks (F : Nat) (ds : Array Value) (m N : Nat) (is : Nat → Bool) (I : World → Prop) : Prop where
  call : ∀ (s : Nat), s < N → ∀ w : World, I w → Calls Tryd.prog F (#[.int .i64 s] ++ ds) w fun e w' => e = .returned (.bool (is s)) ∧ I w' ∧ w.grownBy w' (some m)
  fn : Open F
  below : ∀ W W', I W → Below W.heap.size W W' → I W'
  is : ∀ W, I W → IsMap W m
theorem vi_of {base : Nat} {W : World} {A : Option Addr} {xs : List Int} {c : Nat} (h1 : xs.length ≤ c) (h2 : Kd.C (Kd.int .i64) W A xs.length xs) (h3 : ∀ ad, A = some ad → base ≤ ad.block) : VI base W (.slice A xs.length c) xs := ⟨A, c, rfl, h1, h2, h3⟩
theorem vi_C {base : Nat} {W : World} {A : Option Addr} {n c : Nat} {xs : List Int} (h : VI base W (.slice A n c) xs) : Kd.C (Kd.int .i64) W A xs.length xs := by
  obtain ⟨A2, c2, h1, h2, h3, h4⟩ := h
  cases h1
  exact h3
set_option maxRecDepth 100000 in
set_option maxHeartbeats 1000000 in
theorem calls_best (ob : Nat) (bt : List Int → List Int → Bool) (hbt : Better ob bt) (F : Nat) (ds : Array Value) (m n : Nat) (hn : n ≤ 5) (is : Nat → Bool) (I : World → Prop) (hF : Asks F ds m (2 ^ n) is I) (w : World) (hI : I w) (hm : m < w.heap.size) :
    Calls Tryd.prog 82 #[.agg #[.func (.func ob) #[] #[]], .int .i64 n, .func (.func F) #[] ds] w fun e w' => ∃ v, e = .returned (.tuple #[v, .bool (bestTo bt is (2 ^ n)).1]) ∧ VI w.heap.size w' v (ints (bestTo bt is (2 ^ n)).2) ∧ I w' ∧ w.grownBy w' (some m) := by
  have h2 := pow_int n hn
  have h3 := pow_small n hn
  have hcall := hF.call
  obtain ⟨N, hN⟩ : ∃ N : Nat, 2 ^ n = N := ⟨_, rfl⟩
  rw [hN] at h2 h3 hcall ⊢
  have hbel := hF.below
  have his := hF.is
  have hentF := hF.fn.enters
  have hentB := hbt.fn.enters
  have hcb := hbt.call
  have HCF := Lib.hid hcall; have HBEL := Lib.hid hbel; have HIS := Lib.hid his; have HEF := Lib.hid hentF; have HEB := Lib.hid hentB; have HCB := Lib.hid hcb
  clear hF hbt hN hcall hbel his hentF hentB hcb
  obtain ⟨n0, n1, n2⟩ := new1 w (.cells #[.func (.func ob) #[] #[]] 106)
  have HX := Lib.hid n0; have HI := Lib.hid (HBEL.out _ _ hI n1); have HG := Lib.hid (grown_of_below n1 (some m))
  clear n0 n1 n2 hI
  go_enter Tryd.func82, Tryd.ntmps82
  go_wp2_with fail
  rw [h2]
  clear h2
  go_loopw [8, 9, 14] (fun v8 v9 v wr => ∃ s : Nat, s ≤ N ∧ v = .int .i64 s ∧ v9 = .bool (bestTo bt is s).1 ∧ Hid (wr.heap[w.heap.size]? = some (.cells #[.func (.func ob) #[] #[]] 106 (0, 0))) ∧ Hid (VI w.heap.size wr v8 (ints (bestTo bt is s).2)) ∧ Hid (I wr) ∧ Hid (w.grownBy wr (some m))) (fun _ _ v _ => N - (intOf v).toNat)
  case atStart => exact ⟨0, Nat.zero_le _, rfl, rfl, HX, Lib.hid (VI.nil _ _), HI, HG⟩
  case round =>
    clear HX HI HG
    obtain ⟨s, hs, rfl, rfl, HX, HV, HI, HG⟩ := hrel
    obtain ⟨A', c', rfl, hle, hC'⟩ := HV.out
    have HC' := Lib.hid hC'; clear hC'
    by_cases hlt : s < N
    · have hs32 : s < 32 := by omega
      have hst : bestTo bt is (s + 1) = bestStep bt is s (bestTo bt is s) := rfl
      obtain ⟨fnd, best, hz⟩ : ∃ fnd best, bestTo bt is s = (fnd, best) := ⟨_, _, rfl⟩
      rw [hz] at hst HV hle ⊢
      unfold bestStep at hst
      simp only at hst hle HV ⊢
      clear HC'
      obtain ⟨b, hb⟩ : ∃ b, bt (ints (setL s)) (ints best) = b := ⟨_, rfl⟩
      obtain ⟨r, hr⟩ : ∃ r, is s = r := ⟨_, rfl⟩
      rw [hb, hr] at hst
      have HB := Lib.hid hb; have HR := Lib.hid hr; have HST := Lib.hid hst
      clear hz hb hr hst
      have hent1 := HEB.out
      have hent2 := HEF.out
      have hx0 : ∀ W : World, W.heap[w.heap.size]? = some (.cells #[.func (.func ob) #[] #[]] 106 (0, 0)) → W.cell? ⟨w.heap.size, 0, none⟩ = some (.func (.func ob) #[] #[]) := fun W h => blk_cell h 0
      have HX0 := Lib.hid hx0; clear hx0
      cases fnd with
      | false =>
        cases r with
        | true =>
          have HN := Lib.hid (HST.out.trans (show _ = (true, setL s) from rfl))
          go_wp2_with (first | (go_at_call 86; (with_reducible refine (calls_listed s hs32 _).mono ?_); rintro e w1 ⟨v1, rfl, hv1, hb1⟩; obtain ⟨A1, c1, rfl, hle1, hC1, hB1⟩ := hv1; have HI := Lib.hid (HBEL.out _ _ HI.out hb1); have HX := Lib.hid (below_far HX.out hb1); have HV := Lib.hid (HV.out.below hb1); have HV1 := Lib.hid (vi_of (base := w.heap.size) hle1 hC1 (fun ad e => Nat.le_trans HG.out.size (hB1 ad e))); have HG := Lib.hid (grown_belowM HG.out hb1); have hxc := HX0.out _ HX.out; clear hb1 hB1 hC1) | (go_at_fn F; refine (HCF.out s hlt _ HI.out).mono ?_; rintro e w2 ⟨he, hi2, hg2⟩; rw [HR.out] at he; subst he; have HX := Lib.hid (blk_grownM HX.out (HIS.out _ HI.out) hg2); have hcc := grown_cells (HIS.out _ HI.out) hg2; have HV := Lib.hid (HV.out.cells hcc); have HV1 := Lib.hid (HV1.out.cells hcc); have HG := Lib.hid (grown_trans HG.out hg2); have HI := Lib.hid hi2; clear hi2 hg2 hcc))
          go_roundw
          case rel => exact ⟨s + 1, by omega, by go_num, by rw [HN.out], HX, by rw [HN.out]; exact HV1, HI, HG⟩
          case measure => simp [intOf]; omega
        | false =>
          have HN := Lib.hid (HST.out.trans (show _ = (false, best) from rfl))
          go_wp2_with (first | (go_at_call 86; (with_reducible refine (calls_listed s hs32 _).mono ?_); rintro e w1 ⟨v1, rfl, hv1, hb1⟩; obtain ⟨A1, c1, rfl, hle1, hC1, hB1⟩ := hv1; have HI := Lib.hid (HBEL.out _ _ HI.out hb1); have HX := Lib.hid (below_far HX.out hb1); have HV := Lib.hid (HV.out.below hb1); have HV1 := Lib.hid (vi_of (base := w.heap.size) hle1 hC1 (fun ad e => Nat.le_trans HG.out.size (hB1 ad e))); have HG := Lib.hid (grown_belowM HG.out hb1); have hxc := HX0.out _ HX.out; clear hb1 hB1 hC1) | (go_at_fn F; refine (HCF.out s hlt _ HI.out).mono ?_; rintro e w2 ⟨he, hi2, hg2⟩; rw [HR.out] at he; subst he; have HX := Lib.hid (blk_grownM HX.out (HIS.out _ HI.out) hg2); have hcc := grown_cells (HIS.out _ HI.out) hg2; have HV := Lib.hid (HV.out.cells hcc); have HV1 := Lib.hid (HV1.out.cells hcc); have HG := Lib.hid (grown_trans HG.out hg2); have HI := Lib.hid hi2; clear hi2 hg2 hcc))
          go_roundw
          case rel => exact ⟨s + 1, by omega, by go_num, by rw [HN.out], HX, by rw [HN.out]; exact HV, HI, HG⟩
          case measure => simp [intOf]; omega
      | true =>
        cases b with
        | false =>
          have HN := Lib.hid (HST.out.trans (show _ = (true, best) from rfl))
          go_wp2_with (first | (go_at_call 86; (with_reducible refine (calls_listed s hs32 _).mono ?_); rintro e w1 ⟨v1, rfl, hv1, hb1⟩; obtain ⟨A1, c1, rfl, hle1, hC1, hB1⟩ := hv1; have HI := Lib.hid (HBEL.out _ _ HI.out hb1); have HX := Lib.hid (below_far HX.out hb1); have HV := Lib.hid (HV.out.below hb1); have HV1 := Lib.hid (vi_of (base := w.heap.size) hle1 hC1 (fun ad e => Nat.le_trans HG.out.size (hB1 ad e))); have HG := Lib.hid (grown_belowM HG.out hb1); have hxc := HX0.out _ HX.out; clear hb1 hB1 hC1) | (go_at_fn ob; refine (HCB.out A1 c1 (ints (setL s)) A' c' (ints best) _ (vi_C HV1.out) hle1 (vi_C HV.out) hle).mono ?_; rintro e w3 ⟨he, hb3⟩; rw [HB.out] at he; subst he; have HI := Lib.hid (HBEL.out _ _ HI.out hb3); have HX := Lib.hid (below_far HX.out hb3); have HV := Lib.hid (HV.out.below hb3); have HV1 := Lib.hid (HV1.out.below hb3); have HG := Lib.hid (grown_belowM HG.out hb3); clear hb3))
          go_roundw
          case rel => exact ⟨s + 1, by omega, by go_num, by rw [HN.out], HX, by rw [HN.out]; exact HV, HI, HG⟩
          case measure => simp [intOf]; omega
        | true =>
          cases r with
          | true =>
            have HN := Lib.hid (HST.out.trans (show _ = (true, setL s) from rfl))
            go_wp2_with (first | (go_at_call 86; (with_reducible refine (calls_listed s hs32 _).mono ?_); rintro e w1 ⟨v1, rfl, hv1, hb1⟩; obtain ⟨A1, c1, rfl, hle1, hC1, hB1⟩ := hv1; have HI := Lib.hid (HBEL.out _ _ HI.out hb1); have HX := Lib.hid (below_far HX.out hb1); have HV := Lib.hid (HV.out.below hb1); have HV1 := Lib.hid (vi_of (base := w.heap.size) hle1 hC1 (fun ad e => Nat.le_trans HG.out.size (hB1 ad e))); have HG := Lib.hid (grown_belowM HG.out hb1); have hxc := HX0.out _ HX.out; clear hb1 hB1 hC1) | (go_at_fn ob; refine (HCB.out A1 c1 (ints (setL s)) A' c' (ints best) _ (vi_C HV1.out) hle1 (vi_C HV.out) hle).mono ?_; rintro e w3 ⟨he, hb3⟩; rw [HB.out] at he; subst he; have HI := Lib.hid (HBEL.out _ _ HI.out hb3); have HX := Lib.hid (below_far HX.out hb3); have HV := Lib.hid (HV.out.below hb3); have HV1 := Lib.hid (HV1.out.below hb3); have HG := Lib.hid (grown_belowM HG.out hb3); clear hb3) | (go_at_fn F; refine (HCF.out s hlt _ HI.out).mono ?_; rintro e w2 ⟨he, hi2, hg2⟩; rw [HR.out] at he; subst he; have HX := Lib.hid (blk_grownM HX.out (HIS.out _ HI.out) hg2); have hcc := grown_cells (HIS.out _ HI.out) hg2; have HV := Lib.hid (HV.out.cells hcc); have HV1 := Lib.hid (HV1.out.cells hcc); have HG := Lib.hid (grown_trans HG.out hg2); have HI := Lib.hid hi2; clear hi2 hg2 hcc))
            go_roundw
            case rel => exact ⟨s + 1, by omega, by go_num, by rw [HN.out], HX, by rw [HN.out]; exact HV1, HI, HG⟩
            case measure => simp [intOf]; omega
          | false =>
            have HN := Lib.hid (HST.out.trans (show _ = (true, best) from rfl))
            go_wp2_with (first | (go_at_call 86; (with_reducible refine (calls_listed s hs32 _).mono ?_); rintro e w1 ⟨v1, rfl, hv1, hb1⟩; obtain ⟨A1, c1, rfl, hle1, hC1, hB1⟩ := hv1; have HI := Lib.hid (HBEL.out _ _ HI.out hb1); have HX := Lib.hid (below_far HX.out hb1); have HV := Lib.hid (HV.out.below hb1); have HV1 := Lib.hid (vi_of (base := w.heap.size) hle1 hC1 (fun ad e => Nat.le_trans HG.out.size (hB1 ad e))); have HG := Lib.hid (grown_belowM HG.out hb1); have hxc := HX0.out _ HX.out; clear hb1 hB1 hC1) | (go_at_fn ob; refine (HCB.out A1 c1 (ints (setL s)) A' c' (ints best) _ (vi_C HV1.out) hle1 (vi_C HV.out) hle).mono ?_; rintro e w3 ⟨he, hb3⟩; rw [HB.out] at he; subst he; have HI := Lib.hid (HBEL.out _ _ HI.out hb3); have HX := Lib.hid (below_far HX.out hb3); have HV := Lib.hid (HV.out.below hb3); have HV1 := Lib.hid (HV1.out.below hb3); have HG := Lib.hid (grown_belowM HG.out hb3); clear hb3) | (go_at_fn F; refine (HCF.out s hlt _ HI.out).mono ?_; rintro e w2 ⟨he, hi2, hg2⟩; rw [HR.out] at he; subst he; have HX := Lib.hid (blk_grownM HX.out (HIS.out _ HI.out) hg2); have hcc := grown_cells (HIS.out _ HI.out) hg2; have HV := Lib.hid (HV.out.cells hcc); have HV1 := Lib.hid (HV1.out.cells hcc); have HG := Lib.hid (grown_trans HG.out hg2); have HI := Lib.hid hi2; clear hi2 hg2 hcc))
            go_roundw
            case rel => exact ⟨s + 1, by omega, by go_num, by rw [HN.out], HX, by rw [HN.out]; exact HV, HI, HG⟩
            case measure => simp [intOf]; omega
    · obtain rfl : s = N := by omega
      obtain ⟨fnd, best, hz⟩ : ∃ fnd best, bestTo bt is s = (fnd, best) := ⟨_, _, rfl⟩
      rw [hz] at HV hle ⊢
      simp only at hle HV ⊢
      clear HC'
      have HZ := Lib.hid hz; clear hz
      have hlen : (ints best).length < 9223372036854775808 := by have := (vi_C HV.out).2.1; omega
      go_wp2_with fail
      refine bodyPost_ret (results_tmp2 rfl _ _ _) rfl ?_
      rw [HZ.out]
      refine ⟨_, rfl, ?_, HI.out, HG.out⟩
      obtain ⟨A2, c2, h1, h2, h3, h4⟩ := HV.out
      cases h1
      exact ⟨_, _, rfl, Nat.le_refl _, h3, h4⟩
end Go.Proofs.YtekjlpldooihhaaDoorP
namespace Go.Proofs.YtekjlpldooihhaaDoorP
open Go.RowKit Go.Proofs.YtekjlpldooihhaaDoorW.PrintWords Go.Proofs.YtekjlpldooihhaaDoorW.PrintLast Go.Proofs.YtekjlpldooihhaaDoorW.PrintMore Go.Proofs.YtekjlpldooihhaaDoorH Go.Proofs.YtekjlpldooihhaaDoorEv Go.Proofs.YtekjlpldooihhaaDoor.PA
set_option linter.unusedVariables false
set_option linter.unusedSimpArgs false
theorem bk_cut {PA : Option Addr} {pc : Nat} {QA : Option Addr} {qc m : Nat} {P : List S48} {Q : List S50} (hok : Ok P Q) (t : Nat) (ht : t < 2 ^ P.length) (s : Nat) (hs : s < 2 ^ Q.length) (A : Option Addr) (c : Nat) (w : World) (hB : Bk PA QA m P Q w) (hC : Kd.C (Kd.int .i64) w A (ints (setL t)).length (ints (setL t))) (hc : (ints (setL t)).length ≤ c) :
    Calls Tryd.prog 84 #[.agg #[.slice PA P.length pc, .slice QA Q.length qc, .map (some m)], .int .i64 s, .slice A (ints (setL t)).length c] w fun e w' => e = .returned (.bool (cutB P Q (setL t) s)) ∧ Bk PA QA m P Q w' ∧ w.grownBy w' (some m) := by
  rw [ints_length] at hc ⊢
  exact calls_cut PA pc QA qc m P Q hok (setL t) (fun p hp => setL_lt ht hp) s hs A c w hB hC hc
def InvA (PA : Option Addr) (pc : Nat) (QA : Option Addr) (qc m : Nat) (P : List S48) (Q : List S50) (g : Nat) (W : World) : Prop :=
  Bk PA QA m P Q W ∧ W.heap[g]? = some (.cells #[.slice PA P.length pc, .slice QA Q.length qc, .map (some m)] 84 (0, 0))
theorem InvA.bk {PA : Option Addr} {pc : Nat} {QA : Option Addr} {qc m : Nat} {P : List S48} {Q : List S50} {g : Nat} {W : World} (h : InvA PA pc QA qc m P Q g W) : Bk PA QA m P Q W := h.1
theorem InvA.below {PA : Option Addr} {pc : Nat} {QA : Option Addr} {qc m : Nat} {P : List S48} {Q : List S50} {g : Nat} {W W1 : World} (h : InvA PA pc QA qc m P Q g W) (hb : Below W.heap.size W W1) : InvA PA pc QA qc m P Q g W1 :=
  ⟨h.1.below hb, below_far h.2 hb⟩
set_option maxRecDepth 100000 in
theorem calls_Fewest1 (PA : Option Addr) (pc : Nat) (QA : Option Addr) (qc m : Nat) (P : List S48) (Q : List S50) (hok : Ok P Q) (g : Nat) (s : Nat) (hs : s < 2 ^ P.length) (w : World) (hI : InvA PA pc QA qc m P Q g w) :
    Calls Tryd.prog 83 #[.int .i64 s, .pointer (some ⟨g, 0, none⟩)] w fun e w' => e = .returned (.bool (cutB P Q (setL s) (2 ^ Q.length - 1))) ∧ InvA PA pc QA qc m P Q g w' ∧ w.grownBy w' (some m) := by
  have hs32 : s < 32 := Nat.lt_of_lt_of_le hs (pow_small _ (by have := hok.p3; omega)).2
  have hcp := fun W => calls_parts PA P.length pc QA Q.length qc m hok.q5 W
  have hcc := fun A c W hB hC hc => bk_cut (pc := pc) (qc := qc) (PA := PA) (QA := QA) (m := m) hok s hs (2 ^ Q.length - 1) (by have := pow_small _ hok.q5; omega) A c W hB hC hc
  obtain ⟨q, hq⟩ : ∃ q : Nat, 2 ^ Q.length - 1 = q := ⟨_, rfl⟩
  rw [hq] at hcp hcc ⊢
  clear hq
  have HCP := Lib.hid hcp; have HCC := Lib.hid hcc; have HI := Lib.hid hI
  clear hcp hcc hI
  obtain ⟨b0, b1, b2⟩ : w.cell? ⟨g, 0, none⟩ = some (.slice PA P.length pc) ∧ w.cell? ⟨g, 1, none⟩ = some (.slice QA Q.length qc) ∧ w.cell? ⟨g, 2, none⟩ = some (.map (some m)) := ⟨blk_cell HI.out.2 0, blk_cell HI.out.2 1, blk_cell HI.out.2 2⟩
  go_enter Tryd.func83, Tryd.ntmps83
  go_wp2_with fail
  refine start_ (n := 7) (S := fun w' => w'.cell? ⟨g, 0, none⟩ = some (.slice PA P.length pc) ∧ w'.cell? ⟨g, 1, none⟩ = some (.slice QA Q.length qc) ∧ w'.cell? ⟨g, 2, none⟩ = some (.map (some m))) (ds := [5]) #[false, false, false, false, false, false, false] (by kernel_rfl) rfl rfl ⟨b0, b1, b2⟩ (fun hHeld => ?_)
  refine pure_ (i := 3) (N := some 7) (v := ?_) (a' := ?_) #[false, false, false, true, false, false, false] rfl rfl (by kernel_rfl) (fun _ _ _ h => h) (Or.inl ⟨by rfl, ?_⟩) ?_ ?_
  rotate_left
  · intro w'
    go_simp
    with_reducible rfl
  rotate_left
  · simp only [Act.put, List.setIfInBounds_toArray, List.set_cons_zero, List.set_cons_succ, i64_w, i32_w]
    rfl
  refine take_ (i := 0) (N := some 4) (v := ?_) (a' := ?_) #[true, false, false, true, false, false, false] rfl rfl (by kernel_rfl) (fun _ _ _ h => h) (Or.inl ⟨by rfl, ?_⟩) hHeld ?_ ?_
  rotate_left
  · rintro w' ⟨s0, s1, s2⟩
    go_simp
    with_reducible rfl
  rotate_left
  · simp only [Act.put, List.setIfInBounds_toArray, List.set_cons_zero, List.set_cons_succ, i64_w, i32_w]
    rfl
  refine take_ (i := 1) (N := some 5) (v := ?_) (a' := ?_) #[true, true, false, true, false, false, false] rfl rfl (by kernel_rfl) (fun _ _ _ h => h) (Or.inl ⟨by rfl, ?_⟩) hHeld ?_ ?_
  rotate_left
  · rintro w' ⟨s0, s1, s2⟩
    go_simp
    with_reducible rfl
  rotate_left
  · simp only [Act.put, List.setIfInBounds_toArray, List.set_cons_zero, List.set_cons_succ, i64_w, i32_w]
    rfl
  refine one_ (i := 2) (N := some 6) #[true, true, true, true, false, false, false] rfl rfl (by kernel_rfl) (by decide) (fun K hK => ?_)
  refine goes_ Tryd.func85 (by kernel_rfl) rfl #[.agg #[.slice PA P.length pc, .slice QA Q.length qc, .map (some m)]] (by rfl) rfl rfl (by first | (simp; done) | (simp only [List.map_toArray, List.map_cons, List.map_nil]; rfl)) ?_
  with_reducible refine (HCP.out _).mono ?_
  rintro e w1 ⟨rfl, hb1⟩
  have hb2 : Below w.heap.size w w1 := undrew hb1
  refine ⟨_, rfl, ?_⟩
  refine hK.out _ _ ⟨pw_cell_below hb2 b0, pw_cell_below hb2 b1, pw_cell_below hb2 b2⟩ (fun hHeld => ?_)
  clear hK K
  refine norm_ (a' := ?_) ?_ ?_
  rotate_left
  · show Act.put _ (some 6) _ = _
    simp only [Act.put, List.setIfInBounds_toArray, List.set_cons_zero, List.set_cons_succ, i64_w, i32_w]
    rfl
  refine one_ (i := 4) (N := some 8) #[true, true, true, true, true, false, false] rfl rfl (by kernel_rfl) (by decide) (fun K hK => ?_)
  refine goes_ Tryd.func86 (by kernel_rfl) rfl #[.int .i64 s] (by rfl) rfl rfl (by first | (simp; done) | (simp only [List.map_toArray, List.map_cons, List.map_nil]; rfl)) ?_
  with_reducible refine (calls_listed s hs32 _).mono ?_
  rintro e w2 ⟨v2, rfl, hv2, hb3⟩
  have hb4 : Below w.heap.size w w2 := hb2.trans (hb3.mono (below_size hb2))
  obtain ⟨A2, c2, rfl, hl2, hC2, -⟩ := hv2
  refine ⟨_, rfl, ?_⟩
  refine hK.out _ _ ⟨pw_cell_below hb4 b0, pw_cell_below hb4 b1, pw_cell_below hb4 b2⟩ (fun hHeld => ?_)
  clear hK K
  refine norm_ (a' := ?_) ?_ ?_
  rotate_left
  · show Act.put _ (some 8) _ = _
    simp only [Act.put, List.setIfInBounds_toArray, List.set_cons_zero, List.set_cons_succ, i64_w, i32_w]
    rfl
  refine last_ (i := 5) (N := some 9) #[true, true, true, true, true, true, false] rfl rfl (by kernel_rfl) (by decide) (fun K hK => ?_)
  refine goes_ Tryd.func84 (by kernel_rfl) rfl #[.agg #[.slice PA P.length pc, .slice QA Q.length qc, .map (some m)], .int .i64 q, .slice A2 (ints (setL s)).length c2] (by rfl) rfl rfl (by first | (simp; done) | (simp only [List.map_toArray, List.map_cons, List.map_nil]; rfl)) ?_
  with_reducible refine (HCC.out A2 c2 w2 (HI.out.bk.below hb4) hC2 hl2).mono ?_
  rintro e w3 ⟨rfl, hbk3, hg3⟩
  refine ⟨_, rfl, ?_⟩
  refine hK.out _ _ ?_
  clear hK K
  refine norm_ (a' := ?_) ?_ ?_
  rotate_left
  · show Act.put _ (some 9) _ = _
    simp only [Act.put, List.setIfInBounds_toArray, List.set_cons_zero, List.set_cons_succ, i64_w, i32_w]
    rfl
  refine pure_ (i := 6) (N := some 3) (v := ?_) (a' := ?_) #[true, true, true, true, true, true, true] rfl rfl (by kernel_rfl) (fun _ _ _ h => h) (Or.inl ⟨by rfl, ?_⟩) ?_ ?_
  rotate_left
  · intro w'
    go_simp
    with_reducible rfl
  rotate_left
  · simp only [Act.put, List.setIfInBounds_toArray, List.set_cons_zero, List.set_cons_succ, i64_w, i32_w]
    rfl
  refine done_ (by kernel_rfl) ?_
  clear hHeld
  go_wp2_with fail
  go_ret
  have hbb := HI.out.below hb4
  exact ⟨rfl, ⟨hbk3, blk_grownM hbb.2 hbb.1.is hg3⟩, grown_trans (grown_of_below hb4 _) hg3⟩
theorem asks_Fewest1 {PA : Option Addr} {pc : Nat} {QA : Option Addr} {qc m : Nat} {P : List S48} {Q : List S50} (hok : Ok P Q) (g : Nat) :
    Asks 83 #[.pointer (some ⟨g, 0, none⟩)] m (2 ^ P.length) (fun s => cutB P Q (setL s) (2 ^ Q.length - 1)) (InvA PA pc QA qc m P Q g) :=
  ⟨fun s hs w hI => calls_Fewest1 PA pc QA qc m P Q hok g s hs w hI, ⟨_, Tryd.func83, by kernel_rfl, rfl⟩, fun W W' h hb => h.below hb, fun W h => h.1.is⟩
def InvB (PA : Option Addr) (pc : Nat) (QA : Option Addr) (qc m : Nat) (P : List S48) (Q : List S50) (g k : Nat) (W : World) : Prop :=
  Bk PA QA m P Q W ∧ W.heap[g]? = some (.cells #[.slice PA P.length pc, .slice QA Q.length qc, .map (some m)] 84 (0, 0)) ∧ W.heap[k]? = some (.cells #[.func (.func 84) #[.agg #[.slice PA P.length pc, .slice QA Q.length qc, .map (some m)]] #[]] 109 (0, 0))
theorem InvB.bk {PA : Option Addr} {pc : Nat} {QA : Option Addr} {qc m : Nat} {P : List S48} {Q : List S50} {g k : Nat} {W : World} (h : InvB PA pc QA qc m P Q g k W) : Bk PA QA m P Q W := h.1
theorem InvB.below {PA : Option Addr} {pc : Nat} {QA : Option Addr} {qc m : Nat} {P : List S48} {Q : List S50} {g k : Nat} {W W1 : World} (h : InvB PA pc QA qc m P Q g k W) (hb : Below W.heap.size W W1) : InvB PA pc QA qc m P Q g k W1 :=
  ⟨h.1.below hb, below_far h.2.1 hb, below_far h.2.2 hb⟩
set_option maxRecDepth 100000 in
theorem calls_most1 (PA : Option Addr) (pc : Nat) (QA : Option Addr) (qc m : Nat) (P : List S48) (Q : List S50) (hok : Ok P Q) (g k : Nat) (s : Nat) (hs : s < 2 ^ Q.length) (w : World) (hI : InvB PA pc QA qc m P Q g k w) :
    Calls Tryd.prog 108 #[.int .i64 s, .pointer (some ⟨k, 0, none⟩), .pointer (some ⟨g, 0, none⟩)] w fun e w' => e = .returned (.bool (cutB P Q (setL (2 ^ P.length - 1)) s)) ∧ InvB PA pc QA qc m P Q g k w' ∧ w.grownBy w' (some m) := by
  have hp5 : P.length ≤ 5 := by have := hok.p3; omega
  have hcp := fun W => calls_planks PA P.length pc QA Q.length qc m hp5 W
  have hcc := fun A c W hB hC hc => bk_cut (pc := pc) (qc := qc) (PA := PA) (QA := QA) (m := m) hok (2 ^ P.length - 1) (by have := pow_small _ hp5; omega) s hs A c W hB hC hc
  obtain ⟨q, hq⟩ : ∃ q : Nat, 2 ^ P.length - 1 = q := ⟨_, rfl⟩
  rw [hq] at hcp hcc ⊢
  clear hq
  have HCP := Lib.hid hcp; have HCC := Lib.hid hcc; have HI := Lib.hid hI
  clear hcp hcc hI
  obtain ⟨b0, b1, b2⟩ : w.cell? ⟨g, 0, none⟩ = some (.slice PA P.length pc) ∧ w.cell? ⟨g, 1, none⟩ = some (.slice QA Q.length qc) ∧ w.cell? ⟨g, 2, none⟩ = some (.map (some m)) := ⟨blk_cell HI.out.2.1 0, blk_cell HI.out.2.1 1, blk_cell HI.out.2.1 2⟩
  have b3 : w.cell? ⟨k, 0, none⟩ = some (.func (.func 84) #[.agg #[.slice PA P.length pc, .slice QA Q.length qc, .map (some m)]] #[]) := blk_cell HI.out.2.2 0
  have hfn0 := Tryd.func84
  go_enter Tryd.func108, Tryd.ntmps108
  go_wp2_with fail
  refine start_ (n := 6) (S := fun w' => w'.cell? ⟨g, 0, none⟩ = some (.slice PA P.length pc) ∧ w'.cell? ⟨g, 1, none⟩ = some (.slice QA Q.length qc) ∧ w'.cell? ⟨g, 2, none⟩ = some (.map (some m)) ∧ w'.cell? ⟨k, 0, none⟩ = some (.func (.func 84) #[.agg #[.slice PA P.length pc, .slice QA Q.length qc, .map (some m)]] #[])) (ds := [4]) #[false, false, false, false, false, false] (by kernel_rfl) rfl rfl ⟨b0, b1, b2, b3⟩ (fun hHeld => ?_)
  refine pure_ (i := 1) (N := some 6) (v := ?_) (a' := ?_) #[false, true, false, false, false, false] rfl rfl (by kernel_rfl) (fun _ _ _ h => h) (Or.inl ⟨by rfl, ?_⟩) ?_ ?_
  rotate_left
  · intro w'
    go_simp
    with_reducible rfl
  rotate_left
  · simp only [Act.put, List.setIfInBounds_toArray, List.set_cons_zero, List.set_cons_succ, i64_w, i32_w]
    rfl
  refine take_ (i := 0) (N := some 5) (v := ?_) (a' := ?_) #[true, true, false, false, false, false] rfl rfl (by kernel_rfl) (fun _ _ _ h => h) (Or.inl ⟨by rfl, ?_⟩) hHeld ?_ ?_
  rotate_left
  · rintro w' ⟨s0, s1, s2, s3⟩
    go_simp
    with_reducible rfl
  rotate_left
  · simp only [Act.put, List.setIfInBounds_toArray, List.set_cons_zero, List.set_cons_succ, i64_w, i32_w]
    rfl
  refine take_ (i := 2) (N := some 7) (v := ?_) (a' := ?_) #[true, true, true, false, false, false] rfl rfl (by kernel_rfl) (fun _ _ _ h => h) (Or.inl ⟨by rfl, ?_⟩) hHeld ?_ ?_
  rotate_left
  · rintro w' ⟨s0, s1, s2, s3⟩
    go_simp
    with_reducible rfl
  rotate_left
  · simp only [Act.put, List.setIfInBounds_toArray, List.set_cons_zero, List.set_cons_succ, i64_w, i32_w]
    rfl
  refine one_ (i := 3) (N := some 8) #[true, true, true, true, false, false] rfl rfl (by kernel_rfl) (by decide) (fun K hK => ?_)
  refine goes_ Tryd.func90 (by kernel_rfl) rfl #[.agg #[.slice PA P.length pc, .slice QA Q.length qc, .map (some m)]] (by rfl) rfl rfl (by first | (simp; done) | (simp only [List.map_toArray, List.map_cons, List.map_nil]; rfl)) ?_
  with_reducible refine (HCP.out _).mono ?_
  rintro e w2 ⟨v2, rfl, hv2, hb3⟩
  have hb4 : Below w.heap.size w w2 := undrew hb3
  obtain ⟨A2, c2, rfl, hl2, hC2, -⟩ := hv2
  refine ⟨_, rfl, ?_⟩
  refine hK.out _ _ ⟨pw_cell_below hb4 b0, pw_cell_below hb4 b1, pw_cell_below hb4 b2, pw_cell_below hb4 b3⟩ (fun hHeld => ?_)
  clear hK K
  refine norm_ (a' := ?_) ?_ ?_
  rotate_left
  · show Act.put _ (some 8) _ = _
    simp only [Act.put, List.setIfInBounds_toArray, List.set_cons_zero, List.set_cons_succ, i64_w, i32_w]
    rfl
  refine last_ (i := 4) (N := some 9) #[true, true, true, true, true, false] rfl rfl (by kernel_rfl) (by decide) (fun K hK => ?_)
  refine goesV_ hfn0 (by kernel_rfl) rfl #[.agg #[.slice PA P.length pc, .slice QA Q.length qc, .map (some m)], .int .i64 s, .slice A2 (ints (setL q)).length c2] (by rfl) rfl rfl rfl (by (try simp only [Array.empty_append, Array.append_empty, List.map_toArray, List.map_cons, List.map_nil, List.append_toArray, List.nil_append, List.append_nil, List.cons_append]); rfl) ?_
  with_reducible refine (HCC.out A2 c2 w2 (HI.out.bk.below hb4) hC2 hl2).mono ?_
  rintro e w3 ⟨rfl, hbk3, hg3⟩
  refine ⟨_, rfl, ?_⟩
  refine hK.out _ _ ?_
  clear hK K
  refine norm_ (a' := ?_) ?_ ?_
  rotate_left
  · show Act.put _ (some 9) _ = _
    simp only [Act.put, List.setIfInBounds_toArray, List.set_cons_zero, List.set_cons_succ, i64_w, i32_w]
    rfl
  refine pure_ (i := 5) (N := some 4) (v := ?_) (a' := ?_) #[true, true, true, true, true, true] rfl rfl (by kernel_rfl) (fun _ _ _ h => h) (Or.inl ⟨by rfl, ?_⟩) ?_ ?_
  rotate_left
  · intro w'
    go_simp
    with_reducible rfl
  rotate_left
  · simp only [Act.put, List.setIfInBounds_toArray, List.set_cons_zero, List.set_cons_succ, i64_w, i32_w]
    rfl
  refine done_ (by kernel_rfl) ?_
  clear hHeld
  go_wp2_with fail
  go_ret
  have hbb := HI.out.below hb4
  exact ⟨rfl, ⟨hbk3, blk_grownM hbb.2.1 hbb.1.is hg3, blk_grownM hbb.2.2 hbb.1.is hg3⟩, grown_trans (grown_of_below hb4 _) hg3⟩
theorem asks_most1 {PA : Option Addr} {pc : Nat} {QA : Option Addr} {qc m : Nat} {P : List S48} {Q : List S50} (hok : Ok P Q) (g k : Nat) :
    Asks 108 #[.pointer (some ⟨k, 0, none⟩), .pointer (some ⟨g, 0, none⟩)] m (2 ^ Q.length) (fun s => cutB P Q (setL (2 ^ P.length - 1)) s) (InvB PA pc QA qc m P Q g k) :=
  ⟨fun s hs w hI => calls_most1 PA pc QA qc m P Q hok g k s hs w hI, ⟨_, Tryd.func108, by kernel_rfl, rfl⟩, fun W W' h hb => h.below hb, fun W h => h.1.is⟩
def mostN (P : List S48) (Q : List S50) : List Nat := (bestTo moreL (fun s => cutB P Q (setL (2 ^ P.length - 1)) s) (2 ^ Q.length)).2
set_option maxRecDepth 100000 in
theorem calls_most (PA : Option Addr) (pc : Nat) (QA : Option Addr) (qc m : Nat) (P : List S48) (Q : List S50) (hok : Ok P Q) (w : World) (hB : Bk PA QA m P Q w) :
    Calls Tryd.prog 79 #[.agg #[.slice PA P.length pc, .slice QA Q.length qc, .map (some m)]] w fun e w' => ∃ v, e = .returned v ∧ VI w.heap.size w' v (ints (mostN P Q)) ∧ Bk PA QA m P Q w' ∧ w.grownBy w' (some m) := by
  obtain ⟨n0, n1, n2, n3⟩ := new2 w (.cells #[.slice PA P.length pc, .slice QA Q.length qc, .map (some m)] 84) (.cells #[.func (.func 84) #[.agg #[.slice PA P.length pc, .slice QA Q.length qc, .map (some m)]] #[]] 109)
  have hmw := hB.lt
  have HI := Lib.hid (show InvB PA pc QA qc m P Q w.heap.size (w.heap.size + 1) ((w.alloc (.cells #[.slice PA P.length pc, .slice QA Q.length qc, .map (some m)] 84)).alloc (.cells #[.func (.func 84) #[.agg #[.slice PA P.length pc, .slice QA Q.length qc, .map (some m)]] #[]] 109)) from ⟨hB.below n2, n0, n1⟩)
  have HN := Lib.hid n2
  clear n0 n1 n2 n3 hB
  go_enter Tryd.func79, Tryd.ntmps79
  go_wp2_with fail
  generalize (w.alloc (.cells #[.slice PA P.length pc, .slice QA Q.length qc, .map (some m)] 84)).alloc (.cells #[.func (.func 84) #[.agg #[.slice PA P.length pc, .slice QA Q.length qc, .map (some m)]] #[]] 109) = W at HI HN ⊢
  have c0 : W.cell? ⟨w.heap.size, 1, none⟩ = some (.slice QA Q.length qc) := blk_cell HI.out.2.1 1
  have HCB := Lib.hid (fun W' hI hm => calls_best 113 moreL better_many 108 #[.pointer (some ⟨w.heap.size + 1, 0, none⟩), .pointer (some ⟨w.heap.size, 0, none⟩)] m Q.length hok.q5 _ _ (asks_most1 (PA := PA) (pc := pc) (QA := QA) (qc := qc) hok w.heap.size (w.heap.size + 1)) W' hI hm)
  refine start_ (n := 12) (S := fun w' => w'.cell? ⟨w.heap.size, 1, none⟩ = some (.slice QA Q.length qc)) (ds := [6]) #[false, false, false, false, false, false, false, false, false, false, false, false] (by kernel_rfl) rfl rfl (c0) (fun hHeld => ?_)
  refine pure_ (i := 1) (N := some 10) (v := ?_) (a' := ?_) #[false, true, false, false, false, false, false, false, false, false, false, false] rfl rfl (by kernel_rfl) (fun _ _ _ h => h) (Or.inl ⟨by rfl, ?_⟩) ?_ ?_
  rotate_left
  · intro w'
    go_simp
    with_reducible rfl
  rotate_left
  · simp only [Act.put, List.setIfInBounds_toArray, List.set_cons_zero, List.set_cons_succ, i64_w, i32_w]
    rfl
  refine pure_ (i := 2) (N := some 11) (v := ?_) (a' := ?_) #[false, true, true, false, false, false, false, false, false, false, false, false] rfl rfl (by kernel_rfl) (fun _ _ _ h => h) (Or.inl ⟨by rfl, ?_⟩) ?_ ?_
  rotate_left
  · intro w'
    go_simp
    with_reducible rfl
  rotate_left
  · simp only [Act.put, List.setIfInBounds_toArray, List.set_cons_zero, List.set_cons_succ, i64_w, i32_w]
    rfl
  refine pure_ (i := 5) (N := some 14) (v := ?_) (a' := ?_) #[false, true, true, false, false, true, false, false, false, false, false, false] rfl rfl (by kernel_rfl) (fun _ _ _ h => h) (Or.inl ⟨by rfl, ?_⟩) ?_ ?_
  rotate_left
  · intro w'
    go_simp
    with_reducible rfl
  rotate_left
  · simp only [Act.put, List.setIfInBounds_toArray, List.set_cons_zero, List.set_cons_succ, i64_w, i32_w]
    rfl
  refine take_ (i := 3) (N := some 12) (v := ?_) (a' := ?_) #[false, true, true, true, false, true, false, false, false, false, false, false] rfl rfl (by kernel_rfl) (fun _ _ _ h => h) (Or.inl ⟨by rfl, ?_⟩) hHeld ?_ ?_
  rotate_left
  · intro w' s0
    go_simp
    with_reducible rfl
  rotate_left
  · simp only [Act.put, List.setIfInBounds_toArray, List.set_cons_zero, List.set_cons_succ, i64_w, i32_w]
    rfl
  refine pure_ (i := 4) (N := some 13) (v := ?_) (a' := ?_) #[false, true, true, true, true, true, false, false, false, false, false, false] rfl rfl (by kernel_rfl) (fun _ _ _ h => h) (Or.inl ⟨by rfl, ?_⟩) ?_ ?_
  rotate_left
  · intro w'
    go_simp
    with_reducible rfl
  rotate_left
  · simp only [Act.put, List.setIfInBounds_toArray, List.set_cons_zero, List.set_cons_succ, i64_w, i32_w]
    rfl
  refine one_ (i := 0) (N := some 9) #[true, true, true, true, true, true, false, false, false, false, false, false] rfl rfl (by kernel_rfl) (by decide) (fun K hK => ?_)
  refine goes_ Tryd.func107 (by kernel_rfl) rfl #[] (by rfl) rfl rfl (by first | (simp; done) | (simp only [List.map_toArray, List.map_cons, List.map_nil]; rfl)) ?_
  with_reducible refine (calls_many _).mono ?_
  rintro e w1 ⟨rfl, hb1⟩
  have hb2 : Below W.heap.size W w1 := undrew hb1
  refine ⟨_, rfl, ?_⟩
  refine hK.out _ _ (pw_cell_below hb2 c0) (fun hHeld => ?_)
  clear hK K
  refine norm_ (a' := ?_) ?_ ?_
  rotate_left
  · show Act.put _ (some 9) _ = _
    simp only [Act.put, List.setIfInBounds_toArray, List.set_cons_zero, List.set_cons_succ, i64_w, i32_w]
    rfl
  refine last_ (i := 6) (N := some 15) #[true, true, true, true, true, true, true, false, false, false, false, false] rfl rfl (by kernel_rfl) (by decide) (fun K hK => ?_)
  refine goes_ Tryd.func82 (by kernel_rfl) rfl #[.agg #[.func (.func 113) #[] #[]], .int .i64 Q.length, .func (.func 108) #[] #[.pointer (some ⟨w.heap.size + 1, 0, none⟩), .pointer (some ⟨w.heap.size, 0, none⟩)]] (by rfl) rfl rfl (by first | (simp; done) | (simp only [List.map_toArray, List.map_cons, List.map_nil]; rfl)) ?_
  with_reducible refine (HCB.out w1 (HI.out.below hb2) (Nat.lt_of_lt_of_le hmw (below_size (HN.out.trans (hb2.mono (below_size HN.out)))))).mono ?_
  rintro e w2 ⟨v2, rfl, hv2, hi2, hg2⟩
  refine ⟨_, rfl, ?_⟩
  refine hK.out _ _ ?_
  clear hK K
  refine norm_ (a' := ?_) ?_ ?_
  rotate_left
  · show Act.put _ (some 15) _ = _
    simp only [Act.put, List.setIfInBounds_toArray, List.set_cons_zero, List.set_cons_succ, i64_w, i32_w]
    rfl
  refine pure_ (i := 7) (N := some 8) (v := ?_) (a' := ?_) #[true, true, true, true, true, true, true, true, false, false, false, false] rfl rfl (by kernel_rfl) (fun _ _ _ h => h) (Or.inl ⟨by rfl, ?_⟩) ?_ ?_
  rotate_left
  · intro w'
    go_simp
    with_reducible rfl
  rotate_left
  · simp only [Act.put, List.setIfInBounds_toArray, List.set_cons_zero, List.set_cons_succ, i64_w, i32_w]
    rfl
  refine pure_ (i := 8) (N := some 16) (v := ?_) (a' := ?_) #[true, true, true, true, true, true, true, true, true, false, false, false] rfl rfl (by kernel_rfl) (fun _ _ _ h => h) (Or.inl ⟨by rfl, ?_⟩) ?_ ?_
  rotate_left
  · intro w'
    go_simp
    with_reducible rfl
  rotate_left
  · simp only [Act.put, List.setIfInBounds_toArray, List.set_cons_zero, List.set_cons_succ, i64_w, i32_w]
    rfl
  refine pure_ (i := 9) (N := some 17) (v := ?_) (a' := ?_) #[true, true, true, true, true, true, true, true, true, true, false, false] rfl rfl (by kernel_rfl) (fun _ _ _ h => h) (Or.inl ⟨by rfl, ?_⟩) ?_ ?_
  rotate_left
  · intro w'
    go_simp
    with_reducible rfl
  rotate_left
  · simp only [Act.put, List.setIfInBounds_toArray, List.set_cons_zero, List.set_cons_succ, i64_w, i32_w]
    rfl
  refine pure_ (i := 10) (N := some 4) (v := ?_) (a' := ?_) #[true, true, true, true, true, true, true, true, true, true, true, false] rfl rfl (by kernel_rfl) (fun _ _ _ h => h) (Or.inl ⟨by rfl, ?_⟩) ?_ ?_
  rotate_left
  · intro w'
    go_simp
    with_reducible rfl
  rotate_left
  · simp only [Act.put, List.setIfInBounds_toArray, List.set_cons_zero, List.set_cons_succ, i64_w, i32_w]
    rfl
  refine pure_ (i := 11) (N := some 5) (v := ?_) (a' := ?_) #[true, true, true, true, true, true, true, true, true, true, true, true] rfl rfl (by kernel_rfl) (fun _ _ _ h => h) (Or.inl ⟨by rfl, ?_⟩) ?_ ?_
  rotate_left
  · intro w'
    go_simp
    with_reducible rfl
  rotate_left
  · simp only [Act.put, List.setIfInBounds_toArray, List.set_cons_zero, List.set_cons_succ, i64_w, i32_w]
    rfl
  refine done_ (by kernel_rfl) ?_
  clear hHeld
  have hbb : Below w.heap.size w w1 := HN.out.trans (hb2.mono (below_size HN.out))
  have HV2 := Lib.hid hv2; have HI2 := Lib.hid hi2; have HG2 := Lib.hid hg2; have HBB := Lib.hid hbb
  clear hv2 hi2 hg2 hbb
  go_wp2_with fail
  go_ret
  obtain ⟨A, c, h5, h6, h7, h8⟩ := HV2.out
  exact ⟨_, rfl, ⟨A, c, h5, h6, h7, fun ad e => Nat.le_trans (below_size HBB.out) (h8 ad e)⟩, HI2.out.1, grown_trans (grown_of_below HBB.out _) HG2.out⟩
end Go.Proofs.YtekjlpldooihhaaDoorP
namespace Go.Proofs.YtekjlpldooihhaaDoorP
open Go.RowKit Go.Proofs.YtekjlpldooihhaaDoorW.PrintWords Go.Proofs.YtekjlpldooihhaaDoorW.PrintLast Go.Proofs.YtekjlpldooihhaaDoorW.PrintMore Go.Proofs.YtekjlpldooihhaaDoorH Go.Proofs.YtekjlpldooihhaaDoorEv Go.Proofs.YtekjlpldooihhaaDoor.PA
set_option linter.unusedVariables false
set_option linter.unusedSimpArgs false
def mostP (P : List S48) (Q : List S50) : List Int × Int := if validB P Q then (ints (mostN P Q), 0) else ([], 10)
theorem mostP_no {P : List S48} {Q : List S50} (h : validB P Q = false) : mostP P Q = ([], 10) := by unfold mostP; rw [h]; rfl
theorem mostP_yes {P : List S48} {Q : List S50} (h : validB P Q = true) : mostP P Q = (ints (mostN P Q), 0) := by unfold mostP; rw [h]; rfl
theorem checkP_no {P : List S48} {Q : List S50} (h : validB P Q = false) : checkP P Q = 10 := by unfold checkP; rw [h]; rfl
theorem checkP_yes {P : List S48} {Q : List S50} (h : validB P Q = true) : checkP P Q = 0 := by unfold checkP; rw [h]; rfl
set_option maxRecDepth 100000 in
theorem calls_Most (PA : Option Addr) (pc : Nat) (P : List S48) (QA : Option Addr) (qc : Nat) (Q : List S50) (w : World) (hP : Kd.C k48 w PA P.length P) (hpc : P.length ≤ pc) (hQ : Kd.C k50 w QA Q.length Q) (hqc : Q.length ≤ qc) (hG : Glob w) :
    Calls Tryd.prog 26 #[.agg #[.slice PA P.length pc, .slice QA Q.length qc]] w fun e w' => ∃ v, e = .returned (.tuple #[v, .int .i64 (mostP P Q).2]) ∧ Kd.V (Kd.int .i64) 3 w' w.heap.size (fun k => w.heap.size ≤ k) v (mostP P Q).1 ∧ Below w.heap.size w w' := by
  obtain ⟨n0, n1, n2⟩ := new1 w (.cells #[.slice PA P.length pc, .slice QA Q.length qc] 25)
  have HP := Lib.hid (Kd.C_below hP n1); have HQ := Lib.hid (Kd.C_below hQ n1); have HG := Lib.hid (hG.below n1); have HX := Lib.hid n0; have HB := Lib.hid n1
  clear n0 n1 n2 hP hQ hG
  cases hv : validB P Q with
  | false =>
    have hck := checkP_no hv
    rw [mostP_no hv]
    go_enter Tryd.func26, Tryd.ntmps26
    go_wp2_with (go_at_call 18; (with_reducible refine (calls_Check PA pc P QA qc Q _ HP.out hpc HQ.out hqc).mono ?_); rintro e w1 ⟨he, hb⟩; rw [hck] at he; subst he; have HB := Lib.hid (HB.out.trans (hb.mono (below_size HB.out))))
    exact bodyPost_ret (results_tmp2 rfl _ _ _) rfl ⟨_, rfl, Kd.V_nil _ _ _ _ _, HB.out⟩
  | true =>
    have hck := checkP_yes hv
    have hok := valid_ok hv
    rw [mostP_yes hv]
    clear hv
    go_enter Tryd.func26, Tryd.ntmps26
    go_wp2_with (first | (go_at_call 18; (with_reducible refine (calls_Check PA pc P QA qc Q _ HP.out hpc HQ.out hqc).mono ?_); rintro e w1 ⟨he, hb⟩; rw [hck] at he; subst he; have HP := Lib.hid (Kd.C_below HP.out hb); have HQ := Lib.hid (Kd.C_below HQ.out hb); have HG := Lib.hid (HG.out.below hb); have HX := Lib.hid (below_far HX.out hb); have HB := Lib.hid (HB.out.trans (hb.mono (below_size HB.out))); obtain ⟨c0, c1⟩ : w1.cell? ⟨w.heap.size, 0, none⟩ = some (.slice PA P.length pc) ∧ w1.cell? ⟨w.heap.size, 1, none⟩ = some (.slice QA Q.length qc) := ⟨blk_cell HX.out 0, blk_cell HX.out 1⟩; clear hb) | (go_at_call 60; (with_reducible refine (calls_opened PA pc QA qc P Q _ HG.out HP.out HQ.out).mono ?_); rintro e w2 ⟨m, rfl, hbk, hm, hb⟩; have hm := Nat.le_trans (below_size HB.out) hm; have HB := Lib.hid (HB.out.trans (hb.mono (below_size HB.out)))) | (go_at_call 79; (with_reducible refine (calls_most PA pc QA qc m P Q hok _ hbk).mono ?_); rintro e w3 ⟨v3, rfl, hv3, hbk3, hg3⟩))
    obtain ⟨A, c, rfl, h6, h7, h8⟩ := hv3
    refine bodyPost_ret (results_tmp2 rfl _ _ _) rfl ⟨_, rfl, ?_, grown_Below HB.out hm hg3⟩
    exact (show VI w.heap.size w3 (.slice A (ints (mostN P Q)).length c) (ints (mostN P Q)) from ⟨A, c, rfl, h6, h7, fun ad e => Nat.le_trans (below_size HB.out) (h8 ad e)⟩).V
def inB (n : Int) (l : Nat) : Bool := decide (0 ≤ n) && decide (n ≤ (l : Int) - 1)
def canP (P : List S48) (Q : List S50) (i p a : Int) : Int × Int :=
  if validB P Q then if inB i P.length && (inB p Q.length && liesB (P.getD i.toNat z48) (Q.getD p.toNat z50) a) then (((canN (P.getD i.toNat z48) (Q.getD p.toNat z50) a.toNat : Nat) : Int), 0) else (0, 11) else (0, 10)
theorem in_nat {n : Int} {l : Nat} (h : inB n l = true) : ∃ k : Nat, n = (k : Int) ∧ k < l := by
  unfold inB at h
  simp only [Bool.and_eq_true, decide_eq_true_eq] at h
  exact ⟨n.toNat, by omega, by omega⟩
set_option maxRecDepth 100000 in
set_option maxHeartbeats 1000000 in
theorem calls_Can (PA : Option Addr) (pc : Nat) (P : List S48) (QA : Option Addr) (qc : Nat) (Q : List S50) (i p a : Int) (w : World) (hP : Kd.C k48 w PA P.length P) (hpc : P.length ≤ pc) (hQ : Kd.C k50 w QA Q.length Q) (hqc : Q.length ≤ qc) (hG : Glob w) :
    Calls Tryd.prog 16 #[.agg #[.slice PA P.length pc, .slice QA Q.length qc], .int .i64 i, .int .i64 p, .int .i64 a] w fun e w' => e = .returned (.tuple #[.int .i64 (canP P Q i p a).1, .int .i64 (canP P Q i p a).2]) ∧ Below w.heap.size w w' := by
  obtain ⟨n0, n1, n2⟩ := new1 w (.cells #[.slice PA P.length pc, .slice QA Q.length qc] 25)
  have HP := Lib.hid (Kd.C_below hP n1); have HQ := Lib.hid (Kd.C_below hQ n1); have HG := Lib.hid (hG.below n1); have HX := Lib.hid n0; have HB := Lib.hid n1
  clear n0 n1 n2 hP hQ hG
  cases hv : validB P Q with
  | false =>
    have hck := checkP_no hv
    rw [show canP P Q i p a = (0, 10) from by unfold canP; rw [hv]; rfl]
    go_enter Tryd.func16, Tryd.ntmps16
    go_wp2_with (go_at_call 18; (with_reducible refine (calls_Check PA pc P QA qc Q _ HP.out hpc HQ.out hqc).mono ?_); rintro e w1 ⟨he, hb⟩; rw [hck] at he; subst he; have HB := Lib.hid (HB.out.trans (hb.mono (below_size HB.out))))
    exact bodyPost_ret (results_tmp2 rfl _ _ _) rfl ⟨rfl, HB.out⟩
  | true =>
    have hck := checkP_yes hv
    have hok := valid_ok hv
    have hcan : canP P Q i p a = if inB i P.length && (inB p Q.length && liesB (P.getD i.toNat z48) (Q.getD p.toNat z50) a) then (((canN (P.getD i.toNat z48) (Q.getD p.toNat z50) a.toNat : Nat) : Int), 0) else (0, 11) := by unfold canP; rw [hv]; rfl
    rw [hcan]
    clear hv hcan
    have hcpl := fun W hPW hQW => calls_isPlank PA pc P QA qc Q i W hPW hpc hQW hqc
    have hcpa := fun W hPW hQW => calls_isPart PA pc P QA qc Q p W hPW hpc hQW hqc
    rw [show (decide (0 ≤ i) && decide (i ≤ (P.length : Int) - 1)) = inB i P.length from rfl] at hcpl
    rw [show (decide (0 ≤ p) && decide (p ≤ (Q.length : Int) - 1)) = inB p Q.length from rfl] at hcpa
    have HCL := Lib.hid hcpl; have HCA := Lib.hid hcpa; clear hcpl hcpa
    obtain ⟨e1, h1⟩ : ∃ e1, inB i P.length = e1 := ⟨_, rfl⟩
    obtain ⟨e2, h2⟩ : ∃ e2, inB p Q.length = e2 := ⟨_, rfl⟩
    rw [h1, h2]
    rw [h1] at HCL
    rw [h2] at HCA
    go_enter Tryd.func16, Tryd.ntmps16
    cases e1 with
    | false =>
      go_wp2_with (first | (go_at_call 18; (with_reducible refine (calls_Check PA pc P QA qc Q _ HP.out hpc HQ.out hqc).mono ?_); rintro e w1 ⟨he, hb⟩; rw [hck] at he; subst he; have HP := Lib.hid (Kd.C_below HP.out hb); have HQ := Lib.hid (Kd.C_below HQ.out hb); have HG := Lib.hid (HG.out.below hb); have HX := Lib.hid (below_far HX.out hb); have HB := Lib.hid (HB.out.trans (hb.mono (below_size HB.out))); obtain ⟨c0, c1⟩ : w1.cell? ⟨w.heap.size, 0, none⟩ = some (.slice PA P.length pc) ∧ w1.cell? ⟨w.heap.size, 1, none⟩ = some (.slice QA Q.length qc) := ⟨blk_cell HX.out 0, blk_cell HX.out 1⟩; clear hb) | (go_at_call 60; (with_reducible refine (calls_opened PA pc QA qc P Q _ HG.out HP.out HQ.out).mono ?_); rintro e w2 ⟨m, rfl, hbk, hm, hb⟩; have hm := Nat.le_trans (below_size HB.out) hm; obtain ⟨n0, n1, n2, n3⟩ := new2 w2 (.cells #[.slice PA P.length pc, .slice QA Q.length qc, .map (some m)] 84) (.cells #[.int .i64 i, .int .i64 p, .int .i64 a] 87); have hxl := blk_lt (below_far HX.out hb); have hxl2 := Nat.lt_succ_of_lt hxl; have HX := Lib.hid (below_far (below_far HX.out hb) n2); have HP := Lib.hid (Kd.C_below (Kd.C_below HP.out hb) n2); have HQ := Lib.hid (Kd.C_below (Kd.C_below HQ.out hb) n2); have HB := Lib.hid (HB.out.trans ((hb.mono (below_size HB.out)).trans (n2.mono (Nat.le_trans (below_size HB.out) (below_size hb))))); have HBK := Lib.hid (hbk.below n2); have HK := Lib.hid n0; have HS := Lib.hid n1; have HMW := Lib.hid hm; clear hb hbk c0 c1 n0 n1 n2 n3 hm; obtain ⟨c0, c1⟩ : ((w2.alloc (.cells #[.slice PA P.length pc, .slice QA Q.length qc, .map (some m)] 84)).alloc (.cells #[.int .i64 i, .int .i64 p, .int .i64 a] 87)).cell? ⟨w.heap.size, 0, none⟩ = some (.slice PA P.length pc) ∧ ((w2.alloc (.cells #[.slice PA P.length pc, .slice QA Q.length qc, .map (some m)] 84)).alloc (.cells #[.int .i64 i, .int .i64 p, .int .i64 a] 87)).cell? ⟨w.heap.size, 1, none⟩ = some (.slice QA Q.length qc) := ⟨blk_cell HX.out 0, blk_cell HX.out 1⟩; obtain ⟨k0, k1, k2⟩ : ((w2.alloc (.cells #[.slice PA P.length pc, .slice QA Q.length qc, .map (some m)] 84)).alloc (.cells #[.int .i64 i, .int .i64 p, .int .i64 a] 87)).cell? ⟨w2.heap.size, 0, none⟩ = some (.slice PA P.length pc) ∧ ((w2.alloc (.cells #[.slice PA P.length pc, .slice QA Q.length qc, .map (some m)] 84)).alloc (.cells #[.int .i64 i, .int .i64 p, .int .i64 a] 87)).cell? ⟨w2.heap.size, 1, none⟩ = some (.slice QA Q.length qc) ∧ ((w2.alloc (.cells #[.slice PA P.length pc, .slice QA Q.length qc, .map (some m)] 84)).alloc (.cells #[.int .i64 i, .int .i64 p, .int .i64 a] 87)).cell? ⟨w2.heap.size, 2, none⟩ = some (.map (some m)) := ⟨blk_cell HK.out 0, blk_cell HK.out 1, blk_cell HK.out 2⟩; obtain ⟨s0, s1, s2⟩ : ((w2.alloc (.cells #[.slice PA P.length pc, .slice QA Q.length qc, .map (some m)] 84)).alloc (.cells #[.int .i64 i, .int .i64 p, .int .i64 a] 87)).cell? ⟨w2.heap.size + 1, 0, none⟩ = some (.int .i64 i) ∧ ((w2.alloc (.cells #[.slice PA P.length pc, .slice QA Q.length qc, .map (some m)] 84)).alloc (.cells #[.int .i64 i, .int .i64 p, .int .i64 a] 87)).cell? ⟨w2.heap.size + 1, 1, none⟩ = some (.int .i64 p) ∧ ((w2.alloc (.cells #[.slice PA P.length pc, .slice QA Q.length qc, .map (some m)] 84)).alloc (.cells #[.int .i64 i, .int .i64 p, .int .i64 a] 87)).cell? ⟨w2.heap.size + 1, 2, none⟩ = some (.int .i64 a) := ⟨blk_cell HS.out 0, blk_cell HS.out 1, blk_cell HS.out 2⟩) | (go_at_call 61; (with_reducible refine (HCL.out _ HP.out HQ.out).mono ?_); rintro e w3 ⟨rfl, hb⟩; have HX := Lib.hid (below_far HX.out hb); have HP := Lib.hid (Kd.C_below HP.out hb); have HQ := Lib.hid (Kd.C_below HQ.out hb); have HB := Lib.hid (HB.out.trans (hb.mono (below_size HB.out))); have HBK := Lib.hid (HBK.out.below hb); have HK := Lib.hid (below_far HK.out hb); have HS := Lib.hid (below_far HS.out hb); clear hb c0 c1 k0 k1 k2 s0 s1 s2; obtain ⟨c0, c1⟩ : w3.cell? ⟨w.heap.size, 0, none⟩ = some (.slice PA P.length pc) ∧ w3.cell? ⟨w.heap.size, 1, none⟩ = some (.slice QA Q.length qc) := ⟨blk_cell HX.out 0, blk_cell HX.out 1⟩; obtain ⟨k0, k1, k2⟩ : w3.cell? ⟨w2.heap.size, 0, none⟩ = some (.slice PA P.length pc) ∧ w3.cell? ⟨w2.heap.size, 1, none⟩ = some (.slice QA Q.length qc) ∧ w3.cell? ⟨w2.heap.size, 2, none⟩ = some (.map (some m)) := ⟨blk_cell HK.out 0, blk_cell HK.out 1, blk_cell HK.out 2⟩; obtain ⟨s0, s1, s2⟩ : w3.cell? ⟨w2.heap.size + 1, 0, none⟩ = some (.int .i64 i) ∧ w3.cell? ⟨w2.heap.size + 1, 1, none⟩ = some (.int .i64 p) ∧ w3.cell? ⟨w2.heap.size + 1, 2, none⟩ = some (.int .i64 a) := ⟨blk_cell HS.out 0, blk_cell HS.out 1, blk_cell HS.out 2⟩))
      exact bodyPost_ret (results_tmp2 rfl _ _ _) rfl ⟨rfl, HB.out⟩
    | true =>
      cases e2 with
      | false =>
        go_wp2_with (first | (go_at_call 18; (with_reducible refine (calls_Check PA pc P QA qc Q _ HP.out hpc HQ.out hqc).mono ?_); rintro e w1 ⟨he, hb⟩; rw [hck] at he; subst he; have HP := Lib.hid (Kd.C_below HP.out hb); have HQ := Lib.hid (Kd.C_below HQ.out hb); have HG := Lib.hid (HG.out.below hb); have HX := Lib.hid (below_far HX.out hb); have HB := Lib.hid (HB.out.trans (hb.mono (below_size HB.out))); obtain ⟨c0, c1⟩ : w1.cell? ⟨w.heap.size, 0, none⟩ = some (.slice PA P.length pc) ∧ w1.cell? ⟨w.heap.size, 1, none⟩ = some (.slice QA Q.length qc) := ⟨blk_cell HX.out 0, blk_cell HX.out 1⟩; clear hb) | (go_at_call 60; (with_reducible refine (calls_opened PA pc QA qc P Q _ HG.out HP.out HQ.out).mono ?_); rintro e w2 ⟨m, rfl, hbk, hm, hb⟩; have hm := Nat.le_trans (below_size HB.out) hm; obtain ⟨n0, n1, n2, n3⟩ := new2 w2 (.cells #[.slice PA P.length pc, .slice QA Q.length qc, .map (some m)] 84) (.cells #[.int .i64 i, .int .i64 p, .int .i64 a] 87); have hxl := blk_lt (below_far HX.out hb); have hxl2 := Nat.lt_succ_of_lt hxl; have HX := Lib.hid (below_far (below_far HX.out hb) n2); have HP := Lib.hid (Kd.C_below (Kd.C_below HP.out hb) n2); have HQ := Lib.hid (Kd.C_below (Kd.C_below HQ.out hb) n2); have HB := Lib.hid (HB.out.trans ((hb.mono (below_size HB.out)).trans (n2.mono (Nat.le_trans (below_size HB.out) (below_size hb))))); have HBK := Lib.hid (hbk.below n2); have HK := Lib.hid n0; have HS := Lib.hid n1; have HMW := Lib.hid hm; clear hb hbk c0 c1 n0 n1 n2 n3 hm; obtain ⟨c0, c1⟩ : ((w2.alloc (.cells #[.slice PA P.length pc, .slice QA Q.length qc, .map (some m)] 84)).alloc (.cells #[.int .i64 i, .int .i64 p, .int .i64 a] 87)).cell? ⟨w.heap.size, 0, none⟩ = some (.slice PA P.length pc) ∧ ((w2.alloc (.cells #[.slice PA P.length pc, .slice QA Q.length qc, .map (some m)] 84)).alloc (.cells #[.int .i64 i, .int .i64 p, .int .i64 a] 87)).cell? ⟨w.heap.size, 1, none⟩ = some (.slice QA Q.length qc) := ⟨blk_cell HX.out 0, blk_cell HX.out 1⟩; obtain ⟨k0, k1, k2⟩ : ((w2.alloc (.cells #[.slice PA P.length pc, .slice QA Q.length qc, .map (some m)] 84)).alloc (.cells #[.int .i64 i, .int .i64 p, .int .i64 a] 87)).cell? ⟨w2.heap.size, 0, none⟩ = some (.slice PA P.length pc) ∧ ((w2.alloc (.cells #[.slice PA P.length pc, .slice QA Q.length qc, .map (some m)] 84)).alloc (.cells #[.int .i64 i, .int .i64 p, .int .i64 a] 87)).cell? ⟨w2.heap.size, 1, none⟩ = some (.slice QA Q.length qc) ∧ ((w2.alloc (.cells #[.slice PA P.length pc, .slice QA Q.length qc, .map (some m)] 84)).alloc (.cells #[.int .i64 i, .int .i64 p, .int .i64 a] 87)).cell? ⟨w2.heap.size, 2, none⟩ = some (.map (some m)) := ⟨blk_cell HK.out 0, blk_cell HK.out 1, blk_cell HK.out 2⟩; obtain ⟨s0, s1, s2⟩ : ((w2.alloc (.cells #[.slice PA P.length pc, .slice QA Q.length qc, .map (some m)] 84)).alloc (.cells #[.int .i64 i, .int .i64 p, .int .i64 a] 87)).cell? ⟨w2.heap.size + 1, 0, none⟩ = some (.int .i64 i) ∧ ((w2.alloc (.cells #[.slice PA P.length pc, .slice QA Q.length qc, .map (some m)] 84)).alloc (.cells #[.int .i64 i, .int .i64 p, .int .i64 a] 87)).cell? ⟨w2.heap.size + 1, 1, none⟩ = some (.int .i64 p) ∧ ((w2.alloc (.cells #[.slice PA P.length pc, .slice QA Q.length qc, .map (some m)] 84)).alloc (.cells #[.int .i64 i, .int .i64 p, .int .i64 a] 87)).cell? ⟨w2.heap.size + 1, 2, none⟩ = some (.int .i64 a) := ⟨blk_cell HS.out 0, blk_cell HS.out 1, blk_cell HS.out 2⟩) | (go_at_call 61; (with_reducible refine (HCL.out _ HP.out HQ.out).mono ?_); rintro e w3 ⟨rfl, hb⟩; have HX := Lib.hid (below_far HX.out hb); have HP := Lib.hid (Kd.C_below HP.out hb); have HQ := Lib.hid (Kd.C_below HQ.out hb); have HB := Lib.hid (HB.out.trans (hb.mono (below_size HB.out))); have HBK := Lib.hid (HBK.out.below hb); have HK := Lib.hid (below_far HK.out hb); have HS := Lib.hid (below_far HS.out hb); clear hb c0 c1 k0 k1 k2 s0 s1 s2; obtain ⟨c0, c1⟩ : w3.cell? ⟨w.heap.size, 0, none⟩ = some (.slice PA P.length pc) ∧ w3.cell? ⟨w.heap.size, 1, none⟩ = some (.slice QA Q.length qc) := ⟨blk_cell HX.out 0, blk_cell HX.out 1⟩; obtain ⟨k0, k1, k2⟩ : w3.cell? ⟨w2.heap.size, 0, none⟩ = some (.slice PA P.length pc) ∧ w3.cell? ⟨w2.heap.size, 1, none⟩ = some (.slice QA Q.length qc) ∧ w3.cell? ⟨w2.heap.size, 2, none⟩ = some (.map (some m)) := ⟨blk_cell HK.out 0, blk_cell HK.out 1, blk_cell HK.out 2⟩; obtain ⟨s0, s1, s2⟩ : w3.cell? ⟨w2.heap.size + 1, 0, none⟩ = some (.int .i64 i) ∧ w3.cell? ⟨w2.heap.size + 1, 1, none⟩ = some (.int .i64 p) ∧ w3.cell? ⟨w2.heap.size + 1, 2, none⟩ = some (.int .i64 a) := ⟨blk_cell HS.out 0, blk_cell HS.out 1, blk_cell HS.out 2⟩) | (go_at_call 62; (with_reducible refine (HCA.out _ HP.out HQ.out).mono ?_); rintro e w5 ⟨rfl, hb⟩; have HX := Lib.hid (below_far HX.out hb); have HP := Lib.hid (Kd.C_below HP.out hb); have HQ := Lib.hid (Kd.C_below HQ.out hb); have HB := Lib.hid (HB.out.trans (hb.mono (below_size HB.out))); have HBK := Lib.hid (HBK.out.below hb); have HK := Lib.hid (below_far HK.out hb); have HS := Lib.hid (below_far HS.out hb); clear hb c0 c1 k0 k1 k2 s0 s1 s2; obtain ⟨c0, c1⟩ : w5.cell? ⟨w.heap.size, 0, none⟩ = some (.slice PA P.length pc) ∧ w5.cell? ⟨w.heap.size, 1, none⟩ = some (.slice QA Q.length qc) := ⟨blk_cell HX.out 0, blk_cell HX.out 1⟩; obtain ⟨k0, k1, k2⟩ : w5.cell? ⟨w2.heap.size, 0, none⟩ = some (.slice PA P.length pc) ∧ w5.cell? ⟨w2.heap.size, 1, none⟩ = some (.slice QA Q.length qc) ∧ w5.cell? ⟨w2.heap.size, 2, none⟩ = some (.map (some m)) := ⟨blk_cell HK.out 0, blk_cell HK.out 1, blk_cell HK.out 2⟩; obtain ⟨s0, s1, s2⟩ : w5.cell? ⟨w2.heap.size + 1, 0, none⟩ = some (.int .i64 i) ∧ w5.cell? ⟨w2.heap.size + 1, 1, none⟩ = some (.int .i64 p) ∧ w5.cell? ⟨w2.heap.size + 1, 2, none⟩ = some (.int .i64 a) := ⟨blk_cell HS.out 0, blk_cell HS.out 1, blk_cell HS.out 2⟩))
        exact bodyPost_ret (results_tmp2 rfl _ _ _) rfl ⟨rfl, HB.out⟩
      | true =>
        obtain ⟨i', rfl, hi⟩ := in_nat h1
        obtain ⟨p', rfl, hp⟩ := in_nat h2
        rw [show ((i' : Nat) : Int).toNat = i' from rfl, show ((p' : Nat) : Int).toNat = p' from rfl]
        have hli := fun m W hPW hQW => calls_lies PA pc QA qc m P Q i' p' a hi hp (hok.sized hi hp) W hPW hQW
        unfold bookV at hli
        obtain ⟨e3, h3⟩ : ∃ e3, liesB (P.getD i' z48) (Q.getD p' z50) a = e3 := ⟨_, rfl⟩
        rw [h3] at hli ⊢
        have HLI := Lib.hid hli; clear hli
        cases e3 with
        | false =>
          go_wp2_with (first | (go_at_call 18; (with_reducible refine (calls_Check PA pc P QA qc Q _ HP.out hpc HQ.out hqc).mono ?_); rintro e w1 ⟨he, hb⟩; rw [hck] at he; subst he; have HP := Lib.hid (Kd.C_below HP.out hb); have HQ := Lib.hid (Kd.C_below HQ.out hb); have HG := Lib.hid (HG.out.below hb); have HX := Lib.hid (below_far HX.out hb); have HB := Lib.hid (HB.out.trans (hb.mono (below_size HB.out))); obtain ⟨c0, c1⟩ : w1.cell? ⟨w.heap.size, 0, none⟩ = some (.slice PA P.length pc) ∧ w1.cell? ⟨w.heap.size, 1, none⟩ = some (.slice QA Q.length qc) := ⟨blk_cell HX.out 0, blk_cell HX.out 1⟩; clear hb) | (go_at_call 60; (with_reducible refine (calls_opened PA pc QA qc P Q _ HG.out HP.out HQ.out).mono ?_); rintro e w2 ⟨m, rfl, hbk, hm, hb⟩; have hm := Nat.le_trans (below_size HB.out) hm; obtain ⟨n0, n1, n2, n3⟩ := new2 w2 (.cells #[.slice PA P.length pc, .slice QA Q.length qc, .map (some m)] 84) (.cells #[.int .i64 i', .int .i64 p', .int .i64 a] 87); have hxl := blk_lt (below_far HX.out hb); have hxl2 := Nat.lt_succ_of_lt hxl; have HX := Lib.hid (below_far (below_far HX.out hb) n2); have HP := Lib.hid (Kd.C_below (Kd.C_below HP.out hb) n2); have HQ := Lib.hid (Kd.C_below (Kd.C_below HQ.out hb) n2); have HB := Lib.hid (HB.out.trans ((hb.mono (below_size HB.out)).trans (n2.mono (Nat.le_trans (below_size HB.out) (below_size hb))))); have HBK := Lib.hid (hbk.below n2); have HK := Lib.hid n0; have HS := Lib.hid n1; have HMW := Lib.hid hm; clear hb hbk c0 c1 n0 n1 n2 n3 hm; obtain ⟨c0, c1⟩ : ((w2.alloc (.cells #[.slice PA P.length pc, .slice QA Q.length qc, .map (some m)] 84)).alloc (.cells #[.int .i64 i', .int .i64 p', .int .i64 a] 87)).cell? ⟨w.heap.size, 0, none⟩ = some (.slice PA P.length pc) ∧ ((w2.alloc (.cells #[.slice PA P.length pc, .slice QA Q.length qc, .map (some m)] 84)).alloc (.cells #[.int .i64 i', .int .i64 p', .int .i64 a] 87)).cell? ⟨w.heap.size, 1, none⟩ = some (.slice QA Q.length qc) := ⟨blk_cell HX.out 0, blk_cell HX.out 1⟩; obtain ⟨k0, k1, k2⟩ : ((w2.alloc (.cells #[.slice PA P.length pc, .slice QA Q.length qc, .map (some m)] 84)).alloc (.cells #[.int .i64 i', .int .i64 p', .int .i64 a] 87)).cell? ⟨w2.heap.size, 0, none⟩ = some (.slice PA P.length pc) ∧ ((w2.alloc (.cells #[.slice PA P.length pc, .slice QA Q.length qc, .map (some m)] 84)).alloc (.cells #[.int .i64 i', .int .i64 p', .int .i64 a] 87)).cell? ⟨w2.heap.size, 1, none⟩ = some (.slice QA Q.length qc) ∧ ((w2.alloc (.cells #[.slice PA P.length pc, .slice QA Q.length qc, .map (some m)] 84)).alloc (.cells #[.int .i64 i', .int .i64 p', .int .i64 a] 87)).cell? ⟨w2.heap.size, 2, none⟩ = some (.map (some m)) := ⟨blk_cell HK.out 0, blk_cell HK.out 1, blk_cell HK.out 2⟩; obtain ⟨s0, s1, s2⟩ : ((w2.alloc (.cells #[.slice PA P.length pc, .slice QA Q.length qc, .map (some m)] 84)).alloc (.cells #[.int .i64 i', .int .i64 p', .int .i64 a] 87)).cell? ⟨w2.heap.size + 1, 0, none⟩ = some (.int .i64 i') ∧ ((w2.alloc (.cells #[.slice PA P.length pc, .slice QA Q.length qc, .map (some m)] 84)).alloc (.cells #[.int .i64 i', .int .i64 p', .int .i64 a] 87)).cell? ⟨w2.heap.size + 1, 1, none⟩ = some (.int .i64 p') ∧ ((w2.alloc (.cells #[.slice PA P.length pc, .slice QA Q.length qc, .map (some m)] 84)).alloc (.cells #[.int .i64 i', .int .i64 p', .int .i64 a] 87)).cell? ⟨w2.heap.size + 1, 2, none⟩ = some (.int .i64 a) := ⟨blk_cell HS.out 0, blk_cell HS.out 1, blk_cell HS.out 2⟩) | (go_at_call 61; (with_reducible refine (HCL.out _ HP.out HQ.out).mono ?_); rintro e w3 ⟨rfl, hb⟩; have HX := Lib.hid (below_far HX.out hb); have HP := Lib.hid (Kd.C_below HP.out hb); have HQ := Lib.hid (Kd.C_below HQ.out hb); have HB := Lib.hid (HB.out.trans (hb.mono (below_size HB.out))); have HBK := Lib.hid (HBK.out.below hb); have HK := Lib.hid (below_far HK.out hb); have HS := Lib.hid (below_far HS.out hb); clear hb c0 c1 k0 k1 k2 s0 s1 s2; obtain ⟨c0, c1⟩ : w3.cell? ⟨w.heap.size, 0, none⟩ = some (.slice PA P.length pc) ∧ w3.cell? ⟨w.heap.size, 1, none⟩ = some (.slice QA Q.length qc) := ⟨blk_cell HX.out 0, blk_cell HX.out 1⟩; obtain ⟨k0, k1, k2⟩ : w3.cell? ⟨w2.heap.size, 0, none⟩ = some (.slice PA P.length pc) ∧ w3.cell? ⟨w2.heap.size, 1, none⟩ = some (.slice QA Q.length qc) ∧ w3.cell? ⟨w2.heap.size, 2, none⟩ = some (.map (some m)) := ⟨blk_cell HK.out 0, blk_cell HK.out 1, blk_cell HK.out 2⟩; obtain ⟨s0, s1, s2⟩ : w3.cell? ⟨w2.heap.size + 1, 0, none⟩ = some (.int .i64 i') ∧ w3.cell? ⟨w2.heap.size + 1, 1, none⟩ = some (.int .i64 p') ∧ w3.cell? ⟨w2.heap.size + 1, 2, none⟩ = some (.int .i64 a) := ⟨blk_cell HS.out 0, blk_cell HS.out 1, blk_cell HS.out 2⟩) | (go_at_call 62; (with_reducible refine (HCA.out _ HP.out HQ.out).mono ?_); rintro e w5 ⟨rfl, hb⟩; have HX := Lib.hid (below_far HX.out hb); have HP := Lib.hid (Kd.C_below HP.out hb); have HQ := Lib.hid (Kd.C_below HQ.out hb); have HB := Lib.hid (HB.out.trans (hb.mono (below_size HB.out))); have HBK := Lib.hid (HBK.out.below hb); have HK := Lib.hid (below_far HK.out hb); have HS := Lib.hid (below_far HS.out hb); clear hb c0 c1 k0 k1 k2 s0 s1 s2; obtain ⟨c0, c1⟩ : w5.cell? ⟨w.heap.size, 0, none⟩ = some (.slice PA P.length pc) ∧ w5.cell? ⟨w.heap.size, 1, none⟩ = some (.slice QA Q.length qc) := ⟨blk_cell HX.out 0, blk_cell HX.out 1⟩; obtain ⟨k0, k1, k2⟩ : w5.cell? ⟨w2.heap.size, 0, none⟩ = some (.slice PA P.length pc) ∧ w5.cell? ⟨w2.heap.size, 1, none⟩ = some (.slice QA Q.length qc) ∧ w5.cell? ⟨w2.heap.size, 2, none⟩ = some (.map (some m)) := ⟨blk_cell HK.out 0, blk_cell HK.out 1, blk_cell HK.out 2⟩; obtain ⟨s0, s1, s2⟩ : w5.cell? ⟨w2.heap.size + 1, 0, none⟩ = some (.int .i64 i') ∧ w5.cell? ⟨w2.heap.size + 1, 1, none⟩ = some (.int .i64 p') ∧ w5.cell? ⟨w2.heap.size + 1, 2, none⟩ = some (.int .i64 a) := ⟨blk_cell HS.out 0, blk_cell HS.out 1, blk_cell HS.out 2⟩) | (go_at_call 63; (with_reducible refine (HLI.out _ _ HP.out HQ.out).mono ?_); rintro e w6 ⟨rfl, hb⟩; have HX := Lib.hid (below_far HX.out hb); have HP := Lib.hid (Kd.C_below HP.out hb); have HQ := Lib.hid (Kd.C_below HQ.out hb); have HB := Lib.hid (HB.out.trans (hb.mono (below_size HB.out))); have HBK := Lib.hid (HBK.out.below hb); have HK := Lib.hid (below_far HK.out hb); have HS := Lib.hid (below_far HS.out hb); clear hb c0 c1 k0 k1 k2 s0 s1 s2; obtain ⟨c0, c1⟩ : w6.cell? ⟨w.heap.size, 0, none⟩ = some (.slice PA P.length pc) ∧ w6.cell? ⟨w.heap.size, 1, none⟩ = some (.slice QA Q.length qc) := ⟨blk_cell HX.out 0, blk_cell HX.out 1⟩; obtain ⟨k0, k1, k2⟩ : w6.cell? ⟨w2.heap.size, 0, none⟩ = some (.slice PA P.length pc) ∧ w6.cell? ⟨w2.heap.size, 1, none⟩ = some (.slice QA Q.length qc) ∧ w6.cell? ⟨w2.heap.size, 2, none⟩ = some (.map (some m)) := ⟨blk_cell HK.out 0, blk_cell HK.out 1, blk_cell HK.out 2⟩; obtain ⟨s0, s1, s2⟩ : w6.cell? ⟨w2.heap.size + 1, 0, none⟩ = some (.int .i64 i') ∧ w6.cell? ⟨w2.heap.size + 1, 1, none⟩ = some (.int .i64 p') ∧ w6.cell? ⟨w2.heap.size + 1, 2, none⟩ = some (.int .i64 a) := ⟨blk_cell HS.out 0, blk_cell HS.out 1, blk_cell HS.out 2⟩))
          exact bodyPost_ret (results_tmp2 rfl _ _ _) rfl ⟨rfl, HB.out⟩
        | true =>
          obtain ⟨a', rfl⟩ : ∃ a' : Nat, a = a' := ⟨a.toNat, by unfold liesB at h3; simp only [Bool.and_eq_true, decide_eq_true_eq] at h3; omega⟩
          rw [show ((a' : Nat) : Int).toNat = a' from rfl]
          have hcn := fun m W hB => calls_bcan PA pc QA qc m P Q i' p' a' hi hp (hok.woodOk hi) (hok.fits hi hp h3) W hB
          unfold bookV at hcn
          have HCN := Lib.hid hcn; clear hcn
          go_wp2_with (first | (go_at_call 18; (with_reducible refine (calls_Check PA pc P QA qc Q _ HP.out hpc HQ.out hqc).mono ?_); rintro e w1 ⟨he, hb⟩; rw [hck] at he; subst he; have HP := Lib.hid (Kd.C_below HP.out hb); have HQ := Lib.hid (Kd.C_below HQ.out hb); have HG := Lib.hid (HG.out.below hb); have HX := Lib.hid (below_far HX.out hb); have HB := Lib.hid (HB.out.trans (hb.mono (below_size HB.out))); obtain ⟨c0, c1⟩ : w1.cell? ⟨w.heap.size, 0, none⟩ = some (.slice PA P.length pc) ∧ w1.cell? ⟨w.heap.size, 1, none⟩ = some (.slice QA Q.length qc) := ⟨blk_cell HX.out 0, blk_cell HX.out 1⟩; clear hb) | (go_at_call 60; (with_reducible refine (calls_opened PA pc QA qc P Q _ HG.out HP.out HQ.out).mono ?_); rintro e w2 ⟨m, rfl, hbk, hm, hb⟩; have hm := Nat.le_trans (below_size HB.out) hm; obtain ⟨n0, n1, n2, n3⟩ := new2 w2 (.cells #[.slice PA P.length pc, .slice QA Q.length qc, .map (some m)] 84) (.cells #[.int .i64 i', .int .i64 p', .int .i64 a'] 87); have hxl := blk_lt (below_far HX.out hb); have hxl2 := Nat.lt_succ_of_lt hxl; have HX := Lib.hid (below_far (below_far HX.out hb) n2); have HP := Lib.hid (Kd.C_below (Kd.C_below HP.out hb) n2); have HQ := Lib.hid (Kd.C_below (Kd.C_below HQ.out hb) n2); have HB := Lib.hid (HB.out.trans ((hb.mono (below_size HB.out)).trans (n2.mono (Nat.le_trans (below_size HB.out) (below_size hb))))); have HBK := Lib.hid (hbk.below n2); have HK := Lib.hid n0; have HS := Lib.hid n1; have HMW := Lib.hid hm; clear hb hbk c0 c1 n0 n1 n2 n3 hm; obtain ⟨c0, c1⟩ : ((w2.alloc (.cells #[.slice PA P.length pc, .slice QA Q.length qc, .map (some m)] 84)).alloc (.cells #[.int .i64 i', .int .i64 p', .int .i64 a'] 87)).cell? ⟨w.heap.size, 0, none⟩ = some (.slice PA P.length pc) ∧ ((w2.alloc (.cells #[.slice PA P.length pc, .slice QA Q.length qc, .map (some m)] 84)).alloc (.cells #[.int .i64 i', .int .i64 p', .int .i64 a'] 87)).cell? ⟨w.heap.size, 1, none⟩ = some (.slice QA Q.length qc) := ⟨blk_cell HX.out 0, blk_cell HX.out 1⟩; obtain ⟨k0, k1, k2⟩ : ((w2.alloc (.cells #[.slice PA P.length pc, .slice QA Q.length qc, .map (some m)] 84)).alloc (.cells #[.int .i64 i', .int .i64 p', .int .i64 a'] 87)).cell? ⟨w2.heap.size, 0, none⟩ = some (.slice PA P.length pc) ∧ ((w2.alloc (.cells #[.slice PA P.length pc, .slice QA Q.length qc, .map (some m)] 84)).alloc (.cells #[.int .i64 i', .int .i64 p', .int .i64 a'] 87)).cell? ⟨w2.heap.size, 1, none⟩ = some (.slice QA Q.length qc) ∧ ((w2.alloc (.cells #[.slice PA P.length pc, .slice QA Q.length qc, .map (some m)] 84)).alloc (.cells #[.int .i64 i', .int .i64 p', .int .i64 a'] 87)).cell? ⟨w2.heap.size, 2, none⟩ = some (.map (some m)) := ⟨blk_cell HK.out 0, blk_cell HK.out 1, blk_cell HK.out 2⟩; obtain ⟨s0, s1, s2⟩ : ((w2.alloc (.cells #[.slice PA P.length pc, .slice QA Q.length qc, .map (some m)] 84)).alloc (.cells #[.int .i64 i', .int .i64 p', .int .i64 a'] 87)).cell? ⟨w2.heap.size + 1, 0, none⟩ = some (.int .i64 i') ∧ ((w2.alloc (.cells #[.slice PA P.length pc, .slice QA Q.length qc, .map (some m)] 84)).alloc (.cells #[.int .i64 i', .int .i64 p', .int .i64 a'] 87)).cell? ⟨w2.heap.size + 1, 1, none⟩ = some (.int .i64 p') ∧ ((w2.alloc (.cells #[.slice PA P.length pc, .slice QA Q.length qc, .map (some m)] 84)).alloc (.cells #[.int .i64 i', .int .i64 p', .int .i64 a'] 87)).cell? ⟨w2.heap.size + 1, 2, none⟩ = some (.int .i64 a') := ⟨blk_cell HS.out 0, blk_cell HS.out 1, blk_cell HS.out 2⟩) | (go_at_call 61; (with_reducible refine (HCL.out _ HP.out HQ.out).mono ?_); rintro e w3 ⟨rfl, hb⟩; have HX := Lib.hid (below_far HX.out hb); have HP := Lib.hid (Kd.C_below HP.out hb); have HQ := Lib.hid (Kd.C_below HQ.out hb); have HB := Lib.hid (HB.out.trans (hb.mono (below_size HB.out))); have HBK := Lib.hid (HBK.out.below hb); have HK := Lib.hid (below_far HK.out hb); have HS := Lib.hid (below_far HS.out hb); clear hb c0 c1 k0 k1 k2 s0 s1 s2; obtain ⟨c0, c1⟩ : w3.cell? ⟨w.heap.size, 0, none⟩ = some (.slice PA P.length pc) ∧ w3.cell? ⟨w.heap.size, 1, none⟩ = some (.slice QA Q.length qc) := ⟨blk_cell HX.out 0, blk_cell HX.out 1⟩; obtain ⟨k0, k1, k2⟩ : w3.cell? ⟨w2.heap.size, 0, none⟩ = some (.slice PA P.length pc) ∧ w3.cell? ⟨w2.heap.size, 1, none⟩ = some (.slice QA Q.length qc) ∧ w3.cell? ⟨w2.heap.size, 2, none⟩ = some (.map (some m)) := ⟨blk_cell HK.out 0, blk_cell HK.out 1, blk_cell HK.out 2⟩; obtain ⟨s0, s1, s2⟩ : w3.cell? ⟨w2.heap.size + 1, 0, none⟩ = some (.int .i64 i') ∧ w3.cell? ⟨w2.heap.size + 1, 1, none⟩ = some (.int .i64 p') ∧ w3.cell? ⟨w2.heap.size + 1, 2, none⟩ = some (.int .i64 a') := ⟨blk_cell HS.out 0, blk_cell HS.out 1, blk_cell HS.out 2⟩) | (go_at_call 62; (with_reducible refine (HCA.out _ HP.out HQ.out).mono ?_); rintro e w5 ⟨rfl, hb⟩; have HX := Lib.hid (below_far HX.out hb); have HP := Lib.hid (Kd.C_below HP.out hb); have HQ := Lib.hid (Kd.C_below HQ.out hb); have HB := Lib.hid (HB.out.trans (hb.mono (below_size HB.out))); have HBK := Lib.hid (HBK.out.below hb); have HK := Lib.hid (below_far HK.out hb); have HS := Lib.hid (below_far HS.out hb); clear hb c0 c1 k0 k1 k2 s0 s1 s2; obtain ⟨c0, c1⟩ : w5.cell? ⟨w.heap.size, 0, none⟩ = some (.slice PA P.length pc) ∧ w5.cell? ⟨w.heap.size, 1, none⟩ = some (.slice QA Q.length qc) := ⟨blk_cell HX.out 0, blk_cell HX.out 1⟩; obtain ⟨k0, k1, k2⟩ : w5.cell? ⟨w2.heap.size, 0, none⟩ = some (.slice PA P.length pc) ∧ w5.cell? ⟨w2.heap.size, 1, none⟩ = some (.slice QA Q.length qc) ∧ w5.cell? ⟨w2.heap.size, 2, none⟩ = some (.map (some m)) := ⟨blk_cell HK.out 0, blk_cell HK.out 1, blk_cell HK.out 2⟩; obtain ⟨s0, s1, s2⟩ : w5.cell? ⟨w2.heap.size + 1, 0, none⟩ = some (.int .i64 i') ∧ w5.cell? ⟨w2.heap.size + 1, 1, none⟩ = some (.int .i64 p') ∧ w5.cell? ⟨w2.heap.size + 1, 2, none⟩ = some (.int .i64 a') := ⟨blk_cell HS.out 0, blk_cell HS.out 1, blk_cell HS.out 2⟩) | (go_at_call 63; (with_reducible refine (HLI.out _ _ HP.out HQ.out).mono ?_); rintro e w6 ⟨rfl, hb⟩; have HX := Lib.hid (below_far HX.out hb); have HP := Lib.hid (Kd.C_below HP.out hb); have HQ := Lib.hid (Kd.C_below HQ.out hb); have HB := Lib.hid (HB.out.trans (hb.mono (below_size HB.out))); have HBK := Lib.hid (HBK.out.below hb); have HK := Lib.hid (below_far HK.out hb); have HS := Lib.hid (below_far HS.out hb); clear hb c0 c1 k0 k1 k2 s0 s1 s2; obtain ⟨c0, c1⟩ : w6.cell? ⟨w.heap.size, 0, none⟩ = some (.slice PA P.length pc) ∧ w6.cell? ⟨w.heap.size, 1, none⟩ = some (.slice QA Q.length qc) := ⟨blk_cell HX.out 0, blk_cell HX.out 1⟩; obtain ⟨k0, k1, k2⟩ : w6.cell? ⟨w2.heap.size, 0, none⟩ = some (.slice PA P.length pc) ∧ w6.cell? ⟨w2.heap.size, 1, none⟩ = some (.slice QA Q.length qc) ∧ w6.cell? ⟨w2.heap.size, 2, none⟩ = some (.map (some m)) := ⟨blk_cell HK.out 0, blk_cell HK.out 1, blk_cell HK.out 2⟩; obtain ⟨s0, s1, s2⟩ : w6.cell? ⟨w2.heap.size + 1, 0, none⟩ = some (.int .i64 i') ∧ w6.cell? ⟨w2.heap.size + 1, 1, none⟩ = some (.int .i64 p') ∧ w6.cell? ⟨w2.heap.size + 1, 2, none⟩ = some (.int .i64 a') := ⟨blk_cell HS.out 0, blk_cell HS.out 1, blk_cell HS.out 2⟩) | (go_at_call 64; (with_reducible refine (HCN.out _ _ HBK.out).mono ?_); rintro e w7 ⟨rfl, hbk7, hg7⟩))
          exact bodyPost_ret (results_tmp2 rfl _ _ _) rfl ⟨rfl, grown_Below HB.out HMW.out hg7⟩
end Go.Proofs.YtekjlpldooihhaaDoorP
namespace Go.Proofs.YtekjlpldooihhaaDoorP
open Go.RowKit Go.Proofs.YtekjlpldooihhaaDoorW.PrintWords Go.Proofs.YtekjlpldooihhaaDoorW.PrintLast Go.Proofs.YtekjlpldooihhaaDoorW.PrintMore Go.Proofs.YtekjlpldooihhaaDoorH Go.Proofs.YtekjlpldooihhaaDoorEv Go.Proofs.YtekjlpldooihhaaDoor.PA
set_option linter.unusedVariables false
set_option linter.unusedSimpArgs false
def fewestZ (P : List S48) (Q : List S50) : Bool × List Nat := bestTo betterL (fun s => cutB P Q (setL s) (2 ^ Q.length - 1)) (2 ^ P.length)
def fewestP (P : List S48) (Q : List S50) : List Int × Int := if validB P Q then if (fewestZ P Q).1 then (ints (fewestZ P Q).2, 0) else ([], 4) else ([], 10)
set_option maxRecDepth 100000 in
set_option maxHeartbeats 1000000 in
theorem calls_Fewest (PA : Option Addr) (pc : Nat) (P : List S48) (QA : Option Addr) (qc : Nat) (Q : List S50) (w : World) (hP : Kd.C k48 w PA P.length P) (hpc : P.length ≤ pc) (hQ : Kd.C k50 w QA Q.length Q) (hqc : Q.length ≤ qc) (hG : Glob w) :
    Calls Tryd.prog 28 #[.agg #[.slice PA P.length pc, .slice QA Q.length qc]] w fun e w' => ∃ v, e = .returned (.tuple #[v, .int .i64 (fewestP P Q).2]) ∧ Kd.V (Kd.int .i64) 3 w' w.heap.size (fun k => w.heap.size ≤ k) v (fewestP P Q).1 ∧ Below w.heap.size w w' := by
  obtain ⟨n0, n1, n2⟩ := new1 w (.cells #[.slice PA P.length pc, .slice QA Q.length qc] 25)
  have HP := Lib.hid (Kd.C_below hP n1); have HQ := Lib.hid (Kd.C_below hQ n1); have HG := Lib.hid (hG.below n1); have HX := Lib.hid n0; have HB := Lib.hid n1
  clear n0 n1 n2 hP hQ hG
  cases hv : validB P Q with
  | false =>
    have hck := checkP_no hv
    rw [show fewestP P Q = ([], 10) from by unfold fewestP; rw [hv]; rfl]
    go_enter Tryd.func28, Tryd.ntmps28
    go_wp2_with (go_at_call 18; (with_reducible refine (calls_Check PA pc P QA qc Q _ HP.out hpc HQ.out hqc).mono ?_); rintro e w1 ⟨he, hb⟩; rw [hck] at he; subst he; have HB := Lib.hid (HB.out.trans (hb.mono (below_size HB.out))))
    exact bodyPost_ret (results_tmp2 rfl _ _ _) rfl ⟨_, rfl, Kd.V_nil _ _ _ _ _, HB.out⟩
  | true =>
    have hck := checkP_yes hv
    have hok := valid_ok hv
    have hfd : fewestP P Q = if (fewestZ P Q).1 then (ints (fewestZ P Q).2, 0) else ([], 4) := by unfold fewestP; rw [hv]; rfl
    rw [hfd]
    clear hv hfd
    obtain ⟨fnd, best, hz⟩ : ∃ fnd best, fewestZ P Q = (fnd, best) := ⟨_, _, rfl⟩
    rw [hz]
    have HZ := Lib.hid (show bestTo betterL (fun s => cutB P Q (setL s) (2 ^ Q.length - 1)) (2 ^ P.length) = (fnd, best) from hz)
    clear hz
    go_enter Tryd.func28, Tryd.ntmps28
    go_wp2_with (first | (go_at_call 18; (with_reducible refine (calls_Check PA pc P QA qc Q _ HP.out hpc HQ.out hqc).mono ?_); rintro e w1 ⟨he, hb⟩; rw [hck] at he; subst he; have HP := Lib.hid (Kd.C_below HP.out hb); have HQ := Lib.hid (Kd.C_below HQ.out hb); have HG := Lib.hid (HG.out.below hb); have HX := Lib.hid (below_far HX.out hb); have HB := Lib.hid (HB.out.trans (hb.mono (below_size HB.out))); obtain ⟨c0, c1⟩ : w1.cell? ⟨w.heap.size, 0, none⟩ = some (.slice PA P.length pc) ∧ w1.cell? ⟨w.heap.size, 1, none⟩ = some (.slice QA Q.length qc) := ⟨blk_cell HX.out 0, blk_cell HX.out 1⟩; clear hb) | (go_at_call 60; (with_reducible refine (calls_opened PA pc QA qc P Q _ HG.out HP.out HQ.out).mono ?_); rintro e w2 ⟨m, rfl, hbk, hm, hb⟩; have hm := Nat.le_trans (below_size HB.out) hm; have HX := Lib.hid (below_far HX.out hb); have HB := Lib.hid (HB.out.trans (hb.mono (below_size HB.out))); have HBK := Lib.hid hbk; clear hb hbk c0 c1))
    obtain ⟨n0, n1, n2⟩ := new1 w2 (.cells #[.slice PA P.length pc, .slice QA Q.length qc, .map (some m)] 84)
    have HX := Lib.hid (below_far HX.out n1)
    have HI := Lib.hid (show InvA PA pc QA qc m P Q w2.heap.size (w2.alloc (.cells #[.slice PA P.length pc, .slice QA Q.length qc, .map (some m)] 84)) from ⟨HBK.out.below n1, n0⟩)
    have HB := Lib.hid (HB.out.trans (n1.mono (below_size HB.out)))
    clear n0 n1 n2 HBK
    generalize w2.alloc (.cells #[.slice PA P.length pc, .slice QA Q.length qc, .map (some m)] 84) = W at HX HI HB ⊢
    have c0 : W.cell? ⟨w.heap.size, 0, none⟩ = some (.slice PA P.length pc) := blk_cell HX.out 0
    have HCB := Lib.hid (fun W' hI hm => calls_best 109 betterL better_few 83 #[.pointer (some ⟨w2.heap.size, 0, none⟩)] m P.length (by have := hok.p3; omega) _ _ (asks_Fewest1 (PA := PA) (pc := pc) (QA := QA) (qc := qc) hok w2.heap.size) W' hI hm)
    rw [HZ.out] at HCB
    clear HZ
    refine start_ (n := 11) (S := fun w' => w'.cell? ⟨w.heap.size, 0, none⟩ = some (.slice PA P.length pc)) (ds := [5]) #[false, false, false, false, false, false, false, false, false, false, false] (by kernel_rfl) rfl rfl (c0) (fun hHeld => ?_)
    refine pure_ (i := 1) (N := some 17) (v := ?_) (a' := ?_) #[false, true, false, false, false, false, false, false, false, false, false] rfl rfl (by kernel_rfl) (fun _ _ _ h => h) (Or.inl ⟨by rfl, ?_⟩) ?_ ?_
    rotate_left
    · intro w'
      go_simp
      with_reducible rfl
    rotate_left
    · simp only [Act.put, List.setIfInBounds_toArray, List.set_cons_zero, List.set_cons_succ, i64_w, i32_w]
      rfl
    refine pure_ (i := 4) (N := some 20) (v := ?_) (a' := ?_) #[false, true, false, false, true, false, false, false, false, false, false] rfl rfl (by kernel_rfl) (fun _ _ _ h => h) (Or.inl ⟨by rfl, ?_⟩) ?_ ?_
    rotate_left
    · intro w'
      go_simp
      with_reducible rfl
    rotate_left
    · simp only [Act.put, List.setIfInBounds_toArray, List.set_cons_zero, List.set_cons_succ, i64_w, i32_w]
      rfl
    refine take_ (i := 2) (N := some 18) (v := ?_) (a' := ?_) #[false, true, true, false, true, false, false, false, false, false, false] rfl rfl (by kernel_rfl) (fun _ _ _ h => h) (Or.inl ⟨by rfl, ?_⟩) hHeld ?_ ?_
    rotate_left
    · intro w' s0
      go_simp
      with_reducible rfl
    rotate_left
    · simp only [Act.put, List.setIfInBounds_toArray, List.set_cons_zero, List.set_cons_succ, i64_w, i32_w]
      rfl
    refine pure_ (i := 3) (N := some 19) (v := ?_) (a' := ?_) #[false, true, true, true, true, false, false, false, false, false, false] rfl rfl (by kernel_rfl) (fun _ _ _ h => h) (Or.inl ⟨by rfl, ?_⟩) ?_ ?_
    rotate_left
    · intro w'
      go_simp
      with_reducible rfl
    rotate_left
    · simp only [Act.put, List.setIfInBounds_toArray, List.set_cons_zero, List.set_cons_succ, i64_w, i32_w]
      rfl
    refine one_ (i := 0) (N := some 16) #[true, true, true, true, true, false, false, false, false, false, false] rfl rfl (by kernel_rfl) (by decide) (fun K hK => ?_)
    refine goes_ Tryd.func81 (by kernel_rfl) rfl #[] (by rfl) rfl rfl (by first | (simp; done) | (simp only [List.map_toArray, List.map_cons, List.map_nil]; rfl)) ?_
    with_reducible refine (calls_few _).mono ?_
    rintro e w3 ⟨rfl, hb1⟩
    have hb2 : Below W.heap.size W w3 := undrew hb1
    refine ⟨_, rfl, ?_⟩
    refine hK.out _ _ (pw_cell_below hb2 c0) (fun hHeld => ?_)
    clear hK K
    refine norm_ (a' := ?_) ?_ ?_
    rotate_left
    · show Act.put _ (some 16) _ = _
      simp only [Act.put, List.setIfInBounds_toArray, List.set_cons_zero, List.set_cons_succ, i64_w, i32_w]
      rfl
    refine last_ (i := 5) (N := some 21) #[true, true, true, true, true, true, false, false, false, false, false] rfl rfl (by kernel_rfl) (by decide) (fun K hK => ?_)
    refine goes_ Tryd.func82 (by kernel_rfl) rfl #[.agg #[.func (.func 109) #[] #[]], .int .i64 P.length, .func (.func 83) #[] #[.pointer (some ⟨w2.heap.size, 0, none⟩)]] (by rfl) rfl rfl (by first | (simp; done) | (simp only [List.map_toArray, List.map_cons, List.map_nil]; rfl)) ?_
    with_reducible refine (HCB.out w3 (HI.out.below hb2) (HI.out.below hb2).bk.lt).mono ?_
    rintro e w4 ⟨v4, rfl, hv4, hi4, hg4⟩
    refine ⟨_, rfl, ?_⟩
    refine hK.out _ _ ?_
    clear hK K
    refine norm_ (a' := ?_) ?_ ?_
    rotate_left
    · show Act.put _ (some 21) _ = _
      simp only [Act.put, List.setIfInBounds_toArray, List.set_cons_zero, List.set_cons_succ, i64_w, i32_w]
      rfl
    refine pure_ (i := 6) (N := some 15) (v := ?_) (a' := ?_) #[true, true, true, true, true, true, true, false, false, false, false] rfl rfl (by kernel_rfl) (fun _ _ _ h => h) (Or.inl ⟨by rfl, ?_⟩) ?_ ?_
    rotate_left
    · intro w'
      go_simp
      with_reducible rfl
    rotate_left
    · simp only [Act.put, List.setIfInBounds_toArray, List.set_cons_zero, List.set_cons_succ, i64_w, i32_w]
      rfl
    refine pure_ (i := 7) (N := some 22) (v := ?_) (a' := ?_) #[true, true, true, true, true, true, true, true, false, false, false] rfl rfl (by kernel_rfl) (fun _ _ _ h => h) (Or.inl ⟨by rfl, ?_⟩) ?_ ?_
    rotate_left
    · intro w'
      go_simp
      with_reducible rfl
    rotate_left
    · simp only [Act.put, List.setIfInBounds_toArray, List.set_cons_zero, List.set_cons_succ, i64_w, i32_w]
      rfl
    refine pure_ (i := 8) (N := some 23) (v := ?_) (a' := ?_) #[true, true, true, true, true, true, true, true, true, false, false] rfl rfl (by kernel_rfl) (fun _ _ _ h => h) (Or.inl ⟨by rfl, ?_⟩) ?_ ?_
    rotate_left
    · intro w'
      go_simp
      with_reducible rfl
    rotate_left
    · simp only [Act.put, List.setIfInBounds_toArray, List.set_cons_zero, List.set_cons_succ, i64_w, i32_w]
      rfl
    refine pure_ (i := 9) (N := some 6) (v := ?_) (a' := ?_) #[true, true, true, true, true, true, true, true, true, true, false] rfl rfl (by kernel_rfl) (fun _ _ _ h => h) (Or.inl ⟨by rfl, ?_⟩) ?_ ?_
    rotate_left
    · intro w'
      go_simp
      with_reducible rfl
    rotate_left
    · simp only [Act.put, List.setIfInBounds_toArray, List.set_cons_zero, List.set_cons_succ, i64_w, i32_w]
      rfl
    refine pure_ (i := 10) (N := some 7) (v := ?_) (a' := ?_) #[true, true, true, true, true, true, true, true, true, true, true] rfl rfl (by kernel_rfl) (fun _ _ _ h => h) (Or.inl ⟨by rfl, ?_⟩) ?_ ?_
    rotate_left
    · intro w'
      go_simp
      with_reducible rfl
    rotate_left
    · simp only [Act.put, List.setIfInBounds_toArray, List.set_cons_zero, List.set_cons_succ, i64_w, i32_w]
      rfl
    refine done_ (by kernel_rfl) ?_
    clear hHeld
    have hbb : Below w.heap.size w w3 := HB.out.trans (hb2.mono (below_size HB.out))
    have HV4 := Lib.hid hv4; have HG4 := Lib.hid hg4; have HBB := Lib.hid hbb; have HMW := Lib.hid hm
    clear hv4 hi4 hg4 hbb hb1 hb2 c0 hm
    cases fnd with
    | false =>
      go_wp2_with fail
      exact bodyPost_ret (results_tmp2 rfl _ _ _) rfl ⟨_, rfl, Kd.V_nil _ _ _ _ _, grown_Below HBB.out HMW.out HG4.out⟩
    | true =>
      go_wp2_with fail
      obtain ⟨A, c, rfl, h6, h7, h8⟩ := HV4.out
      refine bodyPost_ret (results_tmp2 rfl _ _ _) rfl ⟨_, rfl, ?_, grown_Below HBB.out HMW.out HG4.out⟩
      exact (show VI w.heap.size w4 (.slice A (ints best).length c) (ints best) from ⟨A, c, rfl, h6, h7, fun ad e => Nat.le_trans (below_size HBB.out) (h8 ad e)⟩).V
def lackB (P : List S48) (Q : List S50) (n : Nat) : Bool := !cutB P Q (setL (2 ^ P.length - 1)) (2 ^ (n + 1) - 1)
def lacksR : Option Nat → Int × Int
  | some n => ((n : Int), 0)
  | none => (0, 4)
def lacksP (P : List S48) (Q : List S50) : Int × Int := if validB P Q then lacksR ((List.range Q.length).find? (lackB P Q)) else (0, 10)
theorem lack_nums (n1 N : Nat) (h5 : n1 ≤ 5) (hN : n1 ≤ N) : ∃ u t : Nat, 2 ^ n1 - 1 = t ∧ (∀ W : World, (Op.shift BinOp.shl IntKind.i64 1 IntKind.i64 (wrap64 (n1 : Int))).run Tryd.prog W = .ok (.int .i64 u) W) ∧ wrap64 ((u : Int) - 1) = (t : Int) ∧ t < 2 ^ N := by
  have h2 := pow_int n1 h5
  have h3 := pow_small n1 h5
  have h4 : 2 ^ n1 ≤ 2 ^ N := Nat.pow_le_pow_right (by omega) hN
  generalize 2 ^ N = z at h4 ⊢
  generalize 2 ^ n1 = u at h2 h3 h4 ⊢
  refine ⟨u, u - 1, rfl, fun W => ?_, by unfold wrap64; omega, by omega⟩
  have hw1 : wrap64 (n1 : Int) = (n1 : Int) := by unfold wrap64; omega
  rw [hw1]
  go_simp
  rw [i64_w]
  exact h2
theorem find_at {f : Nat → Bool} {n k : Nat} (hk : k < n) (h : ∀ j, j < k → f j = false) (hf : f k = true) : (List.range n).find? f = some k := by
  rw [List.find?_range_eq_some]
  exact ⟨hf, by simpa using hk, fun j hj => by rw [h j hj]; rfl⟩
theorem find_no {f : Nat → Bool} {n : Nat} (h : ∀ j, j < n → f j = false) : (List.range n).find? f = none := by
  rw [List.find?_eq_none]
  intro x hx
  rw [h x (List.mem_range.1 hx)]
  simp
set_option maxRecDepth 100000 in
set_option maxHeartbeats 1000000 in
theorem calls_Lacks (PA : Option Addr) (pc : Nat) (P : List S48) (QA : Option Addr) (qc : Nat) (Q : List S50) (w : World) (hP : Kd.C k48 w PA P.length P) (hpc : P.length ≤ pc) (hQ : Kd.C k50 w QA Q.length Q) (hqc : Q.length ≤ qc) (hG : Glob w) :
    Calls Tryd.prog 30 #[.agg #[.slice PA P.length pc, .slice QA Q.length qc]] w fun e w' => e = .returned (.tuple #[.int .i64 (lacksP P Q).1, .int .i64 (lacksP P Q).2]) ∧ Below w.heap.size w w' := by
  obtain ⟨n0, n1, n2⟩ := new1 w (.cells #[.slice PA P.length pc, .slice QA Q.length qc] 25)
  have HP := Lib.hid (Kd.C_below hP n1); have HQ := Lib.hid (Kd.C_below hQ n1); have HG := Lib.hid (hG.below n1); have HX := Lib.hid n0; have HB := Lib.hid n1
  clear n0 n1 n2 hP hQ hG
  cases hv : validB P Q with
  | false =>
    have hck := checkP_no hv
    rw [show lacksP P Q = (0, 10) from by unfold lacksP; rw [hv]; rfl]
    go_enter Tryd.func30, Tryd.ntmps30
    go_wp2_with (go_at_call 18; (with_reducible refine (calls_Check PA pc P QA qc Q _ HP.out hpc HQ.out hqc).mono ?_); rintro e w1 ⟨he, hb⟩; rw [hck] at he; subst he; have HB := Lib.hid (HB.out.trans (hb.mono (below_size HB.out))))
    exact bodyPost_ret (results_tmp2 rfl _ _ _) rfl ⟨rfl, HB.out⟩
  | true =>
    have hck := checkP_yes hv
    have hok := valid_ok hv
    have hfd : lacksP P Q = lacksR ((List.range Q.length).find? (lackB P Q)) := by unfold lacksP; rw [hv]; rfl
    rw [hfd]
    clear hv hfd
    have hp5 : P.length ≤ 5 := by have := hok.p3; omega
    have hcp := fun m W => calls_planks PA P.length pc QA Q.length qc m hp5 W
    have hcc := fun m s hs A c W hB hC hc => bk_cut (pc := pc) (qc := qc) (PA := PA) (QA := QA) (m := m) hok (2 ^ P.length - 1) (by have := pow_small _ hp5; omega) s hs A c W hB hC hc
    have hlk : ∀ n, lackB P Q n = !cutB P Q (setL (2 ^ P.length - 1)) (2 ^ (n + 1) - 1) := fun n => rfl
    obtain ⟨q, hq⟩ : ∃ q : Nat, 2 ^ P.length - 1 = q := ⟨_, rfl⟩
    rw [hq] at hcp hcc hlk
    clear hq
    have HCP := Lib.hid hcp; have HCC := Lib.hid hcc; have HLK := Lib.hid hlk
    clear hcp hcc hlk
    have hq5 := hok.q5
    go_enter Tryd.func30, Tryd.ntmps30
    go_wp2_with (first | (go_at_call 18; (with_reducible refine (calls_Check PA pc P QA qc Q _ HP.out hpc HQ.out hqc).mono ?_); rintro e w1 ⟨he, hb⟩; rw [hck] at he; subst he; have HP := Lib.hid (Kd.C_below HP.out hb); have HQ := Lib.hid (Kd.C_below HQ.out hb); have HG := Lib.hid (HG.out.below hb); have HX := Lib.hid (below_far HX.out hb); have HB := Lib.hid (HB.out.trans (hb.mono (below_size HB.out))); obtain ⟨c0, c1⟩ : w1.cell? ⟨w.heap.size, 0, none⟩ = some (.slice PA P.length pc) ∧ w1.cell? ⟨w.heap.size, 1, none⟩ = some (.slice QA Q.length qc) := ⟨blk_cell HX.out 0, blk_cell HX.out 1⟩; clear hb) | (go_at_call 60; (with_reducible refine (calls_opened PA pc QA qc P Q _ HG.out HP.out HQ.out).mono ?_); rintro e w2 ⟨m, rfl, hbk, hm, hb⟩; have hm := Nat.le_trans (below_size HB.out) hm; have hx := below_far HX.out hb; have hxl := blk_lt hx; have HX := Lib.hid hx; have HB := Lib.hid (HB.out.trans (hb.mono (below_size HB.out))); have HBK := Lib.hid hbk; clear hb hbk c0 c1; have c1 : w2.cell? ⟨w.heap.size, 1, none⟩ = some (.slice QA Q.length qc) := blk_cell hx 1; clear hx))
    obtain ⟨n0, n1, n2⟩ := new1 w2 (.cells #[.slice PA P.length pc, .slice QA Q.length qc, .map (some m)] 84)
    have HI := Lib.hid (show InvA PA pc QA qc m P Q w2.heap.size (w2.alloc (.cells #[.slice PA P.length pc, .slice QA Q.length qc, .map (some m)] 84)) from ⟨HBK.out.below n1, n0⟩)
    have HB := Lib.hid (HB.out.trans (n1.mono (below_size HB.out)))
    clear n0 n1 n2 HBK HX HP HQ HG c1 hxl
    generalize w2.alloc (.cells #[.slice PA P.length pc, .slice QA Q.length qc, .map (some m)] 84) = W at HI HB ⊢
    have HMW := Lib.hid hm; clear hm
    go_loopw [17] (fun v wr => ∃ n : Nat, n ≤ Q.length ∧ v = .int .i64 n ∧ (∀ j, j < n → lackB P Q j = false) ∧ Hid (InvA PA pc QA qc m P Q w2.heap.size wr) ∧ Hid (Below w.heap.size w wr)) (fun v _ => Q.length - (intOf v).toNat)
    case atStart => exact ⟨0, Nat.zero_le _, rfl, (fun j hj => absurd hj (by omega)), HI, HB⟩
    case round =>
      clear HI HB
      obtain ⟨n, hn, rfl, hno, HI, HB⟩ := hrel
      by_cases hlt : n < Q.length
      · obtain ⟨n1, hn1⟩ : ∃ n1, n + 1 = n1 := ⟨_, rfl⟩
        have hn1' : (n : Int) + 1 = (n1 : Int) := by omega
        have hlk := HLK.out n
        rw [hn1] at hlk
        have h5 : n1 ≤ 5 := by omega
        obtain ⟨u, t, ht, hsh, hsb, hs⟩ := lack_nums n1 Q.length h5 (by omega)
        have hcut := fun A c W hB hC hc => HCC.out m t hs A c W hB hC hc
        rw [ht] at hlk
        clear h5
        obtain ⟨r, hr⟩ : ∃ r, cutB P Q (setL q) t = r := ⟨_, rfl⟩
        rw [hr] at hcut hlk
        rw [← hsb] at hcut
        have HCUT := Lib.hid hcut; have HL := Lib.hid hlk
        clear hcut hlk hs ht hr
        obtain ⟨b0, b1, b2⟩ : wr.cell? ⟨w2.heap.size, 0, none⟩ = some (.slice PA P.length pc) ∧ wr.cell? ⟨w2.heap.size, 1, none⟩ = some (.slice QA Q.length qc) ∧ wr.cell? ⟨w2.heap.size, 2, none⟩ = some (.map (some m)) := ⟨blk_cell HI.out.2 0, blk_cell HI.out.2 1, blk_cell HI.out.2 2⟩
        go_wp2_with fail
        refine start_ (n := 9) (S := fun w' => w'.cell? ⟨w2.heap.size, 0, none⟩ = some (.slice PA P.length pc) ∧ w'.cell? ⟨w2.heap.size, 1, none⟩ = some (.slice QA Q.length qc) ∧ w'.cell? ⟨w2.heap.size, 2, none⟩ = some (.map (some m))) (ds := [7]) #[false, false, false, false, false, false, false, false, false] (by kernel_rfl) rfl rfl ⟨b0, b1, b2⟩ (fun hHeld => ?_)
        refine pure_ (i := 1) (N := some 21) (v := ?_) (a' := ?_) #[false, true, false, false, false, false, false, false, false] rfl rfl (by kernel_rfl) (fun _ _ _ h => h) (Or.inl ⟨by rfl, ?_⟩) ?_ ?_
        rotate_left
        · intro w'
          go_simp
          with_reducible rfl
        rotate_left
        · simp only [Act.put, List.setIfInBounds_toArray, List.set_cons_zero, List.set_cons_succ, i64_w, i32_w]
          rfl
        refine pure_ (i := 2) (N := some 22) (v := ?_) (a' := ?_) #[false, true, true, false, false, false, false, false, false] rfl rfl (by kernel_rfl) (fun _ _ _ h => h) (Or.inl ⟨by rfl, ?_⟩) ?_ ?_
        rotate_left
        · intro w'
          go_simp
          with_reducible rfl
        rotate_left
        · simp only [Act.put, List.setIfInBounds_toArray, List.set_cons_zero, List.set_cons_succ, i64_w, i32_w]
          rfl
        refine pure_ (i := 3) (N := some 23) (v := ?_) (a' := ?_) #[false, true, true, true, false, false, false, false, false] rfl rfl (by kernel_rfl) (fun _ _ _ h => h) (Or.inl ⟨by rfl, ?_⟩) ?_ ?_
        rotate_left
        · intro w'
          go_simp
          with_reducible rfl
        rotate_left
        · simp only [Act.put, List.setIfInBounds_toArray, List.set_cons_zero, List.set_cons_succ, i64_w, i32_w]
          rfl
        refine pure_ (i := 4) (N := some 24) (v := ?_) (a' := ?_) #[false, true, true, true, true, false, false, false, false] rfl rfl (by kernel_rfl) (fun _ _ _ h => h) (Or.inl ⟨by rfl, ?_⟩) ?_ ?_
        rotate_left
        · intro w'
          go_simp
          with_reducible rfl
        rotate_left
        · simp only [Act.put, List.setIfInBounds_toArray, List.set_cons_zero, List.set_cons_succ, i64_w, i32_w]
          rfl
        refine take_ (i := 0) (N := some 20) (v := ?_) (a' := ?_) #[true, true, true, true, true, false, false, false, false] rfl rfl (by kernel_rfl) (fun _ _ _ h => h) (Or.inl ⟨by rfl, ?_⟩) hHeld ?_ ?_
        rotate_left
        · rintro w' ⟨s0, s1, s2⟩
          go_simp
          with_reducible rfl
        rotate_left
        · simp only [Act.put, List.setIfInBounds_toArray, List.set_cons_zero, List.set_cons_succ, i64_w, i32_w]
          rfl
        refine take_ (i := 5) (N := some 25) (v := ?_) (a' := ?_) #[true, true, true, true, true, true, false, false, false] rfl rfl (by kernel_rfl) (fun _ _ _ h => h) (Or.inl ⟨by rfl, ?_⟩) hHeld ?_ ?_
        rotate_left
        · rintro w' ⟨s0, s1, s2⟩
          go_simp
          with_reducible rfl
        rotate_left
        · simp only [Act.put, List.setIfInBounds_toArray, List.set_cons_zero, List.set_cons_succ, i64_w, i32_w]
          rfl
        refine one_ (i := 6) (N := some 26) #[true, true, true, true, true, true, true, false, false] rfl rfl (by kernel_rfl) (by decide) (fun K hK => ?_)
        refine goes_ Tryd.func90 (by kernel_rfl) rfl #[.agg #[.slice PA P.length pc, .slice QA Q.length qc, .map (some m)]] (by rfl) rfl rfl (by first | (simp; done) | (simp only [List.map_toArray, List.map_cons, List.map_nil]; rfl)) ?_
        with_reducible refine (HCP.out _ _).mono ?_
        rintro e w5 ⟨v5, rfl, hv5, hb3⟩
        have hb4 : Below wr.heap.size wr w5 := undrew hb3
        obtain ⟨A5, c5, rfl, hl5, hC5, -⟩ := hv5
        refine ⟨_, rfl, ?_⟩
        refine hK.out _ _ ⟨pw_cell_below hb4 b0, pw_cell_below hb4 b1, pw_cell_below hb4 b2⟩ (fun hHeld => ?_)
        clear hK K
        refine norm_ (a' := ?_) ?_ ?_
        rotate_left
        · show Act.put _ (some 26) _ = _
          simp only [Act.put, List.setIfInBounds_toArray, List.set_cons_zero, List.set_cons_succ, i64_w, i32_w]
          rfl
        refine last_ (i := 7) (N := some 27) #[true, true, true, true, true, true, true, true, false] rfl rfl (by kernel_rfl) (by decide) (fun K hK => ?_)
        refine goes_ Tryd.func84 (by kernel_rfl) rfl #[.agg #[.slice PA P.length pc, .slice QA Q.length qc, .map (some m)], .int .i64 (wrap64 ((u : Int) - 1)), .slice A5 (ints (setL q)).length c5] (by rfl) rfl rfl (by first | (simp; done) | (simp only [List.map_toArray, List.map_cons, List.map_nil]; rfl)) ?_
        with_reducible refine (HCUT.out A5 c5 w5 (HI.out.bk.below hb4) hC5 hl5).mono ?_
        rintro e w6 ⟨rfl, hbk6, hg6⟩
        refine ⟨_, rfl, ?_⟩
        refine hK.out _ _ ?_
        clear hK K
        refine norm_ (a' := ?_) ?_ ?_
        rotate_left
        · show Act.put _ (some 27) _ = _
          simp only [Act.put, List.setIfInBounds_toArray, List.set_cons_zero, List.set_cons_succ, i64_w, i32_w]
          rfl
        refine pure_ (i := 8) (N := some 28) (v := ?_) (a' := ?_) #[true, true, true, true, true, true, true, true, true] rfl rfl (by kernel_rfl) (fun _ _ _ h => h) (Or.inl ⟨by rfl, ?_⟩) ?_ ?_
        rotate_left
        · intro w'
          go_simp
          with_reducible rfl
        rotate_left
        · simp only [Act.put, List.setIfInBounds_toArray, List.set_cons_zero, List.set_cons_succ, i64_w, i32_w]
          rfl
        refine done_ (by kernel_rfl) ?_
        clear hHeld b0 b1 b2
        have HI6 := Lib.hid (show InvA PA pc QA qc m P Q w2.heap.size w6 from ⟨hbk6, blk_grownM (HI.out.below hb4).2 (HI.out.below hb4).bk.is hg6⟩)
        have HB6 := Lib.hid (grown_Below (HB.out.trans (hb4.mono (below_size HB.out))) HMW.out hg6)
        clear hbk6 hg6 hb4 hb3 hC5
        cases r with
        | true =>
          go_wp2_with fail
          go_roundw
          case rel => exact ⟨n + 1, by omega, by first | (rw [hn1]; done) | (rw [hn1]; rfl) | go_num, (fun j hj => by
            rcases Nat.lt_succ_iff_lt_or_eq.1 hj with h | h
            · exact hno j h
            · subst h; exact HL.out), HI6, HB6⟩
          case measure => simp [intOf]; omega
        | false =>
          have hfn := find_at hlt hno HL.out
          have HFN := Lib.hid hfn; clear hfn
          go_wp2_with fail
          rw [HFN.out]
          exact bodyPost_ret (results_tmp2 rfl _ _ _) rfl ⟨rfl, HB6.out⟩
      · obtain rfl : n = Q.length := by omega
        have HFN := Lib.hid (find_no hno)
        go_wp2_with fail
        rw [HFN.out]
        exact bodyPost_ret (results_tmp2 rfl _ _ _) rfl ⟨rfl, HB.out⟩
end Go.Proofs.YtekjlpldooihhaaDoorP
namespace Go.Proofs.YtekjlpldooihhaaDoorP
open Go.RowKit Go.Proofs.YtekjlpldooihhaaDoorW.PrintWords Go.Proofs.YtekjlpldooihhaaDoorW.PrintLast Go.Proofs.YtekjlpldooihhaaDoorW.PrintMore Go.Proofs.YtekjlpldooihhaaDoorH Go.Proofs.YtekjlpldooihhaaDoorEv Go.Proofs.YtekjlpldooihhaaDoor.PA
set_option linter.unusedVariables false
set_option linter.unusedSimpArgs false
def lstep (N : Nat) (z : Bool × Int) (n : Int) : Bool × Int := (z.1 && (inB n N && decide (n > z.2)), n)
def layR : Option (List Nat) → List Int × Int
  | some o => (ints o, 0)
  | none => ([], 4)
def okL (N : Nat) (b : Bool) (ps : List Int) : Bool := (ps.foldl (lstep N) (b, -1)).1
def layP (P : List S48) (Q : List S50) (i : Int) (ps : List Int) : List Int × Int :=
  if validB P Q then if okL Q.length (inB i P.length) ps then layR (laidB (P.getD i.toNat z48) Q (ps.map (·.toNat))) else ([], 11) else ([], 10)
theorem lstep_true (N : Nat) : ∀ (ps : List Int) (b : Bool) (last : Int), (ps.foldl (lstep N) (b, last)).1 = true → b = true ∧ ps = ints (ps.map (·.toNat)) ∧ (∀ p ∈ ps.map (·.toNat), p < N ∧ last < (p : Int)) ∧ ps.length ≤ N - (last + 1).toNat
  | [], b, last, h => ⟨h, rfl, fun p hp => absurd hp (by simp), by simp⟩
  | a :: l, b, last, h => by
    obtain ⟨h1, h2, h3, h4⟩ := lstep_true N l _ _ h
    simp only [lstep, Bool.and_eq_true, decide_eq_true_eq] at h1
    obtain ⟨k, rfl, hk⟩ := in_nat h1.2.1
    refine ⟨h1.1, ?_, fun p hp => ?_, ?_⟩
    · rw [List.map_cons, show ints (((k : Int)).toNat :: l.map (·.toNat)) = (k : Int) :: ints (l.map (·.toNat)) from rfl, ← h2]
    · rw [List.map_cons] at hp
      rcases List.mem_cons.1 hp with rfl | hp
      · exact ⟨hk, by simpa using h1.2.2⟩
      · have := h3 p hp
        exact ⟨this.1, by have := h1.2.2; omega⟩
    · simp only [List.length_cons]
      have := h1.2.2
      omega
theorem okL_true {N : Nat} {b : Bool} {ps : List Int} (h : okL N b ps = true) : b = true ∧ ∃ qs : List Nat, ps = ints qs ∧ ps.map (·.toNat) = qs ∧ (∀ p ∈ qs, p < N) ∧ qs.length ≤ N := by
  obtain ⟨h1, h2, h3, h4⟩ := lstep_true N ps b (-1) h
  refine ⟨h1, _, h2, rfl, fun p hp => (h3 p hp).1, ?_⟩
  rw [List.length_map]
  simpa using h4
theorem take_next (ps : List Int) (k : Nat) (h : k < ps.length) : ps.take (k + 1) = ps.take k ++ [rd ps k] := by
  rw [List.take_add_one, show ps[k]? = some (rd ps k) from by simp [rd, h]]; rfl
set_option maxRecDepth 100000 in
set_option maxHeartbeats 1000000 in
theorem calls_Lay (PA : Option Addr) (pc : Nat) (P : List S48) (QA : Option Addr) (qc : Nat) (Q : List S50) (i : Int) (BA : Option Addr) (bc : Nat) (ps : List Int) (w : World) (hP : Kd.C k48 w PA P.length P) (hpc : P.length ≤ pc) (hQ : Kd.C k50 w QA Q.length Q) (hqc : Q.length ≤ qc) (hL : Kd.C (Kd.int .i64) w BA ps.length ps) (hbc : ps.length ≤ bc) (hG : Glob w) :
    Calls Tryd.prog 24 #[.agg #[.slice PA P.length pc, .slice QA Q.length qc], .int .i64 i, .slice BA ps.length bc] w fun e w' => ∃ v, e = .returned (.tuple #[v, .int .i64 (layP P Q i ps).2]) ∧ Kd.V (Kd.int .i64) 3 w' w.heap.size (fun k => w.heap.size ≤ k) v (layP P Q i ps).1 ∧ Below w.heap.size w w' := by
  have hlen : ps.length < 9223372036854775808 := by have := hL.2.1; omega
  obtain ⟨n0, n1, n2⟩ := new1 w (.cells #[.slice PA P.length pc, .slice QA Q.length qc] 25)
  have HP := Lib.hid (Kd.C_below hP n1); have HQ := Lib.hid (Kd.C_below hQ n1); have HL := Lib.hid (Kd.C_below hL n1); have HG := Lib.hid (hG.below n1); have HX := Lib.hid n0; have HB := Lib.hid n1
  clear n0 n1 n2 hP hQ hG hL
  cases hv : validB P Q with
  | false =>
    have hck := checkP_no hv
    rw [show layP P Q i ps = ([], 10) from by unfold layP; rw [hv]; rfl]
    go_enter Tryd.func24, Tryd.ntmps24
    go_wp2_with (go_at_call 18; (with_reducible refine (calls_Check PA pc P QA qc Q _ HP.out hpc HQ.out hqc).mono ?_); rintro e w1 ⟨he, hb⟩; rw [hck] at he; subst he; have HB := Lib.hid (HB.out.trans (hb.mono (below_size HB.out))))
    exact bodyPost_ret (results_tmp2 rfl _ _ _) rfl ⟨_, rfl, Kd.V_nil _ _ _ _ _, HB.out⟩
  | true =>
    have hck := checkP_yes hv
    have hok := valid_ok hv
    have hfd : layP P Q i ps = if okL Q.length (inB i P.length) ps then layR (laidB (P.getD i.toNat z48) Q (ps.map (·.toNat))) else ([], 11) := by unfold layP; rw [hv]; rfl
    obtain ⟨R0, hR0⟩ : ∃ R0, layP P Q i ps = R0 := ⟨_, rfl⟩
    rw [hR0]
    rw [hfd] at hR0
    clear hv hfd
    have hcpl := fun W hPW hQW => calls_isPlank PA pc P QA qc Q i W hPW hpc hQW hqc
    rw [show (decide (0 ≤ i) && decide (i ≤ (P.length : Int) - 1)) = inB i P.length from rfl] at hcpl
    have hcpa := fun p W hPW hQW => calls_isPart PA pc P QA qc Q p W hPW hpc hQW hqc
    obtain ⟨eb, hib⟩ : ∃ eb, inB i P.length = eb := ⟨_, rfl⟩
    rw [hib] at hcpl hR0
    have HR0 := Lib.hid hR0; clear hR0
    have HCL := Lib.hid hcpl
    have HCA := Lib.hid (show ∀ (p : Int) (W : World), Kd.C k48 W PA P.length P → Kd.C k50 W QA Q.length Q → Calls Tryd.prog 62 #[.agg #[.slice PA P.length pc, .slice QA Q.length qc], .int .i64 p] W fun e w' => e = .returned (.bool (inB p Q.length)) ∧ Below W.heap.size W w' from hcpa)
    clear hcpl hcpa
    go_enter Tryd.func24, Tryd.ntmps24
    go_wp2_with (first | (go_at_call 18; (with_reducible refine (calls_Check PA pc P QA qc Q _ HP.out hpc HQ.out hqc).mono ?_); rintro e w1 ⟨he, hb⟩; rw [hck] at he; subst he; have HP := Lib.hid (Kd.C_below HP.out hb); have HQ := Lib.hid (Kd.C_below HQ.out hb); have HL := Lib.hid (Kd.C_below HL.out hb); have HG := Lib.hid (HG.out.below hb); have HX := Lib.hid (below_far HX.out hb); have HB := Lib.hid (HB.out.trans (hb.mono (below_size HB.out))); obtain ⟨c0, c1⟩ : w1.cell? ⟨w.heap.size, 0, none⟩ = some (.slice PA P.length pc) ∧ w1.cell? ⟨w.heap.size, 1, none⟩ = some (.slice QA Q.length qc) := ⟨blk_cell HX.out 0, blk_cell HX.out 1⟩; clear hb) | (go_at_call 61; (with_reducible refine (HCL.out _ HP.out HQ.out).mono ?_); rintro e w2 ⟨rfl, hb⟩; have HP := Lib.hid (Kd.C_below HP.out hb); have HQ := Lib.hid (Kd.C_below HQ.out hb); have HL := Lib.hid (Kd.C_below HL.out hb); have HG := Lib.hid (HG.out.below hb); have HX := Lib.hid (below_far HX.out hb); have HB := Lib.hid (HB.out.trans (hb.mono (below_size HB.out))); clear hb c0 c1))
    go_loopw [9, 10, 25] (fun v9 v10 v wr => ∃ k : Nat, k ≤ ps.length ∧ v = .int .i64 k ∧ v9 = .bool ((ps.take k).foldl (lstep Q.length) (eb, -1)).1 ∧ v10 = .int .i64 ((ps.take k).foldl (lstep Q.length) (eb, -1)).2 ∧ Hid (Kd.C k48 wr PA P.length P) ∧ Hid (Kd.C k50 wr QA Q.length Q) ∧ Hid (Kd.C (Kd.int .i64) wr BA ps.length ps) ∧ Hid (Glob wr) ∧ Hid (wr.heap[w.heap.size]? = some (.cells #[.slice PA P.length pc, .slice QA Q.length qc] 25 (0, 0))) ∧ Hid (Below w.heap.size w wr)) (fun _ _ v _ => ps.length - (intOf v).toNat)
    case atStart => exact ⟨0, Nat.zero_le _, rfl, rfl, rfl, HP, HQ, HL, HG, HX, HB⟩
    case round =>
      clear HP HQ HL HG HX HB
      obtain ⟨k, hk, rfl, rfl, rfl, HP, HQ, HL, HG, HX, HB⟩ := hrel
      obtain ⟨ok, last, hz⟩ : ∃ ok last, (ps.take k).foldl (lstep Q.length) (eb, -1) = (ok, last) := ⟨_, _, rfl⟩
      rw [hz]
      simp only
      by_cases hlt : k < ps.length
      · obtain ⟨ad, rfl, hcell⟩ := at_nat HL.out k hlt
        obtain ⟨x, hx⟩ : ∃ x, rd ps k = x := ⟨_, rfl⟩
        have hnx : (ps.take (k + 1)).foldl (lstep Q.length) (eb, -1) = (ok && (inB x Q.length && decide (x > last)), x) := by
          rw [take_next ps k hlt, List.foldl_append, hz, hx]; rfl
        rw [hx] at hcell
        obtain ⟨c0, c1⟩ : wr.cell? ⟨w.heap.size, 0, none⟩ = some (.slice PA P.length pc) ∧ wr.cell? ⟨w.heap.size, 1, none⟩ = some (.slice QA Q.length qc) := ⟨blk_cell HX.out 0, blk_cell HX.out 1⟩
        obtain ⟨ib, hib2⟩ : ∃ ib, inB x Q.length = ib := ⟨_, rfl⟩
        rw [hib2] at hnx
        have HN := Lib.hid hnx; have HIB := Lib.hid hib2
        clear hnx hz hib2 hx
        cases ok with
        | false =>
          go_wp2_with fail
          go_roundw
          case rel => exact ⟨k + 1, by omega, by go_num, by rw [HN.out]; rfl, by rw [HN.out], HP, HQ, HL, HG, HX, HB⟩
          case measure => simp [intOf]; omega
        | true =>
          cases ib with
          | false =>
            go_wp2_with (go_at_call 62; (with_reducible refine (HCA.out x _ HP.out HQ.out).mono ?_); rintro e w2 ⟨he, hb⟩; rw [HIB.out] at he; subst he; have HP := Lib.hid (Kd.C_below HP.out hb); have HQ := Lib.hid (Kd.C_below HQ.out hb); have HL := Lib.hid (Kd.C_below HL.out hb); have HG := Lib.hid (HG.out.below hb); have HX := Lib.hid (below_far HX.out hb); have HB := Lib.hid (HB.out.trans (hb.mono (below_size HB.out))); clear hb c0 c1 hcell)
            go_roundw
            case rel => exact ⟨k + 1, by omega, by go_num, by rw [HN.out]; rfl, by rw [HN.out], HP, HQ, HL, HG, HX, HB⟩
            case measure => simp [intOf]; omega
          | true =>
            go_wp2_with (go_at_call 62; (with_reducible refine (HCA.out x _ HP.out HQ.out).mono ?_); rintro e w2 ⟨he, hb⟩; rw [HIB.out] at he; subst he; have HP := Lib.hid (Kd.C_below HP.out hb); have HQ := Lib.hid (Kd.C_below HQ.out hb); have HL := Lib.hid (Kd.C_below HL.out hb); have HG := Lib.hid (HG.out.below hb); have HX := Lib.hid (below_far HX.out hb); have HB := Lib.hid (HB.out.trans (hb.mono (below_size HB.out))); clear hb c0 c1 hcell)
            go_roundw
            case rel => exact ⟨k + 1, by omega, by go_num, by rw [HN.out]; rfl, by rw [HN.out], HP, HQ, HL, HG, HX, HB⟩
            case measure => simp [intOf]; omega
      · obtain rfl : k = ps.length := by omega
        rw [List.take_length] at hz
        have hokl : okL Q.length eb ps = ok := by unfold okL; rw [hz]
        clear hz
        cases ok with
        | false =>
          obtain rfl : (([] : List Int), (11 : Int)) = R0 := by have := HR0.out; rw [hokl] at this; exact this
          clear hokl HR0
          go_wp2_with fail
          exact bodyPost_ret (results_tmp2 rfl _ _ _) rfl ⟨_, rfl, Kd.V_nil _ _ _ _ _, HB.out⟩
        | true =>
          obtain ⟨rfl, qs, rfl, hqs, hq1, hq2⟩ := okL_true hokl
          obtain ⟨i', rfl, hi⟩ := in_nat hib
          have hr1 : R0 = layR (laidB (P.getD i' z48) Q qs) := by have := HR0.out; rw [hokl, hqs] at this; exact this.symm
          clear hokl hib HR0 hqs
          obtain ⟨c0, c1⟩ : wr.cell? ⟨w.heap.size, 0, none⟩ = some (.slice PA P.length pc) ∧ wr.cell? ⟨w.heap.size, 1, none⟩ = some (.slice QA Q.length qc) := ⟨blk_cell HX.out 0, blk_cell HX.out 1⟩
          have HLD := Lib.hid (show ∀ (m : Nat) (W : World), Bk PA QA m P Q W → Kd.C (Kd.int .i64) W BA (ints qs).length (ints qs) → Calls Tryd.prog 76 #[.agg #[.slice PA P.length pc, .slice QA Q.length qc, .map (some m)], .int .i64 i', .slice BA (ints qs).length bc] W fun e w' => Bk PA QA m P Q w' ∧ W.grownBy w' (some m) ∧ LayPost W.heap.size (laidB (P.getD i' z48) Q qs) e w' from fun m W hB hC => by
            have h := calls_laid PA pc QA qc m P Q hok i' hi BA bc qs hq1 (by have := hok.q5; omega) W hB hC
            rwa [ints_length])
          obtain ⟨r, hr⟩ : ∃ r, laidB (P.getD i' z48) Q qs = r := ⟨_, rfl⟩
          rw [hr] at HLD hr1
          clear hr
          cases r with
          | none =>
            obtain rfl : R0 = ([], 4) := hr1
            go_wp2_with (first | (go_at_call 60; (with_reducible refine (calls_opened PA pc QA qc P Q _ HG.out HP.out HQ.out).mono ?_); rintro e w3 ⟨m, rfl, hbk, hm, hb⟩; have hm := Nat.le_trans (below_size HB.out) hm; have HL := Lib.hid (Kd.C_below HL.out hb); have HB := Lib.hid (HB.out.trans (hb.mono (below_size HB.out))); have HBK := Lib.hid hbk; clear hb hbk c0 c1) | (go_at_call 76; (with_reducible refine (HLD.out _ _ HBK.out HL.out).mono ?_); rintro e w4 ⟨hbk4, hg4, hp4⟩; obtain ⟨v4, b4, rfl, ht4⟩ := LayPost.told hp4; obtain ⟨rfl, rfl⟩ := ht4))
            exact bodyPost_ret (results_tmp2 rfl _ _ _) rfl ⟨_, rfl, Kd.V_nil _ _ _ _ _, grown_Below HB.out hm hg4⟩
          | some o =>
            obtain rfl : R0 = (ints o, 0) := hr1
            go_wp2_with (first | (go_at_call 60; (with_reducible refine (calls_opened PA pc QA qc P Q _ HG.out HP.out HQ.out).mono ?_); rintro e w3 ⟨m, rfl, hbk, hm, hb⟩; have hm := Nat.le_trans (below_size HB.out) hm; have HL := Lib.hid (Kd.C_below HL.out hb); have HB := Lib.hid (HB.out.trans (hb.mono (below_size HB.out))); have HBK := Lib.hid hbk; clear hb hbk c0 c1) | (go_at_call 76; (with_reducible refine (HLD.out _ _ HBK.out HL.out).mono ?_); rintro e w4 ⟨hbk4, hg4, hp4⟩; obtain ⟨v4, b4, rfl, ht4⟩ := LayPost.told hp4; obtain ⟨rfl, A4, c4, rfl, hl4, hC4, hB4⟩ := ht4; have hlen4 : (ints o).length < 9223372036854775808 := (by have := hC4.2.1; omega); have HC4 := Lib.hid hC4; have HB4 := Lib.hid hB4; clear hC4 hB4))
            refine bodyPost_ret (results_tmp2 rfl _ _ _) rfl ⟨_, rfl, ?_, grown_Below HB.out hm hg4⟩
            exact (vi_of (base := w.heap.size) (Nat.le_refl _) HC4.out (fun ad e => Nat.le_trans (below_size HB.out) (HB4.out ad e))).V
end Go.Proofs.YtekjlpldooihhaaDoorP
