/- Package plank, plain laws: laid of the statements; PlankLay. -/
import Derived.Test.YtekjlpldooihhaaDoorPTx2
import Derived.Test.YtekjlpldooihhaaDoorSh
import Derived.Test.YtekjlpldooihhaaDoorSv
import Derived.Test.YtekjlpldooihhaaDoorPTx22
import Derived.Test.YtekjlpldooihhaaDoorPb
namespace Go.Proofs.YtekjlpldooihhaaDoor.PR
open Go.Proofs.YtekjlpldooihhaaDoorSh
open Go.RowKit Go.Proofs.YtekjlpldooihhaaDoorW.PrintWords Go.Proofs.YtekjlpldooihhaaDoorEv Go.Proofs.YtekjlpldooihhaaDoorP Go.Proofs.YtekjlpldooihhaaDoor.PT Go.Proofs.YtekjlpldooihhaaDoorH
open Go.Proofs.YtekjlpldooihhaaDoor.PA (S48 S50 S60 k48 k50 k60 z48 z50 z60 rd_T48 rd_T50 rd_T60)
set_option linter.unusedVariables false
set_option linter.unusedSimpArgs false
theorem Ordered_f (a b c d : Int) : skewbaldref00_Ordered.f a b c d = some (decide (c ≤ a) && (decide (a ≤ b) && decide (b ≤ d))) := by
  unfold skewbaldref00_Ordered.f
  by_cases h : c ≤ a <;> by_cases h2 : a ≤ b <;> simp [h, h2]
def chk (b : Bool) : Int := if b then 0 else 10
theorem grows_asc (L : Int) : ∀ (last : Int) (l : List Int), growsB L last l = ascB L last l
  | _, [] => rfl
  | last, n :: l => by
    unfold growsB ascB
    rw [grows_asc L n l]
    rw [show decide (last < n) = decide (last + 1 ≤ n) from by rw [decide_eq_decide]; omega, show decide (n < L) = decide (n ≤ L - 1) from by rw [decide_eq_decide]; omega]
theorem rd48 (P : List S48) (i : Nat) : rd_T48 P (i : Int) = P.getD i z48 := rfl
theorem rd50 (Q : List S50) (i : Nat) : rd_T50 Q (i : Int) = Q.getD i z50 := rfl
theorem rd60 (l : List S60) (i : Nat) : rd_T60 l (i : Int) = l.getD i z60 := rfl
theorem getD_el {α : Type} {l : List α} {z : α} {i : Nat} (h : i < l.length) : l.getD i z = l[i] := by simp [h]
theorem Check_l1 {P : List S48} {Q : List S50} {L : Int} {kn : List S60} (hkn : kn.length < 9223372036854775808) {i : Nat} (hi : i < 9223372036854775807) (r : Bool) (hc : ∀ b, Evt (fun k => skewbaldref01_Check.l0 k b ((i + 1 : Nat) : Int) P Q) (chk (b && r))) :
    ∀ (d j : Nat) (ok : Bool), j + d = kn.length → (ok = true → 1 ≤ L ∧ L ≤ 16) → Evt (fun k => skewbaldref01_Check.l1 k ok (i : Int) (j : Int) P Q L kn) (chk ((ok && (kn.drop j).all (knotB L)) && r))
  | d, j, false, hj, _ => by
    refine Evt.succ ?_
    simp only [skewbaldref01_Check.l1]
    refine Evt.neg (by simp) ?_
    rw [w64 i hi]
    simpa using hc false
  | 0, j, true, hj, _ => by
    refine Evt.succ ?_
    simp only [skewbaldref01_Check.l1]
    refine Evt.pos (by trivial) (Evt.neg (by omega) ?_)
    rw [w64 i hi, List.drop_eq_nil_of_le (by omega)]
    simpa using hc true
  | d + 1, j, true, hj, hL => by
    obtain ⟨h1, h16⟩ := hL rfl
    refine Evt.succ ?_
    simp only [skewbaldref01_Check.l1]
    refine Evt.pos (by trivial) (Evt.pos (by omega) (Evt.pos (by omega) ?_))
    have hd : kn.drop j = kn[j] :: kn.drop (j + 1) := List.drop_eq_getElem_cons (by omega)
    rw [rd60, getD_el (by omega : j < kn.length), w64 j (by omega), hd, List.all_cons]
    generalize kn[j] = s
    rw [Ordered_f, show wrap64 (L - 1) = L - 1 by unfold wrap64; omega]
    simp only [Option.bind_some]
    have ih := fun b => Check_l1 (L := L) hkn hi r hc d (j + 1) b (by omega)
    refine Evt.ite (fun h => ?_) (fun h => ?_)
    · simp only [Bool.and_eq_true, decide_eq_true_eq] at h
      have e : knotB L s = decide (wrap64 (s.f1 - s.f0) ≤ 6) := by
        unfold knotB
        rw [show wrap64 (s.f1 - s.f0) = s.f1 - s.f0 by unfold wrap64; omega, decide_eq_true (show 0 ≤ s.f0 from h.1), decide_eq_true (show s.f0 ≤ s.f1 from h.2.1), decide_eq_true (show s.f1 < L by omega)]
        simp
      rw [e]
      simpa using ih (decide (wrap64 (s.f1 - s.f0) ≤ 6)) (fun _ => ⟨h1, h16⟩)
    · have e : knotB L s = false := by
        simp only [Bool.and_eq_true, decide_eq_true_eq, not_and] at h
        unfold knotB
        rw [Bool.eq_false_iff]
        intro h2
        simp only [Bool.and_eq_true, decide_eq_true_eq] at h2
        exact h h2.1 h2.2.1 (by omega)
      rw [e]
      simpa using ih false (fun h => by cases h)
theorem Check_l2 {P : List S48} {Q : List S50} (hQ : Q.length < 9223372036854775808) (hq : ∀ x ∈ Q, x.f1.length < 9223372036854775808) : ∀ (d j : Nat) (ok : Bool), j + d = Q.length →
    Evt (fun k => skewbaldref01_Check.l2 k ok (j : Int) P Q) (chk (ok && (Q.drop j).all shapeB))
  | d, j, false, hj => by
    refine Evt.succ ?_
    simp only [skewbaldref01_Check.l2]
    refine Evt.neg (by simp) (Evt.succ ?_)
    simp only [skewbaldref01_Check.j6]
    exact Evt.neg (by simp) (Evt.neg (by simp) (by simpa [chk] using Evt.pure (10 : Int)))
  | 0, j, true, hj => by
    refine Evt.succ ?_
    simp only [skewbaldref01_Check.l2]
    refine Evt.pos (by trivial) (Evt.succ ?_)
    simp only [skewbaldref01_Check.j6]
    rw [List.drop_eq_nil_of_le (by omega), decide_eq_false (show ¬ (j : Int) < (Q.length : Int) by omega)]
    exact Evt.neg (by simp) (Evt.pos (by trivial) (by simpa [chk] using Evt.pure (0 : Int)))
  | d + 1, j, true, hj => by
    refine Evt.succ ?_
    simp only [skewbaldref01_Check.l2]
    refine Evt.pos (by trivial) (Evt.succ ?_)
    simp only [skewbaldref01_Check.j6]
    rw [decide_eq_true (show (j : Int) < (Q.length : Int) by omega)]
    refine Evt.pos (by trivial) (Evt.pos (by omega) (Evt.pos (by omega) ?_))
    have hd : Q.drop j = Q[j] :: Q.drop (j + 1) := List.drop_eq_getElem_cons (by omega)
    have hx := hq Q[j] (List.getElem_mem _)
    rw [rd50, getD_el (by omega : j < Q.length), w64 j (by omega), hd, List.all_cons]
    generalize Q[j] = x at hx
    rw [In_f]
    simp only [Option.bind_some]
    have ih := fun b => Check_l2 (P := P) hQ hq d (j + 1) b (by omega)
    refine Evt.ite (fun h => Evt.ite (fun h3 => ?_) (fun h3 => ?_)) (fun h => ?_)
    · refine Evt.bind (Grows_f x.f1 (by omega) x.f0) ?_
      have e : shapeB x = growsB x.f0 (-1) x.f1 := by
        unfold shapeB
        rw [h, grows_asc, decide_eq_true (show x.f1.length ≤ 3 by omega)]
        simp
      rw [e]
      simpa using ih (growsB x.f0 (-1) x.f1)
    · have e : shapeB x = false := by
        unfold shapeB
        rw [decide_eq_false (show ¬ x.f1.length ≤ 3 by omega)]
        simp
      rw [e]
      simpa using ih false
    · have e : shapeB x = false := by
        unfold shapeB
        rw [show (decide (1 ≤ x.f0) && decide (x.f0 ≤ 12)) = false by simpa using h]
        simp
      rw [e]
      simpa using ih false
theorem Check_l0 {P : List S48} {Q : List S50} (hP : P.length < 9223372036854775808) (hp : ∀ y ∈ P, y.f1.length < 9223372036854775808) (hQ : Q.length < 9223372036854775808) (hq : ∀ x ∈ Q, x.f1.length < 9223372036854775808) : ∀ (d i : Nat) (ok : Bool), i + d = P.length →
    Evt (fun k => skewbaldref01_Check.l0 k ok (i : Int) P Q) (chk (ok && ((P.drop i).all woodB && Q.all shapeB)))
  | d, i, false, hj => by
    refine Evt.succ ?_
    simp only [skewbaldref01_Check.l0]
    refine Evt.neg (by simp) (Evt.succ ?_)
    simp only [skewbaldref01_Check.j2]
    refine Evt.neg (by simp) ?_
    simpa using Check_l2 (P := P) hQ hq Q.length 0 false (by omega)
  | 0, i, true, hj => by
    refine Evt.succ ?_
    simp only [skewbaldref01_Check.l0]
    refine Evt.pos (by trivial) (Evt.succ ?_)
    simp only [skewbaldref01_Check.j2]
    rw [List.drop_eq_nil_of_le (by omega), decide_eq_false (show ¬ (i : Int) < (P.length : Int) by omega)]
    refine Evt.neg (by simp) ?_
    simpa using Check_l2 (P := P) hQ hq Q.length 0 true (by omega)
  | d + 1, i, true, hj => by
    refine Evt.succ ?_
    simp only [skewbaldref01_Check.l0]
    refine Evt.pos (by trivial) (Evt.succ ?_)
    simp only [skewbaldref01_Check.j2]
    rw [decide_eq_true (show (i : Int) < (P.length : Int) by omega)]
    refine Evt.pos (by trivial) (Evt.pos (by omega) (Evt.pos (by omega) ?_))
    have hd : P.drop i = P[i] :: P.drop (i + 1) := List.drop_eq_getElem_cons (by omega)
    have hx := hp P[i] (List.getElem_mem _)
    rw [rd48, getD_el (by omega : i < P.length), hd, List.all_cons]
    generalize P[i] = y at hx
    rw [In_f]
    simp only [Option.bind_some]
    have hc := fun b => Check_l0 hP hp hQ hq d (i + 1) b (by omega)
    have key := fun ok hL => Check_l1 (L := y.f0) hx (show i < 9223372036854775807 by omega) _ hc y.f1.length 0 ok (by omega) hL
    refine Evt.ite (fun h => Evt.succ ?_) (fun h => Evt.succ ?_)
    · simp only [skewbaldref01_Check.j3]
      have h' := h
      simp only [Bool.and_eq_true, decide_eq_true_eq] at h'
      refine (key _ (fun _ => h')).of_eq ?_
      unfold woodB
      rw [h, show decide ((y.f1.length : Int) ≤ 3) = decide (y.f1.length ≤ 3) from by rw [decide_eq_decide]; omega]
      simp [Bool.and_assoc]
    · simp only [skewbaldref01_Check.j3]
      refine (key false (fun h => by cases h)).of_eq ?_
      unfold woodB
      rw [show (decide (1 ≤ y.f0) && decide (y.f0 ≤ 16)) = false by simpa using h]
      simp
theorem Check_f {P : List S48} {Q : List S50} (hP : P.length < 9223372036854775808) (hp : ∀ y ∈ P, y.f1.length < 9223372036854775808) (hQ : Q.length < 9223372036854775808) (hq : ∀ x ∈ Q, x.f1.length < 9223372036854775808) :
    Evt (fun k => skewbaldref01_Check.f k P Q) (checkP P Q) := by
  have e : checkP P Q = chk (validB P Q) := rfl
  rw [e]
  unfold skewbaldref01_Check.f validB
  have key := fun ok => Check_l0 hP hp hQ hq P.length 0 ok (by omega)
  have e1 : (decide ((1 : Int) ≤ (P.length : Int)) && decide ((P.length : Int) ≤ 3)) = (decide (1 ≤ P.length) && decide (P.length ≤ 3)) := by congr 1 <;> (rw [decide_eq_decide]; omega)
  have e2 : (decide ((1 : Int) ≤ (Q.length : Int)) && decide ((Q.length : Int) ≤ 5)) = (decide (1 ≤ Q.length) && decide (Q.length ≤ 5)) := by congr 1 <;> (rw [decide_eq_decide]; omega)
  rw [In_f, In_f, e1, e2]
  simp only [Option.bind_some]
  refine Evt.ite (fun h => Evt.succ ?_) (fun h => Evt.succ ?_)
  · simp only [skewbaldref01_Check.j0]
    refine (key _).of_eq ?_
    rw [h]
    simp
  · simp only [skewbaldref01_Check.j0]
    refine (key false).of_eq ?_
    rw [show (decide (1 ≤ P.length) && decide (P.length ≤ 3)) = false by simpa using h]
    simp
def jL (x : S50) (a : Nat) (t : Bool) : List Int := x.f1.map fun n => (a : Int) + (if t then x.f0 - 1 - n else n)
structure PartOk (x : S50) : Prop where
  one : 1 ≤ x.f0
  big : x.f0 ≤ 12
  few : x.f1.length ≤ 3
  joint : ∀ n ∈ x.f1, 0 ≤ n ∧ n < x.f0
theorem Ok.partOk {P : List S48} {Q : List S50} (h : Ok P Q) {p : Nat} (hp : p < Q.length) : PartOk (Q.getD p z50) := by
  obtain ⟨a, b, c, d⟩ := h.shape (Q.getD p z50) (by rw [show Q.getD p z50 = Q[p] from by simp [hp]]; exact List.getElem_mem hp)
  exact ⟨a, b, c, d⟩
structure PlankOk (y : S48) : Prop where
  one : 1 ≤ y.f0
  big : y.f0 ≤ 16
  few : y.f1.length ≤ 3
  knot : ∀ s ∈ y.f1, 0 ≤ s.f0 ∧ s.f0 ≤ s.f1 ∧ s.f1 < 16
theorem Ok.plankOk {P : List S48} {Q : List S50} (h : Ok P Q) {p : Nat} (hp : p < P.length) : PlankOk (P.getD p z48) := by
  obtain ⟨a, b, c⟩ := h.wood (P.getD p z48) (by rw [show P.getD p z48 = P[p] from by simp [hp]]; exact List.getElem_mem hp)
  exact ⟨a, b, c.few, c.knot⟩
theorem jL_len (x : S50) (a : Nat) (t : Bool) : (jL x a t).length = x.f1.length := by simp [jL]
end Go.Proofs.YtekjlpldooihhaaDoor.PR
namespace Go.Proofs.YtekjlpldooihhaaDoor.PR
open Go.Proofs.YtekjlpldooihhaaDoorSh
open Go.RowKit Go.Proofs.YtekjlpldooihhaaDoorW.PrintWords Go.Proofs.YtekjlpldooihhaaDoorEv Go.Proofs.YtekjlpldooihhaaDoorP Go.Proofs.YtekjlpldooihhaaDoor.PT Go.Proofs.YtekjlpldooihhaaDoorH Go.Proofs.YtekjlpldooihhaaDoorK
open Go.Proofs.YtekjlpldooihhaaDoor.PA (S48 S50 S60 k48 k50 k60 z48 z50 z60 rd_T48 rd_T50 rd_T60)
set_option linter.unusedVariables false
set_option linter.unusedSimpArgs false
structure Short (P : List S48) (Q : List S50) : Prop where
  p : P.length < 9223372036854775808
  q : Q.length < 9223372036854775808
  kn : ∀ y ∈ P, y.f1.length < 9223372036854775808
  jo : ∀ x ∈ Q, x.f1.length < 9223372036854775808
theorem Short.check {P : List S48} {Q : List S50} (h : Short P Q) : Evt (fun k => skewbaldref01_Check.f k P Q) (checkP P Q) := Check_f h.p h.kn h.q h.jo
theorem range_filter_next (f : Nat → Bool) (j : Nat) : (List.range (j + 1)).filter f = (List.range j).filter f ++ (if f j then [j] else []) := by
  cases h : f j with
  | true => rw [filter_next_yes h]; simp
  | false => rw [filter_next_no h]; simp
theorem sawn_f : Evt (fun _ => skewbaldlaw01_sawn.f) true := Evt.pure true
end Go.Proofs.YtekjlpldooihhaaDoor.PR
namespace Go.Proofs.YtekjlpldooihhaaDoor.PR
open Go.Proofs.YtekjlpldooihhaaDoorSh
open Go.RowKit Go.Proofs.YtekjlpldooihhaaDoorW.PrintWords Go.Proofs.YtekjlpldooihhaaDoorW.PrintMore Go.Proofs.YtekjlpldooihhaaDoorEv Go.Proofs.YtekjlpldooihhaaDoorP Go.Proofs.YtekjlpldooihhaaDoor.PT Go.Proofs.YtekjlpldooihhaaDoorH Go.Proofs.YtekjlpldooihhaaDoorK
open Go.Proofs.YtekjlpldooihhaaDoor.PA (S48 S50 S60 k48 k50 k60 z48 z50 z60 rd_T48 rd_T50 rd_T60)
set_option linter.unusedVariables false
set_option linter.unusedSimpArgs false
theorem shl_pow : ∀ n, n ≤ 6 → shl .i64 1 ((n : Nat) : Int) = ((2 ^ n : Nat) : Int) := by
  intro n hn
  obtain rfl | rfl | rfl | rfl | rfl | rfl | rfl : n = 0 ∨ n = 1 ∨ n = 2 ∨ n = 3 ∨ n = 4 ∨ n = 5 ∨ n = 6 := by omega
  all_goals rfl
theorem getD_set_ne {l : List Int} {s t : Nat} (h : s ≠ t) (v : Int) : (l.set s v).getD t 0 = l.getD t 0 := by simp [List.getElem?_set_ne h]
def Least (S : Int → Prop) (v : Int) : Prop := v ≤ 99 ∧ (v = 99 ∨ S v) ∧ ∀ x, S x → v ≤ x
theorem Least.step {S : Int → Prop} {v : Int} (h : Least S v) (x : Int) : Least (fun y => S y ∨ y = x) (mn v x) := by
  obtain ⟨h1, h2, h3⟩ := h
  unfold mn
  split
  · exact ⟨by omega, .inr (.inr rfl), fun y hy => by rcases hy with hy | rfl; (· have := h3 y hy; omega); (· exact Int.le_refl _)⟩
  · exact ⟨h1, h2.imp_right .inl, fun y hy => by rcases hy with hy | rfl; (· exact h3 y hy); (· omega)⟩
theorem Least.congr {S S' : Int → Prop} {v : Int} (h : Least S v) (e : ∀ x, S x ↔ S' x) : Least S' v := ⟨h.1, h.2.1.imp_right (e v).1, fun x hx => h.2.2 x ((e x).2 hx)⟩
theorem spots_len {y : S48} (hy : PlankOk y) (x : S50) : (spotsL y x).length ≤ 16 := by
  have h2 := List.length_filter_le (spotB y x) (List.range y.f0.toNat); rw [List.length_range] at h2
  have := hy.big
  unfold spotsL
  omega
end Go.Proofs.YtekjlpldooihhaaDoor.PR
namespace Go.Proofs.YtekjlpldooihhaaDoor.PR
open Go.Proofs.YtekjlpldooihhaaDoorSh
open Go.RowKit Go.Proofs.YtekjlpldooihhaaDoorW.PrintWords Go.Proofs.YtekjlpldooihhaaDoorW.PrintMore Go.Proofs.YtekjlpldooihhaaDoorEv Go.Proofs.YtekjlpldooihhaaDoorP Go.Proofs.YtekjlpldooihhaaDoor.PT Go.Proofs.YtekjlpldooihhaaDoorH Go.Proofs.YtekjlpldooihhaaDoorK
open Go.Proofs.YtekjlpldooihhaaDoor.PA (S48 S50 S60 k48 k50 k60 z48 z50 z60 rd_T48 rd_T50 rd_T60 rd_L4)
set_option linter.unusedVariables false
set_option linter.unusedSimpArgs false
theorem and_nat : ∀ t, t < 32 → ∀ s, s < 32 → Go.bits .and .i64 ((t : Nat) : Int) ((s : Nat) : Int) = ((t &&& s : Nat) : Int) := by decide +kernel
theorem cutB_cons (P : List S48) (Q : List S50) (p : Nat) (l : List Nat) (s : Nat) : cutB P Q (p :: l) s = (List.range (s + 1)).any fun t => (t &&& s == t) && ((laidB (P.getD p z48) Q (setL t)).isSome && cutB P Q l (s - t)) := by
  conv => lhs; unfold cutB
  by_cases h : s = 0
  · subst h
    rw [show ((0 : Nat) == 0) = true from rfl, Bool.true_or]
    symm
    rw [List.any_eq_true]
    refine ⟨0, by simp, ?_⟩
    rw [show setL 0 = [] from by decide, cut_zero]
    rfl
  · rw [show (s == 0) = false from by simpa using h, Bool.false_or]
theorem sizes_setL : ∀ n, n ≤ 5 → ∀ s, s < 2 ^ n → sizesL s n = setL s := by decide +kernel
theorem ListN_f {n s : Nat} (hn : n ≤ 5) (hs : s < 2 ^ n) : Evt (fun k => skewbaldref00_List.f k (s : Int) (n : Int)) (ints (setL s)) := by
  rw [← sizes_setL n hn s hs]
  exact List_f s n (by have := lt32 hn hs; omega) (by omega)
theorem pow_pos (n : Nat) : 0 < 2 ^ n := Nat.pos_of_ne_zero (by simp)
theorem full_num {n : Nat} (hn : n ≤ 5) : wrap64 (shl .i64 1 ((n : Nat) : Int) - 1) = ((2 ^ n - 1 : Nat) : Int) := by
  have := pow_pos n
  have h32 : 2 ^ n ≤ 32 := Nat.pow_le_pow_right (by omega : 0 < 2) hn
  rw [shl_pow n (by omega)]
  unfold wrap64
  omega
theorem less_cmp : ∀ l m : List Int, lessB l m = decide (cmpL l m < 0)
  | [], [] => rfl
  | [], _ :: _ => rfl
  | _ :: _, [] => rfl
  | a :: l, b :: m => by
    rw [lessB_cons]
    unfold cmpL
    rcases Int.lt_trichotomy a b with h | rfl | h
    · rw [if_neg (by omega), if_pos h]; simp [h]
    · rw [if_pos rfl, if_neg (by omega), if_neg (by omega)]; exact less_cmp l m
    · rw [if_neg (by omega), if_neg (by omega), if_pos h]; simp; omega
theorem shorter_better (l m : List Int) : shorterB l m = betterL l m := by
  unfold shorterB betterL
  rw [less_cmp]
  by_cases h : l.length = m.length
  · rw [if_pos (by omega), decide_eq_false (show ¬ l.length < m.length by omega), Bool.false_or, show (l.length == m.length) = true from by simpa using h, Bool.true_and]
  · rw [if_neg (by omega), show (l.length == m.length) = false from by simpa using h, Bool.false_and, Bool.or_false, decide_eq_decide]; omega
theorem setL5 (s : Nat) : (setL s).length ≤ 5 := setL_len s
theorem cut_more {P : List S48} {Q : List S50} (hok : Ok P Q) {t u s : Nat} (h : ∀ i ∈ setL t, i ∈ setL u) (hs : s < 2 ^ Q.length) (hc : cutB P Q (setL t) s = true) : cutB P Q (setL u) s = true := by
  obtain ⟨a, pos, h1⟩ := (hok.cut t s hs).1 hc
  exact (hok.cut u s hs).2 ⟨a, pos, cuts_weaker h1 h (fun p hp => hp) (fun _ _ _ _ _ h => h) (fun _ _ => rfl)⟩
end Go.Proofs.YtekjlpldooihhaaDoor.PR
namespace Go.Proofs.YtekjlpldooihhaaDoor.PR
open Go.Proofs.YtekjlpldooihhaaDoorSh
open Go.RowKit Go.Proofs.YtekjlpldooihhaaDoorW.PrintWords Go.Proofs.YtekjlpldooihhaaDoorW.PrintMore Go.Proofs.YtekjlpldooihhaaDoorEv Go.Proofs.YtekjlpldooihhaaDoorP Go.Proofs.YtekjlpldooihhaaDoor.PT Go.Proofs.YtekjlpldooihhaaDoorH Go.Proofs.YtekjlpldooihhaaDoorK
open Go.Proofs.YtekjlpldooihhaaDoor.PA (S48 S50 S60 k48 k50 k60 z48 z50 z60 rd_T48 rd_T50 rd_T60 rd_L4)
set_option linter.unusedVariables false
set_option linter.unusedSimpArgs false
theorem woodB_told {y : S48} (h : woodB y = true) : 1 ≤ y.f0 ∧ y.f0 ≤ 16 ∧ y.f1.length ≤ 3 ∧ ∀ s ∈ y.f1, knotB y.f0 s = true := by
  unfold woodB at h
  simp only [Bool.and_eq_true, decide_eq_true_eq, List.all_eq_true] at h
  exact ⟨h.1.1, h.1.2, h.2.1, h.2.2⟩
theorem shapeB_told {x : S50} (h : shapeB x = true) : 1 ≤ x.f0 ∧ x.f0 ≤ 12 ∧ x.f1.length ≤ 3 ∧ growsB x.f0 (-1) x.f1 = true := by
  unfold shapeB at h
  simp only [Bool.and_eq_true, decide_eq_true_eq] at h
  exact ⟨h.1.1, h.1.2, h.2.1, by rw [grows_asc]; exact h.2.2⟩
theorem valid_told {P : List S48} {Q : List S50} (h : validB P Q = true) : 1 ≤ P.length ∧ P.length ≤ 3 ∧ 1 ≤ Q.length ∧ Q.length ≤ 5 ∧ (∀ y ∈ P, woodB y = true) ∧ ∀ x ∈ Q, shapeB x = true := by
  unfold validB at h
  simp only [Bool.and_eq_true, decide_eq_true_eq, List.all_eq_true] at h
  exact ⟨h.1.1.1, h.1.1.2, h.1.2.1, h.1.2.2, h.2.1, h.2.2⟩
theorem sound_l2 {P : List S48} {Q : List S50} (hQ : Q.length ≤ 5) (hq : ∀ x ∈ Q, shapeB x = true) : ∀ (d j : Nat), j + d = Q.length → Evt (fun k => skewbaldlaw01_sound.l2 k true (j : Int) P Q) true
  | 0, j, hj => by
    refine Evt.succ ?_
    simp only [skewbaldlaw01_sound.l2]
    refine Evt.pos (by trivial) (Evt.succ ?_)
    simp only [skewbaldlaw01_sound.j6]
    rw [decide_eq_false (show ¬ (j : Int) < (Q.length : Int) by omega)]
    exact Evt.neg (by simp) (Evt.pure _)
  | d + 1, j, hj => by
    refine Evt.succ ?_
    simp only [skewbaldlaw01_sound.l2]
    refine Evt.pos (by trivial) (Evt.succ ?_)
    simp only [skewbaldlaw01_sound.j6]
    rw [decide_eq_true (show (j : Int) < (Q.length : Int) by omega)]
    have hlt : j < Q.length := by omega
    obtain ⟨h1, h12, h3, hg⟩ := shapeB_told (hq Q[j] (List.getElem_mem _))
    rw [rd50, getD_el hlt, w64 j (by omega), In_f]
    simp only [Option.bind_some]
    generalize Q[j] = x at h1 h12 h3 hg ⊢
    refine Evt.pos (by trivial) (Evt.pos (by omega) (Evt.pos (by omega) (Evt.pos (by simp; omega) (Evt.pos (by omega) (Evt.bind (Grows_f x.f1 (by omega) x.f0) ?_)))))
    rw [hg]
    exact sound_l2 hQ hq d (j + 1) (by omega)
theorem sound_l1 {P : List S48} {Q : List S50} {i : Nat} (hi : i < P.length) (hP : P.length ≤ 3) {L : Int} (hL : 1 ≤ L ∧ L ≤ 16) {kn : List S60} (hk : kn.length ≤ 3) (hkn : ∀ s ∈ kn, knotB L s = true) (hc : Evt (fun k => skewbaldlaw01_sound.l0 k true ((i + 1 : Nat) : Int) P Q) true) :
    ∀ (d j : Nat), j + d = kn.length → Evt (fun k => skewbaldlaw01_sound.l1 k true (i : Int) (j : Int) P Q L kn) true
  | 0, j, hj => by
    refine Evt.succ ?_
    simp only [skewbaldlaw01_sound.l1]
    rw [w64 i (by omega)]
    exact Evt.pos (by trivial) (Evt.neg (by omega) hc)
  | d + 1, j, hj => by
    refine Evt.succ ?_
    simp only [skewbaldlaw01_sound.l1]
    have hlt : j < kn.length := by omega
    have hs := hkn kn[j] (List.getElem_mem _)
    unfold knotB at hs
    simp only [Bool.and_eq_true, decide_eq_true_eq] at hs
    rw [rd60, getD_el hlt, w64 j (by omega), Ordered_f, show wrap64 (L - 1) = L - 1 by unfold wrap64; omega]
    simp only [Option.bind_some]
    rw [show (decide (0 ≤ kn[j].f0) && (decide (kn[j].f0 ≤ kn[j].f1) && decide (kn[j].f1 ≤ L - 1))) = true from by simp; omega]
    exact Evt.pos (by trivial) (Evt.pos (by omega) (Evt.pos (by omega) (sound_l1 hi hP hL hk hkn hc d (j + 1) (by omega))))
theorem sound_l0 {P : List S48} {Q : List S50} (hv : validB P Q = true) : ∀ (d i : Nat), i + d = P.length → Evt (fun k => skewbaldlaw01_sound.l0 k true (i : Int) P Q) true
  | 0, i, hi => by
    obtain ⟨_, _, _, h5, _, hq⟩ := valid_told hv
    refine Evt.succ ?_
    simp only [skewbaldlaw01_sound.l0]
    refine Evt.pos (by trivial) (Evt.succ ?_)
    simp only [skewbaldlaw01_sound.j2]
    rw [decide_eq_false (show ¬ (i : Int) < (P.length : Int) by omega)]
    exact Evt.neg (by simp) (sound_l2 h5 hq Q.length 0 (by omega))
  | d + 1, i, hi => by
    obtain ⟨_, h3, _, _, hp, _⟩ := valid_told hv
    have hlt : i < P.length := by omega
    obtain ⟨a, b, c, e⟩ := woodB_told (hp P[i] (List.getElem_mem _))
    refine Evt.succ ?_
    simp only [skewbaldlaw01_sound.l0]
    refine Evt.pos (by trivial) (Evt.succ ?_)
    simp only [skewbaldlaw01_sound.j2]
    rw [decide_eq_true (show (i : Int) < (P.length : Int) by omega), rd48, getD_el hlt, In_f]
    simp only [Option.bind_some]
    refine Evt.pos (by trivial) (Evt.pos (by omega) (Evt.pos (by omega) (Evt.pos (by simp; omega) (Evt.succ ?_))))
    simp only [skewbaldlaw01_sound.j3]
    rw [decide_eq_true (show (P[i].f1.length : Int) ≤ 3 by omega)]
    exact sound_l1 hlt h3 ⟨a, b⟩ c e (sound_l0 hv d (i + 1) (by omega)) P[i].f1.length 0 (by omega)
theorem sound_f {P : List S48} {Q : List S50} : Evt (fun k => skewbaldlaw01_sound.f k P Q) (validB P Q) := by
  unfold skewbaldlaw01_sound.f plank_Check.f
  simp only [Option.bind_some]
  unfold checkP
  cases hv : validB P Q with
  | false =>
    refine Evt.neg (by simp) (Evt.succ ?_)
    simp only [skewbaldlaw01_sound.j0]
    refine Evt.succ ?_
    simp only [skewbaldlaw01_sound.l0]
    refine Evt.neg (by simp) (Evt.succ ?_)
    simp only [skewbaldlaw01_sound.j2]
    refine Evt.neg (by simp) (Evt.succ ?_)
    simp only [skewbaldlaw01_sound.l2]
    refine Evt.neg (by simp) (Evt.succ ?_)
    simp only [skewbaldlaw01_sound.j6]
    exact Evt.neg (by simp) (Evt.pure _)
  | true =>
    obtain ⟨h1, h3, h4, h5, _, _⟩ := valid_told hv
    rw [In_f, In_f]
    simp only [Option.bind_some]
    refine Evt.pos (by simp) (Evt.pos (by simp; omega) (Evt.succ ?_))
    simp only [skewbaldlaw01_sound.j0]
    rw [show (decide ((1 : Int) ≤ (Q.length : Int)) && decide ((Q.length : Int) ≤ 5)) = true from by simp; omega]
    exact sound_l0 hv P.length 0 (by omega)
theorem only_l1 {P : List S48} {Q : List S50} (hq : Q.length ≤ 5) (u : Int) {v : Nat} (hv : v < 2 ^ Q.length) (R : List S48) : ∀ (d j : Nat), j + d = Q.length →
    Evt (fun k => skewbaldlaw01_only.l1 k (v : Int) (j : Int) P Q R (((List.range j).filter (bitB v)).map fun i => Q.getD i z50)) (R, ((List.range Q.length).filter (bitB v)).map fun i => Q.getD i z50)
  | 0, j, hj => by
    obtain rfl : j = Q.length := by omega
    refine Evt.succ ?_
    simp only [skewbaldlaw01_only.l1]
    exact Evt.neg (by omega) (Evt.pure _)
  | d + 1, j, hj => by
    have h32 := lt32 hq hv
    refine Evt.succ ?_
    simp only [skewbaldlaw01_only.l1]
    have ih := only_l1 (P := P) hq u hv R d (j + 1) (by omega)
    rw [range_filter_next, List.map_append] at ih
    rw [Of_f v j (by omega) (by omega), w64 j (by omega)]
    simp only [Option.bind_some]
    have hl : (((List.range j).filter (bitB v)).map fun i => Q.getD i z50).length < 3518437208883 := by
      rw [List.length_map]
      have := List.length_filter_le (bitB v) (List.range j)
      rw [List.length_range] at this
      omega
    refine Evt.pos (by omega) (Evt.ite (fun h => Evt.pos (by omega) (Evt.pos hl ?_)) (fun h => ?_))
    · rw [h] at ih
      exact ih
    · rw [show bitB v j = false from by simpa using h] at ih
      simpa using ih
theorem only_l0 {P : List S48} {Q : List S50} (hp : P.length ≤ 3) (hq : Q.length ≤ 5) {u v : Nat} (hu : u < 2 ^ P.length) (hv : v < 2 ^ Q.length) : ∀ (d j : Nat), j + d = P.length →
    Evt (fun k => skewbaldlaw01_only.l0 k (u : Int) (v : Int) (j : Int) P Q (((List.range j).filter (bitB u)).map fun i => P.getD i z48)) (((List.range P.length).filter (bitB u)).map fun i => P.getD i z48, ((List.range Q.length).filter (bitB v)).map fun i => Q.getD i z50)
  | 0, j, hj => by
    obtain rfl : j = P.length := by omega
    refine Evt.succ ?_
    simp only [skewbaldlaw01_only.l0]
    exact Evt.neg (by omega) (only_l1 hq u hv _ Q.length 0 (by omega))
  | d + 1, j, hj => by
    have h32 := lt32 (by omega : P.length ≤ 5) hu
    refine Evt.succ ?_
    simp only [skewbaldlaw01_only.l0]
    have ih := only_l0 hp hq hu hv d (j + 1) (by omega)
    rw [range_filter_next, List.map_append] at ih
    rw [Of_f u j (by omega) (by omega), w64 j (by omega)]
    simp only [Option.bind_some]
    have hl : (((List.range j).filter (bitB u)).map fun i => P.getD i z48).length < 4398046511104 := by
      rw [List.length_map]
      have := List.length_filter_le (bitB u) (List.range j)
      rw [List.length_range] at this
      omega
    refine Evt.pos (by omega) (Evt.ite (fun h => Evt.pos (by omega) (Evt.pos hl ?_)) (fun h => ?_))
    · rw [h] at ih
      exact ih
    · rw [show bitB u j = false from by simpa using h] at ih
      simpa using ih
theorem only_f {P : List S48} {Q : List S50} (hp : P.length ≤ 3) (hq : Q.length ≤ 5) {u v : Nat} (hu : u < 2 ^ P.length) (hv : v < 2 ^ Q.length) : Evt (fun k => skewbaldlaw01_only.f k P Q (u : Int) (v : Int)) (pick z48 P u, pick z50 Q v) := by
  unfold skewbaldlaw01_only.f pick
  have := only_l0 hp hq hu hv P.length 0 (by omega)
  rw [show (List.range P.length).filter (bitB u) = setL u from sizes_setL P.length (by omega) u hu, show (List.range Q.length).filter (bitB v) = setL v from sizes_setL Q.length hq v hv] at this
  exact this
theorem valid_pick {P : List S48} {Q : List S50} (hv : validB P Q = true) {u v : Nat} (hu : u < 2 ^ P.length) (hw : v < 2 ^ Q.length) (u0 : u ≠ 0) (v0 : v ≠ 0) : validB (pick z48 P u) (pick z50 Q v) = true := by
  obtain ⟨h1, h3, h4, h5, hp, hq⟩ := valid_told hv
  have a := setL_le P.length (by omega) u hu
  have b := setL_le Q.length h5 v hw
  have c : setL u ≠ [] := fun e => u0 ((set_empty (lt32 (by omega) hu)).1 e)
  have d : setL v ≠ [] := fun e => v0 ((set_empty (lt32 h5 hw)).1 e)
  have c' := List.length_pos_iff.2 c; have d' := List.length_pos_iff.2 d
  unfold validB
  simp only [Bool.and_eq_true, decide_eq_true_eq, List.all_eq_true, pick_length]
  exact ⟨⟨⟨by omega, by omega⟩, by omega, by omega⟩, fun y hy => hp y (pick_mem (fun i hi => setL_lt hu hi) hy), fun x hx => hq x (pick_mem (fun i hi => setL_lt hw hi) hx)⟩
theorem fewest_told {P : List S48} {Q : List S50} (hv : validB P Q = true) : (fewestP P Q).2 = if cutB P Q (setL (2 ^ P.length - 1)) (2 ^ Q.length - 1) then 0 else 4 := by
  have hok := valid_ok hv; have h3 := hok.p3; have hpp := pow_pos P.length; have hpq := pow_pos Q.length
  unfold fewestP
  rw [hv]
  rcases fewest_spec P Q with ⟨e, h⟩ | ⟨l, e, ⟨s, hs, rfl, hc⟩, _⟩
  · rw [e, h (2 ^ P.length - 1) (by omega)]; rfl
  · have hc' : cutB P Q (setL s) (2 ^ Q.length - 1) = true := hc
    rw [e, cut_more hok (fun i hi => (mem_full (by omega : P.length ≤ 5) i).2 (setL_lt hs hi)) (by omega) hc']
    rfl
theorem enough_f {P : List S48} {Q : List S50} (hv : validB P Q = true) {u v : Nat} (hu : u < 2 ^ P.length) (hw : v < 2 ^ Q.length) : Evt (fun k => skewbaldlaw01_enough.f k P Q (u : Int) (v : Int)) (cutB P Q (setL u) v, true) := by
  have hok := valid_ok hv
  unfold skewbaldlaw01_enough.f
  refine Evt.ite (fun h => Evt.succ ?_) (fun h => Evt.succ ?_)
  · simp only [skewbaldlaw01_enough.j0]
    obtain rfl : v = 0 := by omega
    rw [cut_zero]
    exact Evt.pos (by trivial) (Evt.pure _)
  · simp only [skewbaldlaw01_enough.j0]
    refine Evt.ite (fun h0 => ?_) (fun h0 => ?_)
    · obtain rfl : u = 0 := by have := beq_iff_eq.1 h0; omega
      rw [show setL 0 = [] from by decide, show cutB P Q [] v = (v == 0) from rfl, show ((v : Int) == 0) = (v == 0) from by rw [Bool.eq_iff_iff]; simp]
      exact Evt.pure _
    · have u0 : u ≠ 0 := fun e => h0 (by rw [e]; rfl)
      refine Evt.bind (only_f hok.p3 hok.q5 hu hw) ?_
      simp only [plank_Fewest.f, Option.bind_some]
      rw [fewest_told (valid_pick hv hu hw u0 (by omega)), cut_pick hok hu hw]
      cases cutB P Q (setL u) v with
      | true => exact Evt.pos (by simp) (Evt.pure _)
      | false => exact Evt.neg (by simp) (Evt.pure _)
theorem okL_set : ∀ n, n ≤ 5 → ∀ s, s < 2 ^ n → okL n true (ints (setL s)) = true := by decide +kernel
theorem lay_told {P : List S48} {Q : List S50} (hv : validB P Q = true) {p s : Nat} (hp : p < P.length) (hs : s < 2 ^ Q.length) : layP P Q (p : Int) (ints (setL s)) = layR (laidB (P.getD p z48) Q (setL s)) := by
  have hok := valid_ok hv
  unfold layP
  rw [hv, show inB (p : Int) P.length = true from by unfold inB; simp; omega, okL_set Q.length hok.q5 s hs, Int.toNat_natCast]
  rw [show (ints (setL s)).map (·.toNat) = setL s from by unfold ints; rw [List.map_map]; exact (List.map_congr_left (fun _ _ => rfl)).trans (List.map_id _)]
  rfl
theorem shared_f {P : List S48} {Q : List S50} (hv : validB P Q = true) : ∀ (l : List Nat) (hl : ∀ p ∈ l, p < P.length) (hn : l.length ≤ 5) (s : Nat) (hs : s < 2 ^ Q.length), Evt (fun k => skewbaldlaw01_shared.f k P Q (ints l) (s : Int)) (cutB P Q l s)
  | [], hl, hn, s, hs => by
    refine Evt.succ ?_
    simp only [skewbaldlaw01_shared.f]
    refine Evt.pos rfl ?_
    rw [show ((s : Int) == 0) = (s == 0) from by rw [Bool.eq_iff_iff]; simp]
    exact Evt.pure _
  | p :: l, hl, hn, s, hs => by
    have hok := valid_ok hv; have h5 := hok.q5
    have ih := fun s' (h : s' < 2 ^ Q.length) => shared_f hv l (fun q hq => hl q (by simp [hq])) (by simp at hn; omega) s' h
    have hp := hl p (by simp)
    have h32 := lt32 hok.q5 hs
    refine Evt.succ ?_
    simp only [skewbaldlaw01_shared.f]
    refine Evt.neg (by rw [ints_length]; simp; omega) ?_
    rw [cutB_cons]
    have hrd : rd (ints (p :: l)) 0 = (p : Int) := rfl
    have hlen : (ints (p :: l)).length = l.length + 1 := by rw [ints_length]; rfl
    have key : ∀ (u : Nat), u ≤ s → Evt (fun k => skewbaldlaw01_shared.l0 k (ints (p :: l)) (s : Int) (u : Int) P Q) ((List.range (u + 1)).any fun t => (t &&& s == t) && ((laidB (P.getD p z48) Q (setL t)).isSome && cutB P Q l (s - t))) := by
      intro u
      have step : ∀ (r : Bool) (x : Nat) (hx : x ≤ s) (hnext : Evt (fun k => skewbaldlaw01_shared.l0 k (ints (p :: l)) (s : Int) ((x : Int) - 1) P Q) r), Evt (fun k => skewbaldlaw01_shared.l0 k (ints (p :: l)) (s : Int) (x : Int) P Q) (r || ((x &&& s == x) && ((laidB (P.getD p z48) Q (setL x)).isSome && cutB P Q l (s - x)))) := by
        intro r x hx hnext
        have hx32 : x < 32 := by omega
        have hxq : x < 2 ^ Q.length := by omega
        refine Evt.succ ?_
        simp only [skewbaldlaw01_shared.l0]
        rw [and_nat x hx32 s h32, hrd, hlen, show wrap64 ((x : Int) - 1) = (x : Int) - 1 by unfold wrap64; omega]
        refine Evt.pos (by omega) (Evt.ite (fun h => Evt.pos (by omega) (Evt.bind (ListN_f h5 hxq) ?_)) (fun h => ?_))
        · have hus : (x &&& s == x) = true := by rw [beq_iff_eq]; omega
          simp only [plank_Lay.f, Option.bind_some]
          rw [lay_told hv hp hxq, hus, Bool.true_and]
          cases hla : laidB (P.getD p z48) Q (setL x) with
          | none =>
            refine Evt.neg (by simp [layR]) ?_
            simpa using hnext
          | some o =>
            refine Evt.pos (by simp [layR]) (Evt.pos (by omega) ?_)
            rw [show (ints (p :: l)).drop 1 = ints l from rfl, show wrap64 ((s : Int) - (x : Int)) = ((s - x : Nat) : Int) by unfold wrap64; omega]
            refine Evt.bind (ih (s - x) (by omega)) ?_
            cases hc : cutB P Q l (s - x) with
            | true => exact Evt.pos rfl (by simpa using Evt.pure true)
            | false => exact Evt.neg (by simp) (by simpa using hnext)
        · have hus : (x &&& s == x) = false := by rw [beq_eq_false_iff_ne]; omega
          rw [hus, Bool.false_and, Bool.or_false]
          exact hnext
      induction u with
      | zero =>
        intro hu
        have := step false 0 (by omega) (by
          refine Evt.succ ?_
          simp only [skewbaldlaw01_shared.l0]
          exact Evt.neg (by omega) (Evt.pure _))
        simpa using this
      | succ u ihu =>
        intro hu
        rw [List.range_succ, List.any_append]
        have h1 := step _ (u + 1) hu (by
          rw [show ((u + 1 : Nat) : Int) - 1 = (u : Int) by omega]
          exact ihu (by omega))
        simpa using h1
    exact key s (Nat.le_refl _)
theorem grows_set : ∀ n : Nat, n ≤ 5 → ∀ s, s < 2 ^ n → growsB (n : Int) (-1) (ints (setL s)) = true := by decide +kernel
theorem plankFewest_f {P : List S48} {Q : List S50} (n : Int) : Evt (fun k => skewbaldlaw01_PlankFewest.f k P Q n) true := by
  unfold skewbaldlaw01_PlankFewest.f plank_Fewest.f
  simp only [Option.bind_some]
  refine Evt.bind sound_f (Evt.ite (fun hv => ?_) (fun hv => ?_))
  · have hok := valid_ok hv
    obtain ⟨hp1, _, hq1, _, _, _⟩ := valid_told hv; have h3 := hok.p3; have h5 := hok.q5; have hpp := pow_pos P.length; have hpq := pow_pos Q.length
    have hq2 : 2 ≤ 2 ^ Q.length := by
      obtain ⟨m, hm⟩ : ∃ m, Q.length = m + 1 := ⟨Q.length - 1, by omega⟩
      rw [hm, Nat.pow_succ]
      have := pow_pos m
      omega
    rw [full_num h5, shl_pow P.length (by omega)]
    obtain ⟨t, ht, e⟩ := Round_nat n (2 ^ P.length) hpp (by have : 2 ^ P.length ≤ 32 := Nat.pow_le_pow_right (by omega : 0 < 2) (by omega : P.length ≤ 5); omega)
    rw [e]
    simp only [Option.bind_some]
    refine Evt.bind (enough_f hv ht (by omega)) ?_
    have hf : fewestP P Q = if (fewestZ P Q).1 then (ints (fewestZ P Q).2, 0) else ([], 4) := by unfold fewestP; rw [hv]; rfl
    rcases fewest_spec P Q with ⟨ez, hno⟩ | ⟨l, ez, ⟨s, hs, rfl, hc⟩, hb⟩
    · rw [hf, ez, hno t ht]
      exact Evt.neg (by simp) (Evt.pos (by simp) (Evt.pos (by simp) (Evt.pos (by trivial) (Evt.neg (by simp) (Evt.bind sawn_f (Evt.pure _))))))
    · have hc' : cutB P Q (setL s) (2 ^ Q.length - 1) = true := hc
      have hs0 : setL s ≠ [] := fun e => by
        rw [e, show cutB P Q [] (2 ^ Q.length - 1) = (2 ^ Q.length - 1 == 0) from rfl, beq_iff_eq] at hc'
        omega
      have hl0 := List.length_pos_iff.2 hs0; have hls := setL5 s
      have last : Evt (fun k => skewbaldlaw01_PlankFewest.j0 k (ints (setL s)) ((2 ^ Q.length - 1 : Nat) : Int) false P Q) true := by
        refine Evt.succ ?_
        simp only [skewbaldlaw01_PlankFewest.j0]
        refine Evt.neg (by simp) (Evt.bind (shared_f hv _ (fun q hq => setL_lt hs hq) (setL5 s) _ (by omega)) ?_)
        rw [hc']
        exact Evt.pos (by trivial) (Evt.bind sawn_f (Evt.pure _))
      rw [hf, ez]
      refine Evt.pos (by simp) (Evt.pos (by trivial) (Evt.bind (Grows_f _ (by show (ints (setL s)).length < _; rw [ints_length]; omega) _) ?_))
      refine Evt.pos (grows_set P.length (by omega) s hs) (Evt.neg (by show ¬ ((ints (setL s)).length : Int) = 0; rw [ints_length]; omega) (Evt.ite (fun hi => ?_) (fun hi => last)))
      refine Evt.bind (ListN_f (by omega) ht) (Evt.bind (Shorter_f _ _ (by rw [ints_length]; have := setL5 t; omega) (by show (ints (setL s)).length < _; rw [ints_length]; omega)) ?_)
      rw [shorter_better]
      have : betterL (ints (setL t)) (ints (setL s)) = false := by
        rw [Bool.eq_false_iff]
        intro hbt
        rcases hb t ht hi with h | h
        · rw [h, strict_few.irr] at hbt; exact absurd hbt (by simp)
        · have := strict_few.trans _ _ _ h hbt
          rw [strict_few.irr] at this
          exact absurd this (by simp)
      show Evt (fun k => skewbaldlaw01_PlankFewest.j0 k (ints (setL s)) _ (betterL (ints (setL t)) (ints (setL s))) P Q) true
      rw [this]
      exact last
  · have e : fewestP P Q = ([], 10) := by unfold fewestP; rw [show validB P Q = false from by simpa using hv]; rfl
    rw [e]
    exact Evt.pos (by trivial) (Evt.pos (by trivial) (Evt.bind sawn_f (Evt.pure _)))
end Go.Proofs.YtekjlpldooihhaaDoor.PR
namespace Go.Proofs.YtekjlpldooihhaaDoor.PlankFewestRow.Pure
open Go.RowKit Go.Proofs.YtekjlpldooihhaaDoorW.PrintWords Go.Proofs.YtekjlpldooihhaaDoorEv Go.Proofs.YtekjlpldooihhaaDoorP Go.Proofs.YtekjlpldooihhaaDoor.PT Go.Proofs.YtekjlpldooihhaaDoor.PR
open Go.Proofs.YtekjlpldooihhaaDoor.PA (S48 S50 k48 k50)
set_option linter.unusedVariables false
theorem plankFewest (W : World) (P : List S48) (Q : List S50) (n : Int) {A : Option Addr} (hP : Kd.C k48 W A P.length P) (w0 : ∀ y ∈ P, wfWood y) {B : Option Addr} (hQ : Kd.C k50 W B Q.length Q) (w1 : ∀ x ∈ Q, wfShape x) (w2 : (Lit.int .i64 n).wf = true) :
    ∃ k, skewbaldlaw01_PlankFewest.f k P Q n = some true :=
  (plankFewest_f n).get
end Go.Proofs.YtekjlpldooihhaaDoor.PlankFewestRow.Pure
namespace Go.Proofs.YtekjlpldooihhaaDoor.PR
open Go.RowKit Go.Proofs.YtekjlpldooihhaaDoorW.PrintWords Go.Proofs.YtekjlpldooihhaaDoorW.PrintMore Go.Proofs.YtekjlpldooihhaaDoorEv Go.Proofs.YtekjlpldooihhaaDoorP Go.Proofs.YtekjlpldooihhaaDoor.PT Go.Proofs.YtekjlpldooihhaaDoorH Go.Proofs.YtekjlpldooihhaaDoorK
open Go.Proofs.YtekjlpldooihhaaDoor.PA (S48 S50 S60 k48 k50 k60 z48 z50 z60 rd_T48 rd_T50 rd_T60 rd_L4)
set_option linter.unusedVariables false
set_option linter.unusedSimpArgs false
def clearB (x : S50) (a : Nat) (t : Bool) (kn : List Int) : Bool := (jL x a t).all fun v => !decide (v ∈ kn)
theorem clear_l0 {x : S50} (hx : PartOk x) {a : Nat} (ha : a ≤ 16) (t : Bool) {kn : List Int} (hl : kn.length < 9223372036854775807) : ∀ (d j : Nat), j + d = x.f1.length →
    Evt (fun k => skewbaldlaw01_clear.l0 k (a : Int) t kn (j : Int) x.f0 x.f1 x.f2) (((jL x a t).drop j).all fun v => !decide (v ∈ kn))
  | 0, j, hj => by
    refine Evt.succ ?_
    simp only [skewbaldlaw01_clear.l0]
    rw [List.drop_eq_nil_of_le (by rw [jL_len]; omega)]
    exact Evt.neg (by omega) (Evt.pure _)
  | d + 1, j, hj => by
    have h1 := hx.one; have h12 := hx.big; have h3 := hx.few
    have hlt : j < x.f1.length := by omega
    obtain ⟨n0, n1⟩ := hx.joint x.f1[j] (List.getElem_mem _)
    have ih := clear_l0 hx ha t hl d (j + 1) (by omega)
    have hg : rd x.f1 (j : Int) = x.f1[j] := by simp [rd, hlt]
    have hd : (jL x a t).drop j = ((a : Int) + (if t then x.f0 - 1 - x.f1[j] else x.f1[j])) :: (jL x a t).drop (j + 1) := by
      rw [List.drop_eq_getElem_cons (by rw [jL_len]; exact hlt)]
      congr 1
      simp [jL]
    refine Evt.succ ?_
    simp only [skewbaldlaw01_clear.l0]
    rw [hg, hd, List.all_cons, w64 j (by omega)]
    refine Evt.pos (by omega) (Evt.pos (by omega) ?_)
    have fin : ∀ (v : Int), Evt (fun k => (skewbaldref00_Find.f k kn v).bind fun r => if r ≥ 0 then some false else skewbaldlaw01_clear.l0 k (a : Int) t kn ((j + 1 : Nat) : Int) x.f0 x.f1 x.f2) (!decide (v ∈ kn) && ((jL x a t).drop (j + 1)).all fun v => !decide (v ∈ kn)) := fun v => by
      refine Evt.bind (Find_f kn hl v) (Evt.ite (fun h => ?_) (fun h => ?_))
      · rw [decide_eq_true ((findD_nonneg kn v).1 h)]; simpa using Evt.pure false
      · rw [decide_eq_false (fun h2 => h ((findD_nonneg kn v).2 h2))]; simpa using ih
    cases t with
    | true =>
      refine Evt.pos rfl ?_
      rw [show wrap64 (wrap64 (wrap64 ((a : Int) + x.f0) - 1) - x.f1[j]) = (a : Int) + (x.f0 - 1 - x.f1[j]) by unfold wrap64; omega]
      simpa using fin ((a : Int) + (x.f0 - 1 - x.f1[j]))
    | false =>
      refine Evt.neg (by simp) ?_
      rw [show wrap64 ((a : Int) + x.f1[j]) = (a : Int) + x.f1[j] by unfold wrap64; omega]
      simpa using fin ((a : Int) + x.f1[j])
theorem clear_f {x : S50} (hx : PartOk x) {a : Nat} (ha : a ≤ 16) (t : Bool) {kn : List Int} (hl : kn.length < 9223372036854775807) : Evt (fun k => skewbaldlaw01_clear.f k x.f0 x.f1 x.f2 (a : Int) t kn) (clearB x a t kn) := by
  unfold skewbaldlaw01_clear.f
  exact clear_l0 hx ha t hl x.f1.length 0 (by omega)
theorem clear_nil (x : S50) (a : Nat) (t : Bool) : clearB x a t [] = true := by unfold clearB; simp
def setAll : List Bool → Nat → Nat → List Bool
  | tk, _, 0 => tk
  | tk, a, d + 1 => setAll (tk.set a true) (a + 1) d
theorem setAll_length : ∀ (d : Nat) (tk : List Bool) (a : Nat), (setAll tk a d).length = tk.length
  | 0, tk, a => rfl
  | d + 1, tk, a => by unfold setAll; rw [setAll_length d, List.length_set]
theorem getD_setB {tk : List Bool} {i : Nat} (hi : i < tk.length) (j : Nat) : (tk.set i true).getD j false = (tk.getD j false || decide (j = i)) := by
  by_cases e : j = i
  · subst e; simp [hi]
  · simp [List.getElem?_set_ne (fun h => e h.symm), e]
theorem setAll_mark : ∀ (d : Nat) (tk : List Bool) (a : Nat), a + d ≤ tk.length → ∀ j, (setAll tk a d).getD j false = markB (fun j => tk.getD j false) a d j
  | 0, tk, a, h, j => by unfold setAll markB; simp; omega
  | d + 1, tk, a, h, j => by
    unfold setAll
    rw [setAll_mark d (tk.set a true) (a + 1) (by rw [List.length_set]; omega) j]
    unfold markB
    show ((tk.set a true).getD j false || _) = (tk.getD j false || _)
    rw [getD_setB (by omega)]
    rw [Bool.eq_iff_iff]
    simp only [Bool.or_eq_true, Bool.and_eq_true, decide_eq_true_eq]
    constructor
    · rintro ((h | h) | h)
      · exact Or.inl h
      · exact Or.inr (by omega)
      · exact Or.inr (by omega)
    · rintro (h | h)
      · exact Or.inl (Or.inl h)
      · by_cases e : j = a
        · exact Or.inl (Or.inr e)
        · exact Or.inr (by omega)
theorem free_set {tk : List Bool} {a d : Nat} (ha : a < tk.length) : freeB (fun j => (tk.set a true).getD j false) (a + 1) d = freeB (fun j => tk.getD j false) (a + 1) d := by
  rw [Bool.eq_iff_iff, free_iff, free_iff]
  constructor
  · intro h j h1 h2
    have := h j h1 h2
    rw [getD_setB ha] at this
    simpa [show ¬ j = a by omega] using this
  · intro h j h1 h2
    rw [getD_setB ha, h j h1 h2]
    simp; omega
theorem free_next (f : Nat → Bool) (a d : Nat) : freeB f a (d + 1) = (!f a && freeB f (a + 1) d) := by
  unfold freeB
  rw [List.range'_succ, List.any_cons]
  cases f a <;> simp
theorem laid_l1 {P : List S48} {Q : List S50} {ps as' : List Int} {kn : List Int} {x : S50} {L a q : Nat} (hL : x.f0 = L) (hL12 : L ≤ 12) (hq : q < as'.length) (hq5 : q < 9223372036854775807) (ha : rd as' (q : Int) = a) (ha16 : a ≤ 16) (r : Bool) :
    ∀ (d m : Nat) (tk : List Bool), m + d = L → a + L ≤ tk.length → tk.length ≤ 16 → Evt (fun k => skewbaldlaw01_laid.l0 k ps as' kn (setAll tk (a + m) d) ((q + 1 : Nat) : Int) P Q) r →
      Evt (fun k => skewbaldlaw01_laid.l1 k ps as' kn tk (q : Int) (m : Int) P Q x.f0 x.f1 x.f2) (freeB (fun j => tk.getD j false) (a + m) d && r)
  | 0, m, tk, hm, hw, h16, hc => by
    refine Evt.succ ?_
    simp only [skewbaldlaw01_laid.l1]
    rw [w64 q hq5]
    refine Evt.neg (by omega) ?_
    rw [show freeB (fun j => tk.getD j false) (a + m) 0 = true from rfl]
    simpa [setAll] using hc
  | d + 1, m, tk, hm, hw, h16, hc => by
    refine Evt.succ ?_
    simp only [skewbaldlaw01_laid.l1]
    rw [ha, show wrap64 ((a : Int) + (m : Int)) = ((a + m : Nat) : Int) by unfold wrap64; omega, w64 m (by omega), free_next, Int.toNat_natCast]
    have hrd : rdOf false tk ((a + m : Nat) : Int) = tk.getD (a + m) false := rfl
    rw [hrd]
    refine Evt.pos (by omega) (Evt.pos (by omega) (Evt.pos (by omega) (Evt.pos (by omega) (Evt.pos (by omega) (Evt.ite (fun h => ?_) (fun h => ?_))))))
    · rw [h]; simpa using Evt.pure false
    · have ih := laid_l1 (P := P) (Q := Q) (ps := ps) (kn := kn) hL hL12 hq hq5 ha ha16 r d (m + 1) (tk.set (a + m) true) (by omega) (by rw [List.length_set]; omega) (by rw [List.length_set]; omega) hc
      rw [show a + (m + 1) = a + m + 1 by omega, free_set (by omega)] at ih
      rw [show tk.getD (a + m) false = false from by simpa using h]
      simpa using ih
def goodF (Q : List S50) : (Nat → Bool) → List Nat → List Nat → Bool
  | f, p :: ps, a :: bs => freeB f a (lenQ Q p) && goodF Q (markB f a (lenQ Q p)) ps bs
  | _, _, _ => true
theorem goodF_congr {Q : List S50} : ∀ (ps bs : List Nat) (f g : Nat → Bool), (∀ j, f j = g j) → goodF Q f ps bs = goodF Q g ps bs := fun ps bs f g h => by rw [show f = g from funext h]
theorem laid_l0 {P : List S48} {Q : List S50} (hok : Ok P Q) {ps bs : List Nat} (hlen : bs.length = ps.length) {kn : List Int} (hkn : kn.length < 9223372036854775807) (hps : ∀ p ∈ ps, p < Q.length) (hp5 : ps.length ≤ 5) {W : Nat} (hW : W ≤ 16)
    (hsp : ∀ q, q < ps.length → bs.getD q 0 + lenQ Q (ps.getD q 0) ≤ W ∧ (clearB (Q.getD (ps.getD q 0) z50) (bs.getD q 0) false kn || ((Q.getD (ps.getD q 0) z50).f2 && clearB (Q.getD (ps.getD q 0) z50) (bs.getD q 0) true kn)) = true) : ∀ (d q : Nat) (tk : List Bool), q + d = ps.length → tk.length = W →
    Evt (fun k => skewbaldlaw01_laid.l0 k (ints ps) (ints bs) kn tk (q : Int) P Q) (goodF Q (fun j => tk.getD j false) (ps.drop q) (bs.drop q))
  | 0, q, tk, hq, hw => by
    refine Evt.succ ?_
    simp only [skewbaldlaw01_laid.l0]
    rw [List.drop_eq_nil_of_le (show ps.length ≤ q by omega)]
    exact Evt.neg (by rw [ints_length]; omega) (by unfold goodF; exact Evt.pure _)
  | d + 1, q, tk, hq, hw => by
    have hlt : q < ps.length := by omega
    have hltb : q < bs.length := by omega
    obtain ⟨hs1, hs2⟩ := hsp q hlt
    have hpm : ps.getD q 0 ∈ ps := by rw [getD_el hlt]; exact List.getElem_mem hlt
    have hpq := hps _ hpm
    have hx := Ok.partOk hok hpq
    have hrp : rd (ints ps) (q : Int) = ((ps.getD q 0 : Nat) : Int) := by rw [rd_at]; simp [ints, hlt]
    have hrb : rd (ints bs) (q : Int) = ((bs.getD q 0 : Nat) : Int) := by rw [rd_at]; simp [ints, hltb]
    have hdp : ps.drop q = ps.getD q 0 :: ps.drop (q + 1) := by rw [List.drop_eq_getElem_cons hlt, getD_el hlt]
    have hdb : bs.drop q = bs.getD q 0 :: bs.drop (q + 1) := by rw [List.drop_eq_getElem_cons hltb, getD_el hltb]
    rw [hdp, hdb]
    have hl5 : lenQ Q (ps.getD q 0) = (Q.getD (ps.getD q 0) z50).f0.toNat := rfl
    have ihg := laid_l0 hok hlen hkn hps hp5 hW hsp d (q + 1) (setAll tk (bs.getD q 0) (lenQ Q (ps.getD q 0))) (by omega) (by rw [setAll_length]; exact hw)
    rw [goodF_congr _ _ _ _ (setAll_mark (lenQ Q (ps.getD q 0)) tk (bs.getD q 0) (by omega))] at ihg
    generalize ps.getD q 0 = p at *
    generalize bs.getD q 0 = a at *
    have h1 := hx.one; have h12 := hx.big
    refine Evt.succ ?_
    simp only [skewbaldlaw01_laid.l0]
    rw [hrp, hrb, rd50, In_f, hw, show wrap64 ((W : Int) - (Q.getD p z50).f0) = (W : Int) - (Q.getD p z50).f0 by unfold wrap64; omega]
    simp only [Option.bind_some]
    rw [show (decide (0 ≤ (a : Int)) && decide ((a : Int) ≤ (W : Int) - (Q.getD p z50).f0)) = true from by rw [Bool.and_eq_true]; exact ⟨decide_eq_true (by omega), decide_eq_true (by omega)⟩]
    have fin : Evt (fun k => skewbaldlaw01_laid.j1 k (ints ps) (ints bs) kn tk (q : Int) false P Q (Q.getD p z50).f0 (Q.getD p z50).f1 (Q.getD p z50).f2) (goodF Q (fun j => tk.getD j false) (p :: ps.drop (q + 1)) (a :: bs.drop (q + 1))) := by
      refine Evt.succ ?_
      simp only [skewbaldlaw01_laid.j1]
      refine Evt.neg (by simp) ?_
      have := laid_l1 (P := P) (Q := Q) (ps := ints ps) (as' := ints bs) (kn := kn) (x := Q.getD p z50) (L := lenQ Q p) (a := a) (q := q) (by omega) (by omega) (by rw [ints_length]; omega) (by omega) hrb (by omega) _ (lenQ Q p) 0 tk (by omega) (by omega) (by omega) ihg
      exact this
    refine Evt.pos (by rw [ints_length]; omega) (Evt.pos (by omega) (Evt.pos (by omega) (Evt.pos (by omega) (Evt.pos (by rw [ints_length]; omega) (Evt.pos (by trivial) (Evt.bind (clear_f hx (by omega) false hkn) (Evt.ite (fun h => fin) (fun h => ?_))))))))
    have h2 : (Q.getD p z50).f2 = true ∧ clearB (Q.getD p z50) a true kn = true := by
      rw [show clearB (Q.getD p z50) a false kn = false from by simpa using h, Bool.false_or, Bool.and_eq_true] at hs2
      exact hs2
    refine Evt.pos h2.1 (Evt.bind (clear_f hx (by omega) true hkn) ?_)
    rw [h2.2]
    exact fin
theorem laid_f {P : List S48} {Q : List S50} (hok : Ok P Q) {i : Nat} (hi : i < P.length) {ps bs : List Nat} (hlen : bs.length = ps.length) {kn : List Int} (hkn : kn.length < 9223372036854775807) (hps : ∀ p ∈ ps, p < Q.length) (hp5 : ps.length ≤ 5)
    (hsp : ∀ q, q < ps.length → spotB (P.getD i z48) (Q.getD (ps.getD q 0) z50) (bs.getD q 0) = true ∧ (clearB (Q.getD (ps.getD q 0) z50) (bs.getD q 0) false kn || ((Q.getD (ps.getD q 0) z50).f2 && clearB (Q.getD (ps.getD q 0) z50) (bs.getD q 0) true kn)) = true) :
    Evt (fun k => skewbaldlaw01_laid.f k P Q (i : Int) (ints ps) (ints bs) kn) (goodF Q (fun _ => false) ps bs) := by
  have hy := Ok.plankOk hok hi
  have h1 := hy.one; have h16 := hy.big
  unfold skewbaldlaw01_laid.f
  rw [rd48]
  refine Evt.pos (by rw [ints_length, ints_length, hlen]) (Evt.pos (by omega) (Evt.pos (by omega) (Evt.pos (by omega) (Evt.pos (by omega) ?_))))
  have := laid_l0 hok hlen hkn hps hp5 (W := (P.getD i z48).f0.toNat) (by omega) (fun q hq => ⟨by
    have h := (spot_lt (hsp q hq).1).1
    have hpm : ps.getD q 0 ∈ ps := by rw [getD_el hq]; exact List.getElem_mem hq
    have := (Ok.partOk hok (hps _ hpm)).one
    unfold lenQ
    omega, (hsp q hq).2⟩) ps.length 0 (List.replicate (P.getD i z48).f0.toNat false) (by omega) (by simp)
  rw [List.drop_zero, List.drop_zero, goodF_congr _ _ _ (fun _ => false) (fun j => by rw [List.getD_eq_getElem?_getD, List.getElem?_replicate]; split <;> rfl)] at this
  exact this
theorem good_goodF {y : S48} {Q : List S50} : ∀ (ps bs : List Nat) (f : Nat → Bool), bs.length = ps.length → (∀ q, q < ps.length → spotB y (Q.getD (ps.getD q 0) z50) (bs.getD q 0) = true) → (Go.Proofs.YtekjlpldooihhaaDoorP.Good y Q ps f bs ↔ goodF Q f ps bs = true)
  | [], [], f, _, _ => by simp [Go.Proofs.YtekjlpldooihhaaDoorP.Good, goodF]
  | [], _ :: _, f, h, _ => by simp at h
  | _ :: _, [], f, h, _ => by simp at h
  | p :: ps, a :: bs, f, h, hs => by
    have ih := good_goodF (y := y) (Q := Q) ps bs (markB f a (lenQ Q p)) (by simpa using h) (fun q hq => by
      have := hs (q + 1) (by simp; omega)
      simpa using this)
    have h0 := hs 0 (by simp)
    unfold Go.Proofs.YtekjlpldooihhaaDoorP.Good goodF
    rw [ih, Bool.and_eq_true]
    exact ⟨fun h => h.2, fun h => ⟨by simpa using h0, h⟩⟩
theorem lex_less : ∀ (o bs : List Nat), o.length = bs.length → lexLe o bs → lessB (ints bs) (ints o) = false
  | [], [], _, _ => rfl
  | [], _ :: _, h, _ => by simp at h
  | _ :: _, [], h, _ => by simp at h
  | a :: o, b :: bs, h, hl => by
    show lessB ((b : Int) :: ints bs) ((a : Int) :: ints o) = false
    rw [lessB_cons]
    rcases hl with hl | ⟨rfl, hl⟩
    · rw [if_neg (by omega)]; simp; omega
    · rw [if_pos rfl]; exact lex_less o bs (by simpa using h) hl
theorem cut_ten : ∀ t, t < 32 → ∀ q, q < (setL t).length → skewbaldref00_Cut.f 10 (ints (setL t)) (q : Int) = some (ints (setL (t - 2 ^ (setL t).getD q 0))) := by decide +kernel
theorem Cut_f {t q : Nat} (ht : t < 32) (hq : q < (setL t).length) : Evt (fun k => skewbaldref00_Cut.f k (ints (setL t)) (q : Int)) (ints (setL (t - 2 ^ (setL t).getD q 0))) := Evt.of_mono (fun k => skewbaldref00_Cut.mono _ _ k) (cut_ten t ht q hq)
theorem take_mem {s : List Nat} (hs : s ≠ []) (hl : s.length < 9223372036854775808) (t : Int) : ∃ a ∈ s, takeD (ints s) t = ((a : Nat) : Int) := by
  have h0 : 0 < s.length := List.length_pos_iff.2 hs
  have h1 := Int.emod_nonneg t (show (s.length : Int) ≠ 0 by omega)
  have h2 := Int.emod_lt_of_pos t (show (0 : Int) < (s.length : Int) by omega)
  unfold takeD
  rw [if_neg (by intro h; have := congrArg List.length h; rw [ints_length] at this; simp at this; exact hs this), ints_length]
  refine ⟨s[(t % (s.length : Int)).toNat]'(by omega), List.getElem_mem _, ?_⟩
  have e : rd (ints s) (t % (s.length : Int)) = (ints s).getD (t % (s.length : Int)).toNat 0 := rfl
  rw [e]
  simp [ints, show (t % (s.length : Int)).toNat < s.length by omega]
theorem spots_told {P : List S48} {Q : List S50} (hv : validB P Q = true) {i p : Nat} (hi : i < P.length) (hp : p < Q.length) : spotsP P Q (i : Int) (p : Int) = (ints (spotsL (P.getD i z48) (Q.getD p z50)), 0) := by
  unfold spotsP
  rw [hv, show inB (i : Int) P.length = true from by unfold inB; simp; omega, show inB (p : Int) Q.length = true from by unfold inB; simp; omega, Int.toNat_natCast, Int.toNat_natCast]
  rfl
theorem plankLay_j1 {P : List S48} {Q : List S50} (hv : validB P Q = true) {i t : Nat} (hi : i < P.length) (ht : t < 2 ^ Q.length) {o : List Nat} (ho : laidB (P.getD i z48) Q (setL t) = some o) (a b c : Int) :
    Evt (fun k => skewbaldlaw01_PlankLay.j1 k (i : Int) (ints (setL t)) (ints o) false P Q a b c) true := by
  have hok := valid_ok hv
  have h5 := hok.q5
  have h32 := lt32 h5 ht
  have hL : ∀ p ∈ setL t, 1 ≤ (Q.getD p z50).f0 := fun p hp => (Ok.partOk hok (setL_lt ht hp)).one
  obtain ⟨hol, hlies, _⟩ := laid_some (setL_nodup t) hL ho
  refine Evt.succ ?_
  simp only [skewbaldlaw01_PlankLay.j1]
  refine Evt.neg (by simp) (Evt.ite (fun h => ?_) (fun h => ?_))
  · rw [ints_length] at h
    exact Evt.pos (by rw [ints_length, hol]; exact h) (Evt.bind sawn_f (Evt.pure _))
  · rw [ints_length] at h ⊢
    have hl5 := setL5 t
    obtain ⟨q, hq, e⟩ := Round_nat c (setL t).length (by omega) (by omega)
    rw [e]
    simp only [Option.bind_some]
    have hm : (setL t).getD q 0 ∈ setL t := by rw [getD_el hq]; exact List.getElem_mem hq
    have hlt : t - 2 ^ (setL t).getD q 0 < 2 ^ Q.length := Nat.lt_of_le_of_lt (Nat.sub_le _ _) ht
    refine Evt.bind (Cut_f h32 hq) ?_
    simp only [plank_Lay.f, Option.bind_some]
    rw [lay_told hv hi hlt]
    have hmem := mem_less h32 hm
    have hs : (laidB (P.getD i z48) Q (setL (t - 2 ^ (setL t).getD q 0))).isSome = true := (laid_iff (setL_nodup _) (fun p hp => hL p ((hmem p).1 hp).1)).2 ⟨posOf (setL t) o, fun p hp => hlies.1 p ((hmem p).1 hp).1, fun p r hp hr hne => hlies.2 p r ((hmem p).1 hp).1 ((hmem r).1 hr).1 hne⟩
    obtain ⟨o', ho'⟩ := Option.isSome_iff_exists.1 hs
    rw [ho']
    exact Evt.pos rfl (Evt.bind sawn_f (Evt.pure _))
theorem plankLay_l0 {P : List S48} {Q : List S50} (hv : validB P Q = true) {i t : Nat} (hi : i < P.length) (ht : t < 2 ^ Q.length) (a b c : Int) {bits : List Int} (hbits : bits.length < 9223372036854775808) : ∀ (d j : Nat) (bs : List Nat), j + d = (setL t).length → bs.length = j → (∀ q, q < j → spotB (P.getD i z48) (Q.getD ((setL t).getD q 0) z50) (bs.getD q 0) = true) →
    Evt (fun k => skewbaldlaw01_PlankLay.l0 k bits (i : Int) (ints (setL t)) (layR (laidB (P.getD i z48) Q (setL t))).1 (layR (laidB (P.getD i z48) Q (setL t))).2 (ints bs) (j : Int) P Q a b c) true
  | 0, j, bs, hj, hb, hs => by
    have hok := valid_ok hv
    have h5 := hok.q5
    have hl5 := setL5 t
    have hlen : bs.length = (setL t).length := by omega
    have hL : ∀ p ∈ setL t, 1 ≤ (Q.getD p z50).f0 := fun p hp => (Ok.partOk hok (setL_lt ht hp)).one
    have hsp : ∀ q, q < (setL t).length → spotB (P.getD i z48) (Q.getD ((setL t).getD q 0) z50) (bs.getD q 0) = true := fun q hq => hs q (by omega)
    have hgood := good_goodF (setL t) bs (fun _ => false) hlen hsp
    refine Evt.succ ?_
    simp only [skewbaldlaw01_PlankLay.l0]
    refine Evt.neg (by rw [ints_length]; omega) (Evt.bind (laid_f hok hi hlen (kn := []) (by simp) (fun p hp => setL_lt ht hp) hl5 (fun q hq => ⟨hsp q hq, by rw [clear_nil]; rfl⟩)) ?_)
    cases hla : laidB (P.getD i z48) Q (setL t) with
    | none =>
      have hno : goodF Q (fun _ => false) (setL t) bs = false := by
        rw [Bool.eq_false_iff]
        intro h
        exact laidFrom_none (setL t) hL _ _ hla bs (hgood.2 h)
      rw [hno]
      exact Evt.neg (by simp [layR]) (Evt.pos rfl (Evt.pos rfl (Evt.neg (by simp) (Evt.bind sawn_f (Evt.pure _)))))
    | some o =>
      obtain ⟨us, e, hg, hm⟩ := laidFrom_some (setL t) hL _ _ _ hla
      rw [List.nil_append] at e
      subst e
      have hol := good_length _ _ _ hg
      refine Evt.pos rfl (Evt.ite (fun h => ?_) (fun h => plankLay_j1 hv hi ht hla a b c))
      refine Evt.bind (Less_f _ _ (by rw [ints_length]; omega) (by show (ints o).length < _; rw [ints_length]; omega)) ?_
      show Evt (fun k => skewbaldlaw01_PlankLay.j1 k (i : Int) (ints (setL t)) (ints o) (lessB (ints bs) (ints o)) P Q a b c) true
      rw [lex_less o bs (by omega) (hm bs (hgood.2 h))]
      exact plankLay_j1 hv hi ht hla a b c
  | d + 1, j, bs, hj, hb, hs => by
    have hok := valid_ok hv
    have hl5 := setL5 t
    have hlt : j < (setL t).length := by omega
    have hpm : (setL t).getD j 0 ∈ setL t := by rw [getD_el hlt]; exact List.getElem_mem hlt
    have hpq := setL_lt ht hpm
    have hrp : rd (ints (setL t)) (j : Int) = (((setL t).getD j 0 : Nat) : Int) := by rw [rd_at]; simp [ints, hlt]
    have hL : ∀ p ∈ setL t, 1 ≤ (Q.getD p z50).f0 := fun p hp => (Ok.partOk hok (setL_lt ht hp)).one
    have h16 := spots_len (Ok.plankOk hok hi) (Q.getD ((setL t).getD j 0) z50)
    refine Evt.succ ?_
    simp only [skewbaldlaw01_PlankLay.l0, plank_Spots.f, Option.bind_some]
    rw [hrp, spots_told hv hi hpq, Take_f bits _ hbits, w64 j (by omega)]
    simp only [Option.bind_some]
    rw [Take_f _ _ (by rw [ints_length]; omega)]
    simp only [Option.bind_some]
    refine Evt.pos (by rw [ints_length]; omega) (Evt.pos (by omega) (Evt.pos (by trivial) (Evt.pos (by rw [ints_length]; omega) (Evt.ite (fun h => ?_) (fun h => ?_)))))
    · rw [ints_length] at h
      have hno : laidB (P.getD i z48) Q (setL t) = none := by
        cases hla : laidB (P.getD i z48) Q (setL t) with
        | none => rfl
        | some o =>
          have hx := (laid_some (setL_nodup t) hL hla).2.1.1 _ hpm
          have := (mem_spots (hL _ hpm)).2 hx
          rw [List.length_eq_zero_iff.1 (by omega : (spotsL (P.getD i z48) (Q.getD ((setL t).getD j 0) z50)).length = 0)] at this
          simp at this
      rw [hno]
      exact Evt.pos rfl (Evt.pos rfl (Evt.bind sawn_f (Evt.pure _)))
    · rw [ints_length] at h
      obtain ⟨v, hv1, hv2⟩ := take_mem (s := spotsL (P.getD i z48) (Q.getD ((setL t).getD j 0) z50)) (fun e => h (by rw [e]; rfl)) (by omega) (takeD bits (j : Int))
      rw [hv2, show ints bs ++ [((v : Nat) : Int)] = ints (bs ++ [v]) from by rw [ints_append]; rfl]
      refine plankLay_l0 hv hi ht a b c hbits d (j + 1) (bs ++ [v]) (by omega) (by simp [hb]) (fun q hq => ?_)
      by_cases e : q = j
      · subst e
        rw [show (bs ++ [v]).getD q 0 = v from by simp [← hb]]
        exact (mem_spots (hL _ hpm)).1 hv1
      · rw [show (bs ++ [v]).getD q 0 = bs.getD q 0 from by simp [List.getElem?_append_left (show q < bs.length by omega)]]
        exact hs q (by omega)
theorem plankLay_f {P : List S48} {Q : List S50} (a b c : Int) {bits : List Int} (hbits : bits.length < 9223372036854775808) : Evt (fun k => skewbaldlaw01_PlankLay.f k P Q a b c bits) true := by
  unfold skewbaldlaw01_PlankLay.f plank_Lay.f
  refine Evt.bind sound_f (Evt.ite (fun hv => ?_) (fun hv => Evt.bind sawn_f (Evt.pure _)))
  have hok := valid_ok hv
  obtain ⟨h1, h3, _, h5, _, _⟩ := valid_told hv
  have hpq := pow_pos Q.length
  have h32 : 2 ^ Q.length ≤ 32 := Nat.pow_le_pow_right (by omega : 0 < 2) h5
  obtain ⟨i, hi, e1⟩ := Round_nat a P.length h1 (by omega)
  obtain ⟨t, ht, e2⟩ := Round_nat b (2 ^ Q.length) hpq (by omega)
  rw [e1, shl_pow Q.length (by omega), e2]
  simp only [Option.bind_some]
  refine Evt.bind (ListN_f h5 ht) ?_
  rw [lay_told hv hi ht]
  exact plankLay_l0 hv hi ht a b c hbits (setL t).length 0 [] (by omega) rfl (fun q hq => by omega)
end Go.Proofs.YtekjlpldooihhaaDoor.PR
namespace Go.Proofs.YtekjlpldooihhaaDoor.PlankLayRow.Pure
open Go.RowKit Go.Proofs.YtekjlpldooihhaaDoorW.PrintWords Go.Proofs.YtekjlpldooihhaaDoorEv Go.Proofs.YtekjlpldooihhaaDoorP Go.Proofs.YtekjlpldooihhaaDoor.PT Go.Proofs.YtekjlpldooihhaaDoor.PR
open Go.Proofs.YtekjlpldooihhaaDoor.PA (S48 S50 k48 k50)
set_option linter.unusedVariables false
theorem plankLay (W : World) (P : List S48) (Q : List S50) (a b c : Int) (l : List Int) {A : Option Addr} (hP : Kd.C k48 W A P.length P) (w0 : ∀ y ∈ P, wfWood y) {B : Option Addr} (hQ : Kd.C k50 W B Q.length Q) (w1 : ∀ x ∈ Q, wfShape x) (w2 : (Lit.int .i64 a).wf = true) (w3 : (Lit.int .i64 b).wf = true) (w4 : (Lit.int .i64 c).wf = true) {D : Option Addr} (hl : Kd.C (Kd.int .i64) W D l.length l) (w5 : ∀ x ∈ l, (Lit.int .i64 x).wf = true) :
    ∃ k, skewbaldlaw01_PlankLay.f k P Q a b c l = some true :=
  (plankLay_f a b c (by have := hl.2.1; omega)).get
end Go.Proofs.YtekjlpldooihhaaDoor.PlankLayRow.Pure
