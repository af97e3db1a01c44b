/- Printed by a program (prx.py). -/
import Derived.Test.YtekjlpldooihhaaDoorSv
import Derived.Test.YtekjlpldooihhaaDoorPTx17
import Derived.Test.YtekjlpldooihhaaDoorPTx23
import Derived.Test.YtekjlpldooihhaaDoorWTab
import Derived.Test.YtekjlpldooihhaaDoorHa
namespace Go.Proofs.YtekjlpldooihhaaDoor.PR
open Go.RowKit Go.Proofs.YtekjlpldooihhaaDoorW.PrintWords Go.Proofs.YtekjlpldooihhaaDoorEv Go.Proofs.YtekjlpldooihhaaDoorP Go.Proofs.YtekjlpldooihhaaDoor.PT Go.Proofs.YtekjlpldooihhaaDoorH
set_option linter.unusedVariables false
set_option linter.unusedSimpArgs false
theorem rd_at (l : List Int) (j : Nat) : rd l (j : Int) = l.getD j 0 := rfl
theorem filter_next_yes {p : Nat → Bool} {k : Nat} (h : p k = true) : (List.range (k + 1)).filter p = (List.range k).filter p ++ [k] := by
  rw [List.range_succ, List.filter_append]; simp [h]
theorem filter_next_no {p : Nat → Bool} {k : Nat} (h : p k = false) : (List.range (k + 1)).filter p = (List.range k).filter p := by
  rw [List.range_succ, List.filter_append]; simp [h]
theorem In_f (a b c : Int) : skewbaldref00_In.f a b c = some (decide (b ≤ a) && decide (a ≤ c)) := by
  unfold skewbaldref00_In.f
  by_cases h : b ≤ a <;> simp [h]
theorem Equal_l0 (x y : List Int) (hxy : x.length = y.length) (hs : x.length < 9223372036854775808) : ∀ (d j : Nat) (b : Bool), j + d = x.length →
    Evt (fun k => skewbaldref00_Equal.l0 k x y b (j : Int)) (b && decide (x.drop j = y.drop j))
  | d, j, false, hj => by
    refine Evt.succ ?_
    simp only [skewbaldref00_Equal.l0]
    exact Evt.neg (by simp) (by simpa using Evt.pure false)
  | 0, j, true, hj => by
    refine Evt.succ ?_
    simp only [skewbaldref00_Equal.l0]
    rw [List.drop_eq_nil_of_le (by omega), List.drop_eq_nil_of_le (by omega)]
    exact Evt.pos (by first | rfl | trivial) (Evt.neg (by omega) (by simpa using Evt.pure true))
  | d + 1, j, true, hj => by
    refine Evt.succ ?_
    simp only [skewbaldref00_Equal.l0]
    have h1 : x.drop j = x[j] :: x.drop (j + 1) := List.drop_eq_getElem_cons (by omega)
    have h2 : y.drop j = y[j] :: y.drop (j + 1) := List.drop_eq_getElem_cons (by omega)
    have g1 : rd x (j : Int) = x[j] := by rw [rd_at]; simp [show j < x.length by omega]
    have g2 : rd y (j : Int) = y[j] := by rw [rd_at]; simp [show j < y.length by omega]
    refine Evt.pos (by first | rfl | trivial) (Evt.pos (by omega) (Evt.pos (by omega) (Evt.pos (by omega) ?_)))
    rw [g1, g2, h1, h2, w64 j (by omega)]
    refine (Equal_l0 x y hxy hs d (j + 1) _ (by omega)).of_eq ?_
    rw [Bool.eq_iff_iff]
    simp only [Bool.and_eq_true, beq_iff_eq, decide_eq_true_eq, List.cons.injEq, Bool.true_and]
theorem Equal_f (x y : List Int) (hs : x.length < 9223372036854775808) : Evt (fun k => skewbaldref00_Equal.f k x y) (decide (x = y)) := by
  unfold skewbaldref00_Equal.f
  by_cases h : x.length = y.length
  · have hb : ((x.length : Int) == (y.length : Int)) = true := by simp [h]
    rw [hb]
    refine (Equal_l0 x y h hs x.length 0 true (by omega)).of_eq ?_
    simp
  · have hb : ((x.length : Int) == (y.length : Int)) = false := by simp; omega
    rw [hb]
    refine Evt.succ ?_
    simp only [skewbaldref00_Equal.l0]
    refine Evt.neg (by simp) ?_
    have : decide (x = y) = false := decide_eq_false (fun e => h (by rw [e]))
    rw [this]
    exact Evt.pure _
theorem Of_f (s i : Nat) (hs : s < 256) (hi : i < 64) : skewbaldref00_Of.f (s : Int) (i : Int) = some (bitB s i) := by
  unfold skewbaldref00_Of.f
  rw [if_pos (by omega)]
  congr 1
  have : shr .i64 (s : Int) (i : Int) = (s : Int) / 2 ^ i := by
    unfold shr
    rw [show min (i : Int).toNat (IntKind.i64).bits = i by simp [IntKind.bits]; omega]
  rw [this]
  exact Go.Proofs.YtekjlpldooihhaaDoorH.bit_at s i hs
def sizesL (s n : Nat) : List Nat := (List.range n).filter (bitB s)
theorem List_l0 (s n : Nat) (hs : s < 256) (hn : n < 64) : ∀ (d j : Nat), j + d = n →
    Evt (fun k => skewbaldref00_List.l0 k (s : Int) (n : Int) (ints ((List.range j).filter (bitB s))) (j : Int)) (ints ((List.range n).filter (bitB s)))
  | 0, j, hj => by
    refine Evt.succ ?_
    simp only [skewbaldref00_List.l0]
    refine Evt.neg (by omega) ?_
    obtain rfl : j = n := by omega
    exact Evt.pure _
  | d + 1, j, hj => by
    refine Evt.succ ?_
    simp only [skewbaldref00_List.l0]
    refine Evt.pos (by omega) ?_
    rw [Of_f s j hs (by omega), w64 j (by omega)]
    simp only [Option.bind_some]
    have ih := List_l0 s n hs hn d (j + 1) (by omega)
    cases hc : bitB s j with
    | true =>
      rw [filter_next_yes hc, ints_append] at ih
      have hl : (ints ((List.range j).filter (bitB s))).length ≤ j := by
        rw [ints_length]
        have := List.length_filter_le (bitB s) (List.range j)
        rwa [List.length_range] at this
      exact Evt.pos rfl (Evt.pos (by omega) ih)
    | false =>
      rw [filter_next_no hc] at ih
      exact Evt.neg (by simp) ih
theorem List_f (s n : Nat) (hs : s < 256) (hn : n < 64) : Evt (fun k => skewbaldref00_List.f k (s : Int) (n : Int)) (ints (sizesL s n)) := by
  unfold skewbaldref00_List.f
  exact List_l0 s n hs hn n 0 (by omega)
theorem tmod_cases (n m : Int) (hm : 0 < m) : (0 ≤ Int.tmod n m ∧ Int.tmod n m = n % m) ∨ (Int.tmod n m < 0 ∧ -m < Int.tmod n m ∧ Int.tmod n m + m = n % m) := by
  have h := Int.mul_tdiv_add_tmod n m
  have h1 : Int.tmod n m < m := Int.tmod_lt_of_pos n hm
  have h2 : -m < Int.tmod n m := Int.lt_tmod_of_pos n hm
  generalize Int.tmod n m = r at *
  generalize Int.tdiv n m = q at *
  subst h
  rw [Int.add_comm, Int.add_mul_emod_self_left]
  by_cases h0 : 0 ≤ r
  · exact .inl ⟨h0, (Int.emod_eq_of_lt h0 h1).symm⟩
  · refine .inr ⟨by omega, h2, ?_⟩
    rw [← Int.add_emod_right, Int.emod_eq_of_lt (by omega) (by omega)]
theorem Round_f (n : Int) (m : Nat) (h1 : 1 ≤ m) (h2 : m < 9223372036854775808) : skewbaldref00_Round.f n (m : Int) = some (n % (m : Int)) := by
  unfold skewbaldref00_Round.f
  rw [if_neg (by omega), if_neg (by omega)]
  rcases tmod_cases n m (by omega) with ⟨a, b⟩ | ⟨a, b, c⟩
  · rw [if_neg (by omega), b]
  · rw [if_pos a, ← c]
    congr 1
    unfold wrap64
    omega
theorem Round_nat (n : Int) (m : Nat) (h1 : 1 ≤ m) (h2 : m < 9223372036854775808) : ∃ t : Nat, t < m ∧ skewbaldref00_Round.f n (m : Int) = some (t : Int) := by
  have h0 := Int.emod_nonneg n (show (m : Int) ≠ 0 by omega)
  have h3 := Int.emod_lt_of_pos n (show (0 : Int) < m by omega)
  refine ⟨(n % (m : Int)).toNat, by omega, ?_⟩
  rw [Round_f n m h1 h2]
  congr 1
  omega
def growsB (b : Int) : Int → List Int → Bool
  | _, [] => true
  | last, x :: xs => (decide (last < x) && decide (x < b)) && growsB b x xs
theorem Grows_l0 (l : List Int) (hl : l.length < 9223372036854775807) (b : Int) : ∀ (d j : Nat) (last : Int), j + d = l.length →
    Evt (fun k => skewbaldref00_Grows.l0 k l b last (j : Int)) (growsB b last (l.drop j))
  | 0, j, last, hj => by
    refine Evt.succ ?_
    simp only [skewbaldref00_Grows.l0]
    rw [List.drop_eq_nil_of_le (by omega)]
    exact Evt.neg (by omega) (Evt.pure _)
  | d + 1, j, last, hj => by
    refine Evt.succ ?_
    simp only [skewbaldref00_Grows.l0]
    have h1 : l.drop j = l[j] :: l.drop (j + 1) := List.drop_eq_getElem_cons (by omega)
    have g1 : rd l (j : Int) = l[j] := by rw [rd_at]; simp [show j < l.length by omega]
    rw [h1, g1, w64 j (by omega)]
    refine Evt.pos (by omega) (Evt.pos (by omega) ?_)
    unfold growsB
    refine Evt.ite (fun h => ?_) (fun h => Evt.ite (fun h2 => ?_) (fun h2 => ?_))
    · rw [show decide (last < l[j]) = false by simp; omega]; exact Evt.pure false
    · rw [show decide (l[j] < b) = false by simp; omega, Bool.and_false]; exact Evt.pure false
    · rw [show decide (last < l[j]) = true by simp; omega, show decide (l[j] < b) = true by simp; omega]
      exact Grows_l0 l hl b d (j + 1) _ (by omega)
theorem Grows_f (l : List Int) (hl : l.length < 9223372036854775807) (b : Int) : Evt (fun k => skewbaldref00_Grows.f k l b) (growsB b (-1) l) := by
  unfold skewbaldref00_Grows.f
  exact Grows_l0 l hl b l.length 0 (-1) (by omega)
def lessB : List Int → List Int → Bool
  | [], [] => false
  | [], _ :: _ => true
  | _ :: _, [] => false
  | a :: l, b :: m => if a = b then lessB l m else decide (a < b)
theorem lessB_cons (a b : Int) (l m : List Int) : lessB (a :: l) (b :: m) = if a = b then lessB l m else decide (a < b) := rfl
theorem Less_l0 (x y : List Int) (hx : x.length < 9223372036854775807) (hy : y.length < 9223372036854775807) : ∀ (d j : Nat), j + d = x.length → j ≤ y.length →
    Evt (fun k => skewbaldref00_Less.l0 k x y (j : Int)) (lessB (x.drop j) (y.drop j))
  | 0, j, hj, hj2 => by
    refine Evt.succ ?_
    simp only [skewbaldref00_Less.l0]
    refine Evt.neg (by omega) (Evt.succ ?_)
    simp only [skewbaldref00_Less.j1]
    refine Evt.neg (by simp) ?_
    rw [List.drop_eq_nil_of_le (show x.length ≤ j by omega)]
    by_cases e : y.length = j
    · rw [List.drop_eq_nil_of_le (show y.length ≤ j by omega), decide_eq_false (show ¬ (x.length : Int) < (y.length : Int) by omega)]
      exact Evt.pure _
    · rw [List.drop_eq_getElem_cons (show j < y.length by omega), decide_eq_true (show (x.length : Int) < (y.length : Int) by omega)]
      exact Evt.pure _
  | d + 1, j, hj, hj2 => by
    refine Evt.succ ?_
    simp only [skewbaldref00_Less.l0]
    refine Evt.pos (by omega) (Evt.succ ?_)
    simp only [skewbaldref00_Less.j1]
    have h1 : x.drop j = x[j] :: x.drop (j + 1) := List.drop_eq_getElem_cons (by omega)
    by_cases e : y.length = j
    · refine Evt.neg (by rw [decide_eq_false (show ¬ (j : Int) < (y.length : Int) by omega)]; simp) ?_
      rw [h1, List.drop_eq_nil_of_le (show y.length ≤ j by omega), decide_eq_false (show ¬ (x.length : Int) < (y.length : Int) by omega)]
      exact Evt.pure _
    · have h2 : y.drop j = y[j] :: y.drop (j + 1) := List.drop_eq_getElem_cons (by omega)
      have g1 : rd x (j : Int) = x[j] := by rw [rd_at]; simp [show j < x.length by omega]
      have g2 : rd y (j : Int) = y[j] := by rw [rd_at]; simp [show j < y.length by omega]
      refine Evt.pos (by rw [decide_eq_true (show (j : Int) < (y.length : Int) by omega)]) (Evt.pos (by omega) (Evt.pos (by omega) (Evt.pos (by omega) ?_)))
      rw [g1, g2, h1, h2, w64 j (by omega), lessB_cons]
      by_cases h : x[j] = y[j]
      · rw [if_pos h]; exact Evt.pos h (Less_l0 x y hx hy d (j + 1) (by omega) (by omega))
      · rw [if_neg h]; exact Evt.neg h (Evt.pure _)
theorem Less_f (x y : List Int) (hx : x.length < 9223372036854775807) (hy : y.length < 9223372036854775807) : Evt (fun k => skewbaldref00_Less.f k x y) (lessB x y) := by
  unfold skewbaldref00_Less.f
  exact Less_l0 x y hx hy x.length 0 (by omega) (by omega)
def shorterB (l m : List Int) : Bool := if (l.length : Int) = (m.length : Int) then lessB l m else decide ((l.length : Int) < (m.length : Int))
theorem Shorter_f (x y : List Int) (hx : x.length < 9223372036854775807) (hy : y.length < 9223372036854775807) : Evt (fun k => skewbaldref00_Shorter.f k x y) (shorterB x y) := by
  unfold skewbaldref00_Shorter.f shorterB
  by_cases h : (x.length : Int) = (y.length : Int)
  · rw [if_pos h]; exact Evt.pos h (Evt.bind (Less_f x y hx hy) (Evt.pure _))
  · rw [if_neg h]; exact Evt.neg h (Evt.pure _)
end Go.Proofs.YtekjlpldooihhaaDoor.PR
namespace Go.Proofs.YtekjlpldooihhaaDoor.PR
open Go.RowKit Go.Proofs.YtekjlpldooihhaaDoorW.PrintWords Go.Proofs.YtekjlpldooihhaaDoorEv Go.Proofs.YtekjlpldooihhaaDoorP Go.Proofs.YtekjlpldooihhaaDoor.PT Go.Proofs.YtekjlpldooihhaaDoorH
open Go.Proofs.YtekjlpldooihhaaDoor.PA (S48 S50 S60 k48 k50 k60 z48 z50 z60 rd_T48 rd_T50 rd_T60)
set_option linter.unusedVariables false
set_option linter.unusedSimpArgs false
theorem Ordered_f (a b c d : Int) : skewbaldref00_Ordered.f a b c d = some (decide (c ≤ a) && (decide (a ≤ b) && decide (b ≤ d))) := by
  unfold skewbaldref00_Ordered.f
  by_cases h : c ≤ a <;> by_cases h2 : a ≤ b <;> simp [h, h2]
def chk (b : Bool) : Int := if b then 0 else 10
theorem grows_asc (L : Int) : ∀ (last : Int) (l : List Int), growsB L last l = ascB L last l
  | _, [] => rfl
  | last, n :: l => by
    unfold growsB ascB
    rw [grows_asc L n l]
    rw [show decide (last < n) = decide (last + 1 ≤ n) from by rw [decide_eq_decide]; omega, show decide (n < L) = decide (n ≤ L - 1) from by rw [decide_eq_decide]; omega]
theorem rd48 (P : List S48) (i : Nat) : rd_T48 P (i : Int) = P.getD i z48 := rfl
theorem rd50 (Q : List S50) (i : Nat) : rd_T50 Q (i : Int) = Q.getD i z50 := rfl
theorem rd60 (l : List S60) (i : Nat) : rd_T60 l (i : Int) = l.getD i z60 := rfl
theorem getD_el {α : Type} {l : List α} {z : α} {i : Nat} (h : i < l.length) : l.getD i z = l[i] := by simp [h]
theorem Check_l1 {P : List S48} {Q : List S50} {L : Int} {kn : List S60} (hkn : kn.length < 9223372036854775808) {i : Nat} (hi : i < 9223372036854775807) (r : Bool) (hc : ∀ b, Evt (fun k => skewbaldref01_Check.l0 k b ((i + 1 : Nat) : Int) P Q) (chk (b && r))) :
    ∀ (d j : Nat) (ok : Bool), j + d = kn.length → (ok = true → 1 ≤ L ∧ L ≤ 16) → Evt (fun k => skewbaldref01_Check.l1 k ok (i : Int) (j : Int) P Q L kn) (chk ((ok && (kn.drop j).all (knotB L)) && r))
  | d, j, false, hj, _ => by
    refine Evt.succ ?_
    simp only [skewbaldref01_Check.l1]
    refine Evt.neg (by simp) ?_
    rw [w64 i hi]
    simpa using hc false
  | 0, j, true, hj, _ => by
    refine Evt.succ ?_
    simp only [skewbaldref01_Check.l1]
    refine Evt.pos (by trivial) (Evt.neg (by omega) ?_)
    rw [w64 i hi, List.drop_eq_nil_of_le (by omega)]
    simpa using hc true
  | d + 1, j, true, hj, hL => by
    obtain ⟨h1, h16⟩ := hL rfl
    refine Evt.succ ?_
    simp only [skewbaldref01_Check.l1]
    refine Evt.pos (by trivial) (Evt.pos (by omega) (Evt.pos (by omega) ?_))
    have hd : kn.drop j = kn[j] :: kn.drop (j + 1) := List.drop_eq_getElem_cons (by omega)
    rw [rd60, getD_el (by omega : j < kn.length), w64 j (by omega), hd, List.all_cons]
    generalize kn[j] = s
    rw [Ordered_f, show wrap64 (L - 1) = L - 1 by unfold wrap64; omega]
    simp only [Option.bind_some]
    have ih := fun b => Check_l1 (L := L) hkn hi r hc d (j + 1) b (by omega)
    refine Evt.ite (fun h => ?_) (fun h => ?_)
    · simp only [Bool.and_eq_true, decide_eq_true_eq] at h
      have e : knotB L s = decide (wrap64 (s.f1 - s.f0) ≤ 6) := by
        unfold knotB
        rw [show wrap64 (s.f1 - s.f0) = s.f1 - s.f0 by unfold wrap64; omega, decide_eq_true (show 0 ≤ s.f0 from h.1), decide_eq_true (show s.f0 ≤ s.f1 from h.2.1), decide_eq_true (show s.f1 < L by omega)]
        simp
      rw [e]
      simpa using ih (decide (wrap64 (s.f1 - s.f0) ≤ 6)) (fun _ => ⟨h1, h16⟩)
    · have e : knotB L s = false := by
        simp only [Bool.and_eq_true, decide_eq_true_eq, not_and] at h
        unfold knotB
        rw [Bool.eq_false_iff]
        intro h2
        simp only [Bool.and_eq_true, decide_eq_true_eq] at h2
        exact h h2.1 h2.2.1 (by omega)
      rw [e]
      simpa using ih false (fun h => by cases h)
theorem Check_l2 {P : List S48} {Q : List S50} (hQ : Q.length < 9223372036854775808) (hq : ∀ x ∈ Q, x.f1.length < 9223372036854775808) : ∀ (d j : Nat) (ok : Bool), j + d = Q.length →
    Evt (fun k => skewbaldref01_Check.l2 k ok (j : Int) P Q) (chk (ok && (Q.drop j).all shapeB))
  | d, j, false, hj => by
    refine Evt.succ ?_
    simp only [skewbaldref01_Check.l2]
    refine Evt.neg (by simp) (Evt.succ ?_)
    simp only [skewbaldref01_Check.j6]
    exact Evt.neg (by simp) (Evt.neg (by simp) (by simpa [chk] using Evt.pure (10 : Int)))
  | 0, j, true, hj => by
    refine Evt.succ ?_
    simp only [skewbaldref01_Check.l2]
    refine Evt.pos (by trivial) (Evt.succ ?_)
    simp only [skewbaldref01_Check.j6]
    rw [List.drop_eq_nil_of_le (by omega), decide_eq_false (show ¬ (j : Int) < (Q.length : Int) by omega)]
    exact Evt.neg (by simp) (Evt.pos (by trivial) (by simpa [chk] using Evt.pure (0 : Int)))
  | d + 1, j, true, hj => by
    refine Evt.succ ?_
    simp only [skewbaldref01_Check.l2]
    refine Evt.pos (by trivial) (Evt.succ ?_)
    simp only [skewbaldref01_Check.j6]
    rw [decide_eq_true (show (j : Int) < (Q.length : Int) by omega)]
    refine Evt.pos (by trivial) (Evt.pos (by omega) (Evt.pos (by omega) ?_))
    have hd : Q.drop j = Q[j] :: Q.drop (j + 1) := List.drop_eq_getElem_cons (by omega)
    have hx := hq Q[j] (List.getElem_mem _)
    rw [rd50, getD_el (by omega : j < Q.length), w64 j (by omega), hd, List.all_cons]
    generalize Q[j] = x at hx
    rw [In_f]
    simp only [Option.bind_some]
    have ih := fun b => Check_l2 (P := P) hQ hq d (j + 1) b (by omega)
    refine Evt.ite (fun h => Evt.ite (fun h3 => ?_) (fun h3 => ?_)) (fun h => ?_)
    · refine Evt.bind (Grows_f x.f1 (by omega) x.f0) ?_
      have e : shapeB x = growsB x.f0 (-1) x.f1 := by
        unfold shapeB
        rw [h, grows_asc, decide_eq_true (show x.f1.length ≤ 3 by omega)]
        simp
      rw [e]
      simpa using ih (growsB x.f0 (-1) x.f1)
    · have e : shapeB x = false := by
        unfold shapeB
        rw [decide_eq_false (show ¬ x.f1.length ≤ 3 by omega)]
        simp
      rw [e]
      simpa using ih false
    · have e : shapeB x = false := by
        unfold shapeB
        rw [show (decide (1 ≤ x.f0) && decide (x.f0 ≤ 12)) = false by simpa using h]
        simp
      rw [e]
      simpa using ih false
theorem Check_l0 {P : List S48} {Q : List S50} (hP : P.length < 9223372036854775808) (hp : ∀ y ∈ P, y.f1.length < 9223372036854775808) (hQ : Q.length < 9223372036854775808) (hq : ∀ x ∈ Q, x.f1.length < 9223372036854775808) : ∀ (d i : Nat) (ok : Bool), i + d = P.length →
    Evt (fun k => skewbaldref01_Check.l0 k ok (i : Int) P Q) (chk (ok && ((P.drop i).all woodB && Q.all shapeB)))
  | d, i, false, hj => by
    refine Evt.succ ?_
    simp only [skewbaldref01_Check.l0]
    refine Evt.neg (by simp) (Evt.succ ?_)
    simp only [skewbaldref01_Check.j2]
    refine Evt.neg (by simp) ?_
    simpa using Check_l2 (P := P) hQ hq Q.length 0 false (by omega)
  | 0, i, true, hj => by
    refine Evt.succ ?_
    simp only [skewbaldref01_Check.l0]
    refine Evt.pos (by trivial) (Evt.succ ?_)
    simp only [skewbaldref01_Check.j2]
    rw [List.drop_eq_nil_of_le (by omega), decide_eq_false (show ¬ (i : Int) < (P.length : Int) by omega)]
    refine Evt.neg (by simp) ?_
    simpa using Check_l2 (P := P) hQ hq Q.length 0 true (by omega)
  | d + 1, i, true, hj => by
    refine Evt.succ ?_
    simp only [skewbaldref01_Check.l0]
    refine Evt.pos (by trivial) (Evt.succ ?_)
    simp only [skewbaldref01_Check.j2]
    rw [decide_eq_true (show (i : Int) < (P.length : Int) by omega)]
    refine Evt.pos (by trivial) (Evt.pos (by omega) (Evt.pos (by omega) ?_))
    have hd : P.drop i = P[i] :: P.drop (i + 1) := List.drop_eq_getElem_cons (by omega)
    have hx := hp P[i] (List.getElem_mem _)
    rw [rd48, getD_el (by omega : i < P.length), hd, List.all_cons]
    generalize P[i] = y at hx
    rw [In_f]
    simp only [Option.bind_some]
    have hc := fun b => Check_l0 hP hp hQ hq d (i + 1) b (by omega)
    have key := fun ok hL => Check_l1 (L := y.f0) hx (show i < 9223372036854775807 by omega) _ hc y.f1.length 0 ok (by omega) hL
    refine Evt.ite (fun h => Evt.succ ?_) (fun h => Evt.succ ?_)
    · simp only [skewbaldref01_Check.j3]
      have h' := h
      simp only [Bool.and_eq_true, decide_eq_true_eq] at h'
      refine (key _ (fun _ => h')).of_eq ?_
      unfold woodB
      rw [h, show decide ((y.f1.length : Int) ≤ 3) = decide (y.f1.length ≤ 3) from by rw [decide_eq_decide]; omega]
      simp [Bool.and_assoc]
    · simp only [skewbaldref01_Check.j3]
      refine (key false (fun h => by cases h)).of_eq ?_
      unfold woodB
      rw [show (decide (1 ≤ y.f0) && decide (y.f0 ≤ 16)) = false by simpa using h]
      simp
theorem Check_f {P : List S48} {Q : List S50} (hP : P.length < 9223372036854775808) (hp : ∀ y ∈ P, y.f1.length < 9223372036854775808) (hQ : Q.length < 9223372036854775808) (hq : ∀ x ∈ Q, x.f1.length < 9223372036854775808) :
    Evt (fun k => skewbaldref01_Check.f k P Q) (checkP P Q) := by
  have e : checkP P Q = chk (validB P Q) := rfl
  rw [e]
  unfold skewbaldref01_Check.f validB
  have key := fun ok => Check_l0 hP hp hQ hq P.length 0 ok (by omega)
  have e1 : (decide ((1 : Int) ≤ (P.length : Int)) && decide ((P.length : Int) ≤ 3)) = (decide (1 ≤ P.length) && decide (P.length ≤ 3)) := by congr 1 <;> (rw [decide_eq_decide]; omega)
  have e2 : (decide ((1 : Int) ≤ (Q.length : Int)) && decide ((Q.length : Int) ≤ 5)) = (decide (1 ≤ Q.length) && decide (Q.length ≤ 5)) := by congr 1 <;> (rw [decide_eq_decide]; omega)
  rw [In_f, In_f, e1, e2]
  simp only [Option.bind_some]
  refine Evt.ite (fun h => Evt.succ ?_) (fun h => Evt.succ ?_)
  · simp only [skewbaldref01_Check.j0]
    refine (key _).of_eq ?_
    rw [h]
    simp
  · simp only [skewbaldref01_Check.j0]
    refine (key false).of_eq ?_
    rw [show (decide (1 ≤ P.length) && decide (P.length ≤ 3)) = false by simpa using h]
    simp
end Go.Proofs.YtekjlpldooihhaaDoor.PR
namespace Go.Proofs.YtekjlpldooihhaaDoor.PR
open Go.RowKit Go.Proofs.YtekjlpldooihhaaDoorW.PrintWords Go.Proofs.YtekjlpldooihhaaDoorEv Go.Proofs.YtekjlpldooihhaaDoorP Go.Proofs.YtekjlpldooihhaaDoor.PT Go.Proofs.YtekjlpldooihhaaDoorH
open Go.Proofs.YtekjlpldooihhaaDoor.PA (S48 S50 S60 k48 k50 k60 z48 z50 z60 rd_T48 rd_T50 rd_T60)
set_option linter.unusedVariables false
set_option linter.unusedSimpArgs false
structure PartOk (x : S50) : Prop where
  one : 1 ≤ x.f0
  big : x.f0 ≤ 12
  few : x.f1.length ≤ 3
  joint : ∀ n ∈ x.f1, 0 ≤ n ∧ n < x.f0
structure PlankOk (y : S48) : Prop where
  one : 1 ≤ y.f0
  big : y.f0 ≤ 16
  few : y.f1.length ≤ 3
  knot : ∀ s ∈ y.f1, 0 ≤ s.f0 ∧ s.f0 ≤ s.f1 ∧ s.f1 < 16
theorem Ok.plankOk {P : List S48} {Q : List S50} (h : Ok P Q) {p : Nat} (hp : p < P.length) : PlankOk (P.getD p z48) := by
  obtain ⟨a, b, c⟩ := h.wood (P.getD p z48) (by rw [show P.getD p z48 = P[p] from by simp [hp]]; exact List.getElem_mem hp)
  exact ⟨a, b, c.few, c.knot⟩
end Go.Proofs.YtekjlpldooihhaaDoor.PR
namespace Go.Proofs.YtekjlpldooihhaaDoor.PR
open Go.RowKit Go.Proofs.YtekjlpldooihhaaDoorW.PrintWords Go.Proofs.YtekjlpldooihhaaDoorEv Go.Proofs.YtekjlpldooihhaaDoorP Go.Proofs.YtekjlpldooihhaaDoor.PT Go.Proofs.YtekjlpldooihhaaDoorH Go.Proofs.YtekjlpldooihhaaDoorK
open Go.Proofs.YtekjlpldooihhaaDoor.PA (S48 S50 S60 k48 k50 k60 z48 z50 z60 rd_T48 rd_T50 rd_T60)
set_option linter.unusedVariables false
set_option linter.unusedSimpArgs false
structure Short (P : List S48) (Q : List S50) : Prop where
  p : P.length < 9223372036854775808
  q : Q.length < 9223372036854775808
  kn : ∀ y ∈ P, y.f1.length < 9223372036854775808
  jo : ∀ x ∈ Q, x.f1.length < 9223372036854775808
theorem Short.check {P : List S48} {Q : List S50} (h : Short P Q) : Evt (fun k => skewbaldref01_Check.f k P Q) (checkP P Q) := Check_f h.p h.kn h.q h.jo
theorem range_filter_next (f : Nat → Bool) (j : Nat) : (List.range (j + 1)).filter f = (List.range j).filter f ++ (if f j then [j] else []) := by
  cases h : f j with
  | true => rw [filter_next_yes h]; simp
  | false => rw [filter_next_no h]; simp
theorem sawn_f : Evt (fun _ => skewbaldlaw01_sawn.f) true := Evt.pure true
end Go.Proofs.YtekjlpldooihhaaDoor.PR
namespace Go.Proofs.YtekjlpldooihhaaDoor.PR
open Go.RowKit Go.Proofs.YtekjlpldooihhaaDoorW.PrintWords Go.Proofs.YtekjlpldooihhaaDoorW.PrintMore Go.Proofs.YtekjlpldooihhaaDoorEv Go.Proofs.YtekjlpldooihhaaDoorP Go.Proofs.YtekjlpldooihhaaDoor.PT Go.Proofs.YtekjlpldooihhaaDoorH Go.Proofs.YtekjlpldooihhaaDoorK
open Go.Proofs.YtekjlpldooihhaaDoor.PA (S48 S50 S60 k48 k50 k60 z48 z50 z60 rd_T48 rd_T50 rd_T60)
set_option linter.unusedVariables false
set_option linter.unusedSimpArgs false
theorem shl_pow : ∀ n, n ≤ 6 → shl .i64 1 ((n : Nat) : Int) = ((2 ^ n : Nat) : Int) := by
  intro n hn
  obtain rfl | rfl | rfl | rfl | rfl | rfl | rfl : n = 0 ∨ n = 1 ∨ n = 2 ∨ n = 3 ∨ n = 4 ∨ n = 5 ∨ n = 6 := by omega
  all_goals rfl
theorem mn_eq (a b : Int) : mn a b = min a b := by unfold mn; split <;> omega
theorem getD_set_ne {l : List Int} {s t : Nat} (h : s ≠ t) (v : Int) : (l.set s v).getD t 0 = l.getD t 0 := by simp [List.getElem?_set_ne h]
def Least (S : Int → Prop) (v : Int) : Prop := v ≤ 99 ∧ (v = 99 ∨ S v) ∧ ∀ x, S x → v ≤ x
theorem Least.step {S : Int → Prop} {v : Int} (h : Least S v) (x : Int) : Least (fun y => S y ∨ y = x) (mn v x) := by
  obtain ⟨h1, h2, h3⟩ := h
  unfold mn
  split
  · exact ⟨by omega, .inr (.inr rfl), fun y hy => by rcases hy with hy | rfl; (· have := h3 y hy; omega); (· exact Int.le_refl _)⟩
  · exact ⟨h1, h2.imp_right .inl, fun y hy => by rcases hy with hy | rfl; (· exact h3 y hy); (· omega)⟩
theorem Least.congr {S S' : Int → Prop} {v : Int} (h : Least S v) (e : ∀ x, S x ↔ S' x) : Least S' v := ⟨h.1, h.2.1.imp_right (e v).1, fun x hx => h.2.2 x ((e x).2 hx)⟩
end Go.Proofs.YtekjlpldooihhaaDoor.PR
namespace Go.Proofs.YtekjlpldooihhaaDoor.PR
open Go.RowKit Go.Proofs.YtekjlpldooihhaaDoorW.PrintWords Go.Proofs.YtekjlpldooihhaaDoorW.PrintMore Go.Proofs.YtekjlpldooihhaaDoorEv Go.Proofs.YtekjlpldooihhaaDoorP Go.Proofs.YtekjlpldooihhaaDoor.PT Go.Proofs.YtekjlpldooihhaaDoorH Go.Proofs.YtekjlpldooihhaaDoorK
open Go.Proofs.YtekjlpldooihhaaDoor.PA (S48 S50 S60 k48 k50 k60 z48 z50 z60 rd_T48 rd_T50 rd_T60 rd_L4)
set_option linter.unusedVariables false
set_option linter.unusedSimpArgs false
theorem and_nat : ∀ t, t < 32 → ∀ s, s < 32 → Go.bits .and .i64 ((t : Nat) : Int) ((s : Nat) : Int) = ((t &&& s : Nat) : Int) := by decide +kernel
theorem cutB_cons (P : List S48) (Q : List S50) (p : Nat) (l : List Nat) (s : Nat) : cutB P Q (p :: l) s = (List.range (s + 1)).any fun t => (t &&& s == t) && ((laidB (P.getD p z48) Q (setL t)).isSome && cutB P Q l (s - t)) := by
  conv => lhs; unfold cutB
  by_cases h : s = 0
  · subst h
    rw [show ((0 : Nat) == 0) = true from rfl, Bool.true_or]
    symm
    rw [List.any_eq_true]
    refine ⟨0, by simp, ?_⟩
    rw [show setL 0 = [] from by decide, cut_zero]
    rfl
  · rw [show (s == 0) = false from by simpa using h, Bool.false_or]
theorem sizes_setL : ∀ n, n ≤ 5 → ∀ s, s < 2 ^ n → sizesL s n = setL s := by decide +kernel
theorem ListN_f {n s : Nat} (hn : n ≤ 5) (hs : s < 2 ^ n) : Evt (fun k => skewbaldref00_List.f k (s : Int) (n : Int)) (ints (setL s)) := by
  rw [← sizes_setL n hn s hs]
  exact List_f s n (by have := lt32 hn hs; omega) (by omega)
theorem pow_pos (n : Nat) : 0 < 2 ^ n := Nat.pos_of_ne_zero (by simp)
theorem full_num {n : Nat} (hn : n ≤ 5) : wrap64 (shl .i64 1 ((n : Nat) : Int) - 1) = ((2 ^ n - 1 : Nat) : Int) := by
  have := pow_pos n
  have h32 : 2 ^ n ≤ 32 := Nat.pow_le_pow_right (by omega : 0 < 2) hn
  rw [shl_pow n (by omega)]
  unfold wrap64
  omega
theorem less_cmp : ∀ l m : List Int, lessB l m = decide (cmpL l m < 0)
  | [], [] => rfl
  | [], _ :: _ => rfl
  | _ :: _, [] => rfl
  | a :: l, b :: m => by
    rw [lessB_cons]
    unfold cmpL
    rcases Int.lt_trichotomy a b with h | rfl | h
    · rw [if_neg (by omega), if_pos h]; simp [h]
    · rw [if_pos rfl, if_neg (by omega), if_neg (by omega)]; exact less_cmp l m
    · rw [if_neg (by omega), if_neg (by omega), if_pos h]; simp; omega
theorem shorter_better (l m : List Int) : shorterB l m = betterL l m := by
  unfold shorterB betterL
  rw [less_cmp]
  by_cases h : l.length = m.length
  · rw [if_pos (by omega), decide_eq_false (show ¬ l.length < m.length by omega), Bool.false_or, show (l.length == m.length) = true from by simpa using h, Bool.true_and]
  · rw [if_neg (by omega), show (l.length == m.length) = false from by simpa using h, Bool.false_and, Bool.or_false, decide_eq_decide]; omega
theorem setL5 (s : Nat) : (setL s).length ≤ 5 := setL_len s
theorem cut_more {P : List S48} {Q : List S50} (hok : Ok P Q) {t u s : Nat} (h : ∀ i ∈ setL t, i ∈ setL u) (hs : s < 2 ^ Q.length) (hc : cutB P Q (setL t) s = true) : cutB P Q (setL u) s = true := by
  obtain ⟨a, pos, h1⟩ := (hok.cut t s hs).1 hc
  exact (hok.cut u s hs).2 ⟨a, pos, cuts_weaker h1 h (fun p hp => hp) (fun _ _ _ _ _ h => h) (fun _ _ => rfl)⟩
end Go.Proofs.YtekjlpldooihhaaDoor.PR
namespace Go.Proofs.YtekjlpldooihhaaDoor.PR
open Go.RowKit Go.Proofs.YtekjlpldooihhaaDoorW.PrintWords Go.Proofs.YtekjlpldooihhaaDoorW.PrintMore Go.Proofs.YtekjlpldooihhaaDoorEv Go.Proofs.YtekjlpldooihhaaDoorP Go.Proofs.YtekjlpldooihhaaDoor.PT Go.Proofs.YtekjlpldooihhaaDoorH Go.Proofs.YtekjlpldooihhaaDoorK
open Go.Proofs.YtekjlpldooihhaaDoor.PA (S48 S50 S60 k48 k50 k60 z48 z50 z60 rd_T48 rd_T50 rd_T60 rd_L4)
set_option linter.unusedVariables false
set_option linter.unusedSimpArgs false
theorem woodB_told {y : S48} (h : woodB y = true) : 1 ≤ y.f0 ∧ y.f0 ≤ 16 ∧ y.f1.length ≤ 3 ∧ ∀ s ∈ y.f1, knotB y.f0 s = true := by
  unfold woodB at h
  simp only [Bool.and_eq_true, decide_eq_true_eq, List.all_eq_true] at h
  exact ⟨h.1.1, h.1.2, h.2.1, h.2.2⟩
theorem shapeB_told {x : S50} (h : shapeB x = true) : 1 ≤ x.f0 ∧ x.f0 ≤ 12 ∧ x.f1.length ≤ 3 ∧ growsB x.f0 (-1) x.f1 = true := by
  unfold shapeB at h
  simp only [Bool.and_eq_true, decide_eq_true_eq] at h
  exact ⟨h.1.1, h.1.2, h.2.1, by rw [grows_asc]; exact h.2.2⟩
theorem valid_told {P : List S48} {Q : List S50} (h : validB P Q = true) : 1 ≤ P.length ∧ P.length ≤ 3 ∧ 1 ≤ Q.length ∧ Q.length ≤ 5 ∧ (∀ y ∈ P, woodB y = true) ∧ ∀ x ∈ Q, shapeB x = true := by
  unfold validB at h
  simp only [Bool.and_eq_true, decide_eq_true_eq, List.all_eq_true] at h
  exact ⟨h.1.1.1, h.1.1.2, h.1.2.1, h.1.2.2, h.2.1, h.2.2⟩
theorem sound_l2 {P : List S48} {Q : List S50} (hQ : Q.length ≤ 5) (hq : ∀ x ∈ Q, shapeB x = true) : ∀ (d j : Nat), j + d = Q.length → Evt (fun k => skewbaldlaw01_sound.l2 k true (j : Int) P Q) true
  | 0, j, hj => by
    refine Evt.succ ?_
    simp only [skewbaldlaw01_sound.l2]
    refine Evt.pos (by trivial) (Evt.succ ?_)
    simp only [skewbaldlaw01_sound.j6]
    rw [decide_eq_false (show ¬ (j : Int) < (Q.length : Int) by omega)]
    exact Evt.neg (by simp) (Evt.pure _)
  | d + 1, j, hj => by
    refine Evt.succ ?_
    simp only [skewbaldlaw01_sound.l2]
    refine Evt.pos (by trivial) (Evt.succ ?_)
    simp only [skewbaldlaw01_sound.j6]
    rw [decide_eq_true (show (j : Int) < (Q.length : Int) by omega)]
    have hlt : j < Q.length := by omega
    obtain ⟨h1, h12, h3, hg⟩ := shapeB_told (hq Q[j] (List.getElem_mem _))
    rw [rd50, getD_el hlt, w64 j (by omega), In_f]
    simp only [Option.bind_some]
    generalize Q[j] = x at h1 h12 h3 hg ⊢
    refine Evt.pos (by trivial) (Evt.pos (by omega) (Evt.pos (by omega) (Evt.pos (by simp; omega) (Evt.pos (by omega) (Evt.bind (Grows_f x.f1 (by omega) x.f0) ?_)))))
    rw [hg]
    exact sound_l2 hQ hq d (j + 1) (by omega)
theorem sound_l1 {P : List S48} {Q : List S50} {i : Nat} (hi : i < P.length) (hP : P.length ≤ 3) {L : Int} (hL : 1 ≤ L ∧ L ≤ 16) {kn : List S60} (hk : kn.length ≤ 3) (hkn : ∀ s ∈ kn, knotB L s = true) (hc : Evt (fun k => skewbaldlaw01_sound.l0 k true ((i + 1 : Nat) : Int) P Q) true) :
    ∀ (d j : Nat), j + d = kn.length → Evt (fun k => skewbaldlaw01_sound.l1 k true (i : Int) (j : Int) P Q L kn) true
  | 0, j, hj => by
    refine Evt.succ ?_
    simp only [skewbaldlaw01_sound.l1]
    rw [w64 i (by omega)]
    exact Evt.pos (by trivial) (Evt.neg (by omega) hc)
  | d + 1, j, hj => by
    refine Evt.succ ?_
    simp only [skewbaldlaw01_sound.l1]
    have hlt : j < kn.length := by omega
    have hs := hkn kn[j] (List.getElem_mem _)
    unfold knotB at hs
    simp only [Bool.and_eq_true, decide_eq_true_eq] at hs
    rw [rd60, getD_el hlt, w64 j (by omega), Ordered_f, show wrap64 (L - 1) = L - 1 by unfold wrap64; omega]
    simp only [Option.bind_some]
    rw [show (decide (0 ≤ kn[j].f0) && (decide (kn[j].f0 ≤ kn[j].f1) && decide (kn[j].f1 ≤ L - 1))) = true from by simp; omega]
    exact Evt.pos (by trivial) (Evt.pos (by omega) (Evt.pos (by omega) (sound_l1 hi hP hL hk hkn hc d (j + 1) (by omega))))
theorem sound_l0 {P : List S48} {Q : List S50} (hv : validB P Q = true) : ∀ (d i : Nat), i + d = P.length → Evt (fun k => skewbaldlaw01_sound.l0 k true (i : Int) P Q) true
  | 0, i, hi => by
    obtain ⟨_, _, _, h5, _, hq⟩ := valid_told hv
    refine Evt.succ ?_
    simp only [skewbaldlaw01_sound.l0]
    refine Evt.pos (by trivial) (Evt.succ ?_)
    simp only [skewbaldlaw01_sound.j2]
    rw [decide_eq_false (show ¬ (i : Int) < (P.length : Int) by omega)]
    exact Evt.neg (by simp) (sound_l2 h5 hq Q.length 0 (by omega))
  | d + 1, i, hi => by
    obtain ⟨_, h3, _, _, hp, _⟩ := valid_told hv
    have hlt : i < P.length := by omega
    obtain ⟨a, b, c, e⟩ := woodB_told (hp P[i] (List.getElem_mem _))
    refine Evt.succ ?_
    simp only [skewbaldlaw01_sound.l0]
    refine Evt.pos (by trivial) (Evt.succ ?_)
    simp only [skewbaldlaw01_sound.j2]
    rw [decide_eq_true (show (i : Int) < (P.length : Int) by omega), rd48, getD_el hlt, In_f]
    simp only [Option.bind_some]
    refine Evt.pos (by trivial) (Evt.pos (by omega) (Evt.pos (by omega) (Evt.pos (by simp; omega) (Evt.succ ?_))))
    simp only [skewbaldlaw01_sound.j3]
    rw [decide_eq_true (show (P[i].f1.length : Int) ≤ 3 by omega)]
    exact sound_l1 hlt h3 ⟨a, b⟩ c e (sound_l0 hv d (i + 1) (by omega)) P[i].f1.length 0 (by omega)
theorem sound_f {P : List S48} {Q : List S50} : Evt (fun k => skewbaldlaw01_sound.f k P Q) (validB P Q) := by
  unfold skewbaldlaw01_sound.f plank_Check.f
  simp only [Option.bind_some]
  unfold checkP
  cases hv : validB P Q with
  | false =>
    refine Evt.neg (by simp) (Evt.succ ?_)
    simp only [skewbaldlaw01_sound.j0]
    refine Evt.succ ?_
    simp only [skewbaldlaw01_sound.l0]
    refine Evt.neg (by simp) (Evt.succ ?_)
    simp only [skewbaldlaw01_sound.j2]
    refine Evt.neg (by simp) (Evt.succ ?_)
    simp only [skewbaldlaw01_sound.l2]
    refine Evt.neg (by simp) (Evt.succ ?_)
    simp only [skewbaldlaw01_sound.j6]
    exact Evt.neg (by simp) (Evt.pure _)
  | true =>
    obtain ⟨h1, h3, h4, h5, _, _⟩ := valid_told hv
    rw [In_f, In_f]
    simp only [Option.bind_some]
    refine Evt.pos (by simp) (Evt.pos (by simp; omega) (Evt.succ ?_))
    simp only [skewbaldlaw01_sound.j0]
    rw [show (decide ((1 : Int) ≤ (Q.length : Int)) && decide ((Q.length : Int) ≤ 5)) = true from by simp; omega]
    exact sound_l0 hv P.length 0 (by omega)
theorem only_l1 {P : List S48} {Q : List S50} (hq : Q.length ≤ 5) (u : Int) {v : Nat} (hv : v < 2 ^ Q.length) (R : List S48) : ∀ (d j : Nat), j + d = Q.length →
    Evt (fun k => skewbaldlaw01_only.l1 k (v : Int) (j : Int) P Q R (((List.range j).filter (bitB v)).map fun i => Q.getD i z50)) (R, ((List.range Q.length).filter (bitB v)).map fun i => Q.getD i z50)
  | 0, j, hj => by
    obtain rfl : j = Q.length := by omega
    refine Evt.succ ?_
    simp only [skewbaldlaw01_only.l1]
    exact Evt.neg (by omega) (Evt.pure _)
  | d + 1, j, hj => by
    have h32 := lt32 hq hv
    refine Evt.succ ?_
    simp only [skewbaldlaw01_only.l1]
    have ih := only_l1 (P := P) hq u hv R d (j + 1) (by omega)
    rw [range_filter_next, List.map_append] at ih
    rw [Of_f v j (by omega) (by omega), w64 j (by omega)]
    simp only [Option.bind_some]
    have hl : (((List.range j).filter (bitB v)).map fun i => Q.getD i z50).length < 3518437208883 := by
      rw [List.length_map]
      have := List.length_filter_le (bitB v) (List.range j)
      rw [List.length_range] at this
      omega
    refine Evt.pos (by omega) (Evt.ite (fun h => Evt.pos (by omega) (Evt.pos hl ?_)) (fun h => ?_))
    · rw [h] at ih
      exact ih
    · rw [show bitB v j = false from by simpa using h] at ih
      simpa using ih
theorem only_l0 {P : List S48} {Q : List S50} (hp : P.length ≤ 3) (hq : Q.length ≤ 5) {u v : Nat} (hu : u < 2 ^ P.length) (hv : v < 2 ^ Q.length) : ∀ (d j : Nat), j + d = P.length →
    Evt (fun k => skewbaldlaw01_only.l0 k (u : Int) (v : Int) (j : Int) P Q (((List.range j).filter (bitB u)).map fun i => P.getD i z48)) (((List.range P.length).filter (bitB u)).map fun i => P.getD i z48, ((List.range Q.length).filter (bitB v)).map fun i => Q.getD i z50)
  | 0, j, hj => by
    obtain rfl : j = P.length := by omega
    refine Evt.succ ?_
    simp only [skewbaldlaw01_only.l0]
    exact Evt.neg (by omega) (only_l1 hq u hv _ Q.length 0 (by omega))
  | d + 1, j, hj => by
    have h32 := lt32 (by omega : P.length ≤ 5) hu
    refine Evt.succ ?_
    simp only [skewbaldlaw01_only.l0]
    have ih := only_l0 hp hq hu hv d (j + 1) (by omega)
    rw [range_filter_next, List.map_append] at ih
    rw [Of_f u j (by omega) (by omega), w64 j (by omega)]
    simp only [Option.bind_some]
    have hl : (((List.range j).filter (bitB u)).map fun i => P.getD i z48).length < 4398046511104 := by
      rw [List.length_map]
      have := List.length_filter_le (bitB u) (List.range j)
      rw [List.length_range] at this
      omega
    refine Evt.pos (by omega) (Evt.ite (fun h => Evt.pos (by omega) (Evt.pos hl ?_)) (fun h => ?_))
    · rw [h] at ih
      exact ih
    · rw [show bitB u j = false from by simpa using h] at ih
      simpa using ih
theorem only_f {P : List S48} {Q : List S50} (hp : P.length ≤ 3) (hq : Q.length ≤ 5) {u v : Nat} (hu : u < 2 ^ P.length) (hv : v < 2 ^ Q.length) : Evt (fun k => skewbaldlaw01_only.f k P Q (u : Int) (v : Int)) (pick z48 P u, pick z50 Q v) := by
  unfold skewbaldlaw01_only.f pick
  have := only_l0 hp hq hu hv P.length 0 (by omega)
  rw [show (List.range P.length).filter (bitB u) = setL u from sizes_setL P.length (by omega) u hu, show (List.range Q.length).filter (bitB v) = setL v from sizes_setL Q.length hq v hv] at this
  exact this
theorem valid_pick {P : List S48} {Q : List S50} (hv : validB P Q = true) {u v : Nat} (hu : u < 2 ^ P.length) (hw : v < 2 ^ Q.length) (u0 : u ≠ 0) (v0 : v ≠ 0) : validB (pick z48 P u) (pick z50 Q v) = true := by
  obtain ⟨h1, h3, h4, h5, hp, hq⟩ := valid_told hv
  have a := setL_le P.length (by omega) u hu
  have b := setL_le Q.length h5 v hw
  have c : setL u ≠ [] := fun e => u0 ((set_empty (lt32 (by omega) hu)).1 e)
  have d : setL v ≠ [] := fun e => v0 ((set_empty (lt32 h5 hw)).1 e)
  have c' := List.length_pos_iff.2 c
  have d' := List.length_pos_iff.2 d
  unfold validB
  simp only [Bool.and_eq_true, decide_eq_true_eq, List.all_eq_true, pick_length]
  exact ⟨⟨⟨by omega, by omega⟩, by omega, by omega⟩, fun y hy => hp y (pick_mem (fun i hi => setL_lt hu hi) hy), fun x hx => hq x (pick_mem (fun i hi => setL_lt hw hi) hx)⟩
theorem fewest_told {P : List S48} {Q : List S50} (hv : validB P Q = true) : (fewestP P Q).2 = if cutB P Q (setL (2 ^ P.length - 1)) (2 ^ Q.length - 1) then 0 else 4 := by
  have hok := valid_ok hv
  have h3 := hok.p3
  have hpp := pow_pos P.length
  have hpq := pow_pos Q.length
  unfold fewestP
  rw [hv]
  rcases fewest_spec P Q with ⟨e, h⟩ | ⟨l, e, ⟨s, hs, rfl, hc⟩, _⟩
  · rw [e, h (2 ^ P.length - 1) (by omega)]; rfl
  · have hc' : cutB P Q (setL s) (2 ^ Q.length - 1) = true := hc
    rw [e, cut_more hok (fun i hi => (mem_full (by omega : P.length ≤ 5) i).2 (setL_lt hs hi)) (by omega) hc']
    rfl
theorem enough_f {P : List S48} {Q : List S50} (hv : validB P Q = true) {u v : Nat} (hu : u < 2 ^ P.length) (hw : v < 2 ^ Q.length) : Evt (fun k => skewbaldlaw01_enough.f k P Q (u : Int) (v : Int)) (cutB P Q (setL u) v, true) := by
  have hok := valid_ok hv
  unfold skewbaldlaw01_enough.f
  refine Evt.ite (fun h => Evt.succ ?_) (fun h => Evt.succ ?_)
  · simp only [skewbaldlaw01_enough.j0]
    obtain rfl : v = 0 := by omega
    rw [cut_zero]
    exact Evt.pos (by trivial) (Evt.pure _)
  · simp only [skewbaldlaw01_enough.j0]
    refine Evt.ite (fun h0 => ?_) (fun h0 => ?_)
    · obtain rfl : u = 0 := by have := beq_iff_eq.1 h0; omega
      rw [show setL 0 = [] from by decide, show cutB P Q [] v = (v == 0) from rfl, show ((v : Int) == 0) = (v == 0) from by rw [Bool.eq_iff_iff]; simp]
      exact Evt.pure _
    · have u0 : u ≠ 0 := fun e => h0 (by rw [e]; rfl)
      refine Evt.bind (only_f hok.p3 hok.q5 hu hw) ?_
      simp only [plank_Fewest.f, Option.bind_some]
      rw [fewest_told (valid_pick hv hu hw u0 (by omega)), cut_pick hok hu hw]
      cases cutB P Q (setL u) v with
      | true => exact Evt.pos (by simp) (Evt.pure _)
      | false => exact Evt.neg (by simp) (Evt.pure _)
theorem okL_set : ∀ n, n ≤ 5 → ∀ s, s < 2 ^ n → okL n true (ints (setL s)) = true := by decide +kernel
theorem lay_told {P : List S48} {Q : List S50} (hv : validB P Q = true) {p s : Nat} (hp : p < P.length) (hs : s < 2 ^ Q.length) : layP P Q (p : Int) (ints (setL s)) = layR (laidB (P.getD p z48) Q (setL s)) := by
  have hok := valid_ok hv
  unfold layP
  rw [hv, show inB (p : Int) P.length = true from by unfold inB; simp; omega, okL_set Q.length hok.q5 s hs, Int.toNat_natCast]
  rw [show (ints (setL s)).map (·.toNat) = setL s from by unfold ints; rw [List.map_map]; exact (List.map_congr_left (fun _ _ => rfl)).trans (List.map_id _)]
  rfl
theorem shared_f {P : List S48} {Q : List S50} (hv : validB P Q = true) : ∀ (l : List Nat) (hl : ∀ p ∈ l, p < P.length) (hn : l.length ≤ 5) (s : Nat) (hs : s < 2 ^ Q.length), Evt (fun k => skewbaldlaw01_shared.f k P Q (ints l) (s : Int)) (cutB P Q l s)
  | [], hl, hn, s, hs => by
    refine Evt.succ ?_
    simp only [skewbaldlaw01_shared.f]
    refine Evt.pos rfl ?_
    rw [show ((s : Int) == 0) = (s == 0) from by rw [Bool.eq_iff_iff]; simp]
    exact Evt.pure _
  | p :: l, hl, hn, s, hs => by
    have hok := valid_ok hv
    have h5 := hok.q5
    have ih := fun s' (h : s' < 2 ^ Q.length) => shared_f hv l (fun q hq => hl q (by simp [hq])) (by simp at hn; omega) s' h
    have hp := hl p (by simp)
    have h32 := lt32 hok.q5 hs
    refine Evt.succ ?_
    simp only [skewbaldlaw01_shared.f]
    refine Evt.neg (by rw [ints_length]; simp; omega) ?_
    rw [cutB_cons]
    have hrd : rd (ints (p :: l)) 0 = (p : Int) := rfl
    have hlen : (ints (p :: l)).length = l.length + 1 := by rw [ints_length]; rfl
    have key : ∀ (u : Nat), u ≤ s → Evt (fun k => skewbaldlaw01_shared.l0 k (ints (p :: l)) (s : Int) (u : Int) P Q) ((List.range (u + 1)).any fun t => (t &&& s == t) && ((laidB (P.getD p z48) Q (setL t)).isSome && cutB P Q l (s - t))) := by
      intro u
      have step : ∀ (r : Bool) (x : Nat) (hx : x ≤ s) (hnext : Evt (fun k => skewbaldlaw01_shared.l0 k (ints (p :: l)) (s : Int) ((x : Int) - 1) P Q) r), Evt (fun k => skewbaldlaw01_shared.l0 k (ints (p :: l)) (s : Int) (x : Int) P Q) (r || ((x &&& s == x) && ((laidB (P.getD p z48) Q (setL x)).isSome && cutB P Q l (s - x)))) := by
        intro r x hx hnext
        have hx32 : x < 32 := by omega
        have hxq : x < 2 ^ Q.length := by omega
        refine Evt.succ ?_
        simp only [skewbaldlaw01_shared.l0]
        rw [and_nat x hx32 s h32, hrd, hlen, show wrap64 ((x : Int) - 1) = (x : Int) - 1 by unfold wrap64; omega]
        refine Evt.pos (by omega) (Evt.ite (fun h => Evt.pos (by omega) (Evt.bind (ListN_f h5 hxq) ?_)) (fun h => ?_))
        · have hus : (x &&& s == x) = true := by rw [beq_iff_eq]; omega
          simp only [plank_Lay.f, Option.bind_some]
          rw [lay_told hv hp hxq, hus, Bool.true_and]
          cases hla : laidB (P.getD p z48) Q (setL x) with
          | none =>
            refine Evt.neg (by simp [layR]) ?_
            simpa using hnext
          | some o =>
            refine Evt.pos (by simp [layR]) (Evt.pos (by omega) ?_)
            rw [show (ints (p :: l)).drop 1 = ints l from rfl, show wrap64 ((s : Int) - (x : Int)) = ((s - x : Nat) : Int) by unfold wrap64; omega]
            refine Evt.bind (ih (s - x) (by omega)) ?_
            cases hc : cutB P Q l (s - x) with
            | true => exact Evt.pos rfl (by simpa using Evt.pure true)
            | false => exact Evt.neg (by simp) (by simpa using hnext)
        · have hus : (x &&& s == x) = false := by rw [beq_eq_false_iff_ne]; omega
          rw [hus, Bool.false_and, Bool.or_false]
          exact hnext
      induction u with
      | zero =>
        intro hu
        have := step false 0 (by omega) (by
          refine Evt.succ ?_
          simp only [skewbaldlaw01_shared.l0]
          exact Evt.neg (by omega) (Evt.pure _))
        simpa using this
      | succ u ihu =>
        intro hu
        rw [List.range_succ, List.any_append]
        have h1 := step _ (u + 1) hu (by
          rw [show ((u + 1 : Nat) : Int) - 1 = (u : Int) by omega]
          exact ihu (by omega))
        simpa using h1
    exact key s (Nat.le_refl _)
theorem grows_set : ∀ n : Nat, n ≤ 5 → ∀ s, s < 2 ^ n → growsB (n : Int) (-1) (ints (setL s)) = true := by decide +kernel
theorem plankFewest_f {P : List S48} {Q : List S50} (n : Int) : Evt (fun k => skewbaldlaw01_PlankFewest.f k P Q n) true := by
  unfold skewbaldlaw01_PlankFewest.f plank_Fewest.f
  simp only [Option.bind_some]
  refine Evt.bind sound_f (Evt.ite (fun hv => ?_) (fun hv => ?_))
  · have hok := valid_ok hv
    obtain ⟨hp1, _, hq1, _, _, _⟩ := valid_told hv
    have h3 := hok.p3
    have h5 := hok.q5
    have hpp := pow_pos P.length
    have hpq := pow_pos Q.length
    have hq2 : 2 ≤ 2 ^ Q.length := by
      obtain ⟨m, hm⟩ : ∃ m, Q.length = m + 1 := ⟨Q.length - 1, by omega⟩
      rw [hm, Nat.pow_succ]
      have := pow_pos m
      omega
    rw [full_num h5, shl_pow P.length (by omega)]
    obtain ⟨t, ht, e⟩ := Round_nat n (2 ^ P.length) hpp (by have : 2 ^ P.length ≤ 32 := Nat.pow_le_pow_right (by omega : 0 < 2) (by omega : P.length ≤ 5); omega)
    rw [e]
    simp only [Option.bind_some]
    refine Evt.bind (enough_f hv ht (by omega)) ?_
    have hf : fewestP P Q = if (fewestZ P Q).1 then (ints (fewestZ P Q).2, 0) else ([], 4) := by unfold fewestP; rw [hv]; rfl
    rcases fewest_spec P Q with ⟨ez, hno⟩ | ⟨l, ez, ⟨s, hs, rfl, hc⟩, hb⟩
    · rw [hf, ez, hno t ht]
      exact Evt.neg (by simp) (Evt.pos (by simp) (Evt.pos (by simp) (Evt.pos (by trivial) (Evt.neg (by simp) (Evt.bind sawn_f (Evt.pure _))))))
    · have hc' : cutB P Q (setL s) (2 ^ Q.length - 1) = true := hc
      have hs0 : setL s ≠ [] := fun e => by
        rw [e, show cutB P Q [] (2 ^ Q.length - 1) = (2 ^ Q.length - 1 == 0) from rfl, beq_iff_eq] at hc'
        omega
      have hl0 := List.length_pos_iff.2 hs0
      have hls := setL5 s
      have last : Evt (fun k => skewbaldlaw01_PlankFewest.j0 k (ints (setL s)) ((2 ^ Q.length - 1 : Nat) : Int) false P Q) true := by
        refine Evt.succ ?_
        simp only [skewbaldlaw01_PlankFewest.j0]
        refine Evt.neg (by simp) (Evt.bind (shared_f hv _ (fun q hq => setL_lt hs hq) (setL5 s) _ (by omega)) ?_)
        rw [hc']
        exact Evt.pos (by trivial) (Evt.bind sawn_f (Evt.pure _))
      rw [hf, ez]
      refine Evt.pos (by simp) (Evt.pos (by trivial) (Evt.bind (Grows_f _ (by show (ints (setL s)).length < _; rw [ints_length]; omega) _) ?_))
      refine Evt.pos (grows_set P.length (by omega) s hs) (Evt.neg (by show ¬ ((ints (setL s)).length : Int) = 0; rw [ints_length]; omega) (Evt.ite (fun hi => ?_) (fun hi => last)))
      refine Evt.bind (ListN_f (by omega) ht) (Evt.bind (Shorter_f _ _ (by rw [ints_length]; have := setL5 t; omega) (by show (ints (setL s)).length < _; rw [ints_length]; omega)) ?_)
      rw [shorter_better]
      have : betterL (ints (setL t)) (ints (setL s)) = false := by
        rw [Bool.eq_false_iff]
        intro hbt
        rcases hb t ht hi with h | h
        · rw [h, strict_few.irr] at hbt; exact absurd hbt (by simp)
        · have := strict_few.trans _ _ _ h hbt
          rw [strict_few.irr] at this
          exact absurd this (by simp)
      show Evt (fun k => skewbaldlaw01_PlankFewest.j0 k (ints (setL s)) _ (betterL (ints (setL t)) (ints (setL s))) P Q) true
      rw [this]
      exact last
  · have e : fewestP P Q = ([], 10) := by unfold fewestP; rw [show validB P Q = false from by simpa using hv]; rfl
    rw [e]
    exact Evt.pos (by trivial) (Evt.pos (by trivial) (Evt.bind sawn_f (Evt.pure _)))
end Go.Proofs.YtekjlpldooihhaaDoor.PR
namespace Go.Proofs.YtekjlpldooihhaaDoor.PlankFewestRow.Pure
open Go.RowKit Go.Proofs.YtekjlpldooihhaaDoorW.PrintWords Go.Proofs.YtekjlpldooihhaaDoorEv Go.Proofs.YtekjlpldooihhaaDoorP Go.Proofs.YtekjlpldooihhaaDoor.PT Go.Proofs.YtekjlpldooihhaaDoor.PR
open Go.Proofs.YtekjlpldooihhaaDoor.PA (S48 S50 k48 k50)
set_option linter.unusedVariables false
theorem plankFewest (W : World) (P : List S48) (Q : List S50) (n : Int) {A : Option Addr} (hP : Kd.C k48 W A P.length P) (w0 : ∀ y ∈ P, wfWood y) {B : Option Addr} (hQ : Kd.C k50 W B Q.length Q) (w1 : ∀ x ∈ Q, wfShape x) (w2 : (Lit.int .i64 n).wf = true) :
    ∃ k, skewbaldlaw01_PlankFewest.f k P Q n = some true :=
  (plankFewest_f n).get
end Go.Proofs.YtekjlpldooihhaaDoor.PlankFewestRow.Pure
namespace Go.Proofs.YtekjlpldooihhaaDoor.PT
open Go.Proofs.YtekjlpldooihhaaDoorSh
open Go.Proofs.YtekjlpldooihhaaDoor.PA (S48 S50 S60 at_L2 at_L4 at_T48 at_T50 at_T60 errW errW_none errW_some k48 k48_mk k48_mkM k48_open k48_openM k50 k50_mk k50_mkM k50_open k50_openM k60 k60_mk k60_mkM k60_open k60_openM rd_L2 rd_L4 rd_T48 rd_T50 rd_T60 z48 z50 z60)
open Go.Proofs.YtekjlpldooihhaaDoorP Go.Proofs.YtekjlpldooihhaaDoorK
open Go.RowKit Go.Proofs.YtekjlpldooihhaaDoorW.PrintWords Go.Proofs.YtekjlpldooihhaaDoorW.PrintLast Go.Proofs.YtekjlpldooihhaaDoorW.PrintMore
attribute [local go_sem] max2_int min2_int max_two min_two max_three min_three max_four min_four   -- for this text's walks alone
set_option linter.unusedVariables false
set_option linter.unusedSimpArgs false
def skewbaldlaw01_worst.l0 : Nat → Int → Int → Int → Int → List (S48) → List (S50) → Option (Int)
 | 0, _, _, _, _, _, _ => none
 | k + 1, x1, x2, x7, x8, x612000, x612001 => if 0 ≤ x1 then (if x1 < (x612000.length : Int) then (if 0 ≤ x2 then (if x2 < (((rd_T48 x612000 x1).f1).length : Int) then (if x8 ≤ ((rd_T60 ((rd_T48 x612000 x1).f1) x2).f1) then ((skewbaldlaw01_known.f x612000 x612001 x1 x2 x8).bind fun bt616 => ((plank_Most.f bt616.1 bt616.2).bind fun bt622 => (if bt622.2 = 0 then (skewbaldlaw01_worst.l0 k x1 x2 (mn x7 (bt622.1.length : Int)) (wrap64 (x8 + 1)) x612000 x612001) else (some (-1))))) else (some x7)) else (none)) else (none)) else (none)) else (none)
def skewbaldlaw01_worst.f (k : Nat) (l0_0 : List (S48)) (l0_1 : List (S50)) (a1 : Int) (a2 : Int) : Option (Int) := if 0 ≤ a1 then (if a1 < (l0_0.length : Int) then (if 0 ≤ a2 then (if a2 < (((rd_T48 l0_0 a1).f1).length : Int) then (skewbaldlaw01_worst.l0 k a1 a2 (l0_1.length : Int) ((rd_T60 ((rd_T48 l0_0 a1).f1) a2).f0) l0_0 l0_1) else (none)) else (none)) else (none)) else (none)
set_option maxHeartbeats 8000000 in
set_option maxRecDepth 100000 in
theorem skewbaldlaw01_worst.calls (k : Nat) (A0_0 : Option Addr) (c0_0 : Nat) (l0_0 : List (S48)) (A0_1 : Option Addr) (c0_1 : Nat) (l0_1 : List (S50)) (a1 : Int) (a2 : Int) (r : Int) (w : World) (hr0_0 : Kd.C k48 w A0_0 l0_0.length l0_0) (hc0_0 : l0_0.length ≤ c0_0) (hr0_1 : Kd.C k50 w A0_1 l0_1.length l0_1) (hc0_1 : l0_1.length ≤ c0_1) (hG : Glob w) (h : skewbaldlaw01_worst.f k l0_0 l0_1 a1 a2 = some r) :
  Calls Tryd.prog 50 #[.agg #[.slice A0_0 l0_0.length c0_0, .slice A0_1 l0_1.length c0_1], .int .i64 a1, .int .i64 a2] w fun e w' => e = .returned (.int .i64 r) ∧ Below w.heap.size w w' := by
 have hu25 := Tryd.underlying25
 have HR0_0 := Aside0.mk hr0_0
 have HC0_0 := Aside0.mk hc0_0
 clear hr0_0 hc0_0
 have HR0_1 := Aside0.mk hr0_1
 have HC0_1 := Aside0.mk hc0_1
 clear hr0_1 hc0_1
 have HGL := Aside0.mk hG
 clear hG
 have HB := Aside0.mk (Below.refl w.heap.size w)
 have H : (if 0 ≤ a1 then (if a1 < (l0_0.length : Int) then (if 0 ≤ a2 then (if a2 < (((rd_T48 l0_0 a1).f1).length : Int) then (skewbaldlaw01_worst.l0 k a1 a2 (l0_1.length : Int) ((rd_T60 ((rd_T48 l0_0 a1).f1) a2).f0) l0_0 l0_1) else (none)) else (none)) else (none)) else (none)) = some r := h
 clear h
 by_cases c4 : 0 ≤ a1
 ·rw [if_pos c4] at H
  have c4b0 : decide (0 ≤ a1) = true := decide_eq_true c4
  clear c4
  by_cases c5 : a1 < (l0_0.length : Int)
  ·rw [if_pos c5] at H
   have c5b0 : decide (a1 < (l0_0.length : Int)) = true := decide_eq_true c5
   clear c5
   by_cases c6 : 0 ≤ a2
   ·rw [if_pos c6] at H
    have c6b0 : decide (0 ≤ a2) = true := decide_eq_true c6
    clear c6
    by_cases c7 : a2 < (((rd_T48 l0_0 a1).f1).length : Int)
    ·rw [if_pos c7] at H
     have c7b0 : decide (a2 < (((rd_T48 l0_0 a1).f1).length : Int)) = true := decide_eq_true c7
     clear c7
     have H' := Aside0.mk H
     clear H
     go_enter Tryd.func50, Tryd.ntmps50
     go_wp2_with (first | ((with_reducible refine gate_dst (N := 3) rfl ?_); refine box_event ?hg (N := 3) ?hd (cs := #[.slice A0_0 l0_0.length c0_0, .slice A0_1 l0_1.length c0_1]) (t := 25) ?hr ?_; (case hd => rfl); (case hg => rfl); (case hr => first | (go_simp; done) | (go_simp; rfl)); intro gb611 hg w8 hbox hb; have n0_ := Aside0.mk (below_step bl hb); have n1_ := Aside0.mk (hbox); have n2_ := Aside0.mk ((by rw [hg]; exact (below_size bl) : w.heap.size ≤ gb611)); have n3_ := Aside0.mk ((by rw [hg]; exact (below_size bl) : w.heap.size ≤ gb611)); clear HB; have HB := n0_; have BK611 := n1_; have GW611 := n2_; have GE611 := n3_; clear n0_ n1_ n2_ n3_; clear hb hbox hg; have hcz9_0 : w8.cell? ⟨gb611, 0, none⟩ = some (.slice A0_0 l0_0.length c0_0) := (blk_cell BK611.out 0).trans rfl; have hcz9_1 : w8.cell? ⟨gb611, 1, none⟩ = some (.slice A0_1 l0_1.length c0_1) := (blk_cell BK611.out 1).trans rfl; have hfz9_0 := blk_frozen BK611.out 0; have hfz9_1 := blk_frozen BK611.out 1; have p612 : 0 ≤ (a1 : Int) := of_decide_eq_true (by first | (with_reducible assumption) | assumption); have q612 : a1 < (l0_0.length : Int) := of_decide_eq_true (by first | (with_reducible assumption) | assumption); obtain ⟨ad612, A612_1, c612_1, e612, hx612_0, hx612_1, hl612_1, hi612_1⟩ := at_T48 HR0_0.out a1 p612 q612; cases e612; replace hx612_0 := (HB.out.cell (World.block_lt_of_cell? w _ hx612_0)).trans hx612_0; replace hx612_1 := (HB.out.cell (World.block_lt_of_cell? w _ hx612_1)).trans hx612_1; have HR612_1 := Aside0.mk hi612_1; have HC612_1 := Aside0.mk hl612_1; clear hi612_1 hl612_1; replace p612 := eq_true p612; replace q612 := eq_true q612; have p613 : 0 ≤ (a2 : Int) := of_decide_eq_true (by first | (with_reducible assumption) | assumption); have q613 : a2 < (((rd_T48 l0_0 a1).f1).length : Int) := of_decide_eq_true (by first | (with_reducible assumption) | assumption); obtain ⟨ad613, e613, hx613_0, hx613_1⟩ := at_T60 HR612_1.out a2 p613 q613; cases e613; replace hx613_0 := (HB.out.cell (World.block_lt_of_cell? w _ hx613_0)).trans hx613_0; replace hx613_1 := (HB.out.cell (World.block_lt_of_cell? w _ hx613_1)).trans hx613_1; replace p613 := eq_true p613; replace q613 := eq_true q613))
     go_loopg [7, 8] k (fun kq v7 v8 w' => ∃ (x7_1 : Int) (x8_1 : Int), v7 = .int .i64 x7_1 ∧ v8 = .int .i64 x8_1 ∧ Aside0 (skewbaldlaw01_worst.l0 kq a1 a2 x7_1 x8_1 l0_0 l0_1 = some r) ∧ Aside0 (kq ≤ k) ∧ Aside0 (w'.heap[gb611]? = some (.cells #[(.slice (some ad612) l0_0.length c0_0), (.slice A0_1 l0_1.length c0_1)] 25 (0, 0))) ∧ Aside0 (Below w.heap.size w w'))
     case atStart => exact ⟨((l0_1.length : Int)), ((rd_T60 ((rd_T48 l0_0 a1).f1) a2).f0), (by first | rfl | (simp; done) | (simp [*]; done)), (by first | rfl | (simp; done) | (simp [*]; done)), H', ⟨Nat.le_refl _⟩, ⟨bk⟩, ⟨bl⟩⟩
     case round =>
      clear H'
      try clear p2
      try clear c4
      try clear c4b0
      try clear c5
      try clear c5b0
      try clear c6
      try clear c6b0
      try clear p6
      try clear q6
      try clear hx6
      try clear c7
      try clear c7b0
      try clear hcz9_0
      try clear hcz9_1
      try clear hfz9_0
      try clear hfz9_1
      try clear hx612_0
      try clear hx612_1
      try clear hx613_0
      try clear hx613_1
      try clear p612
      try clear p613
      try clear q612
      try clear q613
      obtain ⟨x7_1, x8_1, rfl, rfl, HA, HK1, BK611, HB⟩ := hrel
      cases gk with
      | zero => exact absurd HA.out (by simp [skewbaldlaw01_worst.l0])
      | succ k1 =>
       have H := HA.out
       clear HA
       simp only [skewbaldlaw01_worst.l0] at H
       by_cases c10 : 0 ≤ a1
       ·rw [if_pos c10] at H
        have c10b0 : decide (0 ≤ a1) = true := decide_eq_true c10
        clear c10
        by_cases c11 : a1 < (l0_0.length : Int)
        ·rw [if_pos c11] at H
         have c11b0 : decide (a1 < (l0_0.length : Int)) = true := decide_eq_true c11
         clear c11
         by_cases c12 : 0 ≤ a2
         ·rw [if_pos c12] at H
          have c12b0 : decide (0 ≤ a2) = true := decide_eq_true c12
          clear c12
          by_cases c13 : a2 < (((rd_T48 l0_0 a1).f1).length : Int)
          ·rw [if_pos c13] at H
           have c13b0 : decide (a2 < (((rd_T48 l0_0 a1).f1).length : Int)) = true := decide_eq_true c13
           clear c13
           by_cases c14 : x8_1 ≤ ((rd_T60 ((rd_T48 l0_0 a1).f1) a2).f1)
           ·rw [if_pos c14] at H
            have c14b0 : decide (x8_1 ≤ ((rd_T60 ((rd_T48 l0_0 a1).f1) a2).f1)) = true := decide_eq_true c14
            clear c14
            replace H := Option.bind_eq_some_iff.mp H
            obtain ⟨⟨t616, t619⟩, A150, H⟩ := H
            replace H : ((plank_Most.f t616 t619).bind fun bt622 => (if bt622.2 = 0 then (skewbaldlaw01_worst.l0 k1 a1 a2 (mn x7_1 (bt622.1.length : Int)) (wrap64 (x8_1 + 1)) l0_0 l0_1) else (some (-1)))) = some r := H
            have A15 := Aside0.mk A150
            clear A150
            replace H := Option.bind_eq_some_iff.mp H
            obtain ⟨⟨t622, t625⟩, A160, H⟩ := H
            replace H : (if t625 = 0 then (skewbaldlaw01_worst.l0 k1 a1 a2 (mn x7_1 (t622.length : Int)) (wrap64 (x8_1 + 1)) l0_0 l0_1) else (some (-1))) = some r := H
            have A16 := Aside0.mk A160
            clear A160
            by_cases c17 : t625 = 0
            ·rw [if_pos c17] at H
             have c17b0 : (t625 == 0) = true := beq_iff_eq.mpr c17
             have c17b1 : (t625 != 0) = false := bne_eq_false_iff_eq.mpr c17
             clear c17
             obtain ⟨ji18, hji18⟩ : ∃ j_ : Int, (mn x7_1 (t622.length : Int)) = j_ := ⟨_, rfl⟩
             replace H : (skewbaldlaw01_worst.l0 k1 a1 a2 ji18 (wrap64 (x8_1 + 1)) l0_0 l0_1) = some r := by first | (rw [hji18] at H; exact H) | (simp only [hji18] at H ⊢; exact H)
             (try rw [hji18] at A15)
             (try rw [hji18] at A16)
             have hji18_ : (if (t622.length : Int) < x7_1 then (t622.length : Int) else x7_1) = ji18 := hji18
             have H' := Aside0.mk H
             clear H
             have hcz19_0 : wr.cell? ⟨gb611, 0, none⟩ = some (.slice (some ad612) l0_0.length c0_0) := (blk_cell BK611.out 0).trans rfl
             have hcz19_1 : wr.cell? ⟨gb611, 1, none⟩ = some (.slice A0_1 l0_1.length c0_1) := (blk_cell BK611.out 1).trans rfl
             have hfz19_0 := blk_frozen BK611.out 0
             have hfz19_1 := blk_frozen BK611.out 1
             have p614 : 0 ≤ (a1 : Int) := of_decide_eq_true (by first | (with_reducible assumption) | assumption)
             have q614 : a1 < (l0_0.length : Int) := of_decide_eq_true (by first | (with_reducible assumption) | assumption)
             obtain ⟨ad614, A614_1, c614_1, e614, hx614_0, hx614_1, hl614_1, hi614_1⟩ := at_T48 HR0_0.out a1 p614 q614
             obtain rfl : ad612 = ad614 := (by injection e614)
             replace hx614_0 := (HB.out.cell (World.block_lt_of_cell? w _ hx614_0)).trans hx614_0
             replace hx614_1 := (HB.out.cell (World.block_lt_of_cell? w _ hx614_1)).trans hx614_1
             have HR614_1 := Aside0.mk hi614_1
             have HC614_1 := Aside0.mk hl614_1
             clear hi614_1 hl614_1
             replace p614 := eq_true p614
             replace q614 := eq_true q614
             have p615 : 0 ≤ (a2 : Int) := of_decide_eq_true (by first | (with_reducible assumption) | assumption)
             have q615 : a2 < (((rd_T48 l0_0 a1).f1).length : Int) := of_decide_eq_true (by first | (with_reducible assumption) | assumption)
             obtain ⟨ad615, e615, hx615_0, hx615_1⟩ := at_T60 HR614_1.out a2 p615 q615
             cases e615
             replace hx615_0 := (HB.out.cell (World.block_lt_of_cell? w _ hx615_0)).trans hx615_0
             replace hx615_1 := (HB.out.cell (World.block_lt_of_cell? w _ hx615_1)).trans hx615_1
             replace p615 := eq_true p615
             replace q615 := eq_true q615
             go_wp2_with (first | ((with_reducible refine gate_callee (f := 51) rfl ?_); refine goesL_ (some 43) rfl rfl Tryd.func51 (by kernel_rfl) rfl #[.agg #[.slice (some ad612) l0_0.length c0_0, .slice A0_1 l0_1.length c0_1], .int .i64 a1, .int .i64 a2, .int .i64 x8_1] rfl (by (try simp only [List.map_toArray, List.map_cons, List.map_nil]); first | done | rfl | (simp only [List.length_drop, List.length_take]; rfl)) ?_; (with_reducible refine (skewbaldlaw01_known.calls (fun k_ => k_ < w.heap.size) _ _ l0_0 (fun k_ => k_ < w.heap.size) _ _ l0_1 a1 a2 x8_1 t616 t619 _ ?side1 ?side2 A15.out).mono ?_); (case side1 => exact Kd.V_mk HC0_0.out (Kd.F_below (Kd.C_F k48_heap HR0_0.out) bl)); (case side2 => exact Kd.V_mk HC0_1.out (Kd.F_below (Kd.C_F k50_heap HR0_1.out) bl)); rintro e w20 ⟨v617, v620, rfl, ho0, ho1, hb⟩; refine ⟨_, rfl, ?_⟩; have n0_ := Aside0.mk (Kd.V_lower (Kd.V_mono (ok' := fun k_ => k_ ≠ gb611) ho0 (fun k_ hk_ => Or.elim hk_ (fun hs_ => Or.elim hs_ (fun hs_ => fun e_ => Nat.not_le.2 hs_ (by rw [e_]; exact GW611.out)) (fun hs_ => fun e_ => Nat.not_le.2 hs_ (by rw [e_]; exact GW611.out))) (fun hn_ => (Kd.freshB (g := gb611) (o := .cells #[.slice (some ad612) l0_0.length c0_0, .slice A0_1 l0_1.length c0_1] 25 (0, 0)) bk k_ hn_)))) (below_size bl)); have n1_ := Aside0.mk (Kd.V_lower (Kd.V_mono (ok' := fun k_ => k_ ≠ gb611) ho1 (fun k_ hk_ => Or.elim hk_ (fun hs_ => Or.elim hs_ (fun hs_ => fun e_ => Nat.not_le.2 hs_ (by rw [e_]; exact GW611.out)) (fun hs_ => fun e_ => Nat.not_le.2 hs_ (by rw [e_]; exact GW611.out))) (fun hn_ => (Kd.freshB (g := gb611) (o := .cells #[.slice (some ad612) l0_0.length c0_0, .slice A0_1 l0_1.length c0_1] 25 (0, 0)) bk k_ hn_)))) (below_size bl)); have n2_ := Aside0.mk (blk_below (g := gb611) (o := .cells #[.slice (some ad612) l0_0.length c0_0, .slice A0_1 l0_1.length c0_1] 25 (0, 0)) bk hb); have n3_ := Aside0.mk (below_step bl hb); clear BK611; clear HB; have HO618 := n0_; have HO621 := n1_; have BK611 := n2_; have HB := n3_; clear n0_ n1_ n2_ n3_; (try clear hb); (try clear hb2); (try clear hk); (try clear hi); (try clear ho0); (try clear ho1); obtain ⟨Ao21, co21, eo21⟩ := Kd.V_slice HO618.out; subst eo21; obtain ⟨Ao22, co22, eo22⟩ := Kd.V_slice HO621.out; subst eo22) | ((with_reducible refine gate_callee (f := 26) rfl ?_); refine goesL_ (some 44) rfl rfl Tryd.func26 (by kernel_rfl) rfl #[.agg #[.slice Ao21 t616.length co21, .slice Ao22 t619.length co22]] rfl (by (try simp only [List.map_toArray, List.map_cons, List.map_nil]); first | done | rfl | (simp only [List.length_drop, List.length_take]; rfl)) ?_; (with_reducible refine (plank_Most.calls _ _ t616 _ _ t619 t622 t625 _ ?side1 ?side2 ?side3 ?side4 ?side5 A16.out).mono ?_); (case side1 => repeat (first | exact (Kd.V_reads' HO618.out).2.2 | (with_reducible refine Kd.C_alloc ?_ _) | (with_reducible refine Kd.C_drewN ?_ _) | (with_reducible refine Kd.C_drew ?_))); (case side2 => exact (Kd.V_reads' HO618.out).2.1); (case side3 => repeat (first | exact (Kd.V_reads' HO621.out).2.2 | (with_reducible refine Kd.C_alloc ?_ _) | (with_reducible refine Kd.C_drewN ?_ _) | (with_reducible refine Kd.C_drew ?_))); (case side4 => exact (Kd.V_reads' HO621.out).2.1); (case side5 => exact Glob.below HGL.out bl); rintro e w23 ⟨v623, rfl, ho0, hb⟩; refine ⟨_, rfl, ?_⟩; have n0_ := Aside0.mk (Kd.V_below (by (with_reducible repeat (first | apply Kd.V_alloc | apply Kd.V_drewN | apply Kd.V_drew)); exact HO618.out) hb); have n1_ := Aside0.mk (Kd.V_below (by (with_reducible repeat (first | apply Kd.V_alloc | apply Kd.V_drewN | apply Kd.V_drew)); exact HO621.out) hb); have n2_ := Aside0.mk (Kd.V_lower (Kd.V_mono (ok' := fun k_ => k_ ≠ gb611) ho0 (fun k_ hk_ => (Kd.freshB (g := gb611) (o := .cells #[.slice (some ad612) l0_0.length c0_0, .slice A0_1 l0_1.length c0_1] 25 (0, 0)) bk k_ hk_))) (below_size bl)); have n3_ := Aside0.mk (blk_below (g := gb611) (o := .cells #[.slice (some ad612) l0_0.length c0_0, .slice A0_1 l0_1.length c0_1] 25 (0, 0)) bk hb); have n4_ := Aside0.mk (below_step bl hb); clear HO618; clear HO621; clear BK611; clear HB; have HO618 := n0_; have HO621 := n1_; have HO624 := n2_; have BK611 := n3_; have HB := n4_; clear n0_ n1_ n2_ n3_ n4_; (try clear hb); (try clear hb2); (try clear hk); (try clear hi); (try clear ho0); obtain ⟨Ao24, co24, eo24⟩ := Kd.V_slice HO624.out; subst eo24))
             go_roundg k1
             case measure => have := HK1.out; omega
             case rel => exact ⟨(ji18), (wrap64 (x8_1 + 1)), (by first | rfl | (simp; done) | (simp only [← hji18] <;> (first | rfl | simp)) | (simp [*]; done)), (by first | rfl | (simp; done) | (simp [*]; done)), H', ⟨by have := HK1.out; omega⟩, ⟨bk⟩, ⟨bl⟩⟩
            ·rw [if_neg c17] at H
             have c17b0 : (t625 == 0) = false := beq_eq_false_iff_ne.mpr c17
             have c17b1 : (t625 != 0) = true := bne_iff_ne.mpr c17
             obtain rfl := Option.some.inj H
             have hcz25_0 : wr.cell? ⟨gb611, 0, none⟩ = some (.slice (some ad612) l0_0.length c0_0) := (blk_cell BK611.out 0).trans rfl
             have hcz25_1 : wr.cell? ⟨gb611, 1, none⟩ = some (.slice A0_1 l0_1.length c0_1) := (blk_cell BK611.out 1).trans rfl
             have hfz25_0 := blk_frozen BK611.out 0
             have hfz25_1 := blk_frozen BK611.out 1
             have p614 : 0 ≤ (a1 : Int) := of_decide_eq_true (by first | (with_reducible assumption) | assumption)
             have q614 : a1 < (l0_0.length : Int) := of_decide_eq_true (by first | (with_reducible assumption) | assumption)
             obtain ⟨ad614, A614_1, c614_1, e614, hx614_0, hx614_1, hl614_1, hi614_1⟩ := at_T48 HR0_0.out a1 p614 q614
             obtain rfl : ad612 = ad614 := (by injection e614)
             replace hx614_0 := (HB.out.cell (World.block_lt_of_cell? w _ hx614_0)).trans hx614_0
             replace hx614_1 := (HB.out.cell (World.block_lt_of_cell? w _ hx614_1)).trans hx614_1
             have HR614_1 := Aside0.mk hi614_1
             have HC614_1 := Aside0.mk hl614_1
             clear hi614_1 hl614_1
             replace p614 := eq_true p614
             replace q614 := eq_true q614
             have p615 : 0 ≤ (a2 : Int) := of_decide_eq_true (by first | (with_reducible assumption) | assumption)
             have q615 : a2 < (((rd_T48 l0_0 a1).f1).length : Int) := of_decide_eq_true (by first | (with_reducible assumption) | assumption)
             obtain ⟨ad615, e615, hx615_0, hx615_1⟩ := at_T60 HR614_1.out a2 p615 q615
             cases e615
             replace hx615_0 := (HB.out.cell (World.block_lt_of_cell? w _ hx615_0)).trans hx615_0
             replace hx615_1 := (HB.out.cell (World.block_lt_of_cell? w _ hx615_1)).trans hx615_1
             replace p615 := eq_true p615
             replace q615 := eq_true q615
             go_wp2_with (first | ((with_reducible refine gate_callee (f := 51) rfl ?_); refine goesL_ (some 43) rfl rfl Tryd.func51 (by kernel_rfl) rfl #[.agg #[.slice (some ad612) l0_0.length c0_0, .slice A0_1 l0_1.length c0_1], .int .i64 a1, .int .i64 a2, .int .i64 x8_1] rfl (by (try simp only [List.map_toArray, List.map_cons, List.map_nil]); first | done | rfl | (simp only [List.length_drop, List.length_take]; rfl)) ?_; (with_reducible refine (skewbaldlaw01_known.calls (fun k_ => k_ < w.heap.size) _ _ l0_0 (fun k_ => k_ < w.heap.size) _ _ l0_1 a1 a2 x8_1 t616 t619 _ ?side1 ?side2 A15.out).mono ?_); (case side1 => exact Kd.V_mk HC0_0.out (Kd.F_below (Kd.C_F k48_heap HR0_0.out) bl)); (case side2 => exact Kd.V_mk HC0_1.out (Kd.F_below (Kd.C_F k50_heap HR0_1.out) bl)); rintro e w26 ⟨v617, v620, rfl, ho0, ho1, hb⟩; refine ⟨_, rfl, ?_⟩; have n0_ := Aside0.mk (Kd.V_lower (Kd.V_mono (ok' := fun k_ => k_ ≠ gb611) ho0 (fun k_ hk_ => Or.elim hk_ (fun hs_ => Or.elim hs_ (fun hs_ => fun e_ => Nat.not_le.2 hs_ (by rw [e_]; exact GW611.out)) (fun hs_ => fun e_ => Nat.not_le.2 hs_ (by rw [e_]; exact GW611.out))) (fun hn_ => (Kd.freshB (g := gb611) (o := .cells #[.slice (some ad612) l0_0.length c0_0, .slice A0_1 l0_1.length c0_1] 25 (0, 0)) bk k_ hn_)))) (below_size bl)); have n1_ := Aside0.mk (Kd.V_lower (Kd.V_mono (ok' := fun k_ => k_ ≠ gb611) ho1 (fun k_ hk_ => Or.elim hk_ (fun hs_ => Or.elim hs_ (fun hs_ => fun e_ => Nat.not_le.2 hs_ (by rw [e_]; exact GW611.out)) (fun hs_ => fun e_ => Nat.not_le.2 hs_ (by rw [e_]; exact GW611.out))) (fun hn_ => (Kd.freshB (g := gb611) (o := .cells #[.slice (some ad612) l0_0.length c0_0, .slice A0_1 l0_1.length c0_1] 25 (0, 0)) bk k_ hn_)))) (below_size bl)); have n2_ := Aside0.mk (blk_below (g := gb611) (o := .cells #[.slice (some ad612) l0_0.length c0_0, .slice A0_1 l0_1.length c0_1] 25 (0, 0)) bk hb); have n3_ := Aside0.mk (below_step bl hb); clear BK611; clear HB; have HO618 := n0_; have HO621 := n1_; have BK611 := n2_; have HB := n3_; clear n0_ n1_ n2_ n3_; (try clear hb); (try clear hb2); (try clear hk); (try clear hi); (try clear ho0); (try clear ho1); obtain ⟨Ao27, co27, eo27⟩ := Kd.V_slice HO618.out; subst eo27; obtain ⟨Ao28, co28, eo28⟩ := Kd.V_slice HO621.out; subst eo28) | ((with_reducible refine gate_callee (f := 26) rfl ?_); refine goesL_ (some 44) rfl rfl Tryd.func26 (by kernel_rfl) rfl #[.agg #[.slice Ao27 t616.length co27, .slice Ao28 t619.length co28]] rfl (by (try simp only [List.map_toArray, List.map_cons, List.map_nil]); first | done | rfl | (simp only [List.length_drop, List.length_take]; rfl)) ?_; (with_reducible refine (plank_Most.calls _ _ t616 _ _ t619 t622 t625 _ ?side1 ?side2 ?side3 ?side4 ?side5 A16.out).mono ?_); (case side1 => repeat (first | exact (Kd.V_reads' HO618.out).2.2 | (with_reducible refine Kd.C_alloc ?_ _) | (with_reducible refine Kd.C_drewN ?_ _) | (with_reducible refine Kd.C_drew ?_))); (case side2 => exact (Kd.V_reads' HO618.out).2.1); (case side3 => repeat (first | exact (Kd.V_reads' HO621.out).2.2 | (with_reducible refine Kd.C_alloc ?_ _) | (with_reducible refine Kd.C_drewN ?_ _) | (with_reducible refine Kd.C_drew ?_))); (case side4 => exact (Kd.V_reads' HO621.out).2.1); (case side5 => exact Glob.below HGL.out bl); rintro e w29 ⟨v623, rfl, ho0, hb⟩; refine ⟨_, rfl, ?_⟩; have n0_ := Aside0.mk (Kd.V_below (by (with_reducible repeat (first | apply Kd.V_alloc | apply Kd.V_drewN | apply Kd.V_drew)); exact HO618.out) hb); have n1_ := Aside0.mk (Kd.V_below (by (with_reducible repeat (first | apply Kd.V_alloc | apply Kd.V_drewN | apply Kd.V_drew)); exact HO621.out) hb); have n2_ := Aside0.mk (Kd.V_lower (Kd.V_mono (ok' := fun k_ => k_ ≠ gb611) ho0 (fun k_ hk_ => (Kd.freshB (g := gb611) (o := .cells #[.slice (some ad612) l0_0.length c0_0, .slice A0_1 l0_1.length c0_1] 25 (0, 0)) bk k_ hk_))) (below_size bl)); have n3_ := Aside0.mk (blk_below (g := gb611) (o := .cells #[.slice (some ad612) l0_0.length c0_0, .slice A0_1 l0_1.length c0_1] 25 (0, 0)) bk hb); have n4_ := Aside0.mk (below_step bl hb); clear HO618; clear HO621; clear BK611; clear HB; have HO618 := n0_; have HO621 := n1_; have HO624 := n2_; have BK611 := n3_; have HB := n4_; clear n0_ n1_ n2_ n3_ n4_; (try clear hb); (try clear hb2); (try clear hk); (try clear hi); (try clear ho0)))
             go_ret
             exact ⟨by first | rfl | (simp [errW_none, errW_some] <;> rfl) | (simp [*, errW_none, errW_some] <;> rfl), bl⟩
           ·rw [if_neg c14] at H
            have c14b0 : decide (x8_1 ≤ ((rd_T60 ((rd_T48 l0_0 a1).f1) a2).f1)) = false := decide_eq_false c14
            clear c14
            obtain rfl := Option.some.inj H
            have hcz30_0 : wr.cell? ⟨gb611, 0, none⟩ = some (.slice (some ad612) l0_0.length c0_0) := (blk_cell BK611.out 0).trans rfl
            have hcz30_1 : wr.cell? ⟨gb611, 1, none⟩ = some (.slice A0_1 l0_1.length c0_1) := (blk_cell BK611.out 1).trans rfl
            have hfz30_0 := blk_frozen BK611.out 0
            have hfz30_1 := blk_frozen BK611.out 1
            have p614 : 0 ≤ (a1 : Int) := of_decide_eq_true (by first | (with_reducible assumption) | assumption)
            have q614 : a1 < (l0_0.length : Int) := of_decide_eq_true (by first | (with_reducible assumption) | assumption)
            obtain ⟨ad614, A614_1, c614_1, e614, hx614_0, hx614_1, hl614_1, hi614_1⟩ := at_T48 HR0_0.out a1 p614 q614
            obtain rfl : ad612 = ad614 := (by injection e614)
            replace hx614_0 := (HB.out.cell (World.block_lt_of_cell? w _ hx614_0)).trans hx614_0
            replace hx614_1 := (HB.out.cell (World.block_lt_of_cell? w _ hx614_1)).trans hx614_1
            have HR614_1 := Aside0.mk hi614_1
            have HC614_1 := Aside0.mk hl614_1
            clear hi614_1 hl614_1
            replace p614 := eq_true p614
            replace q614 := eq_true q614
            have p615 : 0 ≤ (a2 : Int) := of_decide_eq_true (by first | (with_reducible assumption) | assumption)
            have q615 : a2 < (((rd_T48 l0_0 a1).f1).length : Int) := of_decide_eq_true (by first | (with_reducible assumption) | assumption)
            obtain ⟨ad615, e615, hx615_0, hx615_1⟩ := at_T60 HR614_1.out a2 p615 q615
            cases e615
            replace hx615_0 := (HB.out.cell (World.block_lt_of_cell? w _ hx615_0)).trans hx615_0
            replace hx615_1 := (HB.out.cell (World.block_lt_of_cell? w _ hx615_1)).trans hx615_1
            replace p615 := eq_true p615
            replace q615 := eq_true q615
            go_wp2
            go_ret
            exact ⟨by first | rfl | (simp [errW_none, errW_some] <;> rfl) | (simp [*, errW_none, errW_some] <;> rfl), bl⟩
          ·rw [if_neg c13] at H
           exact absurd H (by simp)
         ·rw [if_neg c12] at H
          exact absurd H (by simp)
        ·rw [if_neg c11] at H
         exact absurd H (by simp)
       ·rw [if_neg c10] at H
        exact absurd H (by simp)
    ·rw [if_neg c7] at H
     exact absurd H (by simp)
   ·rw [if_neg c6] at H
    exact absurd H (by simp)
  ·rw [if_neg c5] at H
   exact absurd H (by simp)
 ·rw [if_neg c4] at H
  exact absurd H (by simp)
end Go.Proofs.YtekjlpldooihhaaDoor.PT
