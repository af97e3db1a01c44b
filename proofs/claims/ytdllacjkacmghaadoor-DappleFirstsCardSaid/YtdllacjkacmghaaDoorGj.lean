/- The plain laws of the reference's functions: what they answer, for any book. The plain laws: two horses, as the reference tells them; the chapter's examples. -/
import Derived.Test.YtdllacjkacmghaaDoorDTx1
import Derived.Test.YtdllacjkacmghaaDoorDTx2
import Derived.Test.YtdllacjkacmghaaDoorDTx3
import Derived.Test.YtdllacjkacmghaaDoorEv
namespace Go.Proofs.YtdllacjkacmghaaDoor.DR
open Go.RowKit Go.Proofs.YtdllacjkacmghaaDoorW.PrintWords Go.Proofs.YtdllacjkacmghaaDoorEv Go.Proofs.YtdllacjkacmghaaDoorD Go.Proofs.YtdllacjkacmghaaDoor.DT
set_option linter.unusedVariables false
set_option linter.unusedSimpArgs false

theorem In_f (a b c : Int) : skewbaldref00_In.f a b c = some (decide (b ≤ a) && decide (a ≤ c)) := by
  unfold skewbaldref00_In.f
  by_cases h : b ≤ a <;> simp [h]

theorem rd1_at (l : List (List Int)) (j : Nat) : rd_L1 l (j : Int) = l.getD j [] := rfl

theorem refCheck_l1 (R : Int) (l : List (List Int)) (i : Nat) (hi : i < l.length) (row : List Int) (hr : l.getD i [] = row) (hR : (row.length : Int) = R) (hs : row.length < 9223372036854775808) (v : Int) : ∀ (d j : Nat) (x3 : Bool), j + d = row.length →
    Evt (fun k => skewbaldref07_Check.l0 k (x3 && (row.drop j).all fun s => decide (1 ≤ s) && decide (s ≤ 15)) (wrap64 ((i : Int) + 1)) R l) v →
    Evt (fun k => skewbaldref07_Check.l1 k x3 (i : Int) (j : Int) R l) v
  | 0, j, x3, hj, h => by
    refine Evt.succ ?_
    simp only [skewbaldref07_Check.l1]
    have : row.drop j = [] := List.drop_eq_nil_of_le (by omega)
    rw [this] at h
    have h' : Evt (fun k => skewbaldref07_Check.l0 k x3 (wrap64 ((i : Int) + 1)) R l) v := by simpa using h
    exact Evt.ite (fun _ => Evt.neg (by omega) h') (fun _ => h')
  | d + 1, j, x3, hj, h => by
    refine Evt.succ ?_
    simp only [skewbaldref07_Check.l1]
    have hd : row.drop j = row[j] :: row.drop (j + 1) := List.drop_eq_getElem_cons (by omega)
    rw [hd, List.all_cons] at h
    have hg : rd (rd_L1 l (i : Int)) (j : Int) = row[j] := by rw [rd1_at, hr, rd_at]; simp [show j < row.length by omega]
    have hlen : (rd_L1 l (i : Int)).length = row.length := by rw [rd1_at, hr]
    cases x3 with
    | true =>
      refine Evt.pos (by first | rfl | trivial) (Evt.pos (by omega) (Evt.pos (by omega) (Evt.pos (by omega) (Evt.pos (by omega) (Evt.pos (by rw [hlen]; omega) ?_)))))
      rw [In_f, hg, w64 j (by omega)]
      simp only [Option.bind_some]
      refine refCheck_l1 R l i hi row hr hR hs v d (j + 1) _ (by omega) ?_
      simpa using h
    | false =>
      refine Evt.neg (by simp) ?_
      simpa using h
theorem refCheck_l1' (R : Int) (l : List (List Int)) (i : Nat) (v : Int) (h : Evt (fun k => skewbaldref07_Check.l0 k false (wrap64 ((i : Int) + 1)) R l) v) : Evt (fun k => skewbaldref07_Check.l1 k false (i : Int) 0 R l) v := by
  refine Evt.succ ?_
  simp only [skewbaldref07_Check.l1]
  exact Evt.neg (by simp) h

theorem refCheck_l0 (R : Int) (l : List (List Int)) (hs : Small l) : ∀ (d j : Nat) (x3 : Bool), j + d = l.length →
    Evt (fun k => skewbaldref07_Check.l0 k x3 (j : Int) R l) (if x3 && (l.drop j).all (rowB R) then 0 else 70)
  | d, j, false, hj => by
    refine Evt.succ (Evt.congr ?_ (fun k => by rw [skewbaldref07_Check.l0]))
    refine Evt.neg (by simp) (Evt.succ ?_)
    simp only [skewbaldref07_Check.j2]
    refine Evt.neg (by simp) (Evt.neg (by simp) ?_)
    simpa using Evt.pure (70 : Int)
  | 0, j, true, hj => by
    refine Evt.succ (Evt.congr ?_ (fun k => by rw [skewbaldref07_Check.l0]))
    refine Evt.pos rfl (Evt.succ ?_)
    simp only [skewbaldref07_Check.j2]
    have : l.drop j = [] := List.drop_eq_nil_of_le (by omega)
    rw [this]
    refine Evt.neg (by simp; omega) (Evt.pos (by first | rfl | trivial) ?_)
    exact Evt.pure _
  | d + 1, j, true, hj => by
    refine Evt.succ (Evt.congr ?_ (fun k => by rw [skewbaldref07_Check.l0]))
    refine Evt.pos rfl (Evt.succ ?_)
    simp only [skewbaldref07_Check.j2]
    have hd : l.drop j = l[j] :: l.drop (j + 1) := List.drop_eq_getElem_cons (by omega)
    have hg : rd_L1 l (j : Int) = l[j] := by rw [rd1_at]; simp [show j < l.length by omega]
    have hg2 : l.getD j [] = l[j] := by simp [show j < l.length by omega]
    have hm : l[j] ∈ l := List.getElem_mem _
    have := hs.1
    rw [hd, List.all_cons, Bool.true_and]
    refine Evt.pos (by simp; omega) (Evt.pos (by omega) (Evt.pos (by omega) ?_))
    rw [hg]
    by_cases hR : ((l[j].length : Int)) = R
    · have hb : ((l[j].length : Int) == R) = true := by simpa using hR
      rw [hb]
      refine refCheck_l1 R l j (by omega) l[j] hg2 hR (hs.2 _ hm) _ l[j].length 0 true (by omega) ?_
      rw [w64 j (by omega)]
      have := refCheck_l0 R l hs d (j + 1) (true && (l[j].drop 0).all fun s => decide (1 ≤ s) && decide (s ≤ 15)) (by omega)
      refine this.of_eq ?_
      simp [rowB, hb]
    · have hb : ((l[j].length : Int) == R) = false := by simpa using hR
      rw [hb]
      refine refCheck_l1' R l j _ ?_
      rw [w64 j (by omega)]
      refine (refCheck_l0 R l hs d (j + 1) false (by omega)).of_eq ?_
      simp [rowB, hb]

theorem refCheck_f (R : Int) (l : List (List Int)) (hs : Small l) : Evt (fun k => skewbaldref07_Check.f k R l) (checkD R l) := by
  unfold skewbaldref07_Check.f
  simp only [In_f, Option.bind_some]
  have h1 : ∀ b : Bool, Evt (fun k => skewbaldref07_Check.j0 k b R l) (if b && l.all (rowB R) then 0 else 70) := fun b => by
    refine Evt.succ ?_
    simp only [skewbaldref07_Check.j0]
    simpa using refCheck_l0 R l hs l.length 0 b (by omega)
  refine Evt.ite (fun h => ?_) (fun h => ?_)
  · refine (h1 _).of_eq ?_
    unfold checkD validB
    rw [h, Bool.true_and]
    congr 1
    have e1 : decide ((1 : Int) ≤ (l.length : Int)) = decide (1 ≤ l.length) := by congr 1; simp only [eq_iff_iff]; omega
    have e2 : decide ((l.length : Int) ≤ 6) = decide (l.length ≤ 6) := by congr 1; simp only [eq_iff_iff]; omega
    rw [e1, e2]
  · refine (h1 _).of_eq ?_
    unfold checkD validB
    have h' : (decide (1 ≤ R) && decide (R ≤ 8)) = false := by simpa using h
    rw [h', Bool.false_and, Bool.false_and, Bool.false_and]

/-- can two rows be the same, in a turn -/
def canT (R : Nat) (r s : List Int) (t : Nat) : Bool := (List.range R).all fun k => canB (r.getD ((k + t) % R) 0) (s.getD k 0)
theorem can_l0 (R : Nat) (hR : R < 4611686018427387904) (r s : List Int) (hr : r.length = R) (hs : s.length = R) (t : Nat) (ht : t < R) : ∀ (d j : Nat) (x7 : Bool), j + d = R →
    Evt (fun k => skewbaldref07_can.l0 k r s (t : Int) x7 (j : Int)) (x7 && ((List.range' j d).all fun k => canB (r.getD ((k + t) % R) 0) (s.getD k 0)))
  | 0, j, x7, hj => by
    refine Evt.succ ?_
    simp only [skewbaldref07_can.l0]
    refine Evt.neg (by omega) ?_
    simpa using Evt.pure x7
  | d + 1, j, x7, hj => by
    refine Evt.succ ?_
    simp only [skewbaldref07_can.l0]
    rw [List.range'_succ, List.all_cons]
    refine Evt.pos (by omega) ?_
    have hw : wrap64 ((j : Int) + (t : Int)) = ((j + t : Nat) : Int) := by unfold wrap64; omega
    have hm : Int.tmod ((j + t : Nat) : Int) (r.length : Int) = (((j + t) % R : Nat) : Int) := by rw [Int.tmod_eq_emod_of_nonneg (by omega), hr]; simp
    have hlt : (j + t) % R < R := Nat.mod_lt _ (by omega)
    rw [w64 j (by omega)]
    cases x7 with
    | true =>
      refine Evt.pos (by first | rfl | trivial) (Evt.neg (by omega) ?_)
      rw [hw, hm]
      refine Evt.pos (by omega) (Evt.pos (by omega) (Evt.pos (by omega) (Evt.pos (by omega) ?_)))
      refine (can_l0 R hR r s hr hs t ht d (j + 1) _ (by omega)).of_eq ?_
      rfl
    | false =>
      refine Evt.neg (by simp) ?_
      refine (can_l0 R hR r s hr hs t ht d (j + 1) false (by omega)).of_eq ?_
      simp
theorem can_f (R : Nat) (hR : R < 4611686018427387904) (r s : List Int) (hr : r.length = R) (hs : s.length = R) (t : Nat) (ht : t < R) : Evt (fun k => skewbaldref07_can.f k r s (t : Int)) (canT R r s t) := by
  unfold skewbaldref07_can.f
  refine (can_l0 R hR r s hr hs t ht R 0 true (by omega)).of_eq ?_
  rw [Bool.true_and, ← List.range_eq_range']; rfl

theorem turns_l0 (R : Nat) (hR : R < 1099511627776) (r s : List Int) (hr : r.length = R) (hs : s.length = R) : ∀ (d j : Nat), j + d = R →
    Evt (fun k => skewbaldref07_turns.l0 k r s (ints ((List.range j).filter (canT R r s))) (j : Int)) (ints ((List.range R).filter (canT R r s)))
  | 0, j, hj => by
    refine Evt.succ ?_
    simp only [skewbaldref07_turns.l0]
    refine Evt.neg (by omega) ?_
    obtain rfl : j = R := by omega
    exact Evt.pure _
  | d + 1, j, hj => by
    refine Evt.succ ?_
    simp only [skewbaldref07_turns.l0]
    refine Evt.pos (by omega) (Evt.bind (can_f R (by omega) r s hr hs j (by omega)) ?_)
    rw [w64 j (by omega)]
    have ih := turns_l0 R hR r s hr hs d (j + 1) (by omega)
    cases hc : canT R r s j with
    | true =>
      rw [filter_next_yes hc, ints_append] at ih
      have hl : (ints ((List.range j).filter (canT R r s))).length ≤ j := by
        rw [ints_length]
        have := List.length_filter_le (canT R r s) (List.range j)
        rwa [List.length_range] at this
      exact Evt.pos (by first | rfl | trivial) (Evt.pos (by omega) ih)
    | false =>
      rw [filter_next_no hc] at ih
      exact Evt.neg (by simp) ih
theorem turns_f (R : Nat) (hR : R < 1099511627776) (r s : List Int) (hr : r.length = R) (hs : s.length = R) : Evt (fun k => skewbaldref07_turns.f k r s) (ints (turnsL R r s canB)) := by
  unfold skewbaldref07_turns.f
  exact turns_l0 R hR r s hr hs R 0 (by omega)

theorem Equal_l0 (x y : List Int) (hxy : x.length = y.length) (hs : x.length < 9223372036854775808) : ∀ (d j : Nat) (b : Bool), j + d = x.length →
    Evt (fun k => skewbaldref00_Equal.l0 k x y b (j : Int)) (b && decide (x.drop j = y.drop j))
  | d, j, false, hj => by
    refine Evt.succ ?_
    simp only [skewbaldref00_Equal.l0]
    exact Evt.neg (by simp) (by simpa using Evt.pure false)
  | 0, j, true, hj => by
    refine Evt.succ ?_
    simp only [skewbaldref00_Equal.l0]
    rw [List.drop_eq_nil_of_le (by omega), List.drop_eq_nil_of_le (by omega)]
    exact Evt.pos (by first | rfl | trivial) (Evt.neg (by omega) (by simpa using Evt.pure true))
  | d + 1, j, true, hj => by
    refine Evt.succ ?_
    simp only [skewbaldref00_Equal.l0]
    have h1 : x.drop j = x[j] :: x.drop (j + 1) := List.drop_eq_getElem_cons (by omega)
    have h2 : y.drop j = y[j] :: y.drop (j + 1) := List.drop_eq_getElem_cons (by omega)
    have g1 : rd x (j : Int) = x[j] := by rw [rd_at]; simp [show j < x.length by omega]
    have g2 : rd y (j : Int) = y[j] := by rw [rd_at]; simp [show j < y.length by omega]
    refine Evt.pos (by first | rfl | trivial) (Evt.pos (by omega) (Evt.pos (by omega) (Evt.pos (by omega) ?_)))
    rw [g1, g2, h1, h2, w64 j (by omega)]
    refine (Equal_l0 x y hxy hs d (j + 1) _ (by omega)).of_eq ?_
    rw [Bool.eq_iff_iff]
    simp only [Bool.and_eq_true, beq_iff_eq, decide_eq_true_eq, List.cons.injEq, Bool.true_and]
theorem Equal_f (x y : List Int) (hs : x.length < 9223372036854775808) : Evt (fun k => skewbaldref00_Equal.f k x y) (decide (x = y)) := by
  unfold skewbaldref00_Equal.f
  by_cases h : x.length = y.length
  · have hb : ((x.length : Int) == (y.length : Int)) = true := by simp [h]
    rw [hb]
    refine (Equal_l0 x y h hs x.length 0 true (by omega)).of_eq ?_
    simp
  · have hb : ((x.length : Int) == (y.length : Int)) = false := by simp; omega
    rw [hb]
    refine Evt.succ ?_
    simp only [skewbaldref00_Equal.l0]
    refine Evt.neg (by simp) ?_
    have : decide (x = y) = false := decide_eq_false (fun e => h (by rw [e]))
    rw [this]
    exact Evt.pure _
end Go.Proofs.YtdllacjkacmghaaDoor.DR

namespace Go.Proofs.YtdllacjkacmghaaDoor.DR
open Go.RowKit Go.Proofs.YtdllacjkacmghaaDoorW.PrintWords Go.Proofs.YtdllacjkacmghaaDoorW.PrintMore Go.Proofs.YtdllacjkacmghaaDoorEv Go.Proofs.YtdllacjkacmghaaDoorD Go.Proofs.YtdllacjkacmghaaDoor.DT
set_option linter.unusedVariables false
set_option linter.unusedSimpArgs false

theorem Of_f (s i : Nat) (hs : s < 256) (hi : i < 64) : skewbaldref00_Of.f (s : Int) (i : Int) = some (bitN s i) := by
  unfold skewbaldref00_Of.f
  rw [if_pos (by omega)]
  congr 1
  have : shr .i64 (s : Int) (i : Int) = (s : Int) / 2 ^ i := by
    unfold shr
    rw [show min (i : Int).toNat (IntKind.i64).bits = i by simp [IntKind.bits]; omega]
  rw [this]
  exact Go.Proofs.YtdllacjkacmghaaDoorH.bit_at s i hs
theorem List_l0 (s n : Nat) (hs : s < 256) (hn : n < 64) : ∀ (d j : Nat), j + d = n →
    Evt (fun k => skewbaldref00_List.l0 k (s : Int) (n : Int) (ints ((List.range j).filter (bitN s))) (j : Int)) (ints ((List.range n).filter (bitN s)))
  | 0, j, hj => by
    refine Evt.succ ?_
    simp only [skewbaldref00_List.l0]
    refine Evt.neg (by omega) ?_
    obtain rfl : j = n := by omega
    exact Evt.pure _
  | d + 1, j, hj => by
    refine Evt.succ ?_
    simp only [skewbaldref00_List.l0]
    refine Evt.pos (by omega) ?_
    rw [Of_f s j hs (by omega), w64 j (by omega)]
    simp only [Option.bind_some]
    have ih := List_l0 s n hs hn d (j + 1) (by omega)
    cases hc : bitN s j with
    | true =>
      rw [filter_next_yes hc, ints_append] at ih
      have hl : (ints ((List.range j).filter (bitN s))).length ≤ j := by
        rw [ints_length]
        have := List.length_filter_le (bitN s) (List.range j)
        rwa [List.length_range] at this
      exact Evt.pos rfl (Evt.pos (by omega) ih)
    | false =>
      rw [filter_next_no hc] at ih
      exact Evt.neg (by simp) ih
/-- the sizes of a set -/
def sizesL (s n : Nat) : List Nat := (List.range n).filter (bitN s)
theorem List_f (s n : Nat) (hs : s < 256) (hn : n < 64) : Evt (fun k => skewbaldref00_List.f k (s : Int) (n : Int)) (ints (sizesL s n)) := by
  unfold skewbaldref00_List.f
  exact List_l0 s n hs hn n 0 (by omega)

def singleB (s : Int) : Bool := ((sizesL s.toNat 4).length : Int) == 1
theorem known_l0 (r : List Int) (hl : r.length < 9223372036854775807) (hr : ∀ s ∈ r, 1 ≤ s ∧ s ≤ 15) : ∀ (d j : Nat) (b : Bool), j + d = r.length →
    Evt (fun k => skewbaldref07_known.l0 k r b (j : Int)) (b && (r.drop j).all singleB)
  | 0, j, b, hj => by
    refine Evt.succ ?_
    simp only [skewbaldref07_known.l0]
    rw [List.drop_eq_nil_of_le (by omega)]
    exact Evt.neg (by omega) (by simpa using Evt.pure b)
  | d + 1, j, b, hj => by
    refine Evt.succ ?_
    simp only [skewbaldref07_known.l0]
    have h1 : r.drop j = r[j] :: r.drop (j + 1) := List.drop_eq_getElem_cons (by omega)
    have g1 : rd r (j : Int) = r[j] := by rw [rd_at]; simp [show j < r.length by omega]
    have hm := hr r[j] (List.getElem_mem _)
    obtain ⟨s, hs⟩ : ∃ s : Nat, r[j] = s := ⟨r[j].toNat, by omega⟩
    rw [h1, List.all_cons, w64 j (by omega)]
    refine Evt.pos (by omega) ?_
    cases b with
    | true =>
      refine Evt.pos rfl (Evt.pos (by omega) ?_)
      rw [g1, hs]
      refine Evt.bind (List_f s 4 (by omega) (by omega)) ?_
      refine (known_l0 r hl hr d (j + 1) _ (by omega)).of_eq ?_
      rw [ints_length]
      rfl
    | false =>
      refine Evt.neg (by simp) ?_
      simpa using known_l0 r hl hr d (j + 1) false (by omega)
def knownR (r : List Int) : Bool := r.all singleB
theorem known_f (r : List Int) (hl : r.length < 9223372036854775807) (hr : ∀ s ∈ r, 1 ≤ s ∧ s ≤ 15) : Evt (fun k => skewbaldref07_known.f k r) (knownR r) := by
  unfold skewbaldref07_known.f
  exact (known_l0 r hl hr r.length 0 true (by omega)).of_eq (by simp [knownR])

/-! ### sets of sizes -/
theorem fin_sure : ∀ x y : Fin 16, 1 ≤ x.val → 1 ≤ y.val → sureB (x.val : Int) (y.val : Int) = (decide (x = y) && singleB (x.val : Int)) := by decide +kernel
theorem fin_can : ∀ x y : Fin 16, 1 ≤ x.val → 1 ≤ y.val → singleB (x.val : Int) = true → singleB (y.val : Int) = true → canB (x.val : Int) (y.val : Int) = decide (x = y) := by decide +kernel
theorem fin_comm : ∀ x y : Fin 16, canB (x.val : Int) (y.val : Int) = canB (y.val : Int) (x.val : Int) := by decide +kernel
theorem fin_self : ∀ x : Fin 16, 1 ≤ x.val → canB (x.val : Int) (x.val : Int) = true := by decide +kernel
theorem to_fin {x : Int} (h1 : 1 ≤ x) (h2 : x ≤ 15) : ∃ f : Fin 16, x = (f.val : Int) ∧ 1 ≤ f.val := ⟨⟨x.toNat, by omega⟩, by simp; omega, by simp; omega⟩
theorem sure_eq {x y : Int} (hx1 : 1 ≤ x) (hx2 : x ≤ 15) (hy1 : 1 ≤ y) (hy2 : y ≤ 15) : sureB x y = true ↔ x = y ∧ singleB x = true := by
  obtain ⟨a, rfl, ha⟩ := to_fin hx1 hx2
  obtain ⟨b, rfl, hb⟩ := to_fin hy1 hy2
  rw [fin_sure a b ha hb]
  simp only [Bool.and_eq_true, decide_eq_true_eq]
  constructor
  · rintro ⟨rfl, h⟩; exact ⟨rfl, h⟩
  · rintro ⟨h1, h2⟩; exact ⟨Fin.ext (by omega), h2⟩
theorem can_eq {x y : Int} (hx1 : 1 ≤ x) (hx2 : x ≤ 15) (hy1 : 1 ≤ y) (hy2 : y ≤ 15) (sx : singleB x = true) (sy : singleB y = true) : canB x y = true ↔ x = y := by
  obtain ⟨a, rfl, ha⟩ := to_fin hx1 hx2
  obtain ⟨b, rfl, hb⟩ := to_fin hy1 hy2
  rw [fin_can a b ha hb sx sy]
  simp only [decide_eq_true_eq]
  constructor
  · rintro rfl; rfl
  · intro h; exact Fin.ext (by omega)
theorem can_comm {x y : Int} (hx1 : 1 ≤ x) (hx2 : x ≤ 15) (hy1 : 1 ≤ y) (hy2 : y ≤ 15) : canB x y = canB y x := by
  obtain ⟨a, rfl, ha⟩ := to_fin hx1 hx2
  obtain ⟨b, rfl, hb⟩ := to_fin hy1 hy2
  exact fin_comm a b
theorem can_self {x : Int} (hx1 : 1 ≤ x) (hx2 : x ≤ 15) : canB x x = true := by
  obtain ⟨a, rfl, ha⟩ := to_fin hx1 hx2
  exact fin_self a ha

/-- a row of a valid book -/
structure RowOk (n : Nat) (r : List Int) : Prop where
  len : r.length = n
  set : ∀ s ∈ r, 1 ≤ s ∧ s ≤ 15
theorem RowOk.at {n : Nat} {r : List Int} (h : RowOk n r) {k : Nat} (hk : k < n) : 1 ≤ r.getD k 0 ∧ r.getD k 0 ≤ 15 := by
  have hl := h.len
  have : r.getD k 0 = r[k]'(by omega) := by simp [show k < r.length by omega]
  rw [this]
  exact h.set _ (List.getElem_mem _)
theorem Valid.row {n : Nat} {l : List (List Int)} (h : Valid (n : Int) l) {i : Nat} (hi : i < l.length) : RowOk n (l.getD i []) :=
  ⟨by have := h.len _ (getD_mem hi); omega, h.set _ (getD_mem hi)⟩

def isTurn (n : Nat) (r s : List Int) (al : Int → Int → Bool) (t : Nat) : Prop := ∀ k, k < n → al (r.getD ((k + t) % n) 0) (s.getD k 0) = true
theorem mem_turns {n : Nat} {r s : List Int} {al : Int → Int → Bool} {t : Nat} : t ∈ turnsL n r s al ↔ t < n ∧ isTurn n r s al t := by
  unfold turnsL isTurn
  simp only [List.mem_filter, List.mem_range, List.all_eq_true]
  rfl
theorem some_turn {n : Nat} {r s : List Int} {al : Int → Int → Bool} : (!(turnsL n r s al).isEmpty) = true ↔ ∃ t, t < n ∧ isTurn n r s al t := by
  rw [Bool.not_eq_true', List.isEmpty_eq_false_iff_exists_mem]
  simp only [mem_turns]

theorem back_mod {n t k : Nat} (ht : t < n) (hk : k < n) : ((k + (n - t) % n) % n + t) % n = k := by
  rcases Nat.eq_zero_or_pos t with rfl | h0
  · simp [Nat.mod_eq_of_lt hk]
  · rw [Nat.mod_eq_of_lt (show n - t < n by omega), Nat.mod_add_mod, show k + (n - t) + t = k + n by omega, Nat.add_mod_right, Nat.mod_eq_of_lt hk]
theorem isTurn_back {n : Nat} {r s : List Int} (hr : RowOk n r) (hs : RowOk n s) {t : Nat} (ht : t < n) (h : isTurn n r s canB t) : isTurn n s r canB ((n - t) % n) := by
  intro k hk
  have hb := back_mod ht hk
  have hj : (k + (n - t) % n) % n < n := Nat.mod_lt _ (by omega)
  have := h _ hj
  rw [hb] at this
  rw [can_comm (hs.at hj).1 (hs.at hj).2 (hr.at hk).1 (hr.at hk).2]
  exact this
theorem turn_comm {n : Nat} {r s : List Int} (hr : RowOk n r) (hs : RowOk n s) : (!(turnsL n r s canB).isEmpty) = (!(turnsL n s r canB).isEmpty) := by
  rw [Bool.eq_iff_iff, some_turn, some_turn]
  constructor
  · rintro ⟨t, ht, h⟩; exact ⟨_, Nat.mod_lt _ (by omega), isTurn_back hr hs ht h⟩
  · rintro ⟨t, ht, h⟩; exact ⟨_, Nat.mod_lt _ (by omega), isTurn_back hs hr ht h⟩
theorem known_at {n : Nat} {r : List Int} (hr : RowOk n r) (h : knownR r = true) {k : Nat} (hk : k < n) : singleB (r.getD k 0) = true := by
  unfold knownR at h
  rw [List.all_eq_true] at h
  have hl := hr.len
  have : r.getD k 0 = r[k]'(by omega) := by simp [show k < r.length by omega]
  rw [this]
  exact h _ (List.getElem_mem _)
theorem known_of {n : Nat} {r : List Int} (hr : RowOk n r) (h : ∀ k, k < n → singleB (r.getD k 0) = true) : knownR r = true := by
  unfold knownR
  rw [List.all_eq_true]
  intro x hx
  obtain ⟨k, hk, rfl⟩ := List.getElem_of_mem hx
  have := h k (by have := hr.len; omega)
  rwa [show r.getD k 0 = r[k] by simp [hk]] at this
/-- two rows surely are the same in a turn just if all is known, and they can be -/
theorem turn_sure {n : Nat} {r s : List Int} (hr : RowOk n r) (hs : RowOk n s) : (!(turnsL n r s sureB).isEmpty) = ((!(turnsL n r s canB).isEmpty) && (knownR r && knownR s)) := by
  rw [Bool.eq_iff_iff, Bool.and_eq_true, Bool.and_eq_true, some_turn, some_turn]
  constructor
  · rintro ⟨t, ht, h⟩
    have hk : ∀ k, k < n → r.getD ((k + t) % n) 0 = s.getD k 0 ∧ singleB (r.getD ((k + t) % n) 0) = true := fun k hk => by
      have hj : (k + t) % n < n := Nat.mod_lt _ (by omega)
      exact (sure_eq (hr.at hj).1 (hr.at hj).2 (hs.at hk).1 (hs.at hk).2).1 (h k hk)
    refine ⟨⟨t, ht, fun k hk' => ?_⟩, known_of hr fun k hk' => ?_, known_of hs fun k hk' => ?_⟩
    · rw [(hk k hk').1]; exact can_self (hs.at hk').1 (hs.at hk').2
    · have hj : (k + (n - t) % n) % n < n := Nat.mod_lt _ (by omega)
      have := (hk _ hj).2
      rwa [back_mod ht hk'] at this
    · have := hk k hk'
      rw [← this.1]; exact this.2
  · rintro ⟨⟨t, ht, h⟩, h1, h2⟩
    refine ⟨t, ht, fun k hk => ?_⟩
    have hj : (k + t) % n < n := Nat.mod_lt _ (by omega)
    rw [sure_eq (hr.at hj).1 (hr.at hj).2 (hs.at hk).1 (hs.at hk).2]
    exact ⟨(can_eq (hr.at hj).1 (hr.at hj).2 (hs.at hk).1 (hs.at hk).2 (known_at hr h1 hj) (known_at hs h2 hk)).1 (h k hk), known_at hr h1 hj⟩

/-- what is told of two horses, as the chapter says it -/
theorem kind_eq {n : Nat} {l : List (List Int)} (hV : Valid (n : Int) l) {i j : Nat} (hi : i < l.length) (hj : j < l.length) :
    kindB n l i j = if (!(turnsL n (l.getD i []) (l.getD j []) canB).isEmpty) then (if knownR (l.getD i []) && knownR (l.getD j []) then 2 else 1) else 0 := by
  have hri := Valid.row hV hi
  have hrj := Valid.row hV hj
  have key : ∀ a b, a < l.length → b < l.length → (if (!(turnsL n (l.getD a []) (l.getD b []) canB).isEmpty) = true then 1 else 0) + (if (!(turnsL n (l.getD a []) (l.getD b []) sureB).isEmpty) = true then 1 else 0) = (if (!(turnsL n (l.getD a []) (l.getD b []) canB).isEmpty) = true then (if (knownR (l.getD a []) && knownR (l.getD b [])) = true then 2 else 1) else 0) := fun a b ha hb => by
    rw [turn_sure (Valid.row hV ha) (Valid.row hV hb)]
    cases (!(turnsL n (l.getD a []) (l.getD b []) canB).isEmpty) <;> cases knownR (l.getD a []) <;> cases knownR (l.getD b []) <;> rfl
  unfold kindB sameB
  have e0 : alB 0 = canB := rfl
  have e1 : alB 1 = sureB := rfl
  rw [e0, e1]
  rcases Nat.le_total i j with h | h
  · rw [Nat.min_eq_left h, Nat.max_eq_right h]
    exact key i j hi hj
  · rw [Nat.min_eq_right h, Nat.max_eq_left h, key j i hj hi, turn_comm hrj hri, Bool.and_comm]

theorem refsame_f {n : Nat} {l : List (List Int)} (hV : Valid (n : Int) l) {i j : Nat} (hi : i < l.length) (hj : j < l.length) : Evt (fun k => skewbaldref07_same.f k (n : Int) l (i : Int) (j : Int)) ((kindB n l i j : Nat) : Int) := by
  have hri := Valid.row hV hi
  have hrj := Valid.row hV hj
  have hn8 := hV.r8
  unfold skewbaldref07_same.f
  refine Evt.pos (by omega) (Evt.pos (by omega) (Evt.pos (by omega) (Evt.pos (by omega) ?_)))
  rw [rd1_at, rd1_at]
  refine Evt.bind (turns_f n (by omega) _ _ hri.len hrj.len) ?_
  rw [kind_eq hV hi hj]
  cases ht : (turnsL n (l.getD i []) (l.getD j []) canB) with
  | nil => exact Evt.pos (by simp [ints]) (Evt.pure _)
  | cons t ts =>
    refine Evt.neg (by simp [ints]; omega) ?_
    refine Evt.bind (known_f _ (by have := hri.len; omega) hri.set) ?_
    cases h1 : knownR (l.getD i []) with
    | false => exact Evt.neg (by simp) (Evt.pure _)
    | true =>
      refine Evt.pos rfl (Evt.bind (known_f _ (by have := hrj.len; omega) hrj.set) ?_)
      cases h2 : knownR (l.getD j []) with
      | false => exact Evt.neg (by simp) (Evt.pure _)
      | true => exact Evt.pos rfl (Evt.pure _)
/-! ### the chapter's examples -/
theorem pressed_f : Evt (fun k => skewbaldlaw07_pressed.f k) true := Evt.of_mono (fun k => skewbaldlaw07_pressed.mono k) (k := 30) (by decide +kernel)
end Go.Proofs.YtdllacjkacmghaaDoor.DR
