/- The plain laws of the reference's rows: whose a row is, and the first new row. -/
import Derived.Test.YtdllacjkacmghaaDoorDTx5
import Derived.Test.YtdllacjkacmghaaDoorDTx6
import Derived.Test.YtdllacjkacmghaaDoorDTx4
import Derived.Test.YtdllacjkacmghaaDoorGj
namespace Go.Proofs.YtdllacjkacmghaaDoor.DR
open Go.RowKit Go.Proofs.YtdllacjkacmghaaDoorW.PrintWords Go.Proofs.YtdllacjkacmghaaDoorEv Go.Proofs.YtdllacjkacmghaaDoorD Go.Proofs.YtdllacjkacmghaaDoor.DT Go.Proofs.YtdllacjkacmghaaDoorA
set_option linter.unusedVariables false
set_option linter.unusedSimpArgs false

theorem shl_set {x : Int} (h : inB x = true) : shl .i64 1 x = setOf x := by
  unfold inB at h
  have h' : 0 ≤ x ∧ x ≤ 3 := by simpa using h
  obtain rfl | rfl | rfl | rfl : x = 0 ∨ x = 1 ∨ x = 2 ∨ x = 3 := by omega
  all_goals rfl
theorem inB_at {row : List Int} (h : row.all inB = true) {j : Nat} (hj : j < row.length) : inB (rd row (j : Int)) = true := by
  have : rd row (j : Int) = row[j] := by simp [rd, hj]
  rw [this]
  exact List.all_eq_true.1 h _ (List.getElem_mem hj)

theorem sets_l0 (row : List Int) (hl : row.length < 1099511627776) (hr : row.all inB = true) : ∀ (d j : Nat), j + d = row.length →
    Evt (fun k => skewbaldref07_sets.l0 k row ((row.take j).map setOf) (j : Int)) (row.map setOf)
  | 0, j, hj => by
    refine Evt.succ ?_
    simp only [skewbaldref07_sets.l0]
    refine Evt.neg (by omega) ?_
    rw [List.take_of_length_le (by omega)]
    exact Evt.pure _
  | d + 1, j, hj => by
    refine Evt.succ ?_
    simp only [skewbaldref07_sets.l0]
    have hin := inB_at hr (j := j) (by omega)
    have h0 : 0 ≤ rd row (j : Int) := by
      unfold inB at hin
      have h' : 0 ≤ rd row (j : Int) ∧ rd row (j : Int) ≤ 3 := by simpa using hin
      exact h'.1
    have hlen : ((row.take j).map setOf).length < 17592186044416 := by simp only [List.length_map, List.length_take]; omega
    have ih := sets_l0 row hl hr d (j + 1) (by omega)
    rw [List.take_add_one, show row[j]? = some (rd row (j : Int)) from by simp [rd, show j < row.length by omega]] at ih
    rw [w64 j (by omega), shl_set hin]
    exact Evt.pos (by omega) (Evt.pos (by omega) (Evt.pos h0 (Evt.pos hlen (by simpa using ih))))
theorem sets_f (row : List Int) (hl : row.length < 1099511627776) (hr : row.all inB = true) : Evt (fun k => skewbaldref07_sets.f k row) (row.map setOf) := by
  unfold skewbaldref07_sets.f
  exact sets_l0 row hl hr row.length 0 (by omega)

theorem whose_l0 {n : Nat} {l : List (List Int)} (hV : Valid (n : Int) l) (row : List Int) (hn : row.length = n) (hr : row.all inB = true) : ∀ (d j : Nat), j + d = l.length →
    Evt (fun k => skewbaldref07_whose.l0 k row (ints ((List.range j).filter (hasB n l (row.map setOf)))) (j : Int) (n : Int) l) (ints (whoseL n l (row.map setOf)))
  | 0, j, hj => by
    refine Evt.succ ?_
    simp only [skewbaldref07_whose.l0]
    refine Evt.neg (by omega) ?_
    obtain rfl : j = l.length := by omega
    exact Evt.pure _
  | d + 1, j, hj => by
    have hn8 : n ≤ 8 := by have := hV.r8; omega
    have h6 := hV.h6
    refine Evt.succ ?_
    simp only [skewbaldref07_whose.l0]
    have hri : (l.getD j []).length = n := by have := hV.len _ (getD_mem (show j < l.length by omega)); omega
    refine Evt.pos (by omega) (Evt.pos (by omega) (Evt.bind (sets_f row (by omega) hr) ?_))
    rw [rd1_at]
    refine Evt.bind (turns_f n (by omega) (l.getD j []) (row.map setOf) hri (by simpa using hn)) ?_
    rw [w64 j (by omega)]
    have ih := whose_l0 hV row hn hr d (j + 1) (by omega)
    have hcase : (((ints (turnsL n (l.getD j []) (row.map setOf) canB)).length : Int) > 0) ↔ hasB n l (row.map setOf) j = true := by
      unfold hasB
      cases turnsL n (l.getD j []) (row.map setOf) canB <;> simp [ints]
    cases hc : hasB n l (row.map setOf) j with
    | true =>
      rw [filter_next_yes hc, ints_append] at ih
      have hl : (ints ((List.range j).filter (hasB n l (row.map setOf)))).length ≤ j := by
        rw [ints_length]
        have := List.length_filter_le (hasB n l (row.map setOf)) (List.range j)
        rwa [List.length_range] at this
      exact Evt.pos (hcase.2 hc) (Evt.pos (by omega) ih)
    | false =>
      rw [filter_next_no hc] at ih
      exact Evt.neg (fun h => by rw [hcase.1 h] at hc; cases hc) ih
theorem whose_f {n : Nat} {l : List (List Int)} (hV : Valid (n : Int) l) (row : List Int) (hn : row.length = n) (hr : row.all inB = true) : Evt (fun k => skewbaldref07_whose.f k (n : Int) l row) (ints (whoseL n l (row.map setOf))) := by
  unfold skewbaldref07_whose.f
  exact whose_l0 hV row hn hr l.length 0 (by omega)

theorem Whose_l0 {n : Nat} {l : List (List Int)} (hV : Valid (n : Int) l) (row : List Int) (hn : row.length = n) : ∀ (d j : Nat) (b : Bool), j + d = row.length → ((row.take j).all inB = b) →
    Evt (fun k => skewbaldref07_Whose.l0 k row b (j : Int) (n : Int) l) (if row.all inB then (ints (whoseL n l (row.map setOf)), (0 : Int)) else ([], 71))
  | 0, j, b, hj, hb => by
    rw [List.take_of_length_le (by omega)] at hb
    refine Evt.succ ?_
    simp only [skewbaldref07_Whose.l0]
    rw [hb]
    cases b with
    | true => exact Evt.pos rfl (Evt.neg (by omega) (Evt.bind (whose_f hV row hn hb) (by simpa using Evt.pure _)))
    | false => exact Evt.neg (by simp) (by simpa using Evt.pure (([] : List Int), (71 : Int)))
  | d + 1, j, b, hj, hb => by
    have hn8 : n ≤ 8 := by have := hV.r8; omega
    have hat : row[j]? = some (rd row (j : Int)) := by simp [rd, show j < row.length by omega]
    refine Evt.succ ?_
    simp only [skewbaldref07_Whose.l0]
    cases b with
    | true =>
      refine Evt.pos rfl (Evt.pos (by omega) (Evt.pos (by omega) ?_))
      simp only [In_f, Option.bind_some]
      rw [w64 j (by omega)]
      refine Whose_l0 hV row hn d (j + 1) _ (by omega) ?_
      rw [List.take_add_one, hat, List.all_append, hb]
      simp [inB]
    | false =>
      have : row.all inB = false := by
        rw [← List.take_append_drop j row, List.all_append, hb]; rfl
      rw [this]
      exact Evt.neg (by simp) (by simpa using Evt.pure (([] : List Int), (71 : Int)))

theorem refWhose_f (R : Int) (l : List (List Int)) (hs : Small l) (row : List Int) : Evt (fun k => skewbaldref07_Whose.f k R l row) (whoseD R l row) := by
  unfold skewbaldref07_Whose.f
  refine Evt.bind (refCheck_f R l hs) ?_
  unfold whoseD checkD
  by_cases hv : validB R l = true
  · simp only [hv, if_true]
    have hV := (valid_iff R l).1 hv
    obtain ⟨n, rfl, hn8, hn1⟩ := hV.nat
    cases hp : ((row.length : Int) == (n : Int)) with
    | false =>
      refine Evt.succ ?_
      simp only [skewbaldref07_Whose.l0]
      exact Evt.neg (by simp) (by simpa using Evt.pure (([] : List Int), (71 : Int)))
    | true =>
      have hn : row.length = n := by have := eq_of_beq hp; omega
      simpa using Whose_l0 hV row hn row.length 0 true (by omega) rfl
  · have hv : validB R l = false := by simpa using hv
    simp only [hv, Bool.false_eq_true, if_false]
    exact Evt.neg (by omega) (by simpa using Evt.pure (([] : List Int), (70 : Int)))

/-- what found answers, beside what newFrom tells -/
def FoundIs (o : Option (List Int)) (v : List Int × Bool) : Prop := match o with | some x => v = (x, true) | none => v.2 = false

theorem found_l0 {n : Nat} {l : List (List Int)} (out : List Int) (ho : out.length < 1000) (g : Nat → Option (List Int))
    (hg : ∀ q : Nat, q < 4 → ∃ v, Evt (fun k => skewbaldref07_found.f k (n : Int) l (out ++ [(q : Int)])) v ∧ FoundIs (g q) v) : ∀ (d j : Nat), j + d = 4 →
    ∃ v, Evt (fun k => skewbaldref07_found.l0 k out (j : Int) (n : Int) l) v ∧ FoundIs ((List.range' j d).findSome? g) v
  | 0, j, hj => by
    refine ⟨([], false), ?_, rfl⟩
    refine Evt.succ ?_
    simp only [skewbaldref07_found.l0]
    exact Evt.neg (by omega) (Evt.pure _)
  | d + 1, j, hj => by
    obtain ⟨v, hv, hi⟩ := hg j (by omega)
    have hadd : skewbaldref00_Add.f out (j : Int) = some (out ++ [(j : Int)]) := by unfold skewbaldref00_Add.f; rw [if_pos (by omega)]
    rw [List.range'_succ, List.findSome?_cons]
    cases hgj : g j with
    | some o =>
      rw [hgj] at hi
      obtain rfl : v = (o, true) := hi
      refine ⟨(o, true), ?_, rfl⟩
      refine Evt.succ ?_
      simp only [skewbaldref07_found.l0, hadd, Option.bind_some]
      exact Evt.pos (by omega) (Evt.bind hv (Evt.pos rfl (Evt.pure _)))
    | none =>
      rw [hgj] at hi
      have hi : v.2 = false := hi
      obtain ⟨u, hu, hui⟩ := found_l0 out ho g hg d (j + 1) (by omega)
      refine ⟨u, ?_, hui⟩
      refine Evt.succ ?_
      simp only [skewbaldref07_found.l0, hadd, Option.bind_some]
      refine Evt.pos (by omega) (Evt.bind hv (Evt.neg (by rw [hi]; simp) ?_))
      rw [w64 j (by omega)]
      exact hu

theorem found_f {n : Nat} {l : List (List Int)} (hV : Valid (n : Int) l) : ∀ (d : Nat) (out : List Int), out.length + d = n → out.all inB = true →
    ∃ v, Evt (fun k => skewbaldref07_found.f k (n : Int) l out) v ∧ FoundIs (newFrom n l d out) v
  | 0, out, hl, ho => by
    refine ⟨(out, (((ints (whoseL n l (out.map setOf))).length : Int) == 0)), ?_, ?_⟩
    · refine Evt.succ ?_
      simp only [skewbaldref07_found.f]
      exact Evt.pos (by omega) (Evt.bind (whose_f hV out (by omega) ho) (Evt.pure _))
    · unfold newFrom
      cases whoseL n l (out.map setOf) with
      | nil => rfl
      | cons a b => simp only [List.isEmpty_cons, Bool.false_eq_true, if_false]; show (_ == _) = false; simp [ints]; omega
  | d + 1, out, hl, ho => by
    have hn8 : n ≤ 8 := by have := hV.r8; omega
    obtain ⟨v, hv, hi⟩ := found_l0 (n := n) (l := l) out (by omega) (fun (q : Nat) => newFrom n l d (out ++ [(q : Int)])) (fun (q : Nat) hq => found_f hV d (out ++ [(q : Int)]) (by simp; omega) (by rw [List.all_append, ho]; simp [inB]; omega)) 4 0 (by omega)
    refine ⟨v, ?_, ?_⟩
    · refine Evt.succ ?_
      simp only [skewbaldref07_found.f]
      exact Evt.neg (by omega) hv
    · unfold newFrom
      rwa [List.range_eq_range']

theorem newFrom_len {n : Nat} {l : List (List Int)} : ∀ (d : Nat) (out o : List Int), newFrom n l d out = some o → o.length = out.length + d
  | 0, out, o, h => by
    unfold newFrom at h
    split at h
    · cases h; rfl
    · cases h
  | d + 1, out, o, h => by
    unfold newFrom at h
    obtain ⟨q, hq, hh⟩ := List.exists_of_findSome?_eq_some h
    have := newFrom_len d _ o hh
    simp at this
    omega

theorem refNew_f (R : Int) (l : List (List Int)) (hs : Small l) : Evt (fun k => skewbaldref07_New.f k R l) (newD R l) := by
  unfold skewbaldref07_New.f
  refine Evt.bind (refCheck_f R l hs) ?_
  unfold newD checkD
  by_cases hv : validB R l = true
  · simp only [hv, if_true]
    have hV := (valid_iff R l).1 hv
    obtain ⟨n, rfl, hn8, hn1⟩ := hV.nat
    obtain ⟨v, hev, hi⟩ := found_f hV n [] (by simp) rfl
    refine Evt.bind hev ?_
    rw [show ((n : Int)).toNat = n from by simp]
    cases hf : newFrom n l n [] with
    | some o =>
      rw [hf] at hi
      obtain rfl : v = (o, true) := hi
      exact Evt.pos rfl (Evt.pure _)
    | none =>
      rw [hf] at hi
      have hi : v.2 = false := hi
      exact Evt.neg (by rw [hi]; simp) (Evt.pure _)
  · have hv : validB R l = false := by simpa using hv
    simp only [hv, Bool.false_eq_true, if_false]
    exact Evt.neg (by omega) (by simpa using Evt.pure (([] : List Int), (70 : Int)))

theorem whoseD_small (R : Int) (l : List (List Int)) (hs : l.length < 9223372036854775808) (row : List Int) : (whoseD R l row).1.length < 9223372036854775808 := by
  unfold whoseD
  split
  · split
    · show (ints _).length < _
      rw [ints_length]
      unfold whoseL
      have := List.length_filter_le (hasB R.toNat l (row.map setOf)) (List.range l.length)
      rw [List.length_range] at this
      omega
    · simp
  · simp
theorem newD_small (R : Int) (l : List (List Int)) : (newD R l).1.length < 9223372036854775808 := by
  unfold newD
  split
  · rename_i hv
    obtain ⟨n, rfl, hn8, hn1⟩ := ((valid_iff R l).1 hv).nat
    rw [show ((n : Int)).toNat = n from by simp]
    cases hf : newFrom n l n [] with
    | some o =>
      have := newFrom_len n [] o hf
      simp at this
      show o.length < _
      omega
    | none => simp
  · simp
end Go.Proofs.YtdllacjkacmghaaDoor.DR
