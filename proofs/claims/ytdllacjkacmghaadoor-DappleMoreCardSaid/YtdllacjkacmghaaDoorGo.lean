/- The plain laws of what statements share: lists in order, kinds of pairs, the first pair, the fewest horses, the first new row. -/
import Derived.Test.YtdllacjkacmghaaDoorDTx11
import Derived.Test.YtdllacjkacmghaaDoorDTx13
import Derived.Test.YtdllacjkacmghaaDoorGm
namespace Go.Proofs.YtdllacjkacmghaaDoor.DR
open Go.RowKit Go.Proofs.YtdllacjkacmghaaDoorW.PrintWords Go.Proofs.YtdllacjkacmghaaDoorEv Go.Proofs.YtdllacjkacmghaaDoorD Go.Proofs.YtdllacjkacmghaaDoor.DT Go.Proofs.YtdllacjkacmghaaDoorH
set_option linter.unusedVariables false
set_option linter.unusedSimpArgs false

/-! ### order of lists -/
def lessB : List Int → List Int → Bool
  | [], [] => false
  | [], _ :: _ => true
  | _ :: _, [] => false
  | a :: l, b :: m => if a = b then lessB l m else decide (a < b)
theorem lessB_cons (a b : Int) (l m : List Int) : lessB (a :: l) (b :: m) = if a = b then lessB l m else decide (a < b) := rfl
theorem Less_l0 (x y : List Int) (hx : x.length < 9223372036854775807) (hy : y.length < 9223372036854775807) : ∀ (d j : Nat), j + d = x.length → j ≤ y.length →
    Evt (fun k => skewbaldref00_Less.l0 k x y (j : Int)) (lessB (x.drop j) (y.drop j))
  | 0, j, hj, hj2 => by
    refine Evt.succ ?_
    simp only [skewbaldref00_Less.l0]
    refine Evt.neg (by omega) (Evt.succ ?_)
    simp only [skewbaldref00_Less.j1]
    refine Evt.neg (by simp) ?_
    rw [List.drop_eq_nil_of_le (show x.length ≤ j by omega)]
    by_cases e : y.length = j
    · rw [List.drop_eq_nil_of_le (show y.length ≤ j by omega), decide_eq_false (show ¬ (x.length : Int) < (y.length : Int) by omega)]
      exact Evt.pure _
    · rw [List.drop_eq_getElem_cons (show j < y.length by omega), decide_eq_true (show (x.length : Int) < (y.length : Int) by omega)]
      exact Evt.pure _
  | d + 1, j, hj, hj2 => by
    refine Evt.succ ?_
    simp only [skewbaldref00_Less.l0]
    refine Evt.pos (by omega) (Evt.succ ?_)
    simp only [skewbaldref00_Less.j1]
    have h1 : x.drop j = x[j] :: x.drop (j + 1) := List.drop_eq_getElem_cons (by omega)
    by_cases e : y.length = j
    · refine Evt.neg (by rw [decide_eq_false (show ¬ (j : Int) < (y.length : Int) by omega)]; simp) ?_
      rw [h1, List.drop_eq_nil_of_le (show y.length ≤ j by omega), decide_eq_false (show ¬ (x.length : Int) < (y.length : Int) by omega)]
      exact Evt.pure _
    · have h2 : y.drop j = y[j] :: y.drop (j + 1) := List.drop_eq_getElem_cons (by omega)
      have g1 : rd x (j : Int) = x[j] := by rw [rd_at]; simp [show j < x.length by omega]
      have g2 : rd y (j : Int) = y[j] := by rw [rd_at]; simp [show j < y.length by omega]
      refine Evt.pos (by rw [decide_eq_true (show (j : Int) < (y.length : Int) by omega)]) (Evt.pos (by omega) (Evt.pos (by omega) (Evt.pos (by omega) ?_)))
      rw [g1, g2, h1, h2, w64 j (by omega), lessB_cons]
      by_cases h : x[j] = y[j]
      · rw [if_pos h]; exact Evt.pos h (Less_l0 x y hx hy d (j + 1) (by omega) (by omega))
      · rw [if_neg h]; exact Evt.neg h (Evt.pure _)
theorem Less_f (x y : List Int) (hx : x.length < 9223372036854775807) (hy : y.length < 9223372036854775807) : Evt (fun k => skewbaldref00_Less.f k x y) (lessB x y) := by
  unfold skewbaldref00_Less.f
  exact Less_l0 x y hx hy x.length 0 (by omega) (by omega)
theorem lessB_trans : ∀ (x y z : List Int), lessB x y = true → lessB y z = true → lessB x z = true
  | [], [], z, h, _ => by simp [lessB] at h
  | _ :: _, [], z, h, _ => by simp [lessB] at h
  | [], b :: y, [], _, h => by simp [lessB] at h
  | a :: x, b :: y, [], _, h => by simp [lessB] at h
  | [], b :: y, c :: z, _, _ => rfl
  | a :: x, b :: y, c :: z, h1, h2 => by
    rw [lessB_cons] at h1 h2 ⊢
    by_cases e1 : a = b
    · subst e1
      rw [if_pos rfl] at h1
      by_cases e2 : a = c
      · rw [if_pos e2] at h2 ⊢; exact lessB_trans x y z h1 h2
      · rw [if_neg e2] at h2 ⊢; exact h2
    · rw [if_neg e1] at h1
      have h1' := of_decide_eq_true h1
      by_cases e2 : b = c
      · subst e2; rw [if_neg e1]; exact h1
      · rw [if_neg e2] at h2
        have h2' := of_decide_eq_true h2
        rw [if_neg (by omega)]
        exact decide_eq_true (by omega)
theorem lessB_irrefl : ∀ x : List Int, lessB x x = false
  | [] => rfl
  | a :: x => by rw [lessB_cons, if_pos rfl]; exact lessB_irrefl x
def shorterB (l m : List Int) : Bool := if (l.length : Int) = (m.length : Int) then lessB l m else decide ((l.length : Int) < (m.length : Int))
theorem shorter_trans {x y z : List Int} (h1 : shorterB x y = true) (h2 : shorterB y z = true) : shorterB x z = true := by
  unfold shorterB at *
  by_cases e1 : (x.length : Int) = (y.length : Int)
  · rw [if_pos e1] at h1
    by_cases e2 : (y.length : Int) = (z.length : Int)
    · rw [if_pos e2] at h2; rw [if_pos (by omega)]; exact lessB_trans _ _ _ h1 h2
    · rw [if_neg e2] at h2; rw [if_neg (by omega)]; have := of_decide_eq_true h2; exact decide_eq_true (by omega)
  · rw [if_neg e1] at h1
    have h1' := of_decide_eq_true h1
    by_cases e2 : (y.length : Int) = (z.length : Int)
    · rw [if_neg (by omega)]; exact decide_eq_true (by omega)
    · rw [if_neg e2] at h2; have := of_decide_eq_true h2; rw [if_neg (by omega)]; exact decide_eq_true (by omega)
theorem shorter_irrefl (x : List Int) : shorterB x x = false := by
  unfold shorterB
  rw [if_pos rfl]; exact lessB_irrefl x
theorem cmp_less : ∀ x y : List Int, decide (cmpL x y < 0) = lessB x y
  | [], [] => rfl
  | [], _ :: _ => rfl
  | _ :: _, [] => rfl
  | a :: x, b :: y => by
    rw [lessB_cons, show cmpL (a :: x) (b :: y) = if a < b then -1 else if b < a then 1 else cmpL x y from rfl]
    by_cases h1 : a < b
    · rw [if_pos h1, if_neg (by omega), decide_eq_true h1]; rfl
    · by_cases h2 : b < a
      · rw [if_neg h1, if_pos h2, if_neg (by omega), decide_eq_false h1]; rfl
      · rw [if_neg h1, if_neg h2, if_pos (by omega)]; exact cmp_less x y
theorem better_eq (x y : List Int) : betterL x y = shorterB x y := by
  unfold betterL shorterB
  rw [cmp_less]
  by_cases h : x.length = y.length
  · rw [if_pos (by omega), decide_eq_false (by omega), show (x.length == y.length) = true by simp [h]]; simp
  · rw [if_neg (by omega), show (x.length == y.length) = false by simp [h], Bool.false_and, Bool.or_false]
    congr 1
    simp only [eq_iff_iff]; omega
/-! ### kinds -/
def kindAt (n : Nat) (l : List (List Int)) (i k : Nat) : Int := if k = i then 0 else ((kindB n l i k : Nat) : Int)
def kindRow (n : Nat) (l : List (List Int)) (i : Nat) : List Int := (List.range l.length).map (kindAt n l i)
def kindsD (n : Nat) (l : List (List Int)) : List (List Int) := (List.range l.length).map (kindRow n l)
theorem kinds_l1 {n : Nat} {l : List (List Int)} (hV : Valid (n : Int) l) {i : Nat} (hi : i < l.length) (x3 : List (List Int)) (h3 : x3.length < 5864062014805) (v : List (List Int))
    (h : Evt (fun k => skewbaldlaw07_kinds.l0 k (x3 ++ [kindRow n l i]) ((i + 1 : Nat) : Int) (n : Int) l) v) : ∀ (d j : Nat), j + d = l.length →
    Evt (fun k => skewbaldlaw07_kinds.l1 k x3 (i : Int) ((List.range j).map (kindAt n l i)) (j : Int) (n : Int) l) v
  | 0, j, hj => by
    have h6 := hV.h6
    refine Evt.succ ?_
    simp only [skewbaldlaw07_kinds.l1]
    obtain rfl : j = l.length := by omega
    rw [w64 i (by omega)]
    exact Evt.neg (by omega) (Evt.pos h3 h)
  | d + 1, j, hj => by
    have h6 := hV.h6
    have ih := kinds_l1 hV hi x3 h3 v h d (j + 1) (by omega)
    rw [List.range_succ, List.map_append, List.map_singleton] at ih
    have hlen : ((List.range j).map (kindAt n l i)).length < 17592186044416 := by simp only [List.length_map, List.length_range]; omega
    refine Evt.succ ?_
    simp only [skewbaldlaw07_kinds.l1]
    rw [w64 j (by omega)]
    refine Evt.pos (by omega) (Evt.ite (fun e => ?_) (fun e => ?_))
    · have e' : j = i := by omega
      rw [show kindAt n l i j = 0 from if_pos e'] at ih
      exact Evt.pos hlen ih
    · have e' : i ≠ j := by omega
      simp only [dapple_Same.f, sameD_ok hV hi (show j < l.length by omega) e', Option.bind_some]
      rw [show kindAt n l i j = ((kindB n l i j : Nat) : Int) from if_neg (by omega)] at ih
      exact Evt.pos (by trivial) (Evt.pos hlen ih)
theorem kinds_l0 {n : Nat} {l : List (List Int)} (hV : Valid (n : Int) l) : ∀ (d j : Nat), j + d = l.length →
    Evt (fun k => skewbaldlaw07_kinds.l0 k ((List.range j).map (kindRow n l)) (j : Int) (n : Int) l) (kindsD n l)
  | 0, j, hj => by
    refine Evt.succ ?_
    simp only [skewbaldlaw07_kinds.l0]
    obtain rfl : j = l.length := by omega
    exact Evt.neg (by omega) (Evt.pure _)
  | d + 1, j, hj => by
    have h6 := hV.h6
    have ih := kinds_l0 hV d (j + 1) (by omega)
    rw [List.range_succ, List.map_append, List.map_singleton] at ih
    refine Evt.succ ?_
    simp only [skewbaldlaw07_kinds.l0]
    exact Evt.pos (by omega) (kinds_l1 hV (show j < l.length by omega) _ (by simp only [List.length_map, List.length_range]; omega) _ ih l.length 0 (by omega))
theorem kinds_f {n : Nat} {l : List (List Int)} (hV : Valid (n : Int) l) : Evt (fun k => skewbaldlaw07_kinds.f k (n : Int) l) (kindsD n l) := by
  unfold skewbaldlaw07_kinds.f
  exact kinds_l0 hV l.length 0 (by omega)
theorem kinds_len (n : Nat) (l : List (List Int)) : (kindsD n l).length = l.length := by simp [kindsD]
theorem kinds_row (n : Nat) (l : List (List Int)) {i : Nat} (hi : i < l.length) : (kindsD n l).getD i [] = kindRow n l i := by simp [kindsD, hi]
theorem krow_len (n : Nat) (l : List (List Int)) (i : Nat) : (kindRow n l i).length = l.length := by simp [kindRow]
theorem krow_at (n : Nat) (l : List (List Int)) (i : Nat) {k : Nat} (hk : k < l.length) : (kindRow n l i).getD k 0 = kindAt n l i k := by simp [kindRow, hk]
theorem kinds_at (n : Nat) (l : List (List Int)) {i k : Nat} (hi : i < l.length) (hk : k < l.length) : rd (rd_L1 (kindsD n l) (i : Int)) (k : Int) = kindAt n l i k := by
  rw [rd1_at, kinds_row n l hi, rd_at, krow_at n l i hk]
theorem sure_can {n : Nat} {l : List (List Int)} (hV : Valid (n : Int) l) {i j : Nat} (hi : i < l.length) (hj : j < l.length) (h : sameB n l i j 1 = true) : sameB n l i j 0 = true := by
  have ha : min i j < l.length := by omega
  have hb : max i j < l.length := by omega
  unfold sameB at h ⊢
  rw [show alB 1 = sureB from rfl, turn_sure (Valid.row hV ha) (Valid.row hV hb)] at h
  rw [show alB 0 = canB from rfl]
  rw [Bool.and_eq_true] at h
  exact h.1
theorem kind_can {n : Nat} {l : List (List Int)} (hV : Valid (n : Int) l) {i j : Nat} (hi : i < l.length) (hj : j < l.length) : 0 < kindB n l i j ↔ sameB n l i j 0 = true := by
  have := @sure_can n l hV i j hi hj
  unfold kindB
  cases h0 : sameB n l i j 0 <;> cases h1 : sameB n l i j 1 <;> simp_all
/-! ### apart -/
theorem apart_iff {R : Nat} {rows : List (List Int)} {but : List Int} : apartB R rows but = true ↔ ∀ i k, i < k → k < rows.length → badB R rows but i k = false := by
  unfold apartB
  simp only [List.all_eq_true, List.mem_range, Bool.not_eq_true']
  exact ⟨fun h i k hik hk => h k hk i hik, fun h k hk i hik => h i k hik hk⟩
/-! ### the first pair -/
theorem findSome_range {α : Type} (g : Nat → Option α) : ∀ (d a : Nat), ((List.range' a d).findSome? g = none → ∀ p, a ≤ p → p < a + d → g p = none) ∧
    ∀ o, (List.range' a d).findSome? g = some o → ∃ q, a ≤ q ∧ q < a + d ∧ g q = some o ∧ ∀ p, a ≤ p → p < q → g p = none
  | 0, a => ⟨fun _ p h1 h2 => by omega, fun o h => by cases h⟩
  | d + 1, a => by
    rw [List.range'_succ, List.findSome?_cons]
    obtain ⟨i1, i2⟩ := findSome_range g d (a + 1)
    cases h : g a with
    | some o => exact ⟨fun e => (by cases e), fun o' e => ⟨a, by omega, by omega, by rw [h]; exact e, fun p h1 h2 => by omega⟩⟩
    | none =>
      refine ⟨fun e p h3 h4 => ?_, fun o e => ?_⟩
      · by_cases e2 : p = a
        · rw [e2, h]
        · exact i1 e p (by omega) (by omega)
      · obtain ⟨q, h3, h4, h5, h6⟩ := i2 o e
        refine ⟨q, by omega, by omega, h5, fun p h7 h8 => ?_⟩
        by_cases e2 : p = a
        · rw [e2, h]
        · exact h6 p (by omega) h8
/-! ### the fewest horses -/
theorem drop_spec (R : Nat) (rows : List (List Int)) : ∀ s, ((dropTo R rows s).1 = false → ∀ t, t < s → apartB R rows (ints (ofSet rows.length t)) = false) ∧
    ((dropTo R rows s).1 = true → ∃ t0, t0 < s ∧ (dropTo R rows s).2 = ints (ofSet rows.length t0) ∧ apartB R rows (ints (ofSet rows.length t0)) = true ∧ ∀ t, t < s → apartB R rows (ints (ofSet rows.length t)) = true → shorterB (ints (ofSet rows.length t)) (ints (ofSet rows.length t0)) = false)
  | 0 => ⟨fun _ t ht => by omega, fun h => by cases h⟩
  | s + 1 => by
    obtain ⟨ih1, ih2⟩ := drop_spec R rows s
    unfold dropTo dropStep
    rw [better_eq]
    cases ha : apartB R rows (ints (ofSet rows.length s)) with
    | false =>
      rw [Bool.and_false]
      simp only [Bool.false_eq_true, if_false]
      refine ⟨fun h t ht => ?_, fun h => ?_⟩
      · by_cases e : t = s
        · rw [e]; exact ha
        · exact ih1 h t (by omega)
      · obtain ⟨t0, h1, h2, h3, h4⟩ := ih2 h
        refine ⟨t0, by omega, h2, h3, fun t ht hta => ?_⟩
        by_cases e : t = s
        · rw [e, ha] at hta; cases hta
        · exact h4 t (by omega) hta
    | true =>
      rw [Bool.and_true]
      cases hz : (dropTo R rows s).1 with
      | false =>
        simp only [Bool.not_false, Bool.true_or, if_true]
        refine ⟨fun h => (by cases h), fun _ => ⟨s, by omega, rfl, ha, fun t ht hta => ?_⟩⟩
        by_cases e : t = s
        · rw [e]; exact shorter_irrefl _
        · rw [ih1 hz t (by omega)] at hta; cases hta
      | true =>
        obtain ⟨t0, h1, h2, h3, h4⟩ := ih2 hz
        rw [h2]
        cases hsh : shorterB (ints (ofSet rows.length s)) (ints (ofSet rows.length t0)) with
        | true =>
          simp only [Bool.or_true, if_true]
          refine ⟨fun h => (by cases h), fun _ => ⟨s, by omega, rfl, ha, fun t ht hta => ?_⟩⟩
          by_cases e : t = s
          · rw [e]; exact shorter_irrefl _
          · cases hx : shorterB (ints (ofSet rows.length t)) (ints (ofSet rows.length s)) with
            | false => rfl
            | true => have := shorter_trans hx hsh; rw [h4 t (by omega) hta] at this; cases this
        | false =>
          simp only [Bool.not_true, Bool.or_false, Bool.false_eq_true, if_false]
          refine ⟨fun h => (by rw [hz] at h; cases h), fun _ => ⟨t0, by omega, h2, h3, fun t ht hta => ?_⟩⟩
          by_cases e : t = s
          · rw [e]; exact hsh
          · exact h4 t (by omega) hta
theorem bit_full {m k : Nat} (h : k < m) (hm : m ≤ 6) : (2 ^ m - 1) / 2 ^ k % 2 = 1 := by
  have key : ∀ m : Fin 7, ∀ k : Fin 7, k.val < m.val → (2 ^ m.val - 1) / 2 ^ k.val % 2 = 1 := by decide +kernel
  exact key ⟨m, by omega⟩ ⟨k, by omega⟩ h
theorem ofSet_full {m : Nat} (hm : m ≤ 6) : ofSet m (2 ^ m - 1) = List.range m := by
  unfold ofSet
  rw [List.filter_eq_self]
  intro k hk
  rw [bit_full (List.mem_range.1 hk) hm]
  rfl
theorem apart_all (R : Nat) (rows : List (List Int)) : apartB R rows (ints (List.range rows.length)) = true := by
  rw [apart_iff]
  intro i k hik hk
  unfold badB
  rw [List.contains_eq_mem, decide_eq_true (mem_ints.2 (List.mem_range.2 (show i < rows.length by omega)))]
  rfl
/-- the fewest horses: what is told of them -/
theorem drop_told {n : Nat} {l : List (List Int)} (hV : Valid (n : Int) l) : ∃ t0, t0 < 2 ^ l.length ∧ dropD (n : Int) l = (ints (ofSet l.length t0), 0) ∧ apartB n l (ints (ofSet l.length t0)) = true ∧ ∀ t, t < 2 ^ l.length → apartB n l (ints (ofSet l.length t)) = true → shorterB (ints (ofSet l.length t)) (ints (ofSet l.length t0)) = false := by
  have h6 := hV.h6
  obtain ⟨h1, h2⟩ := drop_spec n l (2 ^ l.length)
  have hp : 0 < 2 ^ l.length := Nat.two_pow_pos _
  cases hz : (dropTo n l (2 ^ l.length)).1 with
  | false =>
    have := h1 hz (2 ^ l.length - 1) (by omega)
    rw [ofSet_full h6, apart_all] at this
    cases this
  | true =>
    obtain ⟨t0, h3, h4, h5, h7⟩ := h2 hz
    refine ⟨t0, h3, ?_, h5, h7⟩
    unfold dropD
    rw [(valid_iff (n : Int) l).2 hV, if_pos rfl, show ((n : Int)).toNat = n by simp, h4]
/-! ### rows as numbers choose them; the first new one -/
theorem sizes_l0 (n : Nat) (hn : n ≤ 8) (bits : List Int) (hb : bits.length < 9223372036854775808) : ∀ (d j : Nat) (acc : List Int), j + d = n → acc.length = j → acc.all inB = true →
    ∃ row, Evt (fun k => skewbaldlaw07_sizes.l0 k (n : Int) bits acc (j : Int)) row ∧ row.length = n ∧ row.all inB = true
  | 0, j, acc, hj, ha, hi => by
    refine ⟨acc, Evt.succ ?_, by omega, hi⟩
    simp only [skewbaldlaw07_sizes.l0]
    exact Evt.neg (by omega) (Evt.pure _)
  | d + 1, j, acc, hj, ha, hi => by
    obtain ⟨t, ht, et⟩ := Round_nat (wrap64 (takeD bits (j : Int) + wrap64 ((j : Int) * takeD bits 2))) 4 (by omega) (by omega)
    obtain ⟨row, hr, h1, h2⟩ := sizes_l0 n hn bits hb d (j + 1) (acc ++ [(t : Int)]) (by omega) (by simp [ha]) (by rw [List.all_append, hi]; simp [inB]; omega)
    refine ⟨row, Evt.succ ?_, h1, h2⟩
    simp only [skewbaldlaw07_sizes.l0]
    rw [w64 j (by omega)]
    refine Evt.pos (by omega) ?_
    rw [Take_f bits _ hb, Take_f bits _ hb]
    simp only [Option.bind_some]
    have et' : skewbaldref00_Round.f (wrap64 (takeD bits (j : Int) + wrap64 ((j : Int) * takeD bits 2))) 4 = some (t : Int) := et
    rw [et']
    simp only [Option.bind_some]
    exact Evt.pos (by omega) hr
theorem sizes_f (n : Nat) (hn : n ≤ 8) (bits : List Int) (hb : bits.length < 9223372036854775808) : ∃ row, Evt (fun k => skewbaldlaw07_sizes.f k (n : Int) bits) row ∧ row.length = n ∧ row.all inB = true := by
  unfold skewbaldlaw07_sizes.f
  exact sizes_l0 n hn bits hb n 0 [] (by omega) rfl rfl
theorem inB_nat {x : Int} (h : inB x = true) : ∃ q : Nat, q < 4 ∧ x = q := by
  unfold inB at h
  have h' : 0 ≤ x ∧ x ≤ 3 := by simpa using h
  exact ⟨x.toNat, by omega, by omega⟩
theorem new_none {n : Nat} {l : List (List Int)} : ∀ (d : Nat) (out : List Int), newFrom n l d out = none → ∀ rest : List Int, rest.length = d → rest.all inB = true → whoseL n l ((out ++ rest).map setOf) ≠ []
  | 0, out, h, rest, hr, _ => by
    obtain rfl : rest = [] := List.length_eq_zero_iff.1 hr
    rw [List.append_nil]
    intro e
    unfold newFrom at h
    rw [e] at h
    cases h
  | d + 1, out, h, rest, hr, hi => by
    cases rest with
    | nil => cases hr
    | cons x xs =>
      rw [List.all_cons, Bool.and_eq_true] at hi
      obtain ⟨q, hq, rfl⟩ := inB_nat hi.1
      unfold newFrom at h
      rw [List.findSome?_eq_none_iff] at h
      have := new_none d (out ++ [(q : Int)]) (h q (List.mem_range.2 hq)) xs (by simpa using hr) hi.2
      rwa [List.append_assoc] at this
theorem new_some {n : Nat} {l : List (List Int)} : ∀ (d : Nat) (out o : List Int), newFrom n l d out = some o → ∃ rest : List Int, o = out ++ rest ∧ rest.length = d ∧ rest.all inB = true ∧ whoseL n l (o.map setOf) = [] ∧
    ∀ r' : List Int, r'.length = d → r'.all inB = true → lessB r' rest = true → whoseL n l ((out ++ r').map setOf) ≠ []
  | 0, out, o, h => by
    unfold newFrom at h
    split at h
    · rename_i hw
      cases h
      refine ⟨[], by simp, rfl, rfl, List.isEmpty_iff.1 hw, fun r' h1 _ h2 => ?_⟩
      obtain rfl : r' = [] := List.length_eq_zero_iff.1 h1
      cases h2
    · cases h
  | d + 1, out, o, h => by
    unfold newFrom at h
    rw [List.range_eq_range'] at h
    obtain ⟨q, _, hq, h3, h4⟩ := (findSome_range (fun q : Nat => newFrom n l d (out ++ [(q : Int)])) 4 0).2 o h
    obtain ⟨rest, h5, h6, h7, h8, h9⟩ := new_some d _ o h3
    refine ⟨(q : Int) :: rest, by rw [h5, List.append_assoc]; rfl, by simp [h6], ?_, h8, fun r' h1 h2 hl => ?_⟩
    · rw [List.all_cons, h7, Bool.and_true]
      unfold inB
      simp; omega
    · cases r' with
      | nil => cases h1
      | cons x xs =>
        rw [List.all_cons, Bool.and_eq_true] at h2
        obtain ⟨p, hp, rfl⟩ := inB_nat h2.1
        rw [lessB_cons] at hl
        rw [show out ++ (p : Int) :: xs = (out ++ [(p : Int)]) ++ xs by simp]
        by_cases e : (p : Int) = (q : Int)
        · rw [if_pos e] at hl
          rw [e]
          exact h9 xs (by simpa using h1) h2.2 hl
        · rw [if_neg e] at hl
          have := of_decide_eq_true hl
          exact new_none d _ (h4 p (by omega) (by omega)) xs (by simpa using h1) h2.2
theorem whoseD_ok {n : Nat} {l : List (List Int)} (hV : Valid (n : Int) l) {row : List Int} (hr : row.length = n) (hi : row.all inB = true) : whoseD (n : Int) l row = (ints (whoseL n l (row.map setOf)), 0) := by
  unfold whoseD
  rw [(valid_iff (n : Int) l).2 hV, if_pos rfl, hi, show ((row.length : Int) == (n : Int)) = true by simp [hr]]
  rfl
theorem newD_ok {n : Nat} {l : List (List Int)} (hV : Valid (n : Int) l) : newD (n : Int) l = (match newFrom n l n [] with | some o => (o, 0) | none => ([], 4)) := by
  unfold newD
  rw [(valid_iff (n : Int) l).2 hV, if_pos rfl]
  rfl
end Go.Proofs.YtdllacjkacmghaaDoor.DR
