/- The plain law of DappleMore: if more is known of a dapple, less can be the same, and no fewer rows are new. -/
import Derived.Test.YtdllacjkacmghaaDoorDTx17
import Derived.Test.YtdllacjkacmghaaDoorDTx11
import Derived.Test.YtdllacjkacmghaaDoorGn
import Derived.Test.YtdllacjkacmghaaDoorGo
import Derived.Test.YtdllacjkacmghaaDoorGp
namespace Go.Proofs.YtdllacjkacmghaaDoor.DappleMoreRow.Pure
open Go.RowKit Go.Proofs.YtdllacjkacmghaaDoorW.PrintWords Go.Proofs.YtdllacjkacmghaaDoorEv Go.Proofs.YtdllacjkacmghaaDoorD Go.Proofs.YtdllacjkacmghaaDoor.DT Go.Proofs.YtdllacjkacmghaaDoor.DR Go.Proofs.YtdllacjkacmghaaDoorH Go.Proofs.YtdllacjkacmghaaDoorK
set_option linter.unusedVariables false
set_option linter.unusedSimpArgs false

/-! ### sets with fewer sizes -/
theorem fin_less : ∀ s : Fin 16, ∀ q : Fin 4, bitN s.val q.val = true → ∀ t : Fin 16, canB (2 ^ q.val) (t.val : Int) = true → canB (s.val : Int) (t.val : Int) = true := by decide +kernel
theorem fin_single : ∀ s : Fin 16, ∀ q : Fin 4, bitN s.val q.val = true → singleB (s.val : Int) = true → (s.val : Int) = 2 ^ q.val := by decide +kernel
/-- a set of sizes that is one of another one's, or the same -/
def Part (x y : Int) : Prop := ∀ t : Int, 1 ≤ t → t ≤ 15 → canB x t = true → canB y t = true
theorem part_refl (x : Int) : Part x x := fun _ _ _ h => h
theorem part_of {s q : Nat} (h2 : s ≤ 15) (hq : q ≤ 3) (hb : bitN s q = true) : Part (2 ^ q) (s : Int) := fun t ht1 ht2 h => by
  obtain ⟨f, rfl, _⟩ := to_fin ht1 ht2
  exact fin_less ⟨s, by omega⟩ ⟨q, by omega⟩ hb f h
theorem turn_part {n : Nat} {r r' s s' : List Int} (hr : RowOk n r) (hr' : RowOk n r') (hs : RowOk n s) (hs' : RowOk n s') (h1 : ∀ k, k < n → Part (r'.getD k 0) (r.getD k 0)) (h2 : ∀ k, k < n → Part (s'.getD k 0) (s.getD k 0)) {t : Nat} (h : isTurn n r' s' canB t) : isTurn n r s canB t := by
  intro k hk
  have hj : (k + t) % n < n := Nat.mod_lt _ (by omega)
  have a := h1 _ hj _ (hs'.at hk).1 (hs'.at hk).2 (h k hk)
  rw [can_comm (hr.at hj).1 (hr.at hj).2 (hs'.at hk).1 (hs'.at hk).2] at a
  have b := h2 k hk _ (hr.at hj).1 (hr.at hj).2 a
  rwa [can_comm (hs.at hk).1 (hs.at hk).2 (hr.at hj).1 (hr.at hj).2] at b

section
variable {n : Nat} {l : List (List Int)} {h p q s : Nat}
theorem set_other {i : Nat} (hi : i ≠ h) : (setAt l h p (2 ^ q)).getD i [] = l.getD i [] := by
  unfold setAt
  rw [List.getD_eq_getElem?_getD, List.getElem?_set_ne (fun e => hi e.symm), ← List.getD_eq_getElem?_getD]
theorem set_this (hh : h < l.length) : (setAt l h p (2 ^ q)).getD h [] = (l.getD h []).set p (2 ^ q) := by
  unfold setAt
  rw [List.getD_eq_getElem?_getD, List.getElem?_set_self hh]; rfl
theorem set_part (hV : Valid (n : Int) l) (hh : h < l.length) (hp : p < n) (hs : placeAt l h p = s) (h2 : s ≤ 15) (hq : q ≤ 3) (hb : bitN s q = true) (i k : Nat) (hk : k < n) : Part (((setAt l h p (2 ^ q)).getD i []).getD k 0) ((l.getD i []).getD k 0) := by
  by_cases e : i = h
  · subst e
    have hr := (Valid.row hV hh).len
    rw [set_this hh]
    by_cases e2 : k = p
    · subst e2
      rw [List.getD_eq_getElem?_getD, List.getElem?_set_self (by omega), show (l.getD i []).getD k 0 = (s : Int) from hs]
      exact part_of h2 hq hb
    · rw [show ((l.getD i []).set p (2 ^ q)).getD k 0 = (l.getD i []).getD k 0 by rw [List.getD_eq_getElem?_getD, List.getElem?_set_ne (fun e3 => e2 e3.symm), ← List.getD_eq_getElem?_getD]]
      exact part_refl _
  · rw [set_other e]; exact part_refl _
theorem less_same (hV : Valid (n : Int) l) (hh : h < l.length) (hp : p < n) (hs : placeAt l h p = s) (h2 : s ≤ 15) (hq : q ≤ 3) (hb : bitN s q = true) {i k : Nat} (hi : i < l.length) (hk : k < l.length) (hsm : sameB n (setAt l h p (2 ^ q)) i k 0 = true) : sameB n l i k 0 = true := by
  have hV' := set_valid hV hh hp hq
  have hl := setAt_length l h p (2 ^ q)
  have ha : min i k < l.length := by omega
  have hc : max i k < l.length := by omega
  unfold sameB at hsm ⊢
  rw [show alB 0 = canB from rfl, some_turn] at hsm ⊢
  obtain ⟨t, ht, h3⟩ := hsm
  exact ⟨t, ht, turn_part (Valid.row hV ha) (Valid.row hV' (by omega)) (Valid.row hV hc) (Valid.row hV' (by omega)) (fun j hj => set_part hV hh hp hs h2 hq hb _ j hj) (fun j hj => set_part hV hh hp hs h2 hq hb _ j hj) h3⟩
theorem same_set (hV : Valid (n : Int) l) (hh : h < l.length) (hp : p < n) (hs : placeAt l h p = s) (h2 : s ≤ 15) (hq : q ≤ 3) (hb : bitN s q = true) (hk : knownR (l.getD h []) = true) : setAt l h p (2 ^ q) = l := by
  have hr := (Valid.row hV hh).len
  have h1 := known_at (Valid.row hV hh) hk hp
  rw [show (l.getD h []).getD p 0 = (s : Int) from hs] at h1
  have e := fin_single ⟨s, by omega⟩ ⟨q, by omega⟩ hb h1
  have e' : (s : Int) = 2 ^ q := e
  have hs' : (l.getD h []).getD p 0 = (s : Int) := hs
  unfold setAt
  have hlp : p < (l.getD h []).length := by omega
  have e1 : (l.getD h []).set p (2 ^ q) = l.getD h [] := by
    rw [← e', ← hs', List.getD_eq_getElem?_getD (l := l.getD h []), List.getElem?_eq_getElem hlp]
    exact List.set_getElem_self hlp
  rw [e1, List.getD_eq_getElem?_getD, List.getElem?_eq_getElem hh]
  exact List.set_getElem_self hh
theorem less_sure (hV : Valid (n : Int) l) (hh : h < l.length) (hp : p < n) (hs : placeAt l h p = s) (h2 : s ≤ 15) (hq : q ≤ 3) (hb : bitN s q = true) {i k : Nat} (hi : i < l.length) (hk : k < l.length) (h3 : kindB n l i k = 2) : kindB n (setAt l h p (2 ^ q)) i k = 2 := by
  have h4 := (kind_two hV hi hk).1 h3
  by_cases e : knownR (l.getD h []) = true
  · rw [same_set hV hh hp hs h2 hq hb e]; exact h3
  · have hi' : i ≠ h := fun e2 => e (e2 ▸ h4.2.1)
    have hk' : k ≠ h := fun e2 => e (e2 ▸ h4.2.2)
    have : kindB n (setAt l h p (2 ^ q)) i k = kindB n l i k := by
      unfold kindB sameB
      rw [set_other (show min i k ≠ h by omega), set_other (show max i k ≠ h by omega)]
    rw [this]; exact h3
theorem setOf_ok {row : List Int} (hr : row.length = n) (hi : row.all inB = true) : RowOk n (row.map setOf) := by
  refine ⟨by simpa using hr, fun x hx => ?_⟩
  obtain ⟨y, hy, rfl⟩ := List.mem_map.1 hx
  obtain ⟨q, hq, rfl⟩ := inB_nat (List.all_eq_true.1 hi y hy)
  unfold setOf
  obtain rfl | rfl | rfl | rfl : q = 0 ∨ q = 1 ∨ q = 2 ∨ q = 3 := by omega
  all_goals decide
theorem less_whose (hV : Valid (n : Int) l) (hh : h < l.length) (hp : p < n) (hs : placeAt l h p = s) (h2 : s ≤ 15) (hq : q ≤ 3) (hb : bitN s q = true) {r : List Int} (hr : RowOk n r) {k : Nat} (hk : k ∈ whoseL n (setAt l h p (2 ^ q)) r) : k ∈ whoseL n l r := by
  have hV' := set_valid hV hh hp hq
  have hl := setAt_length l h p (2 ^ q)
  unfold whoseL at hk ⊢
  rw [List.mem_filter, List.mem_range] at hk ⊢
  have hkl : k < l.length := by omega
  refine ⟨hkl, ?_⟩
  have h3 := hk.2
  unfold hasB at h3 ⊢
  rw [some_turn] at h3 ⊢
  obtain ⟨t, ht, h4⟩ := h3
  exact ⟨t, ht, turn_part (Valid.row hV hkl) (Valid.row hV' hk.1) hr hr (fun j hj => set_part hV hh hp hs h2 hq hb _ j hj) (fun j _ => part_refl _) h4⟩
theorem less_apart (hV : Valid (n : Int) l) (hh : h < l.length) (hp : p < n) (hs : placeAt l h p = s) (h2 : s ≤ 15) (hq : q ≤ 3) (hb : bitN s q = true) {but : List Int} (ha : apartB n l but = true) : apartB n (setAt l h p (2 ^ q)) but = true := by
  have hl := setAt_length l h p (2 ^ q)
  rw [apart_iff] at ha ⊢
  intro i k hik hk
  have h3 := ha i k hik (by omega)
  rw [← Bool.not_eq_true] at h3 ⊢
  intro h4
  apply h3
  unfold badB at h4 ⊢
  rw [Bool.and_eq_true, Bool.and_eq_true] at h4 ⊢
  exact ⟨h4.1, h4.2.1, less_same hV hh hp hs h2 hq hb (show i < l.length by omega) (by omega) h4.2.2⟩
theorem less_new (hV : Valid (n : Int) l) (hh : h < l.length) (hp : p < n) (hs : placeAt l h p = s) (h2 : s ≤ 15) (hq : q ≤ 3) (hb : bitN s q = true) {o : List Int} (hf : newFrom n l n [] = some o) :
    ∃ o', newFrom n (setAt l h p (2 ^ q)) n [] = some o' ∧ lessB o o' = false ∧ o.length = n ∧ o'.length = n := by
  obtain ⟨rest, e, h6, h7, h8, h9⟩ := new_some n [] o hf
  rw [List.nil_append] at e
  subst e
  have hw : whoseL n (setAt l h p (2 ^ q)) (o.map setOf) = [] := by
    rw [List.eq_nil_iff_forall_not_mem] at h8 ⊢
    exact fun k hk => h8 k (less_whose hV hh hp hs h2 hq hb (setOf_ok h6 h7) hk)
  cases hf' : newFrom n (setAt l h p (2 ^ q)) n [] with
  | none => exact absurd hw (new_none n [] hf' o h6 h7)
  | some o' =>
    obtain ⟨rest, e, a6, a7, a8, a9⟩ := new_some n [] o' hf'
    rw [List.nil_append] at e
    subst e
    refine ⟨o', rfl, ?_, h6, a6⟩
    rw [← Bool.not_eq_true]
    exact fun hl => a9 o h6 h7 hl hw
theorem less_drop (hV : Valid (n : Int) l) (hh : h < l.length) (hp : p < n) (hs : placeAt l h p = s) (h2 : s ≤ 15) (hq : q ≤ 3) (hb : bitN s q = true) : ((dropD (n : Int) (setAt l h p (2 ^ q))).1.length : Int) ≤ ((dropD (n : Int) l).1.length : Int) := by
  obtain ⟨t0, ht0, hd, ha, hmin⟩ := drop_told hV
  obtain ⟨t1, ht1, hd1, ha1, hmin1⟩ := drop_told (set_valid hV hh hp hq)
  rw [setAt_length] at ht1 hd1 ha1 hmin1
  have h3 := hmin1 t0 ht0 (less_apart hV hh hp hs h2 hq hb ha)
  rw [hd, hd1]
  show ((ints (ofSet l.length t1)).length : Int) ≤ ((ints (ofSet l.length t0)).length : Int)
  unfold shorterB at h3
  by_cases e : ((ints (ofSet l.length t0)).length : Int) = ((ints (ofSet l.length t1)).length : Int)
  · omega
  · rw [if_neg e] at h3
    have := of_decide_eq_false h3
    omega
end

/-! ### the statement -/
theorem more_l2_end {n : Nat} {l : List (List Int)} {h p q s : Nat} (hV : Valid (n : Int) l) (hh : h < l.length) (hp : p < n) (hs : placeAt l h p = s) (h2 : s ≤ 15) (hq : q ≤ 3) (hb : bitN s q = true) (was now : List Int) (j : Int) (hj : ¬ j < (now.length : Int)) :
    Evt (fun k => skewbaldlaw07_DappleMore.l2 k was now j (n : Int) l (n : Int) (setAt l h p (2 ^ q))) true := by
  have P : Evt (fun k => (skewbaldlaw07_pressed.f k).bind fun t => some t) true := Evt.bind pressed_f (Evt.pure _)
  have hd := less_drop hV hh hp hs h2 hq hb
  have hn8 := hV.r8
  obtain ⟨t0, _, ed, _⟩ := drop_told hV
  obtain ⟨t1, _, ed1, _⟩ := drop_told (set_valid hV hh hp hq)
  have e0 : (dropD (n : Int) l).2 = 0 := by rw [ed]
  have e1 : (dropD (n : Int) (setAt l h p (2 ^ q))).2 = 0 := by rw [ed1]
  have T : Evt (fun k => if (dropD (n : Int) l).2 = 0 then (if (dropD (n : Int) (setAt l h p (2 ^ q))).2 = 0 then (if ((dropD (n : Int) (setAt l h p (2 ^ q))).1.length : Int) ≤ ((dropD (n : Int) l).1.length : Int) then ((skewbaldlaw07_pressed.f k).bind fun t => (some t)) else (some false)) else (some false)) else (some false)) true :=
    Evt.pos e0 (Evt.pos e1 (Evt.pos hd P))
  refine Evt.succ ?_
  simp only [skewbaldlaw07_DappleMore.l2, dapple_New.f, dapple_Drop.f, Option.bind_some]
  refine Evt.neg hj ?_
  rw [newD_ok hV, newD_ok (set_valid hV hh hp hq)]
  cases hf : newFrom n l n [] with
  | none => exact Evt.neg (by show ¬ (4 : Int) = 0; omega) T
  | some o =>
    obtain ⟨o', hf', hl, ho, ho'⟩ := less_new hV hh hp hs h2 hq hb hf
    rw [hf']
    refine Evt.pos (by trivial) (Evt.pos (by trivial) (Evt.bind (Less_f o o' (by omega) (by omega)) ?_))
    rw [hl]
    exact Evt.neg (by simp) T
theorem more_l2 {n : Nat} {l : List (List Int)} {h p q s : Nat} (hV : Valid (n : Int) l) (hh : h < l.length) (hp : p < n) (hs : placeAt l h p = s) (h2 : s ≤ 15) (hq : q ≤ 3) (hb : bitN s q = true) (was now : List Int) (hw : was.length < 9223372036854775807) (hn : now.length < 1000000) (hsub : ∀ x ∈ now, x ∈ was) : ∀ (d j : Nat), j + d = now.length →
    Evt (fun k => skewbaldlaw07_DappleMore.l2 k was now (j : Int) (n : Int) l (n : Int) (setAt l h p (2 ^ q))) true
  | 0, j, hj => more_l2_end hV hh hp hs h2 hq hb was now j (by omega)
  | d + 1, j, hj => by
    refine Evt.succ ?_
    simp only [skewbaldlaw07_DappleMore.l2]
    have g1 : rd now (j : Int) = now[j] := by rw [rd_at]; simp [show j < now.length by omega]
    rw [g1, w64 j (by omega)]
    refine Evt.pos (by omega) (Evt.pos (by omega) (Evt.bind (Find_f was hw _) (Evt.neg ?_ (more_l2 hV hh hp hs h2 hq hb was now hw hn hsub d (j + 1) (by omega)))))
    rw [findD_neg]
    exact fun h3 => h3 (hsub _ (List.getElem_mem _))
theorem whose_len (n : Nat) (l : List (List Int)) (r : List Int) : (ints (whoseL n l r)).length ≤ l.length := by
  rw [ints_length]
  unfold whoseL
  have := List.length_filter_le (hasB n l r) (List.range l.length)
  rwa [List.length_range] at this
theorem more_l0_end {n : Nat} {l : List (List Int)} {h p q s : Nat} (hV : Valid (n : Int) l) (hh : h < l.length) (hp : p < n) (hs : placeAt l h p = s) (h2 : s ≤ 15) (hq : q ≤ 3) (hb : bitN s q = true) (bits : List Int) (hbits : bits.length < 9223372036854775808) :
    Evt (fun k => skewbaldlaw07_DappleMore.l0 k bits (kindsD n l) (kindsD n (setAt l h p (2 ^ q))) (l.length : Int) (n : Int) l (n : Int) (setAt l h p (2 ^ q))) true := by
  have hV' := set_valid hV hh hp hq
  have hn8 := hV.r8
  have h6 := hV.h6
  obtain ⟨row, hrow, hl, hi⟩ := sizes_f n (by omega) bits hbits
  refine Evt.succ ?_
  simp only [skewbaldlaw07_DappleMore.l0, kinds_len]
  refine Evt.neg (by omega) (Evt.bind hrow ?_)
  simp only [dapple_Whose.f, Option.bind_some]
  rw [whoseD_ok hV hl hi, whoseD_ok hV' hl hi]
  refine Evt.pos (by trivial) ?_
  have e : ((ints (whoseL n (setAt l h p (2 ^ q)) (row.map setOf)), (0 : Int)).2 != 0) = false := by rfl
  rw [e]
  refine Evt.succ ?_
  simp only [skewbaldlaw07_DappleMore.j3]
  have a1 := whose_len n l (row.map setOf)
  have a2 := whose_len n (setAt l h p (2 ^ q)) (row.map setOf)
  rw [setAt_length] at a2
  refine Evt.neg (by simp) (more_l2 hV hh hp hs h2 hq hb _ _ (by show (ints _).length < _; omega) (by show (ints _).length < _; omega) (fun x hx => ?_) _ 0 (by simp; rfl))
  unfold ints at hx ⊢
  obtain ⟨k, hk, rfl⟩ := List.mem_map.1 hx
  exact List.mem_map.2 ⟨k, less_whose hV hh hp hs h2 hq hb (setOf_ok hl hi) hk, rfl⟩
theorem more_l1 {n : Nat} {l : List (List Int)} {h p q s : Nat} (hV : Valid (n : Int) l) (hh : h < l.length) (hp : p < n) (hs : placeAt l h p = s) (h2 : s ≤ 15) (hq : q ≤ 3) (hb : bitN s q = true) (bits : List Int) {i : Nat} (hi : i < l.length)
    (hn : Evt (fun k => skewbaldlaw07_DappleMore.l0 k bits (kindsD n l) (kindsD n (setAt l h p (2 ^ q))) ((i + 1 : Nat) : Int) (n : Int) l (n : Int) (setAt l h p (2 ^ q))) true) : ∀ (d j : Nat), j + d = l.length →
    Evt (fun k => skewbaldlaw07_DappleMore.l1 k bits (kindsD n l) (kindsD n (setAt l h p (2 ^ q))) (i : Int) (j : Int) (n : Int) l (n : Int) (setAt l h p (2 ^ q))) true
  | 0, j, hj => by
    have h6 := hV.h6
    refine Evt.succ ?_
    simp only [skewbaldlaw07_DappleMore.l1, kinds_len]
    rw [w64 i (by omega)]
    exact Evt.neg (by omega) hn
  | d + 1, j, hj => by
    have h6 := hV.h6
    have hjl : j < l.length := by omega
    have hV' := set_valid hV hh hp hq
    have hsl := setAt_length l h p (2 ^ q)
    have ih := more_l1 hV hh hp hs h2 hq hb bits hi hn d (j + 1) (by omega)
    refine Evt.succ ?_
    simp only [skewbaldlaw07_DappleMore.l1, kinds_len]
    rw [w64 j (by omega), kinds_at n l hi hjl, kinds_at n (setAt l h p (2 ^ q)) (show i < (setAt l h p (2 ^ q)).length by omega) (show j < (setAt l h p (2 ^ q)).length by omega), rd1_at, rd1_at, kinds_row n l hi, krow_len, kinds_row n (setAt l h p (2 ^ q)) (show i < (setAt l h p (2 ^ q)).length by omega), krow_len, hsl]
    refine Evt.pos (by omega) (Evt.pos (by omega) (Evt.pos (by omega) (Evt.pos (by omega) (Evt.pos (by omega) ?_))))
    by_cases e : j = i
    · rw [show kindAt n l i j = 0 from if_pos e, show kindAt n (setAt l h p (2 ^ q)) i j = 0 from if_pos e]
      exact Evt.pos (by trivial) (Evt.pos (by omega) (Evt.pos (by omega) (Evt.neg (by omega) (Evt.neg (by omega) ih))))
    · rw [show kindAt n l i j = ((kindB n l i j : Nat) : Int) from if_neg e, show kindAt n (setAt l h p (2 ^ q)) i j = ((kindB n (setAt l h p (2 ^ q)) i j : Nat) : Int) from if_neg e]
      have hc : 0 < kindB n (setAt l h p (2 ^ q)) i j → 0 < kindB n l i j := fun h3 => by
        rw [kind_can hV hi hjl]
        rw [kind_can hV' (by omega) (by omega)] at h3
        exact less_same hV hh hp hs h2 hq hb hi hjl h3
      have hsu : kindB n l i j = 2 → kindB n (setAt l h p (2 ^ q)) i j = 2 := fun h3 => less_sure hV hh hp hs h2 hq hb hi hjl h3
      refine Evt.ite (fun h3 => ?_) (fun h3 => ?_)
      · exact Evt.pos (by omega) (Evt.pos (by omega) (Evt.neg (by omega) (Evt.neg (by omega) ih)))
      · refine Evt.ite (fun h4 => ?_) (fun _ => ih)
        have := hsu (by omega)
        exact Evt.pos (by omega) (Evt.pos (by omega) (Evt.pos (by omega) ih))
theorem more_l0 {n : Nat} {l : List (List Int)} {h p q s : Nat} (hV : Valid (n : Int) l) (hh : h < l.length) (hp : p < n) (hs : placeAt l h p = s) (h2 : s ≤ 15) (hq : q ≤ 3) (hb : bitN s q = true) (bits : List Int) (hbits : bits.length < 9223372036854775808) : ∀ (d i : Nat), i + d = l.length →
    Evt (fun k => skewbaldlaw07_DappleMore.l0 k bits (kindsD n l) (kindsD n (setAt l h p (2 ^ q))) (i : Int) (n : Int) l (n : Int) (setAt l h p (2 ^ q))) true
  | 0, i, hi => by
    obtain rfl : i = l.length := by omega
    exact more_l0_end hV hh hp hs h2 hq hb bits hbits
  | d + 1, i, hi => by
    refine Evt.succ ?_
    simp only [skewbaldlaw07_DappleMore.l0, kinds_len]
    exact Evt.pos (by omega) (more_l1 hV hh hp hs h2 hq hb bits (show i < l.length by omega) (more_l0 hV hh hp hs h2 hq hb bits hbits d (i + 1) (by omega)) l.length 0 (by omega))
theorem lknown_ok {n : Nat} {l : List (List Int)} (hV : Valid (n : Int) l) {h p : Nat} (hh : h < l.length) (hp : p < n) {q : Nat} (hq : q ≤ 3) : skewbaldlaw07_known.f (n : Int) l (h : Int) (p : Int) (q : Int) = some ((n : Int), setAt l h p (2 ^ q)) := by
  have hr := (Valid.row hV hh).len
  have h8 := hV.r8
  have h6 := hV.h6
  unfold skewbaldlaw07_known.f
  rw [if_pos ⟨by omega, by omega, by omega, by simp only [Int.toNat_natCast]; omega, by omega, by omega, by omega, by simp only [Int.toNat_natCast]; omega⟩]
  simp
theorem take_size {s : Nat} (h1 : 1 ≤ s) (h2 : s ≤ 15) (a : Int) : ∃ q : Nat, takeD (ints (sizesL s 4)) a = q ∧ q ≤ 3 ∧ bitN s q = true := by
  have h3 : 1 ≤ (sizesL s 4).length := by
    have key : ∀ x : Fin 16, 1 ≤ x.val → 1 ≤ (sizesL x.val 4).length := by decide +kernel
    exact key ⟨s, by omega⟩ h1
  have hne : ints (sizesL s 4) ≠ [] := by
    intro e
    have := ints_length (sizesL s 4)
    rw [e] at this
    simp at this
    omega
  have hm := takeD_mem hne a
  unfold ints at hm
  obtain ⟨q, hq, e⟩ := List.mem_map.1 hm
  refine ⟨q, ?_, sizes_le hq, ?_⟩
  · rw [show ints (sizesL s 4) = (sizesL s 4).map Int.ofNat from rfl, ← e]; rfl
  · unfold sizesL at hq
    exact (List.mem_filter.1 hq).2
theorem dappleMore (W : World) (a0_0 : Int) (l0_1 : List (List Int)) (a1_0 a1_1 a1_2 : Int) (l2 : List Int) (w0 : (Lit.int .i64 a0_0).wf = true) {A : Option Addr} (hC : Kd.C (Kd.slice 3 (Kd.int .i64)) W A l0_1.length l0_1) (w1 : ∀ x ∈ l0_1, ∀ y ∈ x, (Lit.int .i64 y).wf = true) (w2 : (Lit.int .i64 a1_0).wf = true) (w3 : (Lit.int .i64 a1_1).wf = true) (w4 : (Lit.int .i64 a1_2).wf = true) {B : Option Addr} (hC1 : Kd.C (Kd.int .i64) W B l2.length l2) (w5 : ∀ x ∈ l2, (Lit.int .i64 x).wf = true) :
    ∃ k, skewbaldlaw07_DappleMore.f k a0_0 l0_1 a1_0 a1_1 a1_2 l2 = some true := by
  have hs1 : l2.length < 9223372036854775808 := by have := hC1.2.1; omega
  refine Evt.get (f := fun k => skewbaldlaw07_DappleMore.f k a0_0 l0_1 a1_0 a1_1 a1_2 l2) ?_
  unfold skewbaldlaw07_DappleMore.f
  refine Evt.bind (sound_f a0_0 l0_1) (Evt.ite (fun hv => ?_) (fun hv => Evt.bind pressed_f (Evt.pure _)))
  have hV := (valid_iff a0_0 l0_1).1 hv
  obtain ⟨n, rfl, hn8, hn1⟩ := hV.nat
  have h1 := hV.h1
  have h6 := hV.h6
  obtain ⟨h, hh, eh⟩ := Round_nat a1_0 l0_1.length h1 (by omega)
  obtain ⟨p, hp, ep⟩ := Round_nat a1_1 n (by omega) (by omega)
  have hr := (Valid.row hV hh).len
  obtain ⟨s, es, s1, s2⟩ := place_at hV hh hp
  obtain ⟨q, eq, hq, hb⟩ := take_size s1 s2 a1_2
  have hV' := set_valid hV hh hp hq
  rw [eh, ep]
  simp only [Option.bind_some]
  rw [rd1_at, rd_at, show (l0_1.getD h []).getD p 0 = (s : Int) from es]
  refine Evt.pos (by omega) (Evt.pos (by omega) (Evt.pos (by omega) (Evt.pos (by omega) (Evt.bind (List_f s 4 (by omega) (by omega)) ?_))))
  rw [Take_f _ _ (by rw [ints_length]; have := sizes_len s; omega), eq]
  simp only [Option.bind_some]
  rw [lknown_ok hV hh hp hq]
  simp only [Option.bind_some]
  refine Evt.bind (kinds_f hV) (Evt.bind (kinds_f hV') ?_)
  simp only [kinds_len, setAt_length]
  refine Evt.pos (by trivial) ?_
  rw [show ((l0_1.length : Int) != (l0_1.length : Int)) = false by simp]
  refine Evt.succ ?_
  simp only [skewbaldlaw07_DappleMore.j0]
  exact Evt.neg (by simp) (more_l0 hV hh hp es s2 hq hb l2 hs1 l0_1.length 0 (by omega))
end Go.Proofs.YtdllacjkacmghaaDoor.DappleMoreRow.Pure
