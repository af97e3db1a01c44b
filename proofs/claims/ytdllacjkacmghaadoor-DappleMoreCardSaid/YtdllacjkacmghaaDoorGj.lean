/- The plain laws of the reference's functions: what they answer, for any book. The plain laws: two horses, as the reference tells them; the chapter's examples. -/
import Derived.Test.YtdllacjkacmghaaDoorDTx1
import Derived.Test.YtdllacjkacmghaaDoorDTx2
import Derived.Test.YtdllacjkacmghaaDoorDTx3
import Derived.Test.YtdllacjkacmghaaDoorEv
namespace Go.Proofs.YtdllacjkacmghaaDoor.DR
open Go.RowKit Go.Proofs.YtdllacjkacmghaaDoorW.PrintWords Go.Proofs.YtdllacjkacmghaaDoorEv Go.Proofs.YtdllacjkacmghaaDoorD Go.Proofs.YtdllacjkacmghaaDoor.DT
set_option linter.unusedVariables false
set_option linter.unusedSimpArgs false

theorem In_f (a b c : Int) : skewbaldref00_In.f a b c = some (decide (b ≤ a) && decide (a ≤ c)) := by
  unfold skewbaldref00_In.f
  by_cases h : b ≤ a <;> simp [h]

theorem rd1_at (l : List (List Int)) (j : Nat) : rd_L1 l (j : Int) = l.getD j [] := rfl

/-- can two rows be the same, in a turn -/
def canT (R : Nat) (r s : List Int) (t : Nat) : Bool := (List.range R).all fun k => canB (r.getD ((k + t) % R) 0) (s.getD k 0)
end Go.Proofs.YtdllacjkacmghaaDoor.DR

namespace Go.Proofs.YtdllacjkacmghaaDoor.DR
open Go.RowKit Go.Proofs.YtdllacjkacmghaaDoorW.PrintWords Go.Proofs.YtdllacjkacmghaaDoorW.PrintMore Go.Proofs.YtdllacjkacmghaaDoorEv Go.Proofs.YtdllacjkacmghaaDoorD Go.Proofs.YtdllacjkacmghaaDoor.DT
set_option linter.unusedVariables false
set_option linter.unusedSimpArgs false

theorem Of_f (s i : Nat) (hs : s < 256) (hi : i < 64) : skewbaldref00_Of.f (s : Int) (i : Int) = some (bitN s i) := by
  unfold skewbaldref00_Of.f
  rw [if_pos (by omega)]
  congr 1
  have : shr .i64 (s : Int) (i : Int) = (s : Int) / 2 ^ i := by
    unfold shr
    rw [show min (i : Int).toNat (IntKind.i64).bits = i by simp [IntKind.bits]; omega]
  rw [this]
  exact Go.Proofs.YtdllacjkacmghaaDoorH.bit_at s i hs
theorem List_l0 (s n : Nat) (hs : s < 256) (hn : n < 64) : ∀ (d j : Nat), j + d = n →
    Evt (fun k => skewbaldref00_List.l0 k (s : Int) (n : Int) (ints ((List.range j).filter (bitN s))) (j : Int)) (ints ((List.range n).filter (bitN s)))
  | 0, j, hj => by
    refine Evt.succ ?_
    simp only [skewbaldref00_List.l0]
    refine Evt.neg (by omega) ?_
    obtain rfl : j = n := by omega
    exact Evt.pure _
  | d + 1, j, hj => by
    refine Evt.succ ?_
    simp only [skewbaldref00_List.l0]
    refine Evt.pos (by omega) ?_
    rw [Of_f s j hs (by omega), w64 j (by omega)]
    simp only [Option.bind_some]
    have ih := List_l0 s n hs hn d (j + 1) (by omega)
    cases hc : bitN s j with
    | true =>
      rw [filter_next_yes hc, ints_append] at ih
      have hl : (ints ((List.range j).filter (bitN s))).length ≤ j := by
        rw [ints_length]
        have := List.length_filter_le (bitN s) (List.range j)
        rwa [List.length_range] at this
      exact Evt.pos rfl (Evt.pos (by omega) ih)
    | false =>
      rw [filter_next_no hc] at ih
      exact Evt.neg (by simp) ih
/-- the sizes of a set -/
def sizesL (s n : Nat) : List Nat := (List.range n).filter (bitN s)
theorem List_f (s n : Nat) (hs : s < 256) (hn : n < 64) : Evt (fun k => skewbaldref00_List.f k (s : Int) (n : Int)) (ints (sizesL s n)) := by
  unfold skewbaldref00_List.f
  exact List_l0 s n hs hn n 0 (by omega)

def singleB (s : Int) : Bool := ((sizesL s.toNat 4).length : Int) == 1
def knownR (r : List Int) : Bool := r.all singleB
/-! ### sets of sizes -/
theorem fin_sure : ∀ x y : Fin 16, 1 ≤ x.val → 1 ≤ y.val → sureB (x.val : Int) (y.val : Int) = (decide (x = y) && singleB (x.val : Int)) := by decide +kernel
theorem fin_can : ∀ x y : Fin 16, 1 ≤ x.val → 1 ≤ y.val → singleB (x.val : Int) = true → singleB (y.val : Int) = true → canB (x.val : Int) (y.val : Int) = decide (x = y) := by decide +kernel
theorem fin_comm : ∀ x y : Fin 16, canB (x.val : Int) (y.val : Int) = canB (y.val : Int) (x.val : Int) := by decide +kernel
theorem fin_self : ∀ x : Fin 16, 1 ≤ x.val → canB (x.val : Int) (x.val : Int) = true := by decide +kernel
theorem to_fin {x : Int} (h1 : 1 ≤ x) (h2 : x ≤ 15) : ∃ f : Fin 16, x = (f.val : Int) ∧ 1 ≤ f.val := ⟨⟨x.toNat, by omega⟩, by simp; omega, by simp; omega⟩
theorem sure_eq {x y : Int} (hx1 : 1 ≤ x) (hx2 : x ≤ 15) (hy1 : 1 ≤ y) (hy2 : y ≤ 15) : sureB x y = true ↔ x = y ∧ singleB x = true := by
  obtain ⟨a, rfl, ha⟩ := to_fin hx1 hx2
  obtain ⟨b, rfl, hb⟩ := to_fin hy1 hy2
  rw [fin_sure a b ha hb]
  simp only [Bool.and_eq_true, decide_eq_true_eq]
  constructor
  · rintro ⟨rfl, h⟩; exact ⟨rfl, h⟩
  · rintro ⟨h1, h2⟩; exact ⟨Fin.ext (by omega), h2⟩
theorem can_eq {x y : Int} (hx1 : 1 ≤ x) (hx2 : x ≤ 15) (hy1 : 1 ≤ y) (hy2 : y ≤ 15) (sx : singleB x = true) (sy : singleB y = true) : canB x y = true ↔ x = y := by
  obtain ⟨a, rfl, ha⟩ := to_fin hx1 hx2
  obtain ⟨b, rfl, hb⟩ := to_fin hy1 hy2
  rw [fin_can a b ha hb sx sy]
  simp only [decide_eq_true_eq]
  constructor
  · rintro rfl; rfl
  · intro h; exact Fin.ext (by omega)
theorem can_comm {x y : Int} (hx1 : 1 ≤ x) (hx2 : x ≤ 15) (hy1 : 1 ≤ y) (hy2 : y ≤ 15) : canB x y = canB y x := by
  obtain ⟨a, rfl, ha⟩ := to_fin hx1 hx2
  obtain ⟨b, rfl, hb⟩ := to_fin hy1 hy2
  exact fin_comm a b
theorem can_self {x : Int} (hx1 : 1 ≤ x) (hx2 : x ≤ 15) : canB x x = true := by
  obtain ⟨a, rfl, ha⟩ := to_fin hx1 hx2
  exact fin_self a ha

/-- a row of a valid book -/
structure RowOk (n : Nat) (r : List Int) : Prop where
  len : r.length = n
  set : ∀ s ∈ r, 1 ≤ s ∧ s ≤ 15
theorem RowOk.at {n : Nat} {r : List Int} (h : RowOk n r) {k : Nat} (hk : k < n) : 1 ≤ r.getD k 0 ∧ r.getD k 0 ≤ 15 := by
  have hl := h.len
  have : r.getD k 0 = r[k]'(by omega) := by simp [show k < r.length by omega]
  rw [this]
  exact h.set _ (List.getElem_mem _)
theorem Valid.row {n : Nat} {l : List (List Int)} (h : Valid (n : Int) l) {i : Nat} (hi : i < l.length) : RowOk n (l.getD i []) :=
  ⟨by have := h.len _ (getD_mem hi); omega, h.set _ (getD_mem hi)⟩

def isTurn (n : Nat) (r s : List Int) (al : Int → Int → Bool) (t : Nat) : Prop := ∀ k, k < n → al (r.getD ((k + t) % n) 0) (s.getD k 0) = true
theorem mem_turns {n : Nat} {r s : List Int} {al : Int → Int → Bool} {t : Nat} : t ∈ turnsL n r s al ↔ t < n ∧ isTurn n r s al t := by
  unfold turnsL isTurn
  simp only [List.mem_filter, List.mem_range, List.all_eq_true]
  rfl
theorem some_turn {n : Nat} {r s : List Int} {al : Int → Int → Bool} : (!(turnsL n r s al).isEmpty) = true ↔ ∃ t, t < n ∧ isTurn n r s al t := by
  rw [Bool.not_eq_true', List.isEmpty_eq_false_iff_exists_mem]
  simp only [mem_turns]

theorem back_mod {n t k : Nat} (ht : t < n) (hk : k < n) : ((k + (n - t) % n) % n + t) % n = k := by
  rcases Nat.eq_zero_or_pos t with rfl | h0
  · simp [Nat.mod_eq_of_lt hk]
  · rw [Nat.mod_eq_of_lt (show n - t < n by omega), Nat.mod_add_mod, show k + (n - t) + t = k + n by omega, Nat.add_mod_right, Nat.mod_eq_of_lt hk]
theorem isTurn_back {n : Nat} {r s : List Int} (hr : RowOk n r) (hs : RowOk n s) {t : Nat} (ht : t < n) (h : isTurn n r s canB t) : isTurn n s r canB ((n - t) % n) := by
  intro k hk
  have hb := back_mod ht hk
  have hj : (k + (n - t) % n) % n < n := Nat.mod_lt _ (by omega)
  have := h _ hj
  rw [hb] at this
  rw [can_comm (hs.at hj).1 (hs.at hj).2 (hr.at hk).1 (hr.at hk).2]
  exact this
theorem turn_comm {n : Nat} {r s : List Int} (hr : RowOk n r) (hs : RowOk n s) : (!(turnsL n r s canB).isEmpty) = (!(turnsL n s r canB).isEmpty) := by
  rw [Bool.eq_iff_iff, some_turn, some_turn]
  constructor
  · rintro ⟨t, ht, h⟩; exact ⟨_, Nat.mod_lt _ (by omega), isTurn_back hr hs ht h⟩
  · rintro ⟨t, ht, h⟩; exact ⟨_, Nat.mod_lt _ (by omega), isTurn_back hs hr ht h⟩
theorem known_at {n : Nat} {r : List Int} (hr : RowOk n r) (h : knownR r = true) {k : Nat} (hk : k < n) : singleB (r.getD k 0) = true := by
  unfold knownR at h
  rw [List.all_eq_true] at h
  have hl := hr.len
  have : r.getD k 0 = r[k]'(by omega) := by simp [show k < r.length by omega]
  rw [this]
  exact h _ (List.getElem_mem _)
theorem known_of {n : Nat} {r : List Int} (hr : RowOk n r) (h : ∀ k, k < n → singleB (r.getD k 0) = true) : knownR r = true := by
  unfold knownR
  rw [List.all_eq_true]
  intro x hx
  obtain ⟨k, hk, rfl⟩ := List.getElem_of_mem hx
  have := h k (by have := hr.len; omega)
  rwa [show r.getD k 0 = r[k] by simp [hk]] at this
/-- two rows surely are the same in a turn just if all is known, and they can be -/
theorem turn_sure {n : Nat} {r s : List Int} (hr : RowOk n r) (hs : RowOk n s) : (!(turnsL n r s sureB).isEmpty) = ((!(turnsL n r s canB).isEmpty) && (knownR r && knownR s)) := by
  rw [Bool.eq_iff_iff, Bool.and_eq_true, Bool.and_eq_true, some_turn, some_turn]
  constructor
  · rintro ⟨t, ht, h⟩
    have hk : ∀ k, k < n → r.getD ((k + t) % n) 0 = s.getD k 0 ∧ singleB (r.getD ((k + t) % n) 0) = true := fun k hk => by
      have hj : (k + t) % n < n := Nat.mod_lt _ (by omega)
      exact (sure_eq (hr.at hj).1 (hr.at hj).2 (hs.at hk).1 (hs.at hk).2).1 (h k hk)
    refine ⟨⟨t, ht, fun k hk' => ?_⟩, known_of hr fun k hk' => ?_, known_of hs fun k hk' => ?_⟩
    · rw [(hk k hk').1]; exact can_self (hs.at hk').1 (hs.at hk').2
    · have hj : (k + (n - t) % n) % n < n := Nat.mod_lt _ (by omega)
      have := (hk _ hj).2
      rwa [back_mod ht hk'] at this
    · have := hk k hk'
      rw [← this.1]; exact this.2
  · rintro ⟨⟨t, ht, h⟩, h1, h2⟩
    refine ⟨t, ht, fun k hk => ?_⟩
    have hj : (k + t) % n < n := Nat.mod_lt _ (by omega)
    rw [sure_eq (hr.at hj).1 (hr.at hj).2 (hs.at hk).1 (hs.at hk).2]
    exact ⟨(can_eq (hr.at hj).1 (hr.at hj).2 (hs.at hk).1 (hs.at hk).2 (known_at hr h1 hj) (known_at hs h2 hk)).1 (h k hk), known_at hr h1 hj⟩

/-- what is told of two horses, as the chapter says it -/
theorem kind_eq {n : Nat} {l : List (List Int)} (hV : Valid (n : Int) l) {i j : Nat} (hi : i < l.length) (hj : j < l.length) :
    kindB n l i j = if (!(turnsL n (l.getD i []) (l.getD j []) canB).isEmpty) then (if knownR (l.getD i []) && knownR (l.getD j []) then 2 else 1) else 0 := by
  have hri := Valid.row hV hi
  have hrj := Valid.row hV hj
  have key : ∀ a b, a < l.length → b < l.length → (if (!(turnsL n (l.getD a []) (l.getD b []) canB).isEmpty) = true then 1 else 0) + (if (!(turnsL n (l.getD a []) (l.getD b []) sureB).isEmpty) = true then 1 else 0) = (if (!(turnsL n (l.getD a []) (l.getD b []) canB).isEmpty) = true then (if (knownR (l.getD a []) && knownR (l.getD b [])) = true then 2 else 1) else 0) := fun a b ha hb => by
    rw [turn_sure (Valid.row hV ha) (Valid.row hV hb)]
    cases (!(turnsL n (l.getD a []) (l.getD b []) canB).isEmpty) <;> cases knownR (l.getD a []) <;> cases knownR (l.getD b []) <;> rfl
  unfold kindB sameB
  have e0 : alB 0 = canB := rfl
  have e1 : alB 1 = sureB := rfl
  rw [e0, e1]
  rcases Nat.le_total i j with h | h
  · rw [Nat.min_eq_left h, Nat.max_eq_right h]
    exact key i j hi hj
  · rw [Nat.min_eq_right h, Nat.max_eq_left h, key j i hj hi, turn_comm hrj hri, Bool.and_comm]

/-! ### the chapter's examples -/
theorem pressed_f : Evt (fun k => skewbaldlaw07_pressed.f k) true := Evt.of_mono (fun k => skewbaldlaw07_pressed.mono k) (k := 30) (by decide +kernel)
end Go.Proofs.YtdllacjkacmghaaDoor.DR
