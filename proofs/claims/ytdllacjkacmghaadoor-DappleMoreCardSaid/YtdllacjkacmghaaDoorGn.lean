/- The plain laws of DappleBack and DappleKnowing. -/
import Derived.Test.YtdllacjkacmghaaDoorDTx9
import Derived.Test.YtdllacjkacmghaaDoorDTx10
import Derived.Test.YtdllacjkacmghaaDoorGm
namespace Go.Proofs.YtdllacjkacmghaaDoor.DR
open Go.RowKit Go.Proofs.YtdllacjkacmghaaDoorW.PrintWords Go.Proofs.YtdllacjkacmghaaDoorEv Go.Proofs.YtdllacjkacmghaaDoorD Go.Proofs.YtdllacjkacmghaaDoor.DT Go.Proofs.YtdllacjkacmghaaDoorH
set_option linter.unusedVariables false
set_option linter.unusedSimpArgs false

theorem can_iff {n : Nat} {r s : List Int} {t : Nat} : canT n r s t = true ↔ isTurn n r s canB t := by
  unfold canT isTurn
  simp only [List.all_eq_true, List.mem_range]
theorem back_iff {n : Nat} {r s : List Int} (hr : RowOk n r) (hs : RowOk n s) {t : Nat} (ht : t < n) : isTurn n s r canB ((n - t) % n) ↔ isTurn n r s canB t := by
  constructor
  · intro h
    have := isTurn_back hs hr (Nat.mod_lt _ (by omega)) h
    have e : (n - (n - t) % n) % n = t := by
      rcases Nat.eq_zero_or_pos t with rfl | h0
      · simp
      · rw [Nat.mod_eq_of_lt (show n - t < n by omega), show n - (n - t) = t by omega, Nat.mod_eq_of_lt ht]
    rwa [e] at this
  · exact fun h => isTurn_back hr hs ht h
theorem turns_len_le {n : Nat} {r s : List Int} (hr : RowOk n r) (hs : RowOk n s) : (turnsL n r s canB).length ≤ (turnsL n s r canB).length := by
  have h1 : ((turnsL n r s canB).map fun t => (n - t) % n).length = (turnsL n r s canB).length := List.length_map _
  rw [← h1]
  refine length_of_subset ?_ (fun x hx => ?_)
  · have hnd : (turnsL n r s canB).Pairwise (· < ·) := List.pairwise_lt_range.filter _
    refine List.pairwise_map.2 ?_
    refine List.Pairwise.imp_of_mem (R := fun a b => a < b) (fun {a b} ha hb hab e => ?_) hnd
    have ha' := (mem_turns.1 ha).1
    have hb' := (mem_turns.1 hb).1
    rw [Nat.mod_eq_of_lt (show n - b < n by omega)] at e
    rcases Nat.eq_zero_or_pos a with rfl | h0
    · simp at e; omega
    · rw [Nat.mod_eq_of_lt (show n - a < n by omega)] at e; omega
  · obtain ⟨t, ht, rfl⟩ := List.mem_map.1 hx
    have h := mem_turns.1 ht
    exact mem_turns.2 ⟨Nat.mod_lt _ (by omega), isTurn_back hr hs h.1 h.2⟩
theorem turns_len_comm {n : Nat} {r s : List Int} (hr : RowOk n r) (hs : RowOk n s) : (turnsL n r s canB).length = (turnsL n s r canB).length :=
  Nat.le_antisymm (turns_len_le hr hs) (turns_len_le hs hr)
theorem kind_some {n : Nat} {l : List (List Int)} (hV : Valid (n : Int) l) {i j : Nat} (hi : i < l.length) (hj : j < l.length) : 0 < kindB n l i j ↔ 0 < (turnsL n (l.getD i []) (l.getD j []) canB).length := by
  rw [kind_eq hV hi hj]
  cases h : turnsL n (l.getD i []) (l.getD j []) canB with
  | nil => simp
  | cons a b =>
    simp only [List.isEmpty_cons, Bool.not_false, if_true, List.length_cons]
    split <;> simp
theorem kind_two {n : Nat} {l : List (List Int)} (hV : Valid (n : Int) l) {i j : Nat} (hi : i < l.length) (hj : j < l.length) : kindB n l i j = 2 ↔ 0 < (turnsL n (l.getD i []) (l.getD j []) canB).length ∧ knownR (l.getD i []) = true ∧ knownR (l.getD j []) = true := by
  rw [kind_eq hV hi hj]
  cases h : turnsL n (l.getD i []) (l.getD j []) canB with
  | nil => simp
  | cons a b =>
    simp only [List.isEmpty_cons, Bool.not_false, if_true, List.length_cons]
    cases knownR (l.getD i []) <;> cases knownR (l.getD j []) <;> simp

theorem back_end {n : Nat} {l : List (List Int)} (hV : Valid (n : Int) l) {i j : Nat} (hi : i < l.length) (hj : j < l.length) {t : Nat} (ht : t < n) (b : Bool) (hb : b = canT n (l.getD i []) (l.getD j []) t) :
    Evt (fun k => skewbaldlaw07_DappleBack.l0 k (i : Int) (j : Int) (t : Int) (ints (turnsL n (l.getD i []) (l.getD j []) canB)) 0 (ints (turnsL n (l.getD j []) (l.getD i []) canB)) 0 ((kindB n l i j : Nat) : Int) 0 ((kindB n l j i : Nat) : Int) 0 b (n : Int) (n : Int) l) true := by
  have hri := Valid.row hV hi
  have hrj := Valid.row hV hj
  have hn8 := hV.r8
  have s1 : (ints (turnsL n (l.getD i []) (l.getD j []) canB)).length < 9223372036854775807 := by
    rw [ints_length]; have := turnsL_length n (l.getD i []) (l.getD j []) canB; omega
  have s2 : (ints (turnsL n (l.getD j []) (l.getD i []) canB)).length < 9223372036854775807 := by
    rw [ints_length]; have := turnsL_length n (l.getD j []) (l.getD i []) canB; omega
  refine Evt.succ ?_
  simp only [skewbaldlaw07_DappleBack.l0]
  refine Evt.neg (by omega) (Evt.pos (by trivial) (Evt.pos (by trivial) (Evt.pos (by trivial) (Evt.pos (by trivial) (Evt.pos (by rw [kind_comm]) ?_)))))
  refine Evt.pos ?_ ?_
  · have := kind_some hV hi hj
    rw [beq_iff_eq, decide_eq_decide, ints_length]
    omega
  refine Evt.pos (by rw [ints_length, ints_length, turns_len_comm hri hrj]) ?_
  refine Evt.bind (Find_f _ s1 (t : Int)) (Evt.pos ?_ ?_)
  · subst hb
    rw [beq_iff_eq, Bool.eq_iff_iff, decide_eq_true_eq, findD_nonneg, mem_ints, mem_turns, can_iff]
    exact ⟨fun h => h.2, fun h => ⟨ht, h⟩⟩
  rw [Round_minus t n ht (by omega)]
  simp only [Option.bind_some]
  refine Evt.bind (Find_f _ s2 _) (Evt.pos ?_ ?_)
  · subst hb
    rw [beq_iff_eq, Bool.eq_iff_iff, decide_eq_true_eq, findD_nonneg, mem_ints, mem_turns, can_iff, back_iff hri hrj ht]
    exact ⟨fun h => h.2, fun h => ⟨Nat.mod_lt _ (by omega), h⟩⟩
  exact Evt.bind pressed_f (Evt.pure _)

theorem back_l0 {n : Nat} {l : List (List Int)} (hV : Valid (n : Int) l) {i j : Nat} (hi : i < l.length) (hj : j < l.length) {t : Nat} (ht : t < n) : ∀ (d p : Nat) (b : Bool), p + d = n → b = ((List.range p).all fun q => canB ((l.getD i []).getD ((q + t) % n) 0) ((l.getD j []).getD q 0)) →
    Evt (fun k => skewbaldlaw07_DappleBack.l0 k (i : Int) (j : Int) (t : Int) (ints (turnsL n (l.getD i []) (l.getD j []) canB)) 0 (ints (turnsL n (l.getD j []) (l.getD i []) canB)) 0 ((kindB n l i j : Nat) : Int) 0 ((kindB n l j i : Nat) : Int) 0 b (p : Int) (n : Int) l) true
  | 0, p, b, hp, hb => by
    obtain rfl : p = n := by omega
    exact back_end hV hi hj ht b hb
  | d + 1, p, b, hp, hb => by
    have hri := (Valid.row hV hi).len
    have hrj := (Valid.row hV hj).len
    have hn8 := hV.r8
    have h6 := hV.h6
    have hlt : (p + t) % n < n := Nat.mod_lt _ (by omega)
    have ih := fun (b' : Bool) hb' => back_l0 hV hi hj ht d (p + 1) b' (by omega) hb'
    rw [List.range_succ, List.all_append, ← hb] at ih
    refine Evt.succ ?_
    simp only [skewbaldlaw07_DappleBack.l0]
    refine Evt.pos (by omega) ?_
    rw [w64 p (by omega), rd1_at, rd1_at]
    cases b with
    | false => exact Evt.neg (by simp) (ih false (by simp))
    | true =>
      refine Evt.pos (by trivial) (Evt.pos (by omega) (Evt.pos (by omega) ?_))
      rw [Round_plus p t n (by omega) (by omega) (by omega)]
      simp only [Option.bind_some]
      refine Evt.pos (by omega) (Evt.pos (by omega) (Evt.pos (by omega) (Evt.pos (by omega) (Evt.pos (by omega) (Evt.pos (by omega) ?_)))))
      exact ih _ (by simp only [List.all_cons, List.all_nil, Bool.and_true, Bool.true_and]; rfl)

theorem back_f {n : Nat} {l : List (List Int)} (hV : Valid (n : Int) l) (h2 : 2 ≤ l.length) (a b c : Int) : Evt (fun k => skewbaldlaw07_DappleBack.j0 k false (n : Int) l a b c) true := by
  have hn1 := hV.r1
  have hn8 := hV.r8
  obtain ⟨i, j, hi, hj, hij, e⟩ := two_f (R := (n : Int)) h2 hV.h6 a b
  obtain ⟨t, ht, et⟩ := Round_nat c n (by omega) (by omega)
  refine Evt.succ ?_
  simp only [skewbaldlaw07_DappleBack.j0]
  refine Evt.neg (by simp) ?_
  rw [e]
  simp only [Option.bind_some]
  rw [et]
  simp only [Option.bind_some, dapple_Turns.f, dapple_Same.f]
  rw [turnsD_ok hV hi hj hij, turnsD_ok hV hj hi hij.symm, sameD_ok hV hi hj hij, sameD_ok hV hj hi hij.symm]
  exact back_l0 hV hi hj ht n 0 true (by omega) rfl
end Go.Proofs.YtdllacjkacmghaaDoor.DR
namespace Go.Proofs.YtdllacjkacmghaaDoor.DappleBackRow.Pure
open Go.RowKit Go.Proofs.YtdllacjkacmghaaDoorW.PrintWords Go.Proofs.YtdllacjkacmghaaDoorEv Go.Proofs.YtdllacjkacmghaaDoorD Go.Proofs.YtdllacjkacmghaaDoor.DT Go.Proofs.YtdllacjkacmghaaDoor.DR Go.Proofs.YtdllacjkacmghaaDoorH
set_option linter.unusedVariables false
theorem dappleBack (W : World) (a0_0 : Int) (l0_1 : List (List Int)) (a1_0 a1_1 a1_2 : Int) (w0 : (Lit.int .i64 a0_0).wf = true) {A : Option Addr} (hC : Kd.C (Kd.slice 3 (Kd.int .i64)) W A l0_1.length l0_1) (w1 : ∀ x ∈ l0_1, ∀ y ∈ x, (Lit.int .i64 y).wf = true) (w2 : (Lit.int .i64 a1_0).wf = true) (w3 : (Lit.int .i64 a1_1).wf = true) (w4 : (Lit.int .i64 a1_2).wf = true) :
    ∃ k, skewbaldlaw07_DappleBack.f k a0_0 l0_1 a1_0 a1_1 a1_2 = some true := by
  refine Evt.get (f := fun k => skewbaldlaw07_DappleBack.f k a0_0 l0_1 a1_0 a1_1 a1_2) ?_
  have yes : Evt (fun k => skewbaldlaw07_DappleBack.j0 k true a0_0 l0_1 a1_0 a1_1 a1_2) true := by
    refine Evt.succ ?_
    simp only [skewbaldlaw07_DappleBack.j0]
    exact Evt.pos (by trivial) (Evt.bind pressed_f (Evt.pure _))
  unfold skewbaldlaw07_DappleBack.f
  refine Evt.bind (sound_f a0_0 l0_1) (Evt.ite (fun hv => ?_) (fun _ => yes))
  have hV := (valid_iff a0_0 l0_1).1 hv
  obtain ⟨n, rfl, hn8, hn1⟩ := hV.nat
  by_cases h2 : (l0_1.length : Int) < 2
  · rw [decide_eq_true h2]; exact yes
  · rw [decide_eq_false h2]; exact back_f hV (by omega) _ _ _
end Go.Proofs.YtdllacjkacmghaaDoor.DappleBackRow.Pure

namespace Go.Proofs.YtdllacjkacmghaaDoor.DappleKnowingRow.Pure
open Go.RowKit Go.Proofs.YtdllacjkacmghaaDoorW.PrintWords Go.Proofs.YtdllacjkacmghaaDoorEv Go.Proofs.YtdllacjkacmghaaDoorD Go.Proofs.YtdllacjkacmghaaDoor.DT Go.Proofs.YtdllacjkacmghaaDoor.DR Go.Proofs.YtdllacjkacmghaaDoorH
set_option linter.unusedVariables false
theorem know_l0 {n : Nat} {l : List (List Int)} (hV : Valid (n : Int) l) {i j : Nat} (hi : i < l.length) (hj : j < l.length) (z : Bool) : ∀ (d p : Nat) (b : Bool), p + d = n → b = (z && ((List.range p).all fun q => singleB ((l.getD i []).getD q 0) && singleB ((l.getD j []).getD q 0))) → (((kindB n l i j : Nat) : Int) == 2) = (z && (knownR (l.getD i []) && knownR (l.getD j []))) →
    Evt (fun k => skewbaldlaw07_DappleKnowing.l0 k (i : Int) (j : Int) ((kindB n l i j : Nat) : Int) 0 0 b (p : Int) (n : Int) l) true
  | 0, p, b, hp, hb, hz => by
    obtain rfl : p = n := by omega
    have hri := Valid.row hV hi
    have hrj := Valid.row hV hj
    refine Evt.succ ?_
    simp only [skewbaldlaw07_DappleKnowing.l0]
    refine Evt.neg (by omega) (Evt.pos (by trivial) (Evt.pos (by trivial) (Evt.pos ?_ (Evt.bind pressed_f (Evt.pure _)))))
    rw [beq_iff_eq, hz, hb]
    congr 1
    rw [Bool.eq_iff_iff, Bool.and_eq_true, List.all_eq_true]
    constructor
    · intro h q hq
      rw [Bool.and_eq_true]
      exact ⟨known_at hri h.1 (List.mem_range.1 hq), known_at hrj h.2 (List.mem_range.1 hq)⟩
    · intro h
      exact ⟨known_of hri fun k hk => (Bool.and_eq_true _ _ ▸ h k (List.mem_range.2 hk)).1, known_of hrj fun k hk => (Bool.and_eq_true _ _ ▸ h k (List.mem_range.2 hk)).2⟩
  | d + 1, p, b, hp, hb, hz => by
    have hri := Valid.row hV hi
    have hrj := Valid.row hV hj
    have hli := hri.len
    have hlj := hrj.len
    have hn8 := hV.r8
    have h6 := hV.h6
    have ai := hri.at (k := p) (by omega)
    have aj := hrj.at (k := p) (by omega)
    obtain ⟨x, ex⟩ : ∃ x : Nat, (l.getD i []).getD p 0 = x := ⟨((l.getD i []).getD p 0).toNat, by omega⟩
    obtain ⟨y, ey⟩ : ∃ y : Nat, (l.getD j []).getD p 0 = y := ⟨((l.getD j []).getD p 0).toNat, by omega⟩
    have ih := fun (b' : Bool) hb' => know_l0 hV hi hj z d (p + 1) b' (by omega) hb' hz
    rw [List.range_succ, List.all_append, ← Bool.and_assoc, ← hb] at ih
    simp only [List.all_cons, List.all_nil, Bool.and_true] at ih
    rw [ex, ey] at ih
    refine Evt.succ ?_
    simp only [skewbaldlaw07_DappleKnowing.l0]
    refine Evt.pos (by omega) ?_
    rw [w64 p (by omega), rd1_at, rd1_at, rd_at, rd_at, ex, ey]
    cases b with
    | false => exact Evt.neg (by simp) (ih false (by simp))
    | true =>
      refine Evt.pos (by trivial) (Evt.pos (by omega) (Evt.pos (by omega) (Evt.pos (by omega) (Evt.pos (by omega) ?_))))
      refine Evt.bind (List_f x 4 (by omega) (by omega)) (Evt.ite (fun h1 => ?_) (fun h1 => ?_))
      · refine Evt.pos (by omega) (Evt.pos (by omega) (Evt.pos (by omega) ?_))
        refine Evt.bind (List_f y 4 (by omega) (by omega)) ?_
        refine ih _ ?_
        have : singleB (x : Int) = true := by unfold singleB; rw [ints_length] at h1; simpa using h1
        rw [this, ints_length]
        rfl
      · refine ih _ ?_
        have : singleB (x : Int) = false := by unfold singleB; rw [ints_length] at h1; simpa using h1
        rw [this]
        rfl
theorem dappleKnowing (W : World) (a0_0 : Int) (l0_1 : List (List Int)) (a1_0 a1_1 : Int) (w0 : (Lit.int .i64 a0_0).wf = true) {A : Option Addr} (hC : Kd.C (Kd.slice 3 (Kd.int .i64)) W A l0_1.length l0_1) (w1 : ∀ x ∈ l0_1, ∀ y ∈ x, (Lit.int .i64 y).wf = true) (w2 : (Lit.int .i64 a1_0).wf = true) (w3 : (Lit.int .i64 a1_1).wf = true) :
    ∃ k, skewbaldlaw07_DappleKnowing.f k a0_0 l0_1 a1_0 a1_1 = some true := by
  refine Evt.get (f := fun k => skewbaldlaw07_DappleKnowing.f k a0_0 l0_1 a1_0 a1_1) ?_
  have yes : Evt (fun k => skewbaldlaw07_DappleKnowing.j0 k true a0_0 l0_1 a1_0 a1_1) true := by
    refine Evt.succ ?_
    simp only [skewbaldlaw07_DappleKnowing.j0]
    exact Evt.pos (by trivial) (Evt.bind pressed_f (Evt.pure _))
  unfold skewbaldlaw07_DappleKnowing.f
  refine Evt.bind (sound_f a0_0 l0_1) (Evt.ite (fun hv => ?_) (fun _ => yes))
  have hV := (valid_iff a0_0 l0_1).1 hv
  obtain ⟨n, rfl, hn8, hn1⟩ := hV.nat
  by_cases h2 : (l0_1.length : Int) < 2
  · rw [decide_eq_true h2]; exact yes
  · rw [decide_eq_false h2]
    obtain ⟨i, j, hi, hj, hij, e⟩ := two_f (R := (n : Int)) (l := l0_1) (by omega) hV.h6 a1_0 a1_1
    refine Evt.succ ?_
    simp only [skewbaldlaw07_DappleKnowing.j0]
    refine Evt.neg (by simp) ?_
    rw [e]
    simp only [Option.bind_some, dapple_Turns.f, dapple_Same.f]
    rw [turnsD_ok hV hi hj hij, sameD_ok hV hi hj hij]
    refine know_l0 hV hi hj _ n 0 _ (by omega) (by rw [List.range_zero, List.all_nil, Bool.and_true]) ?_
    have := kind_two hV hi hj
    rw [Bool.eq_iff_iff, Bool.and_eq_true, Bool.and_eq_true, beq_iff_eq, decide_eq_true_eq, ints_length]
    constructor
    · intro h
      have h' := this.1 (by omega)
      exact ⟨by omega, h'.2⟩
    · intro h
      have h' := this.2 ⟨by omega, h.2⟩
      omega
end Go.Proofs.YtdllacjkacmghaaDoor.DappleKnowingRow.Pure
