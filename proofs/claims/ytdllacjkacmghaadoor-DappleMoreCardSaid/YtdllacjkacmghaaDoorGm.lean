/- The plain laws of what statements share: numbers made small, lists, what is found. -/
import Derived.Test.YtdllacjkacmghaaDoorDTx8
import Derived.Test.YtdllacjkacmghaaDoorDTx11
import Derived.Test.YtdllacjkacmghaaDoorDTx13
import Derived.Test.YtdllacjkacmghaaDoorGj
namespace Go.Proofs.YtdllacjkacmghaaDoor.DR
open Go.RowKit Go.Proofs.YtdllacjkacmghaaDoorW.PrintWords Go.Proofs.YtdllacjkacmghaaDoorEv Go.Proofs.YtdllacjkacmghaaDoorD Go.Proofs.YtdllacjkacmghaaDoor.DT Go.Proofs.YtdllacjkacmghaaDoorH
set_option linter.unusedVariables false
set_option linter.unusedSimpArgs false

theorem tmod_cases (n m : Int) (hm : 0 < m) : (0 ≤ Int.tmod n m ∧ Int.tmod n m = n % m) ∨ (Int.tmod n m < 0 ∧ -m < Int.tmod n m ∧ Int.tmod n m + m = n % m) := by
  have h := Int.mul_tdiv_add_tmod n m
  have h1 : Int.tmod n m < m := Int.tmod_lt_of_pos n hm
  have h2 : -m < Int.tmod n m := Int.lt_tmod_of_pos n hm
  generalize Int.tmod n m = r at *
  generalize Int.tdiv n m = q at *
  subst h
  rw [Int.add_comm, Int.add_mul_emod_self_left]
  by_cases h0 : 0 ≤ r
  · exact .inl ⟨h0, (Int.emod_eq_of_lt h0 h1).symm⟩
  · refine .inr ⟨by omega, h2, ?_⟩
    rw [← Int.add_emod_right, Int.emod_eq_of_lt (by omega) (by omega)]

theorem Round_f (n : Int) (m : Nat) (h1 : 1 ≤ m) (h2 : m < 9223372036854775808) : skewbaldref00_Round.f n (m : Int) = some (n % (m : Int)) := by
  unfold skewbaldref00_Round.f
  rw [if_neg (by omega), if_neg (by omega)]
  rcases tmod_cases n m (by omega) with ⟨a, b⟩ | ⟨a, b, c⟩
  · rw [if_neg (by omega), b]
  · rw [if_pos a, ← c]
    congr 1
    unfold wrap64
    omega
theorem Round_nat (n : Int) (m : Nat) (h1 : 1 ≤ m) (h2 : m < 9223372036854775808) : ∃ t : Nat, t < m ∧ skewbaldref00_Round.f n (m : Int) = some (t : Int) := by
  have h0 := Int.emod_nonneg n (show (m : Int) ≠ 0 by omega)
  have h3 := Int.emod_lt_of_pos n (show (0 : Int) < m by omega)
  refine ⟨(n % (m : Int)).toNat, by omega, ?_⟩
  rw [Round_f n m h1 h2]
  congr 1
  omega
theorem Round_plus (p t m : Nat) (h1 : p + t < 4611686018427387904) (h2 : 1 ≤ m) (h3 : m < 4611686018427387904) : skewbaldref00_Round.f (wrap64 ((p : Int) + (t : Int))) (m : Int) = some (((p + t) % m : Nat) : Int) := by
  have hw : wrap64 ((p : Int) + (t : Int)) = ((p + t : Nat) : Int) := by unfold wrap64; omega
  rw [hw, Round_f _ m h2 (by omega)]
  simp
theorem Round_minus (t m : Nat) (ht : t < m) (h3 : m < 4611686018427387904) : skewbaldref00_Round.f (wrap64 (-(t : Int))) (m : Int) = some (((m - t) % m : Nat) : Int) := by
  have hw : wrap64 (-(t : Int)) = -(t : Int) := by unfold wrap64; omega
  rw [hw, Round_f _ m (by omega) (by omega)]
  congr 1
  rw [← Int.add_emod_right]
  have : -(t : Int) + (m : Int) = ((m - t : Nat) : Int) := by omega
  rw [this]
  simp

/-- the element of a list to which a number leads -/
def takeD (l : List Int) (n : Int) : Int := if l = [] then 0 else rd l (n % (l.length : Int))
theorem Take_f (l : List Int) (n : Int) (hl : l.length < 9223372036854775808) : skewbaldref00_Take.f l n = some (takeD l n) := by
  unfold skewbaldref00_Take.f takeD
  cases l with
  | nil => rfl
  | cons a l =>
    rw [if_neg (by simp only [List.length_cons]; omega), if_neg (List.cons_ne_nil a l), Round_f n (a :: l).length (by simp) hl]
    have h0 := Int.emod_nonneg n (show (((a :: l).length : Nat) : Int) ≠ 0 by simp only [List.length_cons]; omega)
    have h3 := Int.emod_lt_of_pos n (show (0 : Int) < (((a :: l).length : Nat) : Int) by simp only [List.length_cons]; omega)
    simp only [Option.bind_some]
    rw [if_pos h0, if_pos h3]
theorem takeD_mem {l : List Int} (h : l ≠ []) (n : Int) : takeD l n ∈ l := by
  unfold takeD
  rw [if_neg h]
  have hp : 0 < l.length := List.length_pos_iff.2 h
  have h0 := Int.emod_nonneg n (show (l.length : Int) ≠ 0 by omega)
  have h3 := Int.emod_lt_of_pos n (show (0 : Int) < (l.length : Int) by omega)
  obtain ⟨j, hj⟩ : ∃ j : Nat, n % (l.length : Int) = j := ⟨(n % (l.length : Int)).toNat, by omega⟩
  rw [hj, rd_at]
  have hl : j < l.length := by omega
  simp [hl]

/-! ### sound -/
theorem sound_l1 (R : Int) (l : List (List Int)) (i : Nat) (hi : i < l.length) (hR : ((l.getD i []).length : Int) = R) (hs : (l.getD i []).length < 9223372036854775808) (hall : ∀ s ∈ l.getD i [], 1 ≤ s ∧ s ≤ 15) (v : Bool)
    (h : Evt (fun k => skewbaldlaw07_sound.l0 k true (wrap64 ((i : Int) + 1)) R l) v) : ∀ (d j : Nat), j + d = (l.getD i []).length →
    Evt (fun k => skewbaldlaw07_sound.l1 k true (i : Int) (j : Int) R l) v
  | 0, j, hj => by
    refine Evt.succ ?_
    simp only [skewbaldlaw07_sound.l1]
    exact Evt.pos (by trivial) (Evt.neg (by omega) h)
  | d + 1, j, hj => by
    refine Evt.succ ?_
    simp only [skewbaldlaw07_sound.l1]
    have hm : 1 ≤ rd (l.getD i []) (j : Int) ∧ rd (l.getD i []) (j : Int) ≤ 15 := by
      rw [rd_at]
      have hj' : j < (l.getD i []).length := by omega
      have : (l.getD i []).getD j 0 = (l.getD i [])[j] := by rw [List.getD_eq_getElem?_getD, List.getElem?_eq_getElem hj']; rfl
      rw [this]
      exact hall _ (List.getElem_mem _)
    refine Evt.pos (by trivial) (Evt.pos (by omega) (Evt.pos (by omega) (Evt.pos (by omega) (Evt.pos (by omega) (Evt.pos (by rw [rd1_at]; omega) ?_)))))
    rw [In_f, rd1_at, w64 j (by omega)]
    simp only [Option.bind_some]
    rw [show (decide (1 ≤ rd (l.getD i []) (j : Int)) && decide (rd (l.getD i []) (j : Int) ≤ 15)) = true from by rw [Bool.and_eq_true, decide_eq_true_eq, decide_eq_true_eq]; exact hm]
    exact sound_l1 R l i hi hR hs hall v h d (j + 1) (by omega)
theorem sound_l0 {n : Nat} {l : List (List Int)} (hV : Valid (n : Int) l) : ∀ (d j : Nat), j + d = l.length →
    Evt (fun k => skewbaldlaw07_sound.l0 k true (j : Int) (n : Int) l) true
  | 0, j, hj => by
    refine Evt.succ ?_
    simp only [skewbaldlaw07_sound.l0]
    refine Evt.pos (by trivial) (Evt.succ ?_)
    simp only [skewbaldlaw07_sound.j2]
    exact Evt.neg (by simp; omega) (Evt.pure _)
  | d + 1, j, hj => by
    have h6 := hV.h6
    have h8 := hV.r8
    have hr := Valid.row hV (show j < l.length by omega)
    have hl := hr.len
    refine Evt.succ ?_
    simp only [skewbaldlaw07_sound.l0]
    refine Evt.pos (by trivial) (Evt.succ ?_)
    simp only [skewbaldlaw07_sound.j2]
    refine Evt.pos (by simp; omega) (Evt.pos (by omega) (Evt.pos (by omega) ?_))
    rw [rd1_at, show (((l.getD j []).length : Int) == (n : Int)) = true from by rw [hl]; exact beq_self_eq_true _]
    refine sound_l1 (n : Int) l j (by omega) (by omega) (by omega) hr.set true ?_ n 0 (by omega)
    rw [w64 j (by omega)]
    exact sound_l0 hV d (j + 1) (by omega)
theorem sound_f (R : Int) (l : List (List Int)) : Evt (fun k => skewbaldlaw07_sound.f k R l) (validB R l) := by
  unfold skewbaldlaw07_sound.f dapple_Check.f checkD
  simp only [Option.bind_some]
  by_cases hv : validB R l = true
  · simp only [hv, if_true]
    have hV := (valid_iff R l).1 hv
    obtain ⟨n, rfl, hn8, hn1⟩ := hV.nat
    have h1 := hV.h1
    have h6 := hV.h6
    rw [In_f, show (decide ((1 : Int) ≤ (n : Int)) && decide ((n : Int) ≤ 8)) = true by simp; omega]
    simp only [Option.bind_some]
    refine Evt.pos (by trivial) ?_
    rw [In_f, show (decide ((1 : Int) ≤ (l.length : Int)) && decide ((l.length : Int) ≤ 6)) = true by simp; omega]
    simp only [Option.bind_some]
    refine Evt.succ ?_
    simp only [skewbaldlaw07_sound.j0]
    exact sound_l0 hV l.length 0 (by omega)
  · have hv : validB R l = false := by simpa using hv
    simp only [hv, Bool.false_eq_true, if_false]
    refine Evt.neg (by omega) (Evt.succ ?_)
    simp only [skewbaldlaw07_sound.j0]
    refine Evt.succ ?_
    simp only [skewbaldlaw07_sound.l0]
    refine Evt.neg (by simp) (Evt.succ ?_)
    simp only [skewbaldlaw07_sound.j2]
    exact Evt.neg (by simp) (Evt.pure _)

def findD (l : List Int) (x : Int) : Int := if x ∈ l then (l.idxOf x : Int) else -1
theorem Find_l0 (l : List Int) (hl : l.length < 9223372036854775807) (x : Int) : ∀ (d j : Nat), j + d = l.length →
    Evt (fun k => skewbaldref00_Find.l0 k l x (j : Int)) (if x ∈ l.drop j then ((j + (l.drop j).idxOf x : Nat) : Int) else -1)
  | 0, j, hj => by
    refine Evt.succ ?_
    simp only [skewbaldref00_Find.l0]
    rw [List.drop_eq_nil_of_le (by omega)]
    exact Evt.neg (by omega) (by simpa using Evt.pure (-1 : Int))
  | d + 1, j, hj => by
    refine Evt.succ ?_
    simp only [skewbaldref00_Find.l0]
    have h1 : l.drop j = l[j] :: l.drop (j + 1) := List.drop_eq_getElem_cons (by omega)
    have g1 : rd l (j : Int) = l[j] := by rw [rd_at]; simp [show j < l.length by omega]
    rw [h1, g1, w64 j (by omega)]
    refine Evt.pos (by omega) (Evt.pos (by omega) (Evt.ite (fun h => ?_) (fun h => ?_)))
    · subst h
      rw [if_pos (List.mem_cons_self ..), List.idxOf_cons_self]
      exact Evt.pure _
    · refine (Find_l0 l hl x d (j + 1) (by omega)).of_eq ?_
      rw [show (l[j] :: l.drop (j + 1)).idxOf x = (l.drop (j + 1)).idxOf x + 1 from by rw [List.idxOf_cons, show (l[j] == x) = false from beq_eq_false_iff_ne.2 h]; rfl]
      have : x ∈ l[j] :: l.drop (j + 1) ↔ x ∈ l.drop (j + 1) := by
        rw [List.mem_cons]
        constructor
        · rintro (rfl | h2)
          · exact absurd rfl h
          · exact h2
        · exact .inr
      by_cases hm : x ∈ l.drop (j + 1)
      · rw [if_pos hm, if_pos (this.2 hm)]
        congr 1
        omega
      · rw [if_neg hm, if_neg (fun h3 => hm (this.1 h3))]
theorem Find_f (l : List Int) (hl : l.length < 9223372036854775807) (x : Int) : Evt (fun k => skewbaldref00_Find.f k l x) (findD l x) := by
  unfold skewbaldref00_Find.f
  exact (Find_l0 l hl x l.length 0 (by omega)).of_eq (by unfold findD; simp)
theorem findD_nonneg (l : List Int) (x : Int) : findD l x ≥ 0 ↔ x ∈ l := by
  unfold findD
  by_cases h : x ∈ l <;> simp [h]
theorem findD_neg (l : List Int) (x : Int) : findD l x < 0 ↔ x ∉ l := by
  unfold findD
  by_cases h : x ∈ l <;> simp [h]
theorem mem_ints {l : List Nat} {t : Nat} : (t : Int) ∈ ints l ↔ t ∈ l := by
  unfold ints
  rw [List.mem_map]
  constructor
  · rintro ⟨a, ha, h⟩
    obtain rfl : a = t := Int.ofNat.inj h
    exact ha
  · exact fun h => ⟨t, h, rfl⟩

/-! ### two horses -/
theorem two_f {R : Int} {l : List (List Int)} (h2 : 2 ≤ l.length) (h6 : l.length ≤ 6) (a b : Int) : ∃ i j : Nat, i < l.length ∧ j < l.length ∧ i ≠ j ∧ skewbaldlaw07_two.f R l a b = some ((i : Int), (j : Int)) := by
  unfold skewbaldlaw07_two.f
  obtain ⟨i, hi, ei⟩ := Round_nat a l.length (by omega) (by omega)
  obtain ⟨q, hq, eq⟩ := Round_nat b (l.length - 1) (by omega) (by omega)
  refine ⟨i, (i + 1 + q) % l.length, hi, Nat.mod_lt _ (by omega), ?_, ?_⟩
  · by_cases h : i + 1 + q < l.length
    · rw [Nat.mod_eq_of_lt h]; omega
    · rw [show i + 1 + q = (i + 1 + q - l.length) + l.length by omega, Nat.add_mod_right, Nat.mod_eq_of_lt (by omega)]; omega
  · rw [ei]
    simp only [Option.bind_some]
    rw [show wrap64 ((l.length : Int) - 1) = ((l.length - 1 : Nat) : Int) by unfold wrap64; omega, eq]
    simp only [Option.bind_some]
    rw [w64 i (by omega), Round_plus (i + 1) q l.length (by omega) (by omega) (by omega)]
    rfl
/-- what is asked of two horses of a valid book is no wrong question -/
theorem asked_ok {n : Nat} {l : List (List Int)} (hV : Valid (n : Int) l) {i j : Nat} (hi : i < l.length) (hj : j < l.length) (hij : i ≠ j) : askedD (n : Int) l (i : Int) (j : Int) = 0 := by
  unfold askedD
  rw [(valid_iff (n : Int) l).2 hV]
  have h1 : horseB l (i : Int) = true := by unfold horseB; simp; omega
  have h2 : horseB l (j : Int) = true := by unfold horseB; simp; omega
  have h3 : ((i : Int) != (j : Int)) = true := by simp; omega
  rw [h1, h2, h3]
  rfl
theorem sameD_ok {n : Nat} {l : List (List Int)} (hV : Valid (n : Int) l) {i j : Nat} (hi : i < l.length) (hj : j < l.length) (hij : i ≠ j) : sameD (n : Int) l (i : Int) (j : Int) = (((kindB n l i j : Nat) : Int), 0) := by
  unfold sameD
  rw [asked_ok hV hi hj hij]
  rfl
theorem turnsD_ok {n : Nat} {l : List (List Int)} (hV : Valid (n : Int) l) {i j : Nat} (hi : i < l.length) (hj : j < l.length) (hij : i ≠ j) : turnsD (n : Int) l (i : Int) (j : Int) = (ints (turnsL n (l.getD i []) (l.getD j []) canB), 0) := by
  unfold turnsD
  rw [asked_ok hV hi hj hij]
  rfl
theorem kind_comm (n : Nat) (l : List (List Int)) (i j : Nat) : kindB n l i j = kindB n l j i := by
  unfold kindB sameB
  rw [Nat.min_comm, Nat.max_comm]
theorem turnsL_length (n : Nat) (r s : List Int) (al : Int → Int → Bool) : (turnsL n r s al).length ≤ n := by
  unfold turnsL
  have := List.length_filter_le (fun t => (List.range n).all fun k => al (el r ((k + t) % n)) (el s k)) (List.range n)
  rwa [List.length_range] at this
theorem length_of_subset {α : Type} [DecidableEq α] : ∀ {l m : List α}, l.Nodup → (∀ x ∈ l, x ∈ m) → l.length ≤ m.length
  | [], m, _, _ => by simp
  | a :: l, m, hn, hs => by
    rw [List.nodup_cons] at hn
    have ha : a ∈ m := hs a (List.mem_cons_self ..)
    have := length_of_subset (l := l) (m := m.erase a) hn.2 (fun x hx => by
      have hxa : x ≠ a := fun e => hn.1 (e ▸ hx)
      exact (List.mem_erase_of_ne hxa).2 (hs x (List.mem_cons_of_mem _ hx)))
    have h2 := List.length_erase_of_mem ha
    have h3 := List.length_pos_of_mem ha
    simp only [List.length_cons]
    omega
end Go.Proofs.YtdllacjkacmghaaDoor.DR
