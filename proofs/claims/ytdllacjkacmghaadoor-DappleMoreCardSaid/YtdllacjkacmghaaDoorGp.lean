/- The plain laws of the reference's first pair, counts of pairs, fewest horses, and of the dapple that should be looked at. -/
import Derived.Test.YtdllacjkacmghaaDoorDTx18
import Derived.Test.YtdllacjkacmghaaDoorDTx0
import Derived.Test.YtdllacjkacmghaaDoorDTx1
import Derived.Test.YtdllacjkacmghaaDoorDTx2
import Derived.Test.YtdllacjkacmghaaDoorGo
import Derived.Test.YtdllacjkacmghaaDoorKr
namespace Go.Proofs.YtdllacjkacmghaaDoor.DR
open Go.RowKit Go.Proofs.YtdllacjkacmghaaDoorW.PrintWords Go.Proofs.YtdllacjkacmghaaDoorEv Go.Proofs.YtdllacjkacmghaaDoorD Go.Proofs.YtdllacjkacmghaaDoor.DT Go.Proofs.YtdllacjkacmghaaDoorH Go.Proofs.YtdllacjkacmghaaDoorK
set_option linter.unusedVariables false
set_option linter.unusedSimpArgs false

/-! ### many -/
def badS (n : Nat) (l : List (List Int)) (s i k : Nat) : Bool := !bitN s i && (!bitN s k && sameB n l i k 0)
def manyFrom (n : Nat) (l : List (List Int)) (s : Nat) (i d : Nat) : Nat := ((List.range' i d).map fun i => (List.range' (i + 1) (l.length - (i + 1))).countP (badS n l s i)).sum
def manyD (n : Nat) (l : List (List Int)) (s : Nat) : Nat := manyFrom n l s 0 l.length
theorem swap_sums (f : Nat → Nat → Bool) : ∀ m : Nat, ((List.range m).map fun i => (List.range' (i + 1) (m - (i + 1))).countP (f i)).sum = ((List.range m).map fun k => (List.range k).countP fun i => f i k).sum
  | 0 => rfl
  | m + 1 => by
    have ih := swap_sums f m
    rw [List.range_succ, List.map_append, List.map_append, List.sum_append, List.sum_append, ← ih]
    have e : ((List.range m).map fun i => (List.range' (i + 1) (m + 1 - (i + 1))).countP (f i)) = (List.range m).map fun i => (List.range' (i + 1) (m - (i + 1))).countP (f i) + (if f i m = true then 1 else 0) := by
      refine List.map_congr_left fun i hi => ?_
      have hi := List.mem_range.1 hi
      rw [show m + 1 - (i + 1) = (m - (i + 1)) + 1 by omega, List.range'_concat, List.countP_append, show i + 1 + 1 * (m - (i + 1)) = m by omega]
      simp [List.countP_cons]
    rw [e]
    have e2 : ∀ (xs : List Nat) (a b : Nat → Nat), (xs.map fun i => a i + b i).sum = (xs.map a).sum + (xs.map b).sum := fun xs a b => by
      induction xs with
      | nil => rfl
      | cons x xs ih => simp only [List.map_cons, List.sum_cons, ih]; omega
    rw [e2]
    have e3 : ∀ (p : Nat → Bool) (xs : List Nat), (xs.map fun i => if p i = true then 1 else 0).sum = xs.countP p := fun p xs => by
      induction xs with
      | nil => rfl
      | cons x xs ih => simp only [List.map_cons, List.sum_cons, ih, List.countP_cons]; omega
    rw [e3 (fun i => f i m)]
    simp
theorem cnt_sum (n : Nat) (l : List (List Int)) : ∀ k : Nat, cntTo n l k = ((List.range k).map fun k => (List.range k).countP fun i => sameB n l i k 0).sum
  | 0 => rfl
  | k + 1 => by
    rw [List.range_succ, List.map_append, List.sum_append, ← cnt_sum n l k]
    simp [cntTo, cntIn]
theorem many_pairs (n : Nat) (l : List (List Int)) : manyD n l 0 = pairsB n l := by
  unfold manyD manyFrom pairsB
  rw [cnt_sum, ← List.range_eq_range', ← swap_sums]
  have e : badS n l 0 = fun i k => sameB n l i k 0 := by
    funext i k
    unfold badS bitN
    simp
  rw [e]

/-! ### Look -/
theorem set_valid {n : Nat} {l : List (List Int)} (hV : Valid (n : Int) l) {h p : Nat} (hh : h < l.length) (hp : p < n) {q : Nat} (hq : q ≤ 3) : Valid (n : Int) (setAt l h p (2 ^ q)) := by
  have hr := Valid.row hV hh
  have h2 : (1 : Int) ≤ 2 ^ q ∧ (2 : Int) ^ q ≤ 15 := by
    obtain rfl | rfl | rfl | rfl : q = 0 ∨ q = 1 ∨ q = 2 ∨ q = 3 := by omega
    all_goals decide
  refine ⟨hV.r1, hV.r8, by rw [setAt_length]; exact hV.h1, by rw [setAt_length]; exact hV.h6, fun r hrm => ?_, fun r hrm s hs => ?_⟩
  · unfold setAt at hrm
    rcases List.mem_or_eq_of_mem_set hrm with h3 | rfl
    · exact hV.len r h3
    · rw [List.length_set]; have := hr.len; omega
  · unfold setAt at hrm
    rcases List.mem_or_eq_of_mem_set hrm with h3 | rfl
    · exact hV.set r h3 s hs
    · rcases List.mem_or_eq_of_mem_set hs with h4 | rfl
      · exact hr.set s h4
      · exact h2
theorem fin_known : ∀ x : Fin 16, 1 ≤ x.val → knownS (x.val : Int) = decide ((sizesL x.val 4).length = 1) := by decide +kernel
theorem known_sizes {s : Nat} (h1 : 1 ≤ s) (h2 : s ≤ 15) : knownS (s : Int) = decide ((sizesL s 4).length = 1) := fin_known ⟨s, by omega⟩ h1
theorem ints_rd {l : List Nat} {j : Nat} (hj : j < l.length) : rd (ints l) (j : Int) = ((l[j] : Nat) : Int) := by
  rw [rd_at]
  simp [ints, hj]
theorem sizes_le {s q : Nat} (h : q ∈ sizesL s 4) : q ≤ 3 := by
  unfold sizesL at h
  have := List.mem_range.1 (List.mem_filter.1 h).1
  omega
theorem sizes_len (s : Nat) : (sizesL s 4).length ≤ 4 := by
  unfold sizesL
  have := List.length_filter_le (bitN s) (List.range 4)
  rwa [List.length_range] at this
theorem place_at {n : Nat} {l : List (List Int)} (hV : Valid (n : Int) l) {h p : Nat} (hh : h < l.length) (hp : p < n) : ∃ s : Nat, placeAt l h p = s ∧ 1 ≤ s ∧ s ≤ 15 := by
  have := (Valid.row hV hh).at hp
  unfold placeAt
  exact ⟨((l.getD h []).getD p 0).toNat, by omega, by omega, by omega⟩
theorem worst_sizes (n : Nat) (l : List (List Int)) (h p s : Nat) : worstTo n l h p s 4 = (sizesL s 4).map fun q => ((pairsB n (setAt l h p (2 ^ q)) : Nat) : Int) := by
  unfold worstTo sizesL ints
  rw [List.map_map]
  rfl
end Go.Proofs.YtdllacjkacmghaaDoor.DR
