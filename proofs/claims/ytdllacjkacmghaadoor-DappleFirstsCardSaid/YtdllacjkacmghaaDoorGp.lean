/- The plain laws of the reference's first pair, counts of pairs, fewest horses, and of the dapple that should be looked at. -/
import Derived.Test.YtdllacjkacmghaaDoorDTx18
import Derived.Test.YtdllacjkacmghaaDoorDTx19
import Derived.Test.YtdllacjkacmghaaDoorGo
import Derived.Test.YtdllacjkacmghaaDoorKr
namespace Go.Proofs.YtdllacjkacmghaaDoor.DR
open Go.RowKit Go.Proofs.YtdllacjkacmghaaDoorW.PrintWords Go.Proofs.YtdllacjkacmghaaDoorEv Go.Proofs.YtdllacjkacmghaaDoorD Go.Proofs.YtdllacjkacmghaaDoor.DT Go.Proofs.YtdllacjkacmghaaDoorH Go.Proofs.YtdllacjkacmghaaDoorK
set_option linter.unusedVariables false
set_option linter.unusedSimpArgs false

theorem same_least {n : Nat} {l : List (List Int)} (hV : Valid (n : Int) l) {what : Nat} (hw : what < 2) {i j : Nat} (hi : i < l.length) (hj : j < l.length) : ((kindB n l i j : Nat) : Int) ≥ (what : Int) + 1 ↔ sameB n l i j what = true := by
  have h2 := kind_le n l i j
  obtain rfl | rfl : what = 0 ∨ what = 1 := by omega
  · rw [← kind_can hV hi hj]; omega
  · rw [← kind_sure hV hi hj]; omega
def toldOr (o : Option (Nat × Nat)) (v : Int × Int × Int) : Int × Int × Int := match o with | some (i, k) => ((i : Int), (k : Int), 0) | none => v
theorem rfirst_l1 {n : Nat} {l : List (List Int)} (hV : Valid (n : Int) l) {what : Nat} (hw : what < 2) {i : Nat} (hi : i < l.length) (v : Int × Int × Int)
    (h : Evt (fun k => skewbaldref07_first.l0 k ((what : Int) + 1) ((i + 1 : Nat) : Int) (n : Int) l) v) : ∀ (d j : Nat), j + d = l.length →
    Evt (fun k => skewbaldref07_first.l1 k ((what : Int) + 1) (i : Int) (j : Int) (n : Int) l) (toldOr (firstAt n l what i j) v)
  | 0, j, hj => by
    have h6 := hV.h6
    refine Evt.succ ?_
    simp only [skewbaldref07_first.l1]
    rw [w64 i (by omega), firstAt_stop (by omega)]
    exact Evt.neg (by omega) h
  | d + 1, j, hj => by
    have h6 := hV.h6
    refine Evt.succ ?_
    simp only [skewbaldref07_first.l1]
    rw [w64 j (by omega), firstAt_step (by omega)]
    refine Evt.pos (by omega) (Evt.bind (refsame_f hV hi (show j < l.length by omega)) ?_)
    have hs := same_least hV hw hi (show j < l.length by omega)
    by_cases hc : sameB n l i j what = true
    · rw [if_pos hc]; exact Evt.pos (hs.2 hc) (Evt.pure _)
    · rw [if_neg hc]; exact Evt.neg (fun h2 => hc (hs.1 h2)) (rfirst_l1 hV hw hi v h d (j + 1) (by omega))
theorem rfirst_l0 {n : Nat} {l : List (List Int)} (hV : Valid (n : Int) l) {what : Nat} (hw : what < 2) : ∀ (d i : Nat), i + d = l.length →
    Evt (fun k => skewbaldref07_first.l0 k ((what : Int) + 1) (i : Int) (n : Int) l) (toldOr (firstFrom n l what i) (0, 0, 4))
  | 0, i, hi => by
    refine Evt.succ ?_
    simp only [skewbaldref07_first.l0]
    rw [firstFrom_stop (by omega)]
    exact Evt.neg (by omega) (Evt.pure _)
  | d + 1, i, hi => by
    have h6 := hV.h6
    refine Evt.succ ?_
    simp only [skewbaldref07_first.l0]
    rw [w64 i (by omega), firstFrom_step (by omega)]
    refine Evt.pos (by omega) ((rfirst_l1 hV hw (show i < l.length by omega) _ (rfirst_l0 hV hw d (i + 1) (by omega)) (l.length - (i + 1)) (i + 1) (by omega)).of_eq ?_)
    cases firstAt n l what i (i + 1) with
    | none => rfl
    | some o => rfl
theorem rfirst_f (R : Int) (l : List (List Int)) (hs : Small l) {what : Nat} (hw : what < 2) : Evt (fun k => skewbaldref07_first.f k R l ((what : Int) + 1)) (firstD R l what) := by
  unfold skewbaldref07_first.f
  refine Evt.bind (refCheck_f R l hs) ?_
  unfold firstD checkD
  by_cases hv : validB R l = true
  · simp only [hv, if_true]
    have hV := (valid_iff R l).1 hv
    obtain ⟨n, rfl, hn8, hn1⟩ := hV.nat
    refine (rfirst_l0 hV hw l.length 0 (by omega)).of_eq ?_
    rw [show ((n : Int)).toNat = n by simp]
    rfl
  · have hv : validB R l = false := by simpa using hv
    simp only [hv, Bool.false_eq_true, if_false]
    exact Evt.neg (by omega) (by simpa using Evt.pure ((0 : Int), (0 : Int), (70 : Int)))
theorem rClash_f (R : Int) (l : List (List Int)) (hs : Small l) : Evt (fun k => skewbaldref07_Clash.f k R l) (firstD R l 0) := by
  unfold skewbaldref07_Clash.f
  exact Evt.bind (rfirst_f R l hs (what := 0) (by omega)) (Evt.pure _)
theorem rSure_f (R : Int) (l : List (List Int)) (hs : Small l) : Evt (fun k => skewbaldref07_Sure.f k R l) (firstD R l 1) := by
  unfold skewbaldref07_Sure.f
  exact Evt.bind (rfirst_f R l hs (what := 1) (by omega)) (Evt.pure _)

/-! ### many -/
def badS (n : Nat) (l : List (List Int)) (s i k : Nat) : Bool := !bitN s i && (!bitN s k && sameB n l i k 0)
def manyFrom (n : Nat) (l : List (List Int)) (s : Nat) (i d : Nat) : Nat := ((List.range' i d).map fun i => (List.range' (i + 1) (l.length - (i + 1))).countP (badS n l s i)).sum
def manyD (n : Nat) (l : List (List Int)) (s : Nat) : Nat := manyFrom n l s 0 l.length
theorem many_l1 {n : Nat} {l : List (List Int)} (hV : Valid (n : Int) l) {s : Nat} (hs : s < 256) {i : Nat} (hi : i < l.length) (v : Int) : ∀ (d j m : Nat), j + d = l.length → m + d < 1000000 →
    Evt (fun k => skewbaldref07_many.l0 k (s : Int) ((m + (List.range' j d).countP (badS n l s i) : Nat) : Int) ((i + 1 : Nat) : Int) (n : Int) l) v →
    Evt (fun k => skewbaldref07_many.l1 k (s : Int) (m : Int) (i : Int) (j : Int) (n : Int) l) v
  | 0, j, m, hj, hm, h => by
    have h6 := hV.h6
    refine Evt.succ ?_
    simp only [skewbaldref07_many.l1]
    rw [w64 i (by omega)]
    exact Evt.neg (by omega) (by simpa using h)
  | d + 1, j, m, hj, hm, h => by
    have h6 := hV.h6
    rw [List.range'_succ, List.countP_cons] at h
    refine Evt.succ ?_
    simp only [skewbaldref07_many.l1]
    rw [Of_f s i hs (by omega), Of_f s j hs (by omega), w64 j (by omega)]
    simp only [Option.bind_some]
    have no : badS n l s i j = false → Evt (fun k => skewbaldref07_many.l1 k (s : Int) (m : Int) (i : Int) ((j + 1 : Nat) : Int) (n : Int) l) v := fun hb => by
      rw [hb] at h
      exact many_l1 hV hs hi v d (j + 1) m (by omega) (by omega) (by simpa using h)
    refine Evt.pos (by omega) (Evt.ite (fun h1 => ?_) (fun h1 => Evt.ite (fun h2 => ?_) (fun h2 => ?_)))
    · exact no (by unfold badS; rw [h1]; rfl)
    · exact no (by unfold badS; rw [h2]; simp)
    · refine Evt.bind (refsame_f hV hi (show j < l.length by omega)) ?_
      have hk := kind_can hV hi (show j < l.length by omega)
      refine Evt.ite (fun h3 => ?_) (fun h3 => ?_)
      · have hb : badS n l s i j = true := by unfold badS; rw [hk.1 (by omega)]; simp at h1 h2; rw [h1, h2]; rfl
        rw [hb] at h
        have hw : wrap64 ((m : Int) + 1) = ((m + 1 : Nat) : Int) := by unfold wrap64; omega
        rw [hw]
        refine many_l1 hV hs hi v d (j + 1) (m + 1) (by omega) (by omega) ?_
        have e : m + ((List.range' (j + 1) d).countP (badS n l s i) + if true = true then 1 else 0) = m + 1 + (List.range' (j + 1) d).countP (badS n l s i) := by simp; omega
        rwa [e] at h
      · refine no ?_
        unfold badS
        rw [show sameB n l i j 0 = false by rw [← Bool.not_eq_true, ← hk]; omega]
        simp
theorem many_l0 {n : Nat} {l : List (List Int)} (hV : Valid (n : Int) l) {s : Nat} (hs : s < 256) : ∀ (d i m : Nat), i + d = l.length → m ≤ i * 6 →
    Evt (fun k => skewbaldref07_many.l0 k (s : Int) (m : Int) (i : Int) (n : Int) l) ((m + manyFrom n l s i d : Nat) : Int)
  | 0, i, m, hi, hm => by
    refine Evt.succ ?_
    simp only [skewbaldref07_many.l0]
    exact Evt.neg (by omega) (Evt.pure _)
  | d + 1, i, m, hi, hm => by
    have h6 := hV.h6
    have hc := List.countP_le_length (p := badS n l s i) (l := List.range' (i + 1) (l.length - (i + 1)))
    rw [List.length_range'] at hc
    refine Evt.succ ?_
    simp only [skewbaldref07_many.l0]
    rw [w64 i (by omega)]
    refine Evt.pos (by omega) (many_l1 hV hs (show i < l.length by omega) _ (l.length - (i + 1)) (i + 1) m (by omega) (by omega) ?_)
    refine (many_l0 hV hs d (i + 1) _ (by omega) (by omega)).of_eq ?_
    congr 1
    unfold manyFrom
    rw [List.range'_succ, List.map_cons, List.sum_cons]
    omega
theorem many_f {n : Nat} {l : List (List Int)} (hV : Valid (n : Int) l) {s : Nat} (hs : s < 256) : Evt (fun k => skewbaldref07_many.f k (n : Int) l (s : Int)) ((manyD n l s : Nat) : Int) := by
  unfold skewbaldref07_many.f
  exact (many_l0 hV hs l.length 0 0 (by omega) (by omega)).of_eq (by unfold manyD; simp)
theorem sum_zero : ∀ l : List Nat, l.sum = 0 ↔ ∀ x ∈ l, x = 0
  | [] => by simp
  | a :: l => by
    rw [List.sum_cons, List.forall_mem_cons, ← sum_zero l]
    omega
theorem bit_mem {m s k : Nat} (hk : k < m) : bitN s k = (ints (ofSet m s)).contains (k : Int) := by
  rw [List.contains_eq_mem, Bool.eq_iff_iff, decide_eq_true_eq, mem_ints]
  unfold ofSet bitN
  simp [hk]
theorem many_apart {n : Nat} {l : List (List Int)} {s : Nat} : manyD n l s = 0 ↔ apartB n l (ints (ofSet l.length s)) = true := by
  unfold manyD manyFrom
  rw [sum_zero, apart_iff]
  have e : ∀ i k, i < k → k < l.length → badS n l s i k = badB n l (ints (ofSet l.length s)) i k := fun i k hik hk => by
    unfold badS badB
    rw [bit_mem (show i < l.length by omega), bit_mem hk]
  constructor
  · intro h i k hik hk
    rw [← e i k hik hk]
    have h1 := h _ (List.mem_map.2 ⟨i, List.mem_range'_1.2 ⟨by omega, by omega⟩, rfl⟩)
    rw [List.countP_eq_zero] at h1
    have := h1 k (List.mem_range'_1.2 ⟨by omega, by omega⟩)
    simpa using this
  · intro h x hx
    obtain ⟨i, hi, rfl⟩ := List.mem_map.1 hx
    have hi' := List.mem_range'_1.1 hi
    rw [List.countP_eq_zero]
    intro k hk
    have hk' := List.mem_range'_1.1 hk
    have := h i k (by omega) (by omega)
    rw [← e i k (by omega) (by omega)] at this
    simp [this]
theorem swap_sums (f : Nat → Nat → Bool) : ∀ m : Nat, ((List.range m).map fun i => (List.range' (i + 1) (m - (i + 1))).countP (f i)).sum = ((List.range m).map fun k => (List.range k).countP fun i => f i k).sum
  | 0 => rfl
  | m + 1 => by
    have ih := swap_sums f m
    rw [List.range_succ, List.map_append, List.map_append, List.sum_append, List.sum_append, ← ih]
    have e : ((List.range m).map fun i => (List.range' (i + 1) (m + 1 - (i + 1))).countP (f i)) = (List.range m).map fun i => (List.range' (i + 1) (m - (i + 1))).countP (f i) + (if f i m = true then 1 else 0) := by
      refine List.map_congr_left fun i hi => ?_
      have hi := List.mem_range.1 hi
      rw [show m + 1 - (i + 1) = (m - (i + 1)) + 1 by omega, List.range'_concat, List.countP_append, show i + 1 + 1 * (m - (i + 1)) = m by omega]
      simp [List.countP_cons]
    rw [e]
    have e2 : ∀ (xs : List Nat) (a b : Nat → Nat), (xs.map fun i => a i + b i).sum = (xs.map a).sum + (xs.map b).sum := fun xs a b => by
      induction xs with
      | nil => rfl
      | cons x xs ih => simp only [List.map_cons, List.sum_cons, ih]; omega
    rw [e2]
    have e3 : ∀ (p : Nat → Bool) (xs : List Nat), (xs.map fun i => if p i = true then 1 else 0).sum = xs.countP p := fun p xs => by
      induction xs with
      | nil => rfl
      | cons x xs ih => simp only [List.map_cons, List.sum_cons, ih, List.countP_cons]; omega
    rw [e3 (fun i => f i m)]
    simp
theorem cnt_sum (n : Nat) (l : List (List Int)) : ∀ k : Nat, cntTo n l k = ((List.range k).map fun k => (List.range k).countP fun i => sameB n l i k 0).sum
  | 0 => rfl
  | k + 1 => by
    rw [List.range_succ, List.map_append, List.sum_append, ← cnt_sum n l k]
    simp [cntTo, cntIn]
theorem many_pairs (n : Nat) (l : List (List Int)) : manyD n l 0 = pairsB n l := by
  unfold manyD manyFrom pairsB
  rw [cnt_sum, ← List.range_eq_range', ← swap_sums]
  have e : badS n l 0 = fun i k => sameB n l i k 0 := by
    funext i k
    unfold badS bitN
    simp
  rw [e]

/-! ### Drop -/
def bestOr (n : Nat) (l : List (List Int)) (s : Nat) : List Int := if (dropTo n l s).1 then (dropTo n l s).2 else ints (List.range l.length)
theorem part_shorter {m s : Nat} (hm : m ≤ 6) (hs : s < 2 ^ m - 1) : shorterB (ints (ofSet m s)) (ints (List.range m)) = true := by
  have key : ∀ m : Fin 7, ∀ s : Fin 64, s.val < 2 ^ m.val - 1 → (ofSet m.val s.val).length < m.val := by decide +kernel
  have hp := pow_le hm
  have := key ⟨m, by omega⟩ ⟨s, by omega⟩ hs
  unfold shorterB
  simp only [ints_length, List.length_range]
  have h2 : (ofSet m s).length < m := this
  rw [if_neg (by omega)]
  exact decide_eq_true (by omega)
theorem best_step {n : Nat} {l : List (List Int)} (h6 : l.length ≤ 6) {s : Nat} (hs : s < 2 ^ l.length) :
    bestOr n l (s + 1) = if shorterB (ints (ofSet l.length s)) (bestOr n l s) = true ∧ apartB n l (ints (ofSet l.length s)) = true then ints (ofSet l.length s) else bestOr n l s := by
  unfold bestOr
  rw [show dropTo n l (s + 1) = dropStep n l s (dropTo n l s) from rfl]
  unfold dropStep
  rw [better_eq]
  cases hz : (dropTo n l s).1 with
  | true =>
    cases ha : apartB n l (ints (ofSet l.length s)) <;> cases hb : shorterB (ints (ofSet l.length s)) (dropTo n l s).2 <;> simp [hz, hb]
  | false =>
    cases ha : apartB n l (ints (ofSet l.length s)) with
    | false => simp [hz]
    | true =>
      by_cases e : s = 2 ^ l.length - 1
      · subst e
        simp only [hz, Bool.false_eq_true, if_false]
        rw [ofSet_full h6, shorter_irrefl]
        cases hx : shorterB (ints (List.range l.length)) (dropTo n l (2 ^ l.length - 1)).2 <;> simp [hz]
      · have := part_shorter h6 (show s < 2 ^ l.length - 1 by omega)
        simp [this]
theorem rDrop_l0 {n : Nat} {l : List (List Int)} (hV : Valid (n : Int) l) : ∀ (d s : Nat), s + d = 2 ^ l.length →
    Evt (fun k => skewbaldref07_Drop.l0 k (l.length : Int) (bestOr n l s) (s : Int) (n : Int) l) (bestOr n l (2 ^ l.length), 0)
  | 0, s, hs => by
    have h6 := hV.h6
    refine Evt.succ ?_
    simp only [skewbaldref07_Drop.l0, shl_pow h6]
    obtain rfl : s = 2 ^ l.length := by omega
    exact Evt.pos (by omega) (Evt.neg (by omega) (Evt.pure _))
  | d + 1, s, hs => by
    have h6 := hV.h6
    have hp := pow_le h6
    have ih := rDrop_l0 hV d (s + 1) (by omega)
    rw [best_step h6 (show s < 2 ^ l.length by omega)] at ih
    have hsm : (ints (ofSet l.length s)).length < 9223372036854775807 := by
      rw [ints_length]; unfold ofSet
      have := List.length_filter_le (fun k => s / 2 ^ k % 2 == 1) (List.range l.length)
      rw [List.length_range] at this
      omega
    have hsb : (bestOr n l s).length < 9223372036854775807 := by
      have hle : ∀ t, (dropTo n l t).2.length ≤ l.length := fun t => by
        induction t with
        | zero => simp [dropTo]
        | succ t iht =>
          rw [show dropTo n l (t + 1) = dropStep n l t (dropTo n l t) from rfl]
          unfold dropStep
          split
          · show (ints (ofSet l.length t)).length ≤ _
            rw [ints_length]; unfold ofSet
            have := List.length_filter_le (fun k => t / 2 ^ k % 2 == 1) (List.range l.length)
            rwa [List.length_range] at this
          · exact iht
      unfold bestOr
      have := hle s
      split
      · omega
      · rw [ints_length, List.length_range]; omega
    refine Evt.succ ?_
    simp only [skewbaldref07_Drop.l0, shl_pow h6]
    rw [w64 s (by omega)]
    refine Evt.pos (by omega) (Evt.pos (by omega) (Evt.bind (List_f s l.length (by omega) (by omega)) (Evt.bind (Shorter_f (ints (ofSet l.length s)) _ hsm hsb) (Evt.ite (fun h => ?_) (fun h => ?_)))))
    · refine Evt.bind (many_f hV (show s < 256 by omega)) (Evt.ite (fun h2 => ?_) (fun h2 => ?_))
      · rw [if_pos ⟨h, many_apart.1 (by omega)⟩] at ih; exact ih
      · rw [if_neg (fun h3 => h2 (by have := many_apart.2 h3.2; omega))] at ih; exact ih
    · rw [if_neg (fun h3 => h h3.1)] at ih; exact ih
theorem best_end {n : Nat} {l : List (List Int)} (hV : Valid (n : Int) l) : (bestOr n l (2 ^ l.length), (0 : Int)) = dropD (n : Int) l := by
  have h6 := hV.h6
  have hp : 0 < 2 ^ l.length := Nat.two_pow_pos _
  unfold bestOr dropD
  rw [(valid_iff (n : Int) l).2 hV, if_pos rfl, show ((n : Int)).toNat = n by simp]
  cases hz : (dropTo n l (2 ^ l.length)).1 with
  | true => rfl
  | false =>
    have := (drop_spec n l (2 ^ l.length)).1 hz (2 ^ l.length - 1) (by omega)
    rw [ofSet_full h6, apart_all] at this
    cases this
theorem rDrop_f (R : Int) (l : List (List Int)) (hs : Small l) : Evt (fun k => skewbaldref07_Drop.f k R l) (dropD R l) := by
  unfold skewbaldref07_Drop.f
  refine Evt.bind (refCheck_f R l hs) ?_
  unfold checkD
  by_cases hv : validB R l = true
  · simp only [hv, if_true]
    have hV := (valid_iff R l).1 hv
    obtain ⟨n, rfl, hn8, hn1⟩ := hV.nat
    have h6 := hV.h6
    have hp := pow_le h6
    have hp0 : 0 < 2 ^ l.length := Nat.two_pow_pos _
    rw [shl_pow h6, show wrap64 (((2 ^ l.length : Nat) : Int) - 1) = ((2 ^ l.length - 1 : Nat) : Int) by unfold wrap64; omega]
    refine Evt.bind (List_f (2 ^ l.length - 1) l.length (by omega) (by omega)) ?_
    rw [← best_end hV]
    have e : ints (sizesL (2 ^ l.length - 1) l.length) = bestOr n l 0 := by
      rw [show sizesL (2 ^ l.length - 1) l.length = ofSet l.length (2 ^ l.length - 1) from rfl, ofSet_full h6]; rfl
    rw [e]
    exact rDrop_l0 hV (2 ^ l.length) 0 (by omega)
  · have hv : validB R l = false := by simpa using hv
    have e : dropD R l = ([], 70) := by unfold dropD; rw [hv]; rfl
    simp only [hv, Bool.false_eq_true, if_false]
    rw [e]
    exact Evt.neg (by omega) (by simpa using Evt.pure (([] : List Int), (70 : Int)))
theorem drop_small (R : Int) (l : List (List Int)) : (dropD R l).1.length < 9223372036854775807 := by
  by_cases hv : validB R l = true
  · have hV := (valid_iff R l).1 hv
    obtain ⟨n, rfl, hn8, hn1⟩ := hV.nat
    obtain ⟨t0, ht0, hd, _⟩ := drop_told hV
    rw [hd]
    show (ints _).length < _
    rw [ints_length]; unfold ofSet
    have := List.length_filter_le (fun k => t0 / 2 ^ k % 2 == 1) (List.range l.length)
    rw [List.length_range] at this
    have := hV.h6
    omega
  · have hv : validB R l = false := by simpa using hv
    unfold dropD
    rw [hv]
    simp

/-! ### Look -/
theorem set_valid {n : Nat} {l : List (List Int)} (hV : Valid (n : Int) l) {h p : Nat} (hh : h < l.length) (hp : p < n) {q : Nat} (hq : q ≤ 3) : Valid (n : Int) (setAt l h p (2 ^ q)) := by
  have hr := Valid.row hV hh
  have h2 : (1 : Int) ≤ 2 ^ q ∧ (2 : Int) ^ q ≤ 15 := by
    obtain rfl | rfl | rfl | rfl : q = 0 ∨ q = 1 ∨ q = 2 ∨ q = 3 := by omega
    all_goals decide
  refine ⟨hV.r1, hV.r8, by rw [setAt_length]; exact hV.h1, by rw [setAt_length]; exact hV.h6, fun r hrm => ?_, fun r hrm s hs => ?_⟩
  · unfold setAt at hrm
    rcases List.mem_or_eq_of_mem_set hrm with h3 | rfl
    · exact hV.len r h3
    · rw [List.length_set]; have := hr.len; omega
  · unfold setAt at hrm
    rcases List.mem_or_eq_of_mem_set hrm with h3 | rfl
    · exact hV.set r h3 s hs
    · rcases List.mem_or_eq_of_mem_set hs with h4 | rfl
      · exact hr.set s h4
      · exact h2
theorem fin_known : ∀ x : Fin 16, 1 ≤ x.val → knownS (x.val : Int) = decide ((sizesL x.val 4).length = 1) := by decide +kernel
theorem known_sizes {s : Nat} (h1 : 1 ≤ s) (h2 : s ≤ 15) : knownS (s : Int) = decide ((sizesL s 4).length = 1) := fin_known ⟨s, by omega⟩ h1
theorem known_ok {n : Nat} {l : List (List Int)} (hV : Valid (n : Int) l) {h p : Nat} (hh : h < l.length) (hp : p < n) {q : Nat} (hq : q ≤ 3) : skewbaldref07_Known.f (n : Int) l (h : Int) (p : Int) (q : Int) = some ((n : Int), setAt l h p (2 ^ q)) := by
  have hr := (Valid.row hV hh).len
  have h8 := hV.r8
  have h6 := hV.h6
  unfold skewbaldref07_Known.f
  rw [if_pos ⟨by omega, by omega, by omega, by simp only [Int.toNat_natCast]; omega, by omega, by omega, by omega, by simp only [Int.toNat_natCast]; omega⟩]
  simp
theorem ints_rd {l : List Nat} {j : Nat} (hj : j < l.length) : rd (ints l) (j : Int) = ((l[j] : Nat) : Int) := by
  rw [rd_at]
  simp [ints, hj]
def worstZ (z : Int × Int × Int) (h p : Nat) (w : Int) : Int × Int × Int := if z.2.2 < 0 ∨ w < z.2.2 then ((h : Int), (p : Int), w) else z
theorem rlook_l2 {n : Nat} {l : List (List Int)} (hV : Valid (n : Int) l) {h p : Nat} (hh : h < l.length) (hp : p < n) (sz : List Nat) (hs4 : ∀ q ∈ sz, q ≤ 3) (hlen : sz.length ≤ 4) (z : Int × Int × Int) (v : Int × Int × Int) : ∀ (d j : Nat) (acc : Int), j + d = sz.length →
    Evt (fun k => skewbaldref07_Look.l1 k (worstZ z h p (((sz.drop j).map fun q => ((pairsB n (setAt l h p (2 ^ q)) : Nat) : Int)).foldl mx acc)).1 (worstZ z h p (((sz.drop j).map fun q => ((pairsB n (setAt l h p (2 ^ q)) : Nat) : Int)).foldl mx acc)).2.1 (worstZ z h p (((sz.drop j).map fun q => ((pairsB n (setAt l h p (2 ^ q)) : Nat) : Int)).foldl mx acc)).2.2 (h : Int) ((p + 1 : Nat) : Int) (n : Int) l) v →
    Evt (fun k => skewbaldref07_Look.l2 k z.1 z.2.1 z.2.2 (h : Int) (p : Int) (ints sz) acc (j : Int) (n : Int) l) v
  | 0, j, acc, hj, hv => by
    have h8 := hV.r8
    rw [List.drop_eq_nil_of_le (by omega), List.map_nil, List.foldl_nil] at hv
    refine Evt.succ ?_
    simp only [skewbaldref07_Look.l2, ints_length]
    rw [w64 p (by omega)]
    unfold worstZ at hv
    refine Evt.neg (by omega) (Evt.ite (fun h1 => ?_) (fun h1 => Evt.ite (fun h2 => ?_) (fun h2 => ?_)))
    · rw [if_pos (.inl h1)] at hv; exact hv
    · rw [if_pos (.inr h2)] at hv; exact hv
    · rw [if_neg (fun h3 => h3.elim h1 h2)] at hv; exact hv
  | d + 1, j, acc, hj, hv => by
    have h8 := hV.r8
    have h1 : sz.drop j = sz[j] :: sz.drop (j + 1) := List.drop_eq_getElem_cons (by omega)
    have hq := hs4 sz[j] (List.getElem_mem _)
    rw [h1, List.map_cons, List.foldl_cons] at hv
    refine Evt.succ ?_
    simp only [skewbaldref07_Look.l2, ints_length]
    rw [w64 j (by omega), ints_rd (show j < sz.length by omega), known_ok hV hh hp hq]
    simp only [Option.bind_some]
    refine Evt.pos (by omega) (Evt.pos (by omega) (Evt.bind (v := ((pairsB n (setAt l h p (2 ^ sz[j])) : Nat) : Int)) ?_ ?_))
    · have := many_f (set_valid hV hh hp hq) (s := 0) (by omega)
      rw [many_pairs] at this
      exact this
    · exact rlook_l2 hV hh hp sz hs4 hlen z v d (j + 1) _ (by omega) hv
theorem sizes_le {s q : Nat} (h : q ∈ sizesL s 4) : q ≤ 3 := by
  unfold sizesL at h
  have := List.mem_range.1 (List.mem_filter.1 h).1
  omega
theorem sizes_len (s : Nat) : (sizesL s 4).length ≤ 4 := by
  unfold sizesL
  have := List.length_filter_le (bitN s) (List.range 4)
  rwa [List.length_range] at this
theorem place_at {n : Nat} {l : List (List Int)} (hV : Valid (n : Int) l) {h p : Nat} (hh : h < l.length) (hp : p < n) : ∃ s : Nat, placeAt l h p = s ∧ 1 ≤ s ∧ s ≤ 15 := by
  have := (Valid.row hV hh).at hp
  unfold placeAt
  exact ⟨((l.getD h []).getD p 0).toNat, by omega, by omega, by omega⟩
theorem worst_sizes (n : Nat) (l : List (List Int)) (h p s : Nat) : worstTo n l h p s 4 = (sizesL s 4).map fun q => ((pairsB n (setAt l h p (2 ^ q)) : Nat) : Int) := by
  unfold worstTo sizesL ints
  rw [List.map_map]
  rfl
theorem rlook_l1 {n : Nat} {l : List (List Int)} (hV : Valid (n : Int) l) {h : Nat} (hh : h < l.length) (z0 : Int × Int × Int) (v : Int × Int × Int)
    (hv : Evt (fun k => skewbaldref07_Look.l0 k (lookIn n l h z0 n).1 (lookIn n l h z0 n).2.1 (lookIn n l h z0 n).2.2 ((h + 1 : Nat) : Int) (n : Int) l) v) : ∀ (d p : Nat), p + d = n →
    Evt (fun k => skewbaldref07_Look.l1 k (lookIn n l h z0 p).1 (lookIn n l h z0 p).2.1 (lookIn n l h z0 p).2.2 (h : Int) (p : Int) (n : Int) l) v
  | 0, p, hp => by
    have h6 := hV.h6
    refine Evt.succ ?_
    simp only [skewbaldref07_Look.l1]
    obtain rfl : p = n := by omega
    rw [w64 h (by omega)]
    exact Evt.neg (by omega) hv
  | d + 1, p, hp => by
    have h8 := hV.r8
    have h6 := hV.h6
    have hr := (Valid.row hV hh).len
    have ih := rlook_l1 hV hh z0 v hv d (p + 1) (by omega)
    obtain ⟨s, es, s1, s2⟩ := place_at hV hh (show p < n by omega)
    rw [show lookIn n l h z0 (p + 1) = lookStep n l h p (lookIn n l h z0 p) from rfl] at ih
    refine Evt.succ ?_
    simp only [skewbaldref07_Look.l1]
    rw [w64 p (by omega), rd1_at, rd_at, show (l.getD h []).getD p 0 = (s : Int) from es]
    refine Evt.pos (by omega) (Evt.pos (by omega) (Evt.pos (by omega) (Evt.pos (by omega) (Evt.pos (by omega) (Evt.bind (List_f s 4 (by omega) (by omega)) ?_)))))
    have hk := known_sizes s1 s2
    unfold lookStep at ih
    rw [es, hk] at ih
    refine Evt.ite (fun h1 => ?_) (fun h1 => ?_)
    · rw [ints_length] at h1
      rw [decide_eq_true (by omega), if_pos rfl] at ih
      exact ih
    · rw [ints_length] at h1
      rw [decide_eq_false (by omega), if_neg (by simp)] at ih
      refine rlook_l2 hV hh (show p < n by omega) (sizesL s 4) (fun q hq => sizes_le hq) (sizes_len s) _ v (sizesL s 4).length 0 0 (by omega) ?_
      rw [List.drop_zero, ← worst_sizes]
      have ew : (worstTo n l h p s 4).foldl mx 0 = worstB n l h p := by unfold worstB; rw [es]; rfl
      rw [ew]
      unfold worstZ
      have e : (decide ((lookIn n l h z0 p).2.2 < 0) || decide (worstB n l h p < (lookIn n l h z0 p).2.2)) = decide ((lookIn n l h z0 p).2.2 < 0 ∨ worstB n l h p < (lookIn n l h z0 p).2.2) := by simp
      rw [e] at ih
      simp only [decide_eq_true_eq] at ih
      exact ih
theorem rlook_l0 {n : Nat} {l : List (List Int)} (hV : Valid (n : Int) l) : ∀ (d h : Nat), h + d = l.length →
    Evt (fun k => skewbaldref07_Look.l0 k (lookTo n l h).1 (lookTo n l h).2.1 (lookTo n l h).2.2 (h : Int) (n : Int) l) (if (lookTo n l l.length).2.2 < 0 then (0, 0, 4) else ((lookTo n l l.length).1, (lookTo n l l.length).2.1, 0))
  | 0, h, hh => by
    refine Evt.succ ?_
    simp only [skewbaldref07_Look.l0]
    obtain rfl : h = l.length := by omega
    refine Evt.neg (by omega) (Evt.ite (fun h1 => ?_) (fun h1 => ?_))
    · rw [if_pos h1]; exact Evt.pure _
    · rw [if_neg h1]; exact Evt.pure _
  | d + 1, h, hh => by
    have hr := (Valid.row hV (show h < l.length by omega)).len
    have ih := rlook_l0 hV d (h + 1) (by omega)
    rw [show lookTo n l (h + 1) = lookIn n l h (lookTo n l h) (l.getD h []).length from rfl, hr] at ih
    refine Evt.succ ?_
    simp only [skewbaldref07_Look.l0]
    exact Evt.pos (by omega) (rlook_l1 hV (show h < l.length by omega) (lookTo n l h) _ ih n 0 (by omega))
theorem rLook_f (R : Int) (l : List (List Int)) (hs : Small l) : Evt (fun k => skewbaldref07_Look.f k R l) (lookD R l) := by
  unfold skewbaldref07_Look.f
  refine Evt.bind (refCheck_f R l hs) ?_
  unfold lookD checkD
  by_cases hv : validB R l = true
  · simp only [hv, if_true]
    have hV := (valid_iff R l).1 hv
    obtain ⟨n, rfl, hn8, hn1⟩ := hV.nat
    exact rlook_l0 hV l.length 0 (by omega)
  · have hv : validB R l = false := by simpa using hv
    simp only [hv, Bool.false_eq_true, if_false]
    exact Evt.neg (by omega) (by simpa using Evt.pure ((0 : Int), (0 : Int), (70 : Int)))
end Go.Proofs.YtdllacjkacmghaaDoor.DR
