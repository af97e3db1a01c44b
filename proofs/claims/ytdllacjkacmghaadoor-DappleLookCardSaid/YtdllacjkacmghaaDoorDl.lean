/- The plain law of DappleLook: the dapple that should be looked at is the best one, and the first of those. -/
import Derived.Test.YtdllacjkacmghaaDoorDTx16
import Derived.Test.YtdllacjkacmghaaDoorDTx15
import Derived.Test.YtdllacjkacmghaaDoorGp
namespace Go.Proofs.YtdllacjkacmghaaDoor.DappleLookRow.Pure
open Go.RowKit Go.Proofs.YtdllacjkacmghaaDoorW.PrintWords Go.Proofs.YtdllacjkacmghaaDoorEv Go.Proofs.YtdllacjkacmghaaDoorD Go.Proofs.YtdllacjkacmghaaDoor.DT Go.Proofs.YtdllacjkacmghaaDoor.DR Go.Proofs.YtdllacjkacmghaaDoorH Go.Proofs.YtdllacjkacmghaaDoorK
set_option linter.unusedVariables false
set_option linter.unusedSimpArgs false

/-! ### worst -/
theorem worst_l2 {n : Nat} {l' : List (List Int)} (hV : Valid (n : Int) l') (x1 x2 x8 x9 R : Int) (x7 : List Int) (l : List (List Int)) {i : Nat} (hi : i < l'.length) (v : Int) : ∀ (d j c : Nat), i < j → j + d = l'.length → c + d < 1000000 →
    Evt (fun k => skewbaldlaw07_worst.l1 k x1 x2 x7 x8 x9 (kindsD n l') ((c + (List.range' j d).countP (badS n l' 0 i) : Nat) : Int) ((i + 1 : Nat) : Int) R l) v →
    Evt (fun k => skewbaldlaw07_worst.l2 k x1 x2 x7 x8 x9 (kindsD n l') (c : Int) (i : Int) (j : Int) R l) v
  | 0, j, c, hij, hj, hc, h => by
    have h6 := hV.h6
    refine Evt.succ ?_
    simp only [skewbaldlaw07_worst.l2, kinds_len]
    rw [w64 i (by omega)]
    exact Evt.neg (by omega) (by simpa using h)
  | d + 1, j, c, hij, hj, hc, h => by
    have h6 := hV.h6
    rw [List.range'_succ, List.countP_cons] at h
    have hk := kind_can hV hi (show j < l'.length by omega)
    have hb : badS n l' 0 i j = sameB n l' i j 0 := by unfold badS bitN; simp
    refine Evt.succ ?_
    simp only [skewbaldlaw07_worst.l2, kinds_len]
    rw [w64 j (by omega), w64 c (by omega), kinds_at n l' hi (show j < l'.length by omega), show kindAt n l' i j = ((kindB n l' i j : Nat) : Int) from if_neg (by omega)]
    refine Evt.pos (by omega) (Evt.pos (by omega) (Evt.pos (by omega) (Evt.pos (by omega) (Evt.pos (by rw [rd1_at, kinds_row n l' hi, krow_len]; omega) (Evt.ite (fun h3 => ?_) (fun h3 => ?_))))))
    · rw [hb, hk.1 (by omega)] at h
      refine worst_l2 hV x1 x2 x8 x9 R x7 l hi v d (j + 1) (c + 1) (by omega) (by omega) (by omega) ?_
      have e : c + ((List.range' (j + 1) d).countP (badS n l' 0 i) + if true = true then 1 else 0) = c + 1 + (List.range' (j + 1) d).countP (badS n l' 0 i) := by simp; omega
      rwa [e] at h
    · rw [hb, show sameB n l' i j 0 = false by rw [← Bool.not_eq_true, ← hk]; omega] at h
      exact worst_l2 hV x1 x2 x8 x9 R x7 l hi v d (j + 1) c (by omega) (by omega) (by omega) (by simpa using h)
theorem worst_l1 {n : Nat} {l' : List (List Int)} (hV : Valid (n : Int) l') (x1 x2 x8 R : Int) (j9 : Nat) (hj9 : j9 < 1000000) (x7 : List Int) (l : List (List Int)) (v : Int) : ∀ (d i c : Nat), i + d = l'.length → c ≤ i * 6 →
    Evt (fun k => skewbaldlaw07_worst.l0 k x1 x2 x7 (mx x8 ((c + manyFrom n l' 0 i d : Nat) : Int)) ((j9 + 1 : Nat) : Int) R l) v →
    Evt (fun k => skewbaldlaw07_worst.l1 k x1 x2 x7 x8 (j9 : Int) (kindsD n l') (c : Int) (i : Int) R l) v
  | 0, i, c, hi, hc, h => by
    refine Evt.succ ?_
    simp only [skewbaldlaw07_worst.l1, kinds_len]
    rw [w64 j9 (by omega)]
    exact Evt.neg (by omega) h
  | d + 1, i, c, hi, hc, h => by
    have h6 := hV.h6
    have hcp := List.countP_le_length (p := badS n l' 0 i) (l := List.range' (i + 1) (l'.length - (i + 1)))
    rw [List.length_range'] at hcp
    refine Evt.succ ?_
    simp only [skewbaldlaw07_worst.l1, kinds_len]
    rw [w64 i (by omega)]
    refine Evt.pos (by omega) (worst_l2 hV x1 x2 x8 (j9 : Int) R x7 l (show i < l'.length by omega) v (l'.length - (i + 1)) (i + 1) c (by omega) (by omega) (by omega) ?_)
    refine worst_l1 hV x1 x2 x8 R j9 hj9 x7 l v d (i + 1) _ (by omega) (by omega) ?_
    have e : manyFrom n l' 0 i (d + 1) = (List.range' (i + 1) (l'.length - (i + 1))).countP (badS n l' 0 i) + manyFrom n l' 0 (i + 1) d := by
      unfold manyFrom
      rw [List.range'_succ, List.map_cons, List.sum_cons]
    rw [e, ← Nat.add_assoc] at h
    exact h
theorem lknown_ok {n : Nat} {l : List (List Int)} (hV : Valid (n : Int) l) {h p : Nat} (hh : h < l.length) (hp : p < n) {q : Nat} (hq : q ≤ 3) : skewbaldlaw07_known.f (n : Int) l (h : Int) (p : Int) (q : Int) = some ((n : Int), setAt l h p (2 ^ q)) := by
  have hr := (Valid.row hV hh).len
  have h8 := hV.r8
  have h6 := hV.h6
  unfold skewbaldlaw07_known.f
  rw [if_pos ⟨by omega, by omega, by omega, by simp only [Int.toNat_natCast]; omega, by omega, by omega, by omega, by simp only [Int.toNat_natCast]; omega⟩]
  simp
theorem worst_l0 {n : Nat} {l : List (List Int)} (hV : Valid (n : Int) l) {h p : Nat} (hh : h < l.length) (hp : p < n) (sz : List Nat) (hs4 : ∀ q ∈ sz, q ≤ 3) (hlen : sz.length ≤ 4) : ∀ (d j : Nat) (acc : Int), j + d = sz.length →
    Evt (fun k => skewbaldlaw07_worst.l0 k (h : Int) (p : Int) (ints sz) acc (j : Int) (n : Int) l) (((sz.drop j).map fun q => ((pairsB n (setAt l h p (2 ^ q)) : Nat) : Int)).foldl mx acc)
  | 0, j, acc, hj => by
    refine Evt.succ ?_
    simp only [skewbaldlaw07_worst.l0, ints_length]
    rw [List.drop_eq_nil_of_le (by omega)]
    exact Evt.neg (by omega) (Evt.pure _)
  | d + 1, j, acc, hj => by
    have h1 : sz.drop j = sz[j] :: sz.drop (j + 1) := List.drop_eq_getElem_cons (by omega)
    have hq := hs4 sz[j] (List.getElem_mem _)
    have hV' := set_valid hV hh hp hq
    rw [h1, List.map_cons, List.foldl_cons]
    refine Evt.succ ?_
    simp only [skewbaldlaw07_worst.l0, ints_length]
    rw [ints_rd (show j < sz.length by omega), lknown_ok hV hh hp hq]
    simp only [Option.bind_some]
    refine Evt.pos (by omega) (Evt.pos (by omega) (Evt.bind (kinds_f hV') ?_))
    refine Evt.pos (by rw [kinds_len, setAt_length]) ?_
    refine worst_l1 hV' _ _ _ _ j (by omega) _ _ _ (setAt l h p (2 ^ sz[j])).length 0 0 (by omega) (by omega) ?_
    have e : 0 + manyFrom n (setAt l h p (2 ^ sz[j])) 0 0 (setAt l h p (2 ^ sz[j])).length = pairsB n (setAt l h p (2 ^ sz[j])) := by
      rw [Nat.zero_add, ← many_pairs]; rfl
    rw [e]
    exact worst_l0 hV hh hp sz hs4 hlen d (j + 1) _ (by omega)
theorem worst_f {n : Nat} {l : List (List Int)} (hV : Valid (n : Int) l) {h p : Nat} (hh : h < l.length) (hp : p < n) : Evt (fun k => skewbaldlaw07_worst.f k (n : Int) l (h : Int) (p : Int)) (worstB n l h p) := by
  have hr := (Valid.row hV hh).len
  obtain ⟨s, es, s1, s2⟩ := place_at hV hh hp
  unfold skewbaldlaw07_worst.f
  rw [rd1_at, rd_at, show (l.getD h []).getD p 0 = (s : Int) from es]
  refine Evt.pos (by omega) (Evt.pos (by omega) (Evt.pos (by omega) (Evt.pos (by omega) (Evt.bind (List_f s 4 (by omega) (by omega)) ?_))))
  refine (worst_l0 hV hh hp (sizesL s 4) (fun q hq => sizes_le hq) (sizes_len s) (sizesL s 4).length 0 0 (by omega)).of_eq ?_
  rw [List.drop_zero, ← worst_sizes]
  unfold worstB
  rw [es]
  rfl

/-! ### the best dapple -/
theorem foldl_ge : ∀ (xs : List Int) (a : Int), a ≤ xs.foldl mx a
  | [], a => Int.le_refl _
  | x :: xs, a => by
    rw [List.foldl_cons]
    refine Int.le_trans ?_ (foldl_ge xs _)
    unfold mx
    split <;> omega
theorem worst_nonneg (n : Nat) (l : List (List Int)) (h p : Nat) : 0 ≤ worstB n l h p := foldl_ge _ _
structure Good (n : Nat) (l : List (List Int)) (D : Nat → Nat → Prop) (z : Int × Int × Int) : Prop where
  no : z.2.2 < 0 → ∀ i k, D i k → knownS (placeAt l i k) = true
  yes : 0 ≤ z.2.2 → ∃ h p : Nat, D h p ∧ z = ((h : Int), (p : Int), worstB n l h p) ∧ knownS (placeAt l h p) = false ∧ ∀ i k, D i k → knownS (placeAt l i k) = false → worstB n l h p < worstB n l i k ∨ worstB n l h p = worstB n l i k ∧ (h < i ∨ h = i ∧ p ≤ k)
theorem good_step {n : Nat} {l : List (List Int)} {D D' : Nat → Nat → Prop} {z : Int × Int × Int} {h p : Nat} (hz : Good n l D z) (hD : ∀ i k, D' i k ↔ D i k ∨ i = h ∧ k = p) (hb : ∀ i k, D i k → i < h ∨ i = h ∧ k < p) : Good n l D' (lookStep n l h p z) := by
  unfold lookStep
  cases hk : knownS (placeAt l h p) with
  | true =>
    rw [if_pos rfl]
    refine ⟨fun e i k hd => ?_, fun e => ?_⟩
    · rcases (hD i k).1 hd with h1 | ⟨rfl, rfl⟩
      · exact hz.no e i k h1
      · exact hk
    · obtain ⟨a, b, h1, h2, h3, h4⟩ := hz.yes e
      refine ⟨a, b, (hD a b).2 (.inl h1), h2, h3, fun i k hd hn => ?_⟩
      rcases (hD i k).1 hd with h5 | ⟨rfl, rfl⟩
      · exact h4 i k h5 hn
      · rw [hk] at hn; cases hn
  | false =>
    rw [if_neg (by simp)]
    have hw := worst_nonneg n l h p
    by_cases hc : z.2.2 < 0 ∨ worstB n l h p < z.2.2
    · rw [show (decide (z.2.2 < 0) || decide (worstB n l h p < z.2.2)) = true by simpa using hc, if_pos rfl]
      refine ⟨fun e => absurd e (by show ¬ worstB n l h p < 0; omega), fun _ => ⟨h, p, (hD h p).2 (.inr ⟨rfl, rfl⟩), rfl, hk, fun i k hd hn => ?_⟩⟩
      rcases (hD i k).1 hd with h5 | ⟨rfl, rfl⟩
      · by_cases hz0 : z.2.2 < 0
        · rw [hz.no hz0 i k h5] at hn; cases hn
        · obtain ⟨a, b, h1, h2, h3, h4⟩ := hz.yes (by omega)
          have h6 := h4 i k h5 hn
          have h7 : z.2.2 = worstB n l a b := by rw [h2]
          left
          rcases hc with hc | hc <;> rcases h6 with h6 | h6 <;> omega
      · right; exact ⟨rfl, .inr ⟨rfl, Nat.le_refl _⟩⟩
    · rw [show (decide (z.2.2 < 0) || decide (worstB n l h p < z.2.2)) = false by simpa using hc, if_neg (by simp)]
      refine ⟨fun e => absurd (.inl e) hc, fun e => ?_⟩
      obtain ⟨a, b, h1, h2, h3, h4⟩ := hz.yes e
      refine ⟨a, b, (hD a b).2 (.inl h1), h2, h3, fun i k hd hn => ?_⟩
      rcases (hD i k).1 hd with h5 | ⟨rfl, rfl⟩
      · exact h4 i k h5 hn
      · have h7 : z.2.2 = worstB n l a b := by rw [h2]
        have h8 := hb a b h1
        have : ¬ worstB n l i k < z.2.2 := fun h => hc (.inr h)
        by_cases e2 : worstB n l a b = worstB n l i k
        · right; exact ⟨e2, by omega⟩
        · left; omega
theorem good_in {n : Nat} {l : List (List Int)} {h : Nat} {z : Int × Int × Int} (hz : Good n l (fun i k => k < n ∧ i < h) z) : ∀ p, p ≤ n → Good n l (fun i k => k < n ∧ (i < h ∨ i = h ∧ k < p)) (lookIn n l h z p)
  | 0, _ => by
    have e : (fun i k => k < n ∧ (i < h ∨ i = h ∧ k < 0)) = fun i k => k < n ∧ i < h := by funext i k; simp
    rw [e]; exact hz
  | p + 1, hp => good_step (h := h) (p := p) (good_in hz p (by omega)) (fun i k => by constructor <;> intro h1 <;> omega) (fun i k hd => by omega)
theorem good_to {n : Nat} {l : List (List Int)} (hV : Valid (n : Int) l) : ∀ h, h ≤ l.length → Good n l (fun i k => k < n ∧ i < h) (lookTo n l h)
  | 0, _ => ⟨fun _ i k hd => by omega, fun e => absurd e (by show ¬ (0 : Int) ≤ -1; omega)⟩
  | h + 1, hh => by
    have hr := (Valid.row hV (show h < l.length by omega)).len
    have := good_in (good_to hV h (by omega)) n (Nat.le_refl _)
    rw [show lookTo n l (h + 1) = lookIn n l h (lookTo n l h) (l.getD h []).length from rfl, hr]
    have e : (fun i k => k < n ∧ i < h + 1) = fun i k => k < n ∧ (i < h ∨ i = h ∧ k < n) := by
      funext i k
      simp only [eq_iff_iff]
      omega
    rw [e]; exact this

/-- what is told of the dapple that should be looked at -/
structure Told (n : Nat) (l : List (List Int)) (x5 x6 x7 : Int) : Prop where
  no : x7 ≠ 0 → x7 = 4 ∧ x5 = 0 ∧ x6 = 0 ∧ ∀ i k, k < n → i < l.length → knownS (placeAt l i k) = true
  yes : x7 = 0 → ∃ h p : Nat, h < l.length ∧ p < n ∧ x5 = h ∧ x6 = p ∧ knownS (placeAt l h p) = false ∧ ∀ i k, k < n → i < l.length → knownS (placeAt l i k) = false → worstB n l h p < worstB n l i k ∨ worstB n l h p = worstB n l i k ∧ (h < i ∨ h = i ∧ p ≤ k)
theorem look_told {n : Nat} {l : List (List Int)} (hV : Valid (n : Int) l) : Told n l (lookD (n : Int) l).1 (lookD (n : Int) l).2.1 (lookD (n : Int) l).2.2 := by
  have g := good_to hV l.length (Nat.le_refl _)
  have e : lookD (n : Int) l = if (lookTo n l l.length).2.2 < 0 then (0, 0, 4) else ((lookTo n l l.length).1, (lookTo n l l.length).2.1, 0) := by
    unfold lookD
    rw [(valid_iff (n : Int) l).2 hV, if_pos rfl]
    rfl
  rw [e]
  by_cases hc : (lookTo n l l.length).2.2 < 0
  · rw [if_pos hc]
    exact ⟨fun _ => ⟨rfl, rfl, rfl, fun i k h1 h2 => g.no hc i k ⟨h1, h2⟩⟩, fun h => by cases h⟩
  · rw [if_neg hc]
    obtain ⟨h, p, h1, h2, h3, h4⟩ := g.yes (by omega)
    exact ⟨fun h => absurd rfl h, fun _ => ⟨h, p, h1.2, h1.1, by rw [h2], by rw [h2], h3, fun i k a b => h4 i k ⟨a, b⟩⟩⟩
theorem many_sizes {s : Nat} (h1 : 1 ≤ s) (h2 : s ≤ 15) : (sizesL s 4).length > 1 ↔ knownS (s : Int) = false := by
  have h3 : 1 ≤ (sizesL s 4).length := by
    have key : ∀ x : Fin 16, 1 ≤ x.val → 1 ≤ (sizesL x.val 4).length := by decide +kernel
    exact key ⟨s, by omega⟩ h1
  rw [known_sizes h1 h2, decide_eq_false_iff_not]
  omega

theorem look_j3 {n : Nat} {l : List (List Int)} (hV : Valid (n : Int) l) {x5 x6 : Int} (ht : Told n l x5 x6 0) {i k : Nat} (hi : i < l.length) (hk : k < n) (hn : knownS (placeAt l i k) = false) :
    Evt (fun q => skewbaldlaw07_DappleLook.j3 q x5 x6 (i : Int) (k : Int) false (n : Int) l) true := by
  have P : Evt (fun k => (skewbaldlaw07_pressed.f k).bind fun t => some t) true := Evt.bind pressed_f (Evt.pure _)
  obtain ⟨h, p, hh, hp, rfl, rfl, h3, h4⟩ := ht.yes rfl
  have hr := (Valid.row hV hh).len
  obtain ⟨s, es, s1, s2⟩ := place_at hV hh hp
  rw [es] at h3
  refine Evt.succ ?_
  simp only [skewbaldlaw07_DappleLook.j3]
  rw [rd1_at, rd_at, show (l.getD h []).getD p 0 = (s : Int) from es]
  refine Evt.neg (by simp) (Evt.bind (worst_f hV hh hp) (Evt.bind (worst_f hV hi hk) ?_))
  have w1 := worst_nonneg n l h p
  have w2 := worst_nonneg n l i k
  have hm := (many_sizes s1 s2).2 h3
  refine Evt.pos (by omega) (Evt.pos (by omega) (Evt.pos (by omega) (Evt.pos (by omega) (Evt.bind (List_f s 4 (by omega) (by omega)) (Evt.pos (by rw [ints_length]; omega) (Evt.pos w1 (Evt.pos w2 ?_)))))))
  have hb := h4 i k hk hi hn
  refine Evt.ite (fun _ => P) (fun h5 => Evt.pos (by omega) (Evt.ite (fun _ => P) (fun h6 => Evt.pos (by omega) (Evt.pos (by omega) P))))
theorem look_j2 {n : Nat} {l : List (List Int)} (hV : Valid (n : Int) l) {x5 x6 x7 : Int} (ht : Told n l x5 x6 x7) (a b : Int) :
    Evt (fun q => skewbaldlaw07_DappleLook.j2 q x5 x6 x7 false (n : Int) l a b) true := by
  have P : Evt (fun k => (skewbaldlaw07_pressed.f k).bind fun t => some t) true := Evt.bind pressed_f (Evt.pure _)
  have h1 := hV.h1
  have h6 := hV.h6
  have r1 := hV.r1
  have r8 := hV.r8
  obtain ⟨i, hi, ei⟩ := Round_nat a l.length h1 (by omega)
  obtain ⟨k, hk, ek⟩ := Round_nat b n (by omega) (by omega)
  have yes : Evt (fun q => skewbaldlaw07_DappleLook.j3 q x5 x6 (i : Int) (k : Int) true (n : Int) l) true := by
    refine Evt.succ ?_
    simp only [skewbaldlaw07_DappleLook.j3]
    exact Evt.pos (by trivial) P
  refine Evt.succ ?_
  simp only [skewbaldlaw07_DappleLook.j2]
  refine Evt.neg (by simp) ?_
  rw [ei, ek]
  simp only [Option.bind_some]
  refine Evt.ite (fun h0 => ?_) (fun _ => yes)
  subst h0
  have hr := (Valid.row hV hi).len
  obtain ⟨s, es, s1, s2⟩ := place_at hV hi hk
  rw [rd1_at, rd_at, show (l.getD i []).getD k 0 = (s : Int) from es]
  refine Evt.pos (by omega) (Evt.pos (by omega) (Evt.pos (by omega) (Evt.pos (by omega) (Evt.bind (List_f s 4 (by omega) (by omega)) ?_))))
  rw [ints_length]
  by_cases hc : (sizesL s 4).length = 1
  · rw [show (((sizesL s 4).length : Int) == 1) = true by simp [hc]]; exact yes
  · rw [show (((sizesL s 4).length : Int) == 1) = false by simp; omega]
    refine look_j3 hV ht hi hk ?_
    rw [es, known_sizes s1 s2]
    exact decide_eq_false hc
/-- is a dapple not known, of the first ones -/
def Open (n : Nat) (l : List (List Int)) (h p : Nat) (b : Bool) : Prop := b = true ↔ ∃ i k, k < n ∧ (i < h ∨ i = h ∧ k < p) ∧ knownS (placeAt l i k) = false
theorem look_end {n : Nat} {l : List (List Int)} (hV : Valid (n : Int) l) {x5 x6 x7 : Int} (ht : Told n l x5 x6 x7) (a b : Int) (o : Bool) (ho : Open n l l.length 0 o) :
    Evt (fun q => skewbaldlaw07_DappleLook.l0 q x5 x6 x7 o (l.length : Int) (n : Int) l a b) true := by
  have h1 := hV.h1
  have h6 := hV.h6
  have r1 := hV.r1
  have r8 := hV.r8
  have J := look_j2 hV ht a b
  refine Evt.succ ?_
  simp only [skewbaldlaw07_DappleLook.l0]
  by_cases h0 : x7 = 0
  · subst h0
    obtain ⟨h, p, hh, hp, rfl, rfl, h3, h4⟩ := ht.yes rfl
    have : o = true := ho.2 ⟨h, p, hp, .inl hh, h3⟩
    subst this
    refine Evt.neg (by omega) (Evt.neg (by simp) (Evt.pos (by trivial) ?_))
    rw [In_f, show (decide ((0 : Int) ≤ (h : Int)) && decide ((h : Int) ≤ wrap64 ((l.length : Int) - 1))) = true from by rw [Bool.and_eq_true, decide_eq_true_eq, decide_eq_true_eq]; unfold wrap64; omega]
    simp only [Option.bind_some]
    refine Evt.pos (by trivial) ?_
    rw [In_f, show (decide ((0 : Int) ≤ (p : Int)) && decide ((p : Int) ≤ wrap64 ((n : Int) - 1))) = true from by rw [Bool.and_eq_true, decide_eq_true_eq, decide_eq_true_eq]; unfold wrap64; omega]
    simp only [Option.bind_some]
    exact J
  · obtain ⟨rfl, rfl, rfl, hall⟩ := ht.no h0
    have : o = false := by
      rw [← Bool.not_eq_true]
      intro e
      obtain ⟨i, k, h2, h3, h4⟩ := ho.1 e
      rw [hall i k h2 (by omega)] at h4
      cases h4
    subst this
    refine Evt.neg (by omega) (Evt.neg (by decide) (Evt.neg (by decide) (Evt.pos (by trivial) (Evt.pos (by show wrap64 (0 + 0) = 0; unfold wrap64; omega) ?_))))
    rw [In_f, show (decide ((0 : Int) ≤ 0) && decide ((0 : Int) ≤ wrap64 ((l.length : Int) - 1))) = true from by rw [Bool.and_eq_true, decide_eq_true_eq, decide_eq_true_eq]; unfold wrap64; omega]
    simp only [Option.bind_some]
    refine Evt.pos (by trivial) ?_
    rw [In_f, show (decide ((0 : Int) ≤ 0) && decide ((0 : Int) ≤ wrap64 ((n : Int) - 1))) = true from by rw [Bool.and_eq_true, decide_eq_true_eq, decide_eq_true_eq]; unfold wrap64; omega]
    simp only [Option.bind_some]
    exact J
theorem look_l1 {n : Nat} {l : List (List Int)} (hV : Valid (n : Int) l) (x5 x6 x7 a b : Int) {h : Nat} (hh : h < l.length) (hn : ∀ o, Open n l (h + 1) 0 o → Evt (fun q => skewbaldlaw07_DappleLook.l0 q x5 x6 x7 o ((h + 1 : Nat) : Int) (n : Int) l a b) true) : ∀ (d p : Nat) (o : Bool), p + d = n → Open n l h p o →
    Evt (fun q => skewbaldlaw07_DappleLook.l1 q x5 x6 x7 o (h : Int) (p : Int) (n : Int) l a b) true
  | 0, p, o, hp, ho => by
    have h6 := hV.h6
    refine Evt.succ ?_
    simp only [skewbaldlaw07_DappleLook.l1]
    rw [w64 h (by omega)]
    refine Evt.neg (by omega) (hn o ⟨fun e => ?_, fun e => ?_⟩)
    · obtain ⟨i, k, h1, h2, h3⟩ := ho.1 e
      exact ⟨i, k, h1, by omega, h3⟩
    · obtain ⟨i, k, h1, h2, h3⟩ := e
      exact ho.2 ⟨i, k, h1, by omega, h3⟩
  | d + 1, p, o, hp, ho => by
    have r8 := hV.r8
    have hr := (Valid.row hV hh).len
    have hpn : p < n := by omega
    obtain ⟨s, es, s1, s2⟩ := place_at hV hh hpn
    refine Evt.succ ?_
    simp only [skewbaldlaw07_DappleLook.l1]
    rw [w64 p (by omega), rd1_at, rd_at, show (l.getD h []).getD p 0 = (s : Int) from es]
    refine Evt.pos (by omega) (Evt.ite (fun e => ?_) (fun e => ?_))
    · refine look_l1 hV x5 x6 x7 a b hh hn d (p + 1) true (by omega) ⟨fun _ => ?_, fun _ => rfl⟩
      obtain ⟨i, k, h1, h2, h3⟩ := ho.1 e
      exact ⟨i, k, h1, by omega, h3⟩
    · refine Evt.pos (by omega) (Evt.pos (by omega) (Evt.pos (by omega) (Evt.pos (by omega) (Evt.bind (List_f s 4 (by omega) (by omega)) ?_))))
      refine look_l1 hV x5 x6 x7 a b hh hn d (p + 1) _ (by omega) ?_
      have hms := many_sizes s1 s2
      rw [ints_length]
      constructor
      · intro h1
        have := of_decide_eq_true h1
        exact ⟨h, p, hpn, by omega, by rw [es]; exact hms.1 (by omega)⟩
      · rintro ⟨i, k, h1, h2, h3⟩
        by_cases e2 : i = h ∧ k = p
        · obtain ⟨rfl, rfl⟩ := e2
          rw [es] at h3
          have := hms.2 h3
          exact decide_eq_true (by omega)
        · exact absurd (ho.2 ⟨i, k, h1, by omega, h3⟩) e
theorem look_l0 {n : Nat} {l : List (List Int)} (hV : Valid (n : Int) l) {x5 x6 x7 : Int} (ht : Told n l x5 x6 x7) (a b : Int) : ∀ (d h : Nat) (o : Bool), h + d = l.length → Open n l h 0 o →
    Evt (fun q => skewbaldlaw07_DappleLook.l0 q x5 x6 x7 o (h : Int) (n : Int) l a b) true
  | 0, h, o, hh, ho => by
    obtain rfl : h = l.length := by omega
    exact look_end hV ht a b o ho
  | d + 1, h, o, hh, ho => by
    refine Evt.succ ?_
    simp only [skewbaldlaw07_DappleLook.l0]
    exact Evt.pos (by omega) (look_l1 hV x5 x6 x7 a b (show h < l.length by omega) (fun o' ho' => look_l0 hV ht a b d (h + 1) o' (by omega) ho') n 0 o (by omega) ho)
theorem dappleLook (W : World) (a0_0 : Int) (l0_1 : List (List Int)) (a1_0 a1_1 : Int) (w0 : (Lit.int .i64 a0_0).wf = true) {A : Option Addr} (hC : Kd.C (Kd.slice 3 (Kd.int .i64)) W A l0_1.length l0_1) (w1 : ∀ x ∈ l0_1, ∀ y ∈ x, (Lit.int .i64 y).wf = true) (w2 : (Lit.int .i64 a1_0).wf = true) (w3 : (Lit.int .i64 a1_1).wf = true) :
    ∃ k, skewbaldlaw07_DappleLook.f k a0_0 l0_1 a1_0 a1_1 = some true := by
  refine Evt.get (f := fun k => skewbaldlaw07_DappleLook.f k a0_0 l0_1 a1_0 a1_1) ?_
  unfold skewbaldlaw07_DappleLook.f dapple_Look.f
  simp only [Option.bind_some]
  refine Evt.bind (sound_f a0_0 l0_1) (Evt.ite (fun hv => ?_) (fun hv => ?_))
  · have hV := (valid_iff a0_0 l0_1).1 hv
    obtain ⟨n, rfl, hn8, hn1⟩ := hV.nat
    exact look_l0 hV (look_told hV) a1_0 a1_1 l0_1.length 0 false (by omega) ⟨fun e => (by cases e), fun ⟨i, k, h1, h2, _⟩ => (by omega)⟩
  · have hv : validB a0_0 l0_1 = false := by simpa using hv
    have e : lookD a0_0 l0_1 = (0, 0, 70) := by unfold lookD; rw [hv]; rfl
    rw [e]
    exact Evt.pos (by trivial) (Evt.pos (by show wrap64 (0 + 0) = 0; unfold wrap64; omega) (Evt.bind pressed_f (Evt.pure _)))
end Go.Proofs.YtdllacjkacmghaaDoor.DappleLookRow.Pure
