/- Package plank, plain laws: where the knots truly are; PlankTrue. -/
import Derived.Test.YtekjlpldooihhaaDoorPTx20
import Derived.Test.YtekjlpldooihhaaDoorPTx18
import Derived.Test.YtekjlpldooihhaaDoorPTx22
namespace Go.Proofs.YtekjlpldooihhaaDoor.PR
open Go.RowKit Go.Proofs.YtekjlpldooihhaaDoorW.PrintWords Go.Proofs.YtekjlpldooihhaaDoorW.PrintMore Go.Proofs.YtekjlpldooihhaaDoorEv Go.Proofs.YtekjlpldooihhaaDoorP Go.Proofs.YtekjlpldooihhaaDoor.PT Go.Proofs.YtekjlpldooihhaaDoorH Go.Proofs.YtekjlpldooihhaaDoorK
open Go.Proofs.YtekjlpldooihhaaDoor.PA (S48 S50 S60 k48 k50 k60 z48 z50 z60 rd_T48 rd_T50 rd_T60 rd_L4)
set_option linter.unusedVariables false
set_option linter.unusedSimpArgs false
structure Truth (y : S48) (kn : List Int) : Prop where
  len : kn.length = y.f1.length
  at_ : ∀ k, k < y.f1.length → (y.f1.getD k z60).f0 ≤ kn.getD k 0 ∧ kn.getD k 0 ≤ (y.f1.getD k z60).f1
theorem sure_clear {y : S48} (hy : PlankOk y) {x : S50} {a : Nat} {t : Bool} {kn : List Int} (h : y.f1.all (kfree (jL x a t)) = true) (hT : Truth y kn) : clearB x a t kn = true := by
  unfold clearB
  rw [List.all_eq_true]
  intro v hv
  simp only [Bool.not_eq_true', decide_eq_false_iff_not]
  intro hk
  obtain ⟨q, hq, rfl⟩ := List.getElem_of_mem hk
  have hq' : q < y.f1.length := by rw [← hT.len]; exact hq
  have h1 := hT.at_ q hq'
  rw [getD_el hq, getD_el hq'] at h1
  have hm := List.getElem_mem hq'
  have h2 := (List.all_eq_true.1 h) _ hm
  have hs := hy.knot _ hm
  unfold kfree at h2
  have h3 := (List.all_eq_true.1 h2) (kn[q]).toNat (mem_kin.2 ⟨by omega, by omega⟩)
  unfold hitL at h3
  rw [show ((kn[q].toNat : Nat) : Int) = kn[q] by omega] at h3
  simp only [Bool.not_eq_true', decide_eq_false_iff_not] at h3
  exact h3 hv
theorem clear_may {y : S48} (hy : PlankOk y) {x : S50} {a : Nat} {t : Bool} {kn : List Int} (h : clearB x a t kn = true) (hT : Truth y kn) : y.f1.all (kmay (jL x a t)) = true := by
  rw [List.all_eq_true]
  intro s hs
  have hk := hy.knot _ hs
  obtain ⟨q, hq, rfl⟩ := List.getElem_of_mem hs
  have hq' : q < kn.length := by rw [hT.len]; exact hq
  have h1 := hT.at_ q hq
  rw [getD_el hq, getD_el hq'] at h1
  unfold kmay
  rw [List.any_eq_true]
  refine ⟨kn[q].toNat, mem_kin.2 ⟨by omega, by omega⟩, ?_⟩
  unfold hitL
  rw [show ((kn[q].toNat : Nat) : Int) = kn[q] by omega]
  simp only [Bool.not_eq_true', decide_eq_false_iff_not]
  intro hv
  unfold clearB at h
  have h2 := (List.all_eq_true.1 h) _ hv
  simp only [Bool.not_eq_true', decide_eq_false_iff_not] at h2
  exact h2 (List.getElem_mem hq')
def isB (x : S50) (a : Nat) (kn : List Int) : Bool := clearB x a false kn || (x.f2 && clearB x a true kn)
theorem is_sure {y : S48} (hy : PlankOk y) {x : S50} (hx : PartOk x) {a : Nat} {kn : List Int} (hT : Truth y kn) (h : okB y x a 0 = true) : isB x a kn = true := by
  unfold okB at h
  rw [show hbK 0 = kcanB from rfl, sound_sure hy hx, sound_sure hy hx, Bool.or_eq_true, Bool.and_eq_true] at h
  unfold isB
  rw [Bool.or_eq_true, Bool.and_eq_true]
  rcases h with h | ⟨h1, h2⟩
  · exact Or.inl (sure_clear hy h hT)
  · exact Or.inr ⟨h1, sure_clear hy h2 hT⟩
theorem is_may {y : S48} (hy : PlankOk y) {x : S50} (hx : PartOk x) {a : Nat} {kn : List Int} (hT : Truth y kn) (h : isB x a kn = true) : okB y x a 1 = true := by
  unfold isB at h
  rw [Bool.or_eq_true, Bool.and_eq_true] at h
  unfold okB
  rw [show hbK 1 = kmustB from rfl, sound_may hy hx, sound_may hy hx, Bool.or_eq_true, Bool.and_eq_true]
  rcases h with h | ⟨h1, h2⟩
  · exact Or.inl (clear_may hy h hT)
  · exact Or.inr ⟨h1, clear_may hy h2 hT⟩
theorem is_two {y : S48} (hy : PlankOk y) {x : S50} (hx : PartOk x) {a : Nat} {kn : List Int} (hT : Truth y kn) (h : canN y x a = 2) : isB x a kn = true := by
  refine is_sure hy hx hT ?_
  unfold canN at h
  by_cases e : okB y x a 0 = true
  · exact e
  · rw [if_neg e] at h; split at h <;> omega
theorem is_zero {y : S48} (hy : PlankOk y) {x : S50} (hx : PartOk x) {a : Nat} {kn : List Int} (hT : Truth y kn) (h : canN y x a = 0) : isB x a kn = false := by
  rw [Bool.eq_false_iff]
  intro hi
  have h1 := is_may hy hx hT hi
  unfold canN at h
  rw [h1] at h
  split at h <;> simp at h
theorem Any_f {a b : Int} (h0 : 0 ≤ a) (h1 : a ≤ b) (h2 : b < 16) (n : Int) : ∃ v, a ≤ v ∧ v ≤ b ∧ skewbaldref00_Any.f a b n = some v := by
  obtain ⟨t, ht, e⟩ := Round_nat n (b - a + 1).toNat (by omega) (by omega)
  refine ⟨a + t, by omega, by omega, ?_⟩
  unfold skewbaldref00_Any.f
  rw [show wrap64 (wrap64 (b - a) + 1) = (((b - a + 1).toNat : Nat) : Int) by unfold wrap64; omega, e]
  simp only [Option.bind_some]
  congr 1
  unfold wrap64
  omega
theorem truly_l0 {y : S48} (hy : PlankOk y) {bits : List Int} (hb : bits.length < 9223372036854775808) : ∀ (d j : Nat) (kn : List Int), j + d = y.f1.length → kn.length = j → (∀ k, k < j → (y.f1.getD k z60).f0 ≤ kn.getD k 0 ∧ kn.getD k 0 ≤ (y.f1.getD k z60).f1) →
    ∃ r, Truth y r ∧ Evt (fun k => skewbaldlaw01_truly.l0 k bits kn (j : Int) y.f0 y.f1) r
  | 0, j, kn, hj, hl, hk => by
    refine ⟨kn, ⟨by omega, fun k h => hk k (by omega)⟩, Evt.succ ?_⟩
    simp only [skewbaldlaw01_truly.l0]
    exact Evt.neg (by omega) (Evt.pure _)
  | d + 1, j, kn, hj, hl, hk => by
    have h3 := hy.few
    have hlt : j < y.f1.length := by omega
    obtain ⟨s0, s1, s2⟩ := hy.knot _ (List.getElem_mem hlt)
    rw [← getD_el (z := z60) hlt] at s0 s1 s2
    obtain ⟨v, v1, v2, e⟩ := Any_f s0 s1 s2 (takeD bits (j : Int))
    obtain ⟨r, hT, hr⟩ := truly_l0 hy hb d (j + 1) (kn ++ [v]) (by omega) (by simp [hl]) (fun k h => by
      by_cases ek : k = j
      · subst ek
        rw [show (kn ++ [v]).getD k 0 = v from by simp [← hl]]
        exact ⟨v1, v2⟩
      · rw [show (kn ++ [v]).getD k 0 = kn.getD k 0 from by simp [List.getElem?_append_left (show k < kn.length by omega)]]
        exact hk k (by omega))
    refine ⟨r, hT, Evt.succ ?_⟩
    simp only [skewbaldlaw01_truly.l0]
    rw [Take_f bits _ hb, rd60, w64 j (by omega)]
    simp only [Option.bind_some]
    rw [e]
    simp only [Option.bind_some]
    exact Evt.pos (by omega) (Evt.pos (by omega) (Evt.pos (by omega) hr))
theorem truly_f {y : S48} (hy : PlankOk y) {bits : List Int} (hb : bits.length < 9223372036854775808) : ∃ r, Truth y r ∧ Evt (fun k => skewbaldlaw01_truly.f k y.f0 y.f1 bits) r := by
  unfold skewbaldlaw01_truly.f
  exact truly_l0 hy hb y.f1.length 0 [] (by omega) rfl (fun k h => by omega)
theorem good_spot {y : S48} {Q : List S50} : ∀ (ps us : List Nat) (f : Nat → Bool), Go.Proofs.YtekjlpldooihhaaDoorP.Good y Q ps f us → ∀ q, q < ps.length → spotB y (Q.getD (ps.getD q 0) z50) (us.getD q 0) = true
  | [], us, f, h, q, hq => by simp at hq
  | p :: ps, [], f, h, q, hq => by simp [Go.Proofs.YtekjlpldooihhaaDoorP.Good] at h
  | p :: ps, a :: us, f, h, q, hq => by
    unfold Go.Proofs.YtekjlpldooihhaaDoorP.Good at h
    cases q with
    | zero => simpa using h.1
    | succ q =>
      have := good_spot ps us _ h.2.2 q (by simpa using hq)
      simpa using this
theorem grows_ints (L : Int) : ∀ (l : List Nat) (last : Int), l.Pairwise (· < ·) → (∀ a ∈ l, last < (a : Int) ∧ (a : Int) < L) → growsB L last (ints l) = true
  | [], last, _, _ => rfl
  | a :: l, last, hp, h => by
    obtain ⟨h1, h2⟩ := h a (by simp)
    have ih := grows_ints L l (a : Int) (List.pairwise_cons.1 hp).2 (fun b hb => ⟨by have := (List.pairwise_cons.1 hp).1 b hb; omega, (h b (by simp [hb])).2⟩)
    show growsB L last ((a : Int) :: ints l) = true
    unfold growsB
    rw [ih]
    simp
    omega
theorem can_told {P : List S48} {Q : List S50} (hv : validB P Q = true) {i p : Nat} (hi : i < P.length) (hp : p < Q.length) {a : Nat} (ha : (a : Int) + (Q.getD p z50).f0 ≤ (P.getD i z48).f0) : canP P Q (i : Int) (p : Int) (a : Int) = (((canN (P.getD i z48) (Q.getD p z50) a : Nat) : Int), 0) := by
  unfold canP
  rw [hv, show inB (i : Int) P.length = true from by unfold inB; simp; omega, show inB (p : Int) Q.length = true from by unfold inB; simp; omega, Int.toNat_natCast, Int.toNat_natCast, Int.toNat_natCast, show liesB (P.getD i z48) (Q.getD p z50) (a : Int) = true from by unfold liesB; rw [Bool.and_eq_true]; exact ⟨decide_eq_true (by omega), decide_eq_true (by omega)⟩]
  rfl
theorem plankTrue_j1 {P : List S48} {Q : List S50} (hv : validB P Q = true) {i : Nat} (hi : i < P.length) {kn : List Int} (hT : Truth (P.getD i z48) kn) (a b c d : Int) : Evt (fun k => skewbaldlaw01_PlankTrue.j1 k (i : Int) kn false P Q a b c d) true := by
  have hok := valid_ok hv
  have h5 := hok.q5
  have hy := Ok.plankOk hok hi
  have hkn : kn.length < 9223372036854775807 := by have := hT.len; have := hy.few; omega
  have hpq := pow_pos Q.length
  have h32 : 2 ^ Q.length ≤ 32 := Nat.pow_le_pow_right (by omega : 0 < 2) h5
  obtain ⟨t, ht, e⟩ := Round_nat d (2 ^ Q.length) hpq (by omega)
  have hL : ∀ p ∈ setL t, 1 ≤ (Q.getD p z50).f0 := fun p hp => (Ok.partOk hok (setL_lt ht hp)).one
  refine Evt.succ ?_
  simp only [skewbaldlaw01_PlankTrue.j1, plank_Lay.f, Option.bind_some]
  rw [shl_pow Q.length (by omega), e]
  simp only [Option.bind_some]
  refine Evt.neg (by simp) (Evt.bind (ListN_f h5 ht) ?_)
  rw [lay_told hv hi ht]
  cases hla : laidB (P.getD i z48) Q (setL t) with
  | none => exact Evt.neg (by simp [layR]) (Evt.pos rfl (Evt.pos rfl (Evt.bind sawn_f (Evt.pure _))))
  | some o =>
    obtain ⟨us, eo, hg, hm⟩ := laidFrom_some (setL t) hL _ _ _ hla
    rw [List.nil_append] at eo
    subst eo
    have hol := good_length _ _ _ hg
    have hsp := good_spot _ _ _ hg
    refine Evt.pos rfl (Evt.bind (laid_f hok hi hol hkn (fun p hp => setL_lt ht hp) (setL5 t) (fun q hq => ⟨hsp q hq, is_two hy (Ok.partOk hok (setL_lt ht (by rw [getD_el hq]; exact List.getElem_mem hq))) hT (spot_lt (hsp q hq)).2⟩)) ?_)
    rw [(good_goodF (setL t) o (fun _ => false) hol hsp).1 hg]
    exact Evt.pos rfl (Evt.bind sawn_f (Evt.pure _))
theorem plankTrue_j0 {P : List S48} {Q : List S50} (hv : validB P Q = true) {i p : Nat} (hi : i < P.length) (hp : p < Q.length) {kn : List Int} (hT : Truth (P.getD i z48) kn) (a b c d : Int) : Evt (fun k => skewbaldlaw01_PlankTrue.j0 k (i : Int) (p : Int) kn P Q a b c d (P.getD i z48).f0 (P.getD i z48).f1) true := by
  have hok := valid_ok hv
  have hy := Ok.plankOk hok hi
  have hx := Ok.partOk hok hp
  have h16 := spots_len hy (Q.getD p z50)
  refine Evt.succ ?_
  simp only [skewbaldlaw01_PlankTrue.j0, plank_Spots.f, Option.bind_some]
  rw [spots_told hv hi hp]
  refine Evt.pos rfl (Evt.bind (Grows_f _ (by show (ints _).length < _; rw [ints_length]; omega) _) ?_)
  show Evt (fun k => skewbaldlaw01_PlankTrue.j1 k (i : Int) kn (!growsB (P.getD i z48).f0 (-1) (ints (spotsL (P.getD i z48) (Q.getD p z50)))) P Q a b c d) true
  rw [grows_ints _ _ _ (spots_sorted _ _) (fun a ha => by have := (spot_lt ((mem_spots hx.one).1 ha)).1; have := hx.one; omega)]
  exact plankTrue_j1 hv hi hT a b c d
theorem plankTrue_f {P : List S48} {Q : List S50} {bits : List Int} (hbits : bits.length < 9223372036854775808) (a b c d : Int) : Evt (fun k => skewbaldlaw01_PlankTrue.f k P Q bits a b c d) true := by
  unfold skewbaldlaw01_PlankTrue.f
  refine Evt.bind sound_f (Evt.ite (fun hv => ?_) (fun hv => Evt.bind sawn_f (Evt.pure _)))
  have hok := valid_ok hv
  obtain ⟨h1, h3, h1', h5, _, _⟩ := valid_told hv
  obtain ⟨i, hi, e1⟩ := Round_nat a P.length h1 (by omega)
  obtain ⟨p, hp, e2⟩ := Round_nat b Q.length h1' (by omega)
  have hy := Ok.plankOk hok hi
  have hx := Ok.partOk hok hp
  obtain ⟨kn, hT, hkn⟩ := truly_f hy hbits
  have hkl : kn.length < 9223372036854775807 := by have := hT.len; have := hy.few; omega
  have J := plankTrue_j0 hv hi hp hT a b c d
  have y1 := hy.one; have y16 := hy.big; have x1 := hx.one; have x12 := hx.big
  rw [e1]
  simp only [Option.bind_some]
  rw [e2]
  simp only [Option.bind_some]
  rw [rd48, rd50]
  refine Evt.pos (by omega) (Evt.pos (by omega) (Evt.pos (by omega) (Evt.pos (by omega) (Evt.bind hkn ?_))))
  rw [show wrap64 (wrap64 ((P.getD i z48).f0 - (Q.getD p z50).f0) + 1) = (P.getD i z48).f0 - (Q.getD p z50).f0 + 1 by unfold wrap64; omega]
  by_cases hge : (P.getD i z48).f0 ≥ (Q.getD p z50).f0
  · obtain ⟨m, hm, e3⟩ := Round_nat c ((P.getD i z48).f0 - (Q.getD p z50).f0 + 1).toNat (by omega) (by omega)
    rw [show ((((P.getD i z48).f0 - (Q.getD p z50).f0 + 1).toNat : Nat) : Int) = (P.getD i z48).f0 - (Q.getD p z50).f0 + 1 by omega] at e3
    have hc2 := canN_le (P.getD i z48) (Q.getD p z50) m
    have h2 := is_two (a := m) hy hx hT
    have h0 := is_zero (a := m) hy hx hT
    rw [e3]
    simp only [Option.bind_some, plank_Can.f]
    rw [can_told hv hi hp (a := m) (by omega), In_f]
    simp only [Option.bind_some]
    generalize canN (P.getD i z48) (Q.getD p z50) m = kd at *
    rw [show (decide ((0 : Int) ≤ (kd : Int)) && decide ((kd : Int) ≤ 2)) = true from by rw [Bool.and_eq_true]; exact ⟨decide_eq_true (by omega), decide_eq_true (by omega)⟩]
    unfold isB at h2 h0
    refine Evt.pos hge (Evt.bind (clear_f hx (by omega) false hkl) (Evt.ite (fun hc => ?_) (fun hc => ?_)))
    · refine Evt.pos (by trivial) (Evt.pos (by trivial) (Evt.ite (fun e => Evt.neg (by omega) J) (fun e => Evt.neg (fun e0 => ?_) J)))
      have := h0 (by omega)
      rw [hc] at this
      simp at this
    · have hc' : clearB (Q.getD p z50) m false kn = false := by simpa using hc
      rw [hc', Bool.false_or] at h2 h0
      refine Evt.ite (fun hf => ?_) (fun hf => ?_)
      · rw [hf, Bool.true_and] at h2 h0
        refine Evt.bind (clear_f hx (by omega) true hkl) (Evt.pos (by trivial) (Evt.pos (by trivial) (Evt.ite (fun e => ?_) (fun e => ?_))))
        · exact Evt.pos (h2 (by omega)) (Evt.neg (by omega) J)
        · exact Evt.ite (fun e0 => Evt.neg (by rw [h0 (by omega)]; simp) J) (fun e0 => J)
      · rw [show (Q.getD p z50).f2 = false from by simpa using hf, Bool.false_and] at h2 h0
        refine Evt.pos (by trivial) (Evt.pos (by trivial) (Evt.neg (fun e => by have := h2 (by omega); simp at this) (Evt.ite (fun e0 => J) (fun e0 => J))))
  · rw [show skewbaldref00_Round.f c ((P.getD i z48).f0 - (Q.getD p z50).f0 + 1) = some 0 from by unfold skewbaldref00_Round.f; rw [if_pos (by omega)]]
    simp only [Option.bind_some]
    exact Evt.neg hge J
end Go.Proofs.YtekjlpldooihhaaDoor.PR
namespace Go.Proofs.YtekjlpldooihhaaDoor.PlankTrueRow.Pure
open Go.RowKit Go.Proofs.YtekjlpldooihhaaDoorW.PrintWords Go.Proofs.YtekjlpldooihhaaDoorEv Go.Proofs.YtekjlpldooihhaaDoorP Go.Proofs.YtekjlpldooihhaaDoor.PT Go.Proofs.YtekjlpldooihhaaDoor.PR
open Go.Proofs.YtekjlpldooihhaaDoor.PA (S48 S50 k48 k50)
set_option linter.unusedVariables false
theorem plankTrue (W : World) (P : List S48) (Q : List S50) (l : List Int) (a b c d : Int) {A : Option Addr} (hP : Kd.C k48 W A P.length P) (w0 : ∀ y ∈ P, wfWood y) {B : Option Addr} (hQ : Kd.C k50 W B Q.length Q) (w1 : ∀ x ∈ Q, wfShape x) {D : Option Addr} (hl : Kd.C (Kd.int .i64) W D l.length l) (w2 : ∀ x ∈ l, (Lit.int .i64 x).wf = true) (w3 : (Lit.int .i64 a).wf = true) (w4 : (Lit.int .i64 b).wf = true) (w5 : (Lit.int .i64 c).wf = true) (w6 : (Lit.int .i64 d).wf = true) :
    ∃ k, skewbaldlaw01_PlankTrue.f k P Q l a b c d = some true :=
  (plankTrue_f (by have := hl.2.1; omega) a b c d).get
end Go.Proofs.YtekjlpldooihhaaDoor.PlankTrueRow.Pure
