/- The plain law of PlankSpots: what the program's functions answer is what the reference's answer, for any book and three numbers. -/
import Derived.Test.YtekjlpldooihhaaDoorPTx7
import Derived.Test.YtekjlpldooihhaaDoorPa
namespace Go.Proofs.YtekjlpldooihhaaDoor.PR
open Go.RowKit Go.Proofs.YtekjlpldooihhaaDoorW.PrintWords Go.Proofs.YtekjlpldooihhaaDoorEv Go.Proofs.YtekjlpldooihhaaDoorP Go.Proofs.YtekjlpldooihhaaDoor.PT Go.Proofs.YtekjlpldooihhaaDoorH
open Go.Proofs.YtekjlpldooihhaaDoor.PA (S48 S50 S60 k48 k50 k60 z48 z50 z60 rd_T48 rd_T50 rd_T60)
set_option linter.unusedVariables false
set_option linter.unusedSimpArgs false
def jL (x : S50) (a : Nat) (t : Bool) : List Int := x.f1.map fun n => (a : Int) + (if t then x.f0 - 1 - n else n)
structure PartOk (x : S50) : Prop where
  one : 1 ≤ x.f0
  big : x.f0 ≤ 12
  few : x.f1.length ≤ 3
  joint : ∀ n ∈ x.f1, 0 ≤ n ∧ n < x.f0
theorem Ok.partOk {P : List S48} {Q : List S50} (h : Ok P Q) {p : Nat} (hp : p < Q.length) : PartOk (Q.getD p z50) := by
  obtain ⟨a, b, c, d⟩ := h.shape (Q.getD p z50) (by rw [show Q.getD p z50 = Q[p] from by simp [hp]]; exact List.getElem_mem hp)
  exact ⟨a, b, c, d⟩
structure PlankOk (y : S48) : Prop where
  one : 1 ≤ y.f0
  big : y.f0 ≤ 16
  few : y.f1.length ≤ 3
  knot : ∀ s ∈ y.f1, 0 ≤ s.f0 ∧ s.f0 ≤ s.f1 ∧ s.f1 < 16
theorem Ok.plankOk {P : List S48} {Q : List S50} (h : Ok P Q) {p : Nat} (hp : p < P.length) : PlankOk (P.getD p z48) := by
  obtain ⟨a, b, c⟩ := h.wood (P.getD p z48) (by rw [show P.getD p z48 = P[p] from by simp [hp]]; exact List.getElem_mem hp)
  exact ⟨a, b, c.few, c.knot⟩
theorem take_map_next {α β : Type} (f : α → β) (l : List α) (j : Nat) (h : j < l.length) : (l.map f).take j ++ [f l[j]] = (l.map f).take (j + 1) := by
  rw [List.take_add_one, List.getElem?_map, List.getElem?_eq_getElem h]; rfl
theorem joints_l0 {x : S50} (hx : PartOk x) {a : Nat} (ha : a ≤ 16) (t : Bool) : ∀ (d j : Nat), j + d = x.f1.length →
    Evt (fun k => skewbaldref01_joints.l0 k (a : Int) t ((jL x a t).take j) (j : Int) x.f0 x.f1 x.f2) (jL x a t)
  | 0, j, hj => by
    refine Evt.succ ?_
    simp only [skewbaldref01_joints.l0]
    refine Evt.neg (by omega) ?_
    rw [List.take_of_length_le (by unfold jL; rw [List.length_map]; omega)]
    exact Evt.pure _
  | d + 1, j, hj => by
    refine Evt.succ ?_
    simp only [skewbaldref01_joints.l0]
    have hlt : j < x.f1.length := by omega
    have ih := joints_l0 hx ha t d (j + 1) (by omega)
    have h3 := hx.few
    have h1 := hx.one
    have h12 := hx.big
    obtain ⟨n0, n1⟩ := hx.joint x.f1[j] (List.getElem_mem _)
    have hg : rd x.f1 (j : Int) = x.f1[j] := by simp [rd, hlt]
    have hl : ((jL x a t).take j).length < 17592186044416 := by unfold jL; rw [List.length_take, List.length_map]; omega
    rw [show (jL x a t).take (j + 1) = (jL x a t).take j ++ [(a : Int) + (if t then x.f0 - 1 - x.f1[j] else x.f1[j])] from (take_map_next _ _ _ hlt).symm] at ih
    refine Evt.pos (by omega) (Evt.pos (by omega) ?_)
    rw [hg, w64 j (by omega)]
    cases t with
    | true =>
      refine Evt.pos rfl (Evt.pos hl ?_)
      rw [show wrap64 ((a : Int) + wrap64 (wrap64 (x.f0 - 1) - x.f1[j])) = (a : Int) + (x.f0 - 1 - x.f1[j]) by unfold wrap64; omega]
      simpa using ih
    | false =>
      refine Evt.neg (by simp) (Evt.pos hl ?_)
      rw [show wrap64 ((a : Int) + x.f1[j]) = (a : Int) + x.f1[j] by unfold wrap64; omega]
      simpa using ih
theorem joints_f {x : S50} (hx : PartOk x) {a : Nat} (ha : a ≤ 16) (t : Bool) : Evt (fun k => skewbaldref01_joints.f k x.f0 x.f1 x.f2 (a : Int) t) (jL x a t) := by
  unfold skewbaldref01_joints.f
  exact joints_l0 hx ha t x.f1.length 0 (by omega)
theorem jL_len (x : S50) (a : Nat) (t : Bool) : (jL x a t).length = x.f1.length := by simp [jL]
def hitL (l : List Int) (n : Nat) : Bool := decide ((n : Int) ∈ l)
theorem sure_l1 {l : List Int} (hl : l.length < 9223372036854775807) {w0 : Int} {kn : List S60} {i : Nat} (hi : i < kn.length) (hk : kn.length < 9223372036854775807) {hi16 : Nat} (h16 : hi16 < 16) (he : (kn.getD i z60).f1 = hi16) (r : Bool) (hc : Evt (fun k => skewbaldref01_sure.l0 k l ((i + 1 : Nat) : Int) w0 kn) r) :
    ∀ (d m : Nat), m + d = hi16 + 1 → Evt (fun k => skewbaldref01_sure.l1 k l (i : Int) (m : Int) w0 kn) (((List.range' m d).all fun n => !hitL l n) && r)
  | 0, m, hm => by
    refine Evt.succ ?_
    simp only [skewbaldref01_sure.l1]
    rw [rd60, he, w64 i (by omega)]
    refine Evt.pos (by omega) (Evt.pos (by omega) (Evt.neg (by omega) ?_))
    simpa using hc
  | d + 1, m, hm => by
    refine Evt.succ ?_
    simp only [skewbaldref01_sure.l1]
    rw [rd60, he, w64 i (by omega), w64 m (by omega)]
    have ih := sure_l1 hl hi hk h16 he r hc d (m + 1) (by omega)
    refine Evt.pos (by omega) (Evt.pos (by omega) (Evt.pos (by omega) ?_))
    refine Evt.bind (Find_f l hl _) (Evt.ite (fun h => ?_) (fun h => ?_))
    · have := (findD_nonneg l (m : Int)).1 h
      rw [List.range'_succ, List.all_cons, show hitL l m = true from decide_eq_true this]
      simpa using Evt.pure false
    · have : ¬ (m : Int) ∈ l := fun h2 => h ((findD_nonneg l (m : Int)).2 h2)
      rw [List.range'_succ, List.all_cons, show hitL l m = false from decide_eq_false this]
      simpa using ih
def kfree (l : List Int) (s : S60) : Bool := (kin s.f0.toNat s.f1.toNat).all fun n => !hitL l n
def kmay (l : List Int) (s : S60) : Bool := (kin s.f0.toNat s.f1.toNat).any fun n => !hitL l n
theorem sure_l0 {l : List Int} (hl : l.length < 9223372036854775807) {y : S48} (hy : PlankOk y) : ∀ (d i : Nat), i + d = y.f1.length → Evt (fun k => skewbaldref01_sure.l0 k l (i : Int) y.f0 y.f1) ((y.f1.drop i).all (kfree l))
  | 0, i, hi => by
    refine Evt.succ ?_
    simp only [skewbaldref01_sure.l0]
    rw [List.drop_eq_nil_of_le (by omega)]
    exact Evt.neg (by omega) (Evt.pure _)
  | d + 1, i, hi => by
    refine Evt.succ ?_
    simp only [skewbaldref01_sure.l0]
    have h3 := hy.few
    have hlt : i < y.f1.length := by omega
    have hd : y.f1.drop i = y.f1[i] :: y.f1.drop (i + 1) := List.drop_eq_getElem_cons hlt
    obtain ⟨a, b, c⟩ := hy.knot y.f1[i] (List.getElem_mem _)
    refine Evt.pos (by omega) (Evt.pos (by omega) ?_)
    rw [rd60, getD_el hlt, hd, List.all_cons]
    have key := sure_l1 hl hlt (by omega) (hi16 := y.f1[i].f1.toNat) (by omega) (by rw [getD_el hlt]; omega) _ (sure_l0 hl hy d (i + 1) (by omega)) (y.f1[i].f1.toNat + 1 - y.f1[i].f0.toNat) y.f1[i].f0.toNat (by omega)
    rw [show ((y.f1[i].f0.toNat : Nat) : Int) = y.f1[i].f0 by omega] at key
    exact key
theorem sure_f {l : List Int} (hl : l.length < 9223372036854775807) {y : S48} (hy : PlankOk y) : Evt (fun k => skewbaldref01_sure.f k y.f0 y.f1 l) (y.f1.all (kfree l)) := by
  unfold skewbaldref01_sure.f
  exact sure_l0 hl hy y.f1.length 0 (by omega)
theorem may_l1 {l : List Int} (hl : l.length < 9223372036854775807) {w0 : Int} {kn : List S60} {i : Nat} (hi : i < kn.length) (hk : kn.length < 9223372036854775807) {hi16 : Nat} (h16 : hi16 < 16) (he : (kn.getD i z60).f1 = hi16) (r : Bool) (hc : Evt (fun k => skewbaldref01_may.l0 k l ((i + 1 : Nat) : Int) w0 kn) r) :
    ∀ (d m : Nat) (b : Bool), m + d = hi16 + 1 → Evt (fun k => skewbaldref01_may.l1 k l (i : Int) b (m : Int) w0 kn) ((b || (List.range' m d).any fun n => !hitL l n) && r)
  | 0, m, b, hm => by
    refine Evt.succ ?_
    simp only [skewbaldref01_may.l1]
    rw [rd60, he, w64 i (by omega)]
    refine Evt.pos (by omega) (Evt.pos (by omega) (Evt.neg (by omega) ?_))
    cases b with
    | true => exact Evt.pos rfl (by simpa using hc)
    | false => exact Evt.neg (by simp) (by simpa using Evt.pure false)
  | d + 1, m, b, hm => by
    refine Evt.succ ?_
    simp only [skewbaldref01_may.l1]
    rw [rd60, he, w64 i (by omega), w64 m (by omega)]
    have ih := fun b => may_l1 hl hi hk h16 he r hc d (m + 1) b (by omega)
    refine Evt.pos (by omega) (Evt.pos (by omega) (Evt.pos (by omega) ?_))
    rw [List.range'_succ, List.any_cons]
    cases b with
    | true => exact Evt.pos rfl (by simpa using ih true)
    | false =>
      refine Evt.neg (by simp) (Evt.bind (Find_f l hl _) ?_)
      have e : decide (findD l (m : Int) < 0) = !hitL l m := by
        unfold hitL
        rw [← decide_not, decide_eq_decide, ← findD_nonneg]; omega
      rw [e]
      simpa using ih (!hitL l m)
theorem may_l0 {l : List Int} (hl : l.length < 9223372036854775807) {y : S48} (hy : PlankOk y) : ∀ (d i : Nat), i + d = y.f1.length → Evt (fun k => skewbaldref01_may.l0 k l (i : Int) y.f0 y.f1) ((y.f1.drop i).all (kmay l))
  | 0, i, hi => by
    refine Evt.succ ?_
    simp only [skewbaldref01_may.l0]
    rw [List.drop_eq_nil_of_le (by omega)]
    exact Evt.neg (by omega) (Evt.pure _)
  | d + 1, i, hi => by
    refine Evt.succ ?_
    simp only [skewbaldref01_may.l0]
    have h3 := hy.few
    have hlt : i < y.f1.length := by omega
    have hd : y.f1.drop i = y.f1[i] :: y.f1.drop (i + 1) := List.drop_eq_getElem_cons hlt
    obtain ⟨a, b, c⟩ := hy.knot y.f1[i] (List.getElem_mem _)
    refine Evt.pos (by omega) (Evt.pos (by omega) ?_)
    rw [rd60, getD_el hlt, hd, List.all_cons]
    have key := may_l1 hl hlt (by omega) (hi16 := y.f1[i].f1.toNat) (by omega) (by rw [getD_el hlt]; omega) _ (may_l0 hl hy d (i + 1) (by omega)) (y.f1[i].f1.toNat + 1 - y.f1[i].f0.toNat) y.f1[i].f0.toNat false (by omega)
    rw [show ((y.f1[i].f0.toNat : Nat) : Int) = y.f1[i].f0 by omega, Bool.false_or] at key
    exact key
theorem may_f {l : List Int} (hl : l.length < 9223372036854775807) {y : S48} (hy : PlankOk y) : Evt (fun k => skewbaldref01_may.f k y.f0 y.f1 l) (y.f1.all (kmay l)) := by
  unfold skewbaldref01_may.f
  exact may_l0 hl hy y.f1.length 0 (by omega)
theorem hit_jset {x : S50} (hx : PartOk x) (a : Nat) (t : Bool) (i : Nat) : hitL (jL x a t) i = jset x a t i := by
  unfold hitL jL jset jsetK
  rw [Bool.eq_iff_iff, decide_eq_true_eq, List.mem_map, List.any_eq_true]
  constructor
  · rintro ⟨n, hn, e⟩
    refine ⟨n, hn, ?_⟩
    rw [decide_eq_true_eq]
    unfold jAt
    omega
  · rintro ⟨n, hn, e⟩
    rw [decide_eq_true_eq] at e
    obtain ⟨h0, h1⟩ := hx.joint n hn
    refine ⟨n, hn, ?_⟩
    unfold jAt at e
    cases t <;> simp at e ⊢ <;> omega
theorem mem_kin {lo hi n : Nat} : n ∈ kin lo hi ↔ lo ≤ n ∧ n ≤ hi := by
  unfold kin; rw [List.mem_range'_1]; omega
theorem sound_sure {y : S48} (hy : PlankOk y) {x : S50} (hx : PartOk x) (a : Nat) (t : Bool) : soundB y x a t kcanB = y.f1.all (kfree (jL x a t)) := by
  unfold soundB
  rw [Bool.eq_iff_iff, Bool.or_eq_true, List.all_eq_true, List.all_eq_true, List.all_eq_true]
  constructor
  · rintro (h | h) s hs
    · unfold kfree
      rw [List.all_eq_true]
      intro n hn
      rw [mem_kin] at hn
      have := hy.knot s hs
      have := h n (by rw [List.mem_range]; omega)
      rw [hit_jset hx, beq_iff_eq.1 this]; rfl
    · have := h s hs
      unfold kcanB at this
      rw [Bool.not_eq_true', List.any_eq_false] at this
      unfold kfree
      rw [List.all_eq_true]
      intro n hn
      rw [hit_jset hx, Bool.not_eq_true']
      simpa using this n hn
  · intro h
    right
    intro s hs
    have := h s hs
    unfold kfree at this
    rw [List.all_eq_true] at this
    unfold kcanB
    rw [Bool.not_eq_true', List.any_eq_false]
    intro n hn
    have := this n hn
    rw [hit_jset hx, Bool.not_eq_true'] at this
    simp [this]
theorem sound_may {y : S48} (hy : PlankOk y) {x : S50} (hx : PartOk x) (a : Nat) (t : Bool) : soundB y x a t kmustB = y.f1.all (kmay (jL x a t)) := by
  unfold soundB
  rw [Bool.eq_iff_iff, Bool.or_eq_true, List.all_eq_true, List.all_eq_true, List.all_eq_true]
  constructor
  · rintro (h | h) s hs
    · unfold kmay
      rw [List.any_eq_true]
      have := hy.knot s hs
      refine ⟨s.f0.toNat, mem_kin.2 ⟨Nat.le_refl _, by omega⟩, ?_⟩
      have := h s.f0.toNat (by rw [List.mem_range]; omega)
      rw [hit_jset hx, beq_iff_eq.1 this]; rfl
    · have := h s hs
      unfold kmustB at this
      rw [Bool.not_eq_true', List.all_eq_false] at this
      obtain ⟨n, hn, h2⟩ := this
      unfold kmay
      rw [List.any_eq_true]
      exact ⟨n, hn, by rw [hit_jset hx]; simpa using h2⟩
  · intro h
    right
    intro s hs
    have := h s hs
    unfold kmay at this
    rw [List.any_eq_true] at this
    obtain ⟨n, hn, h2⟩ := this
    unfold kmustB
    rw [Bool.not_eq_true', List.all_eq_false]
    exact ⟨n, hn, by rw [hit_jset hx] at h2; simpa using h2⟩
theorem can_j0 {y : S48} (hy : PlankOk y) {x : S50} (hx : PartOk x) (a : Nat) (b : Bool) :
    Evt (fun k => skewbaldref01_can.j0 k (jL x a false) (jL x a true) b y.f0 y.f1 x.f0 x.f1 x.f2) (if b then 2 else if okB y x a 1 then 1 else 0) := by
  have h3 := hx.few
  refine Evt.succ ?_
  simp only [skewbaldref01_can.j0]
  cases b with
  | true => exact Evt.pos rfl (Evt.pure _)
  | false =>
    refine Evt.neg (by simp) (Evt.bind (may_f (by rw [jL_len]; omega) hy) ?_)
    rw [← sound_may hy hx]
    have e : okB y x a 1 = (soundB y x a false kmustB || (x.f2 && soundB y x a true kmustB)) := rfl
    rw [e]
    cases h1 : soundB y x a false kmustB with
    | true => exact Evt.pos rfl (Evt.pure _)
    | false =>
      refine Evt.neg (by simp) ?_
      cases h2 : x.f2 with
      | false => exact Evt.neg (by simp) (Evt.pure _)
      | true =>
        refine Evt.pos rfl (Evt.bind (may_f (by rw [jL_len]; omega) hy) ?_)
        rw [← sound_may hy hx]
        cases h4 : soundB y x a true kmustB with
        | true => exact Evt.pos rfl (Evt.pure _)
        | false => exact Evt.neg (by simp) (Evt.pure _)
theorem can_f {P : List S48} {Q : List S50} (hok : Ok P Q) {i p a : Nat} (hi : i < P.length) (hp : p < Q.length) (ha : a ≤ 16) :
    Evt (fun k => skewbaldref01_can.f k P Q (i : Int) (p : Int) (a : Int)) ((canN (P.getD i z48) (Q.getD p z50) a : Nat) : Int) := by
  have hy := Ok.plankOk hok hi
  have hx := Ok.partOk hok hp
  unfold skewbaldref01_can.f
  rw [rd48, rd50]
  generalize P.getD i z48 = y at hy ⊢
  generalize Q.getD p z50 = x at hx ⊢
  have h3 := hx.few
  refine Evt.pos (by omega) (Evt.pos (by omega) (Evt.pos (by omega) (Evt.pos (by omega) ?_)))
  refine Evt.bind (joints_f hx ha false) (Evt.bind (joints_f hx ha true) (Evt.bind (sure_f (by rw [jL_len]; omega) hy) ?_))
  rw [← sound_sure hy hx]
  have e : okB y x a 0 = (soundB y x a false kcanB || (x.f2 && soundB y x a true kcanB)) := rfl
  have hc : ((canN y x a : Nat) : Int) = if okB y x a 0 then 2 else if okB y x a 1 then 1 else 0 := by
    unfold canN; split <;> (try split) <;> rfl
  rw [hc, e]
  cases h1 : soundB y x a false kcanB with
  | true => exact Evt.pos rfl (by simpa using can_j0 hy hx a true)
  | false =>
    refine Evt.neg (by simp) ?_
    cases h2 : x.f2 with
    | false => rw [← h2]; exact Evt.neg (by rw [h2]; simp) (by simpa [h2] using can_j0 hy hx a false)
    | true =>
      refine Evt.pos rfl (Evt.bind (sure_f (by rw [jL_len]; omega) hy) ?_)
      rw [← sound_sure hy hx, ← h2]
      simpa [h2] using can_j0 hy hx a (soundB y x a true kcanB)
end Go.Proofs.YtekjlpldooihhaaDoor.PR
namespace Go.Proofs.YtekjlpldooihhaaDoor.PR
open Go.RowKit Go.Proofs.YtekjlpldooihhaaDoorW.PrintWords Go.Proofs.YtekjlpldooihhaaDoorEv Go.Proofs.YtekjlpldooihhaaDoorP Go.Proofs.YtekjlpldooihhaaDoor.PT Go.Proofs.YtekjlpldooihhaaDoorH Go.Proofs.YtekjlpldooihhaaDoorK
open Go.Proofs.YtekjlpldooihhaaDoor.PA (S48 S50 S60 k48 k50 k60 z48 z50 z60 rd_T48 rd_T50 rd_T60)
set_option linter.unusedVariables false
set_option linter.unusedSimpArgs false
structure Short (P : List S48) (Q : List S50) : Prop where
  p : P.length < 9223372036854775808
  q : Q.length < 9223372036854775808
  kn : ∀ y ∈ P, y.f1.length < 9223372036854775808
  jo : ∀ x ∈ Q, x.f1.length < 9223372036854775808
theorem Short.check {P : List S48} {Q : List S50} (h : Short P Q) : Evt (fun k => skewbaldref01_Check.f k P Q) (checkP P Q) := Check_f h.p h.kn h.q h.jo
theorem isPlank_f {P : List S48} {Q : List S50} (h : Short P Q) (i : Int) : skewbaldref01_isPlank.f P Q i = some (inB i P.length) := by
  have := h.p
  unfold skewbaldref01_isPlank.f
  rw [In_f, show wrap64 ((P.length : Int) - 1) = (P.length : Int) - 1 by unfold wrap64; omega]
  rfl
theorem isPart_f {P : List S48} {Q : List S50} (h : Short P Q) (i : Int) : skewbaldref01_isPart.f P Q i = some (inB i Q.length) := by
  have := h.q
  unfold skewbaldref01_isPart.f
  rw [In_f, show wrap64 ((Q.length : Int) - 1) = (Q.length : Int) - 1 by unfold wrap64; omega]
  rfl
theorem lies_some {P : List S48} {Q : List S50} {i p : Nat} (hi : i < P.length) (hp : p < Q.length) (a : Int) : ∃ b, skewbaldref01_lies.f P Q (i : Int) (p : Int) a = some b := by
  unfold skewbaldref01_lies.f
  rw [if_pos (by omega), if_pos (by omega), if_pos (by omega), if_pos (by omega), In_f]
  exact ⟨_, rfl⟩
theorem lies_f {P : List S48} {Q : List S50} (hok : Ok P Q) {i p : Nat} (hi : i < P.length) (hp : p < Q.length) (a : Int) : skewbaldref01_lies.f P Q (i : Int) (p : Int) a = some (liesB (P.getD i z48) (Q.getD p z50) a) := by
  have hy := Ok.plankOk hok hi
  have hx := Ok.partOk hok hp
  have := hy.one; have := hy.big; have := hx.one; have := hx.big
  unfold skewbaldref01_lies.f
  rw [if_pos (by omega), if_pos (by omega), if_pos (by omega), if_pos (by omega), In_f, rd48, rd50, show wrap64 ((P.getD i z48).f0 - (Q.getD p z50).f0) = (P.getD i z48).f0 - (Q.getD p z50).f0 by unfold wrap64; omega]
  rfl
theorem asked_f {P : List S48} {Q : List S50} (h : Short P Q) (b : Bool) : Evt (fun k => skewbaldref01_asked.f k P Q b) (if validB P Q then (if b then 0 else 11) else 10) := by
  unfold skewbaldref01_asked.f
  refine Evt.bind h.check ?_
  unfold checkP
  cases validB P Q with
  | false => exact Evt.neg (by simp) (Evt.pure _)
  | true =>
    refine Evt.pos rfl ?_
    cases b with
    | true => exact Evt.pos rfl (Evt.pure _)
    | false => exact Evt.neg (by simp) (Evt.pure _)
theorem range_filter_next (f : Nat → Bool) (j : Nat) : (List.range (j + 1)).filter f = (List.range j).filter f ++ (if f j then [j] else []) := by
  cases h : f j with
  | true => rw [filter_next_yes h]; simp
  | false => rw [filter_next_no h]; simp
theorem spots_l0 {P : List S48} {Q : List S50} (hok : Ok P Q) {i p : Nat} (hi : i < P.length) (hp : p < Q.length) {m : Nat} (hm : ∀ a : Nat, liesB (P.getD i z48) (Q.getD p z50) (a : Int) = true ↔ a < m) (hm17 : m ≤ 16) : ∀ (d j : Nat), j + d = m →
    Evt (fun k => skewbaldref01_spots.l0 k (i : Int) (p : Int) (ints ((List.range j).filter (spotB (P.getD i z48) (Q.getD p z50)))) (j : Int) P Q) (ints ((List.range m).filter (spotB (P.getD i z48) (Q.getD p z50))))
  | 0, j, hj => by
    obtain rfl : j = m := by omega
    refine Evt.succ ?_
    simp only [skewbaldref01_spots.l0]
    rw [lies_f hok hi hp]
    have : liesB (P.getD i z48) (Q.getD p z50) (j : Int) = false := by rw [Bool.eq_false_iff]; intro h; have := (hm j).1 h; omega
    simp only [Option.bind_some]
    exact Evt.neg (by rw [this]; simp) (Evt.pure _)
  | d + 1, j, hj => by
    refine Evt.succ ?_
    simp only [skewbaldref01_spots.l0]
    have hl := (hm j).2 (by omega)
    have ih := spots_l0 hok hi hp hm hm17 d (j + 1) (by omega)
    rw [range_filter_next, ints_append] at ih
    rw [lies_f hok hi hp]
    simp only [Option.bind_some]
    refine Evt.pos hl (Evt.bind (can_f hok hi hp (by omega)) ?_)
    rw [w64 j (by omega)]
    have hs : spotB (P.getD i z48) (Q.getD p z50) j = (canN (P.getD i z48) (Q.getD p z50) j == 2) := by unfold spotB; rw [hl]; rfl
    have hlen : (ints ((List.range j).filter (spotB (P.getD i z48) (Q.getD p z50)))).length < 17592186044416 := by
      rw [ints_length]
      have := List.length_filter_le (spotB (P.getD i z48) (Q.getD p z50)) (List.range j)
      rw [List.length_range] at this
      omega
    refine Evt.ite (fun h => Evt.pos hlen ?_) (fun h => ?_)
    · have : spotB (P.getD i z48) (Q.getD p z50) j = true := by rw [hs, beq_iff_eq]; omega
      rw [this] at ih
      exact ih
    · have : spotB (P.getD i z48) (Q.getD p z50) j = false := by rw [hs, beq_eq_false_iff_ne]; omega
      rw [this] at ih
      simpa [ints] using ih
theorem spots_f {P : List S48} {Q : List S50} (hok : Ok P Q) {i p : Nat} (hi : i < P.length) (hp : p < Q.length) :
    Evt (fun k => skewbaldref01_spots.f k P Q (i : Int) (p : Int)) (ints (spotsL (P.getD i z48) (Q.getD p z50))) := by
  have hy := Ok.plankOk hok hi
  have hx := Ok.partOk hok hp
  have h1 := hy.one; have h16 := hy.big; have h2 := hx.one
  unfold skewbaldref01_spots.f
  have hm : ∀ a : Nat, liesB (P.getD i z48) (Q.getD p z50) (a : Int) = true ↔ a < ((P.getD i z48).f0 - (Q.getD p z50).f0 + 1).toNat := fun a => by
    unfold liesB; simp only [Bool.and_eq_true, decide_eq_true_eq]; omega
  refine (spots_l0 hok hi hp hm (by omega) _ 0 (Nat.zero_add _)).of_eq ?_
  unfold spotsL
  congr 1
  obtain ⟨e, he⟩ : ∃ e, (P.getD i z48).f0.toNat = ((P.getD i z48).f0 - (Q.getD p z50).f0 + 1).toNat + e := ⟨(P.getD i z48).f0.toNat - ((P.getD i z48).f0 - (Q.getD p z50).f0 + 1).toNat, by omega⟩
  rw [he]
  generalize ((P.getD i z48).f0 - (Q.getD p z50).f0 + 1).toNat = m at hm
  clear he
  induction e with
  | zero => rfl
  | succ e ih =>
    rw [show m + (e + 1) = (m + e) + 1 by omega, range_filter_next, ← ih]
    have : spotB (P.getD i z48) (Q.getD p z50) (m + e) = false := by
      unfold spotB
      have : liesB (P.getD i z48) (Q.getD p z50) ((m + e : Nat) : Int) = false := by rw [Bool.eq_false_iff]; intro h; have := (hm (m + e)).1 h; omega
      rw [this]; rfl
    rw [this]; simp
theorem Can_f {P : List S48} {Q : List S50} (h : Short P Q) (i p a : Int) : Evt (fun k => skewbaldref01_Can.f k P Q i p a) (canP P Q i p a) := by
  unfold skewbaldref01_Can.f
  rw [isPlank_f h, isPart_f h]
  simp only [Option.bind_some]
  unfold canP
  refine Evt.ite (fun h1 => Evt.ite (fun h2 => ?_) (fun h2 => ?_)) (fun h1 => ?_)
  · obtain ⟨i', rfl, hi⟩ := in_nat h1
    obtain ⟨p', rfl, hp⟩ := in_nat h2
    obtain ⟨b, hb⟩ := lies_some hi hp a
    rw [hb]
    simp only [Option.bind_some]
    refine Evt.bind (asked_f h b) ?_
    cases hv : validB P Q with
    | false => exact Evt.neg (by simp) (by simpa using Evt.pure ((0 : Int), (10 : Int)))
    | true =>
      have hok := valid_ok hv
      rw [lies_f hok hi hp] at hb
      obtain rfl := Option.some.inj hb
      simp only [if_true, h1, h2, Bool.true_and, Int.toNat_natCast]
      cases hl : liesB (P.getD i' z48) (Q.getD p' z50) a with
      | false => exact Evt.neg (by simp) (by simpa using Evt.pure ((0 : Int), (11 : Int)))
      | true =>
        have hl' := hl
        unfold liesB at hl'
        simp only [Bool.and_eq_true, decide_eq_true_eq] at hl'
        have h16 := (Ok.plankOk hok hi).big
        have h2' := (Ok.partOk hok hp).one
        obtain ⟨a', rfl⟩ : ∃ a' : Nat, a = a' := ⟨a.toNat, by omega⟩
        refine Evt.pos (by simp) (Evt.bind (can_f hok hi hp (by omega)) ?_)
        simpa using Evt.pure (((canN (P.getD i' z48) (Q.getD p' z50) a' : Nat) : Int), (0 : Int))
  · refine Evt.bind (asked_f h false) (Evt.neg ?_ ?_)
    · cases validB P Q <;> simp
    · have h2 : inB p Q.length = false := by simpa using h2
      rw [h2]
      cases validB P Q <;> simp <;> exact Evt.pure _
  · refine Evt.bind (asked_f h false) (Evt.neg ?_ ?_)
    · cases validB P Q <;> simp
    · have h1 : inB i P.length = false := by simpa using h1
      rw [h1]
      cases validB P Q <;> simp <;> exact Evt.pure _
theorem Spots_f {P : List S48} {Q : List S50} (h : Short P Q) (i p : Int) : Evt (fun k => skewbaldref01_Spots.f k P Q i p) (spotsP P Q i p) := by
  unfold skewbaldref01_Spots.f
  rw [isPlank_f h, isPart_f h]
  simp only [Option.bind_some]
  unfold spotsP
  refine Evt.ite (fun h1 => ?_) (fun h1 => ?_)
  · refine Evt.bind (asked_f h (inB p Q.length)) ?_
    rw [h1]
    cases hv : validB P Q with
    | false => exact Evt.neg (by simp) (by simpa using Evt.pure (([] : List Int), (10 : Int)))
    | true =>
      have hok := valid_ok hv
      cases h2 : inB p Q.length with
      | false => exact Evt.neg (by simp) (by simpa using Evt.pure (([] : List Int), (11 : Int)))
      | true =>
        obtain ⟨i', rfl, hi⟩ := in_nat h1
        obtain ⟨p', rfl, hp⟩ := in_nat h2
        refine Evt.pos (by simp) (Evt.bind (spots_f hok hi hp) ?_)
        simpa using Evt.pure (ints (spotsL (P.getD i' z48) (Q.getD p' z50)), (0 : Int))
  · refine Evt.bind (asked_f h false) (Evt.neg ?_ ?_)
    · cases validB P Q <;> simp
    · have h1 : inB i P.length = false := by simpa using h1
      rw [h1]
      cases validB P Q <;> simp <;> exact Evt.pure _
theorem spotsP_len (P : List S48) (Q : List S50) (h : Short P Q) (i p : Int) : (spotsP P Q i p).1.length < 9223372036854775808 := by
  unfold spotsP
  split
  · rename_i hv
    split
    · rename_i hb
      rw [Bool.and_eq_true] at hb
      obtain ⟨i', rfl, hi⟩ := in_nat hb.1
      have := (Ok.plankOk (valid_ok hv) hi).big
      simp only [Int.toNat_natCast]
      rw [ints_length]
      unfold spotsL
      have h2 := List.length_filter_le (spotB (P.getD i' z48) (Q.getD p.toNat z50)) (List.range (P.getD i' z48).f0.toNat)
      rw [List.length_range] at h2
      omega
    · simp
  · simp
theorem sawn_f : Evt (fun _ => skewbaldlaw01_sawn.f) true := Evt.pure true
theorem plankSpots_f {P : List S48} {Q : List S50} (h : Short P Q) (a b c : Int) : Evt (fun k => skewbaldlaw01_PlankSpots.f k P Q a b c) true := by
  unfold skewbaldlaw01_PlankSpots.f plank_Can.f plank_Check.f
  simp only [Option.bind_some]
  refine Evt.bind (Can_f h a b c) (Evt.pos rfl (Evt.pos rfl (Evt.bind h.check (Evt.succ ?_))))
  simp only [skewbaldlaw01_PlankSpots.j0, plank_Spots.f, Option.bind_some]
  refine Evt.neg (by simp) (Evt.bind (Spots_f h a b) (Evt.bind (Equal_f _ _ (spotsP_len P Q h a b)) (Evt.pos (by simp) (Evt.pos rfl (Evt.bind sawn_f (Evt.pure _))))))
theorem short_of {W : World} {A B : Option Addr} {P : List S48} {Q : List S50} (hP : Kd.C k48 W A P.length P) (hQ : Kd.C k50 W B Q.length Q) : Short P Q := by
  have hp := hP.2.1; have hq := hQ.2.1
  refine ⟨by omega, by omega, fun y hy => ?_, fun x hx => ?_⟩
  · obtain ⟨i, hi, rfl⟩ := List.getElem_of_mem hy
    obtain ⟨_, A, c, _, _, _, _, h⟩ := at_wood hP i hi
    have := h.2.1
    rw [getD_el hi] at this
    omega
  · obtain ⟨i, hi, rfl⟩ := List.getElem_of_mem hx
    obtain ⟨_, A, c, _, _, _, _, _, h⟩ := at_shape hQ i hi
    have := h.2.1
    rw [getD_el hi] at this
    omega
end Go.Proofs.YtekjlpldooihhaaDoor.PR
namespace Go.Proofs.YtekjlpldooihhaaDoor.PlankSpotsRow.Pure
open Go.RowKit Go.Proofs.YtekjlpldooihhaaDoorW.PrintWords Go.Proofs.YtekjlpldooihhaaDoorEv Go.Proofs.YtekjlpldooihhaaDoorP Go.Proofs.YtekjlpldooihhaaDoor.PT Go.Proofs.YtekjlpldooihhaaDoor.PR
open Go.Proofs.YtekjlpldooihhaaDoor.PA (S48 S50 k48 k50)
set_option linter.unusedVariables false
theorem plankSpots (W : World) (P : List S48) (Q : List S50) (a b c : Int) {A : Option Addr} (hP : Kd.C k48 W A P.length P) (w0 : ∀ y ∈ P, wfWood y) {B : Option Addr} (hQ : Kd.C k50 W B Q.length Q) (w1 : ∀ x ∈ Q, wfShape x) (w2 : (Lit.int .i64 a).wf = true) (w3 : (Lit.int .i64 b).wf = true) (w4 : (Lit.int .i64 c).wf = true) :
    ∃ k, skewbaldlaw01_PlankSpots.f k P Q a b c = some true :=
  (plankSpots_f (short_of hP hQ) a b c).get
end Go.Proofs.YtekjlpldooihhaaDoor.PlankSpotsRow.Pure
