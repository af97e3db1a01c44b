/- Package plank: the walk of PlankSome, and what it answers. -/
import Derived.Test.YtekjlpldooihhaaDoorWWords
import Derived.Test.YtekjlpldooihhaaDoorProg
import Derived.Below
import Derived.Deep.Draws
import Derived.Deep.AppendLies
import Derived.Maps.AppendAt
import Derived.OwnWalk
import Derived.Laws.BytesArg
import Derived.Laws.MakeOwn
import Derived.Laws.OwnMore
import Derived.Deep.OwnRows
import Derived.Tactics
import Derived.Lib.ConvBytes
import Derived.Laws.Slices
import Derived.WalkKit
import Derived.KernelRfl
import Derived.RowKit3
import Derived.Deep.LoopGhost
import Derived.Deep.QuietTactic
import Derived.BigQuiet
import Derived.WideLaws
import Derived.Deep.DeepCutAuto
import Derived.Deep.CutBlock
import Derived.Deep.RegionHeld3
import Derived.Laws.Rows
import Derived.Lib.AppendStr
import Derived.ArgAppend
import Derived.Laws.IdiomCopy
import Derived.OrdersHeld
import Derived.Laws.BitsLemmas
import Derived.RowKit
import Derived.Test.YtekjlpldooihhaaDoorPr
import Derived.Test.YtekjlpldooihhaaDoorPAx0
import Derived.Test.YtekjlpldooihhaaDoorSv
import Derived.Test.YtekjlpldooihhaaDoorPTx18
namespace Go.Proofs.YtekjlpldooihhaaDoor.PR
open Go.RowKit Go.Proofs.YtekjlpldooihhaaDoorW.PrintWords Go.Proofs.YtekjlpldooihhaaDoorW.PrintMore Go.Proofs.YtekjlpldooihhaaDoorEv Go.Proofs.YtekjlpldooihhaaDoorP Go.Proofs.YtekjlpldooihhaaDoor.PT Go.Proofs.YtekjlpldooihhaaDoorH Go.Proofs.YtekjlpldooihhaaDoorK
open Go.Proofs.YtekjlpldooihhaaDoor.PA (S48 S50 S60 k48 k50 k60 z48 z50 z60 rd_T48 rd_T50 rd_T60 rd_L4)
set_option linter.unusedVariables false
set_option linter.unusedSimpArgs false
theorem and_nat : ∀ t, t < 32 → ∀ s, s < 32 → Go.bits .and .i64 ((t : Nat) : Int) ((s : Nat) : Int) = ((t &&& s : Nat) : Int) := by decide +kernel
theorem cutB_cons (P : List S48) (Q : List S50) (p : Nat) (l : List Nat) (s : Nat) : cutB P Q (p :: l) s = (List.range (s + 1)).any fun t => (t &&& s == t) && ((laidB (P.getD p z48) Q (setL t)).isSome && cutB P Q l (s - t)) := by
  conv => lhs; unfold cutB
  by_cases h : s = 0
  · subst h
    rw [show ((0 : Nat) == 0) = true from rfl, Bool.true_or]
    symm
    rw [List.any_eq_true]
    refine ⟨0, by simp, ?_⟩
    rw [show setL 0 = [] from by decide, cut_zero]
    rfl
  · rw [show (s == 0) = false from by simpa using h, Bool.false_or]
theorem sizes_setL : ∀ n, n ≤ 5 → ∀ s, s < 2 ^ n → sizesL s n = setL s := by decide +kernel
theorem ListN_f {n s : Nat} (hn : n ≤ 5) (hs : s < 2 ^ n) : Evt (fun k => skewbaldref00_List.f k (s : Int) (n : Int)) (ints (setL s)) := by
  rw [← sizes_setL n hn s hs]
  exact List_f s n (by have := lt32 hn hs; omega) (by omega)
theorem pow_pos (n : Nat) : 0 < 2 ^ n := Nat.pos_of_ne_zero (by simp)
theorem full_num {n : Nat} (hn : n ≤ 5) : wrap64 (shl .i64 1 ((n : Nat) : Int) - 1) = ((2 ^ n - 1 : Nat) : Int) := by
  have := pow_pos n
  have h32 : 2 ^ n ≤ 32 := Nat.pow_le_pow_right (by omega : 0 < 2) hn
  rw [shl_pow n (by omega)]
  unfold wrap64
  omega
theorem less_cmp : ∀ l m : List Int, lessB l m = decide (cmpL l m < 0)
  | [], [] => rfl
  | [], _ :: _ => rfl
  | _ :: _, [] => rfl
  | a :: l, b :: m => by
    rw [lessB_cons]
    unfold cmpL
    rcases Int.lt_trichotomy a b with h | rfl | h
    · rw [if_neg (by omega), if_pos h]; simp [h]
    · rw [if_pos rfl, if_neg (by omega), if_neg (by omega)]; exact less_cmp l m
    · rw [if_neg (by omega), if_neg (by omega), if_pos h]; simp; omega
theorem shorter_better (l m : List Int) : shorterB l m = betterL l m := by
  unfold shorterB betterL
  rw [less_cmp]
  by_cases h : l.length = m.length
  · rw [if_pos (by omega), decide_eq_false (show ¬ l.length < m.length by omega), Bool.false_or, show (l.length == m.length) = true from by simpa using h, Bool.true_and]
  · rw [if_neg (by omega), show (l.length == m.length) = false from by simpa using h, Bool.false_and, Bool.or_false, decide_eq_decide]; omega
theorem setL5 (s : Nat) : (setL s).length ≤ 5 := setL_len s
theorem cut_more {P : List S48} {Q : List S50} (hok : Ok P Q) {t u s : Nat} (h : ∀ i ∈ setL t, i ∈ setL u) (hs : s < 2 ^ Q.length) (hc : cutB P Q (setL t) s = true) : cutB P Q (setL u) s = true := by
  obtain ⟨a, pos, h1⟩ := (hok.cut t s hs).1 hc
  exact (hok.cut u s hs).2 ⟨a, pos, cuts_weaker h1 h (fun p hp => hp) (fun _ _ _ _ _ h => h) (fun _ _ => rfl)⟩
end Go.Proofs.YtekjlpldooihhaaDoor.PR
namespace Go.Proofs.YtekjlpldooihhaaDoor.PR
open Go.RowKit Go.Proofs.YtekjlpldooihhaaDoorW.PrintWords Go.Proofs.YtekjlpldooihhaaDoorW.PrintMore Go.Proofs.YtekjlpldooihhaaDoorEv Go.Proofs.YtekjlpldooihhaaDoorP Go.Proofs.YtekjlpldooihhaaDoor.PT Go.Proofs.YtekjlpldooihhaaDoorH Go.Proofs.YtekjlpldooihhaaDoorK
open Go.Proofs.YtekjlpldooihhaaDoor.PA (S48 S50 S60 k48 k50 k60 z48 z50 z60 rd_T48 rd_T50 rd_T60 rd_L4)
set_option linter.unusedVariables false
set_option linter.unusedSimpArgs false
theorem woodB_told {y : S48} (h : woodB y = true) : 1 ≤ y.f0 ∧ y.f0 ≤ 16 ∧ y.f1.length ≤ 3 ∧ ∀ s ∈ y.f1, knotB y.f0 s = true := by
  unfold woodB at h
  simp only [Bool.and_eq_true, decide_eq_true_eq, List.all_eq_true] at h
  exact ⟨h.1.1, h.1.2, h.2.1, h.2.2⟩
theorem shapeB_told {x : S50} (h : shapeB x = true) : 1 ≤ x.f0 ∧ x.f0 ≤ 12 ∧ x.f1.length ≤ 3 ∧ growsB x.f0 (-1) x.f1 = true := by
  unfold shapeB at h
  simp only [Bool.and_eq_true, decide_eq_true_eq] at h
  exact ⟨h.1.1, h.1.2, h.2.1, by rw [grows_asc]; exact h.2.2⟩
theorem valid_told {P : List S48} {Q : List S50} (h : validB P Q = true) : 1 ≤ P.length ∧ P.length ≤ 3 ∧ 1 ≤ Q.length ∧ Q.length ≤ 5 ∧ (∀ y ∈ P, woodB y = true) ∧ ∀ x ∈ Q, shapeB x = true := by
  unfold validB at h
  simp only [Bool.and_eq_true, decide_eq_true_eq, List.all_eq_true] at h
  exact ⟨h.1.1.1, h.1.1.2, h.1.2.1, h.1.2.2, h.2.1, h.2.2⟩
theorem sound_l2 {P : List S48} {Q : List S50} (hQ : Q.length ≤ 5) (hq : ∀ x ∈ Q, shapeB x = true) : ∀ (d j : Nat), j + d = Q.length → Evt (fun k => skewbaldlaw01_sound.l2 k true (j : Int) P Q) true
  | 0, j, hj => by
    refine Evt.succ ?_
    simp only [skewbaldlaw01_sound.l2]
    refine Evt.pos (by trivial) (Evt.succ ?_)
    simp only [skewbaldlaw01_sound.j6]
    rw [decide_eq_false (show ¬ (j : Int) < (Q.length : Int) by omega)]
    exact Evt.neg (by simp) (Evt.pure _)
  | d + 1, j, hj => by
    refine Evt.succ ?_
    simp only [skewbaldlaw01_sound.l2]
    refine Evt.pos (by trivial) (Evt.succ ?_)
    simp only [skewbaldlaw01_sound.j6]
    rw [decide_eq_true (show (j : Int) < (Q.length : Int) by omega)]
    have hlt : j < Q.length := by omega
    obtain ⟨h1, h12, h3, hg⟩ := shapeB_told (hq Q[j] (List.getElem_mem _))
    rw [rd50, getD_el hlt, w64 j (by omega), In_f]
    simp only [Option.bind_some]
    generalize Q[j] = x at h1 h12 h3 hg ⊢
    refine Evt.pos (by trivial) (Evt.pos (by omega) (Evt.pos (by omega) (Evt.pos (by simp; omega) (Evt.pos (by omega) (Evt.bind (Grows_f x.f1 (by omega) x.f0) ?_)))))
    rw [hg]
    exact sound_l2 hQ hq d (j + 1) (by omega)
theorem sound_l1 {P : List S48} {Q : List S50} {i : Nat} (hi : i < P.length) (hP : P.length ≤ 3) {L : Int} (hL : 1 ≤ L ∧ L ≤ 16) {kn : List S60} (hk : kn.length ≤ 3) (hkn : ∀ s ∈ kn, knotB L s = true) (hc : Evt (fun k => skewbaldlaw01_sound.l0 k true ((i + 1 : Nat) : Int) P Q) true) :
    ∀ (d j : Nat), j + d = kn.length → Evt (fun k => skewbaldlaw01_sound.l1 k true (i : Int) (j : Int) P Q L kn) true
  | 0, j, hj => by
    refine Evt.succ ?_
    simp only [skewbaldlaw01_sound.l1]
    rw [w64 i (by omega)]
    exact Evt.pos (by trivial) (Evt.neg (by omega) hc)
  | d + 1, j, hj => by
    refine Evt.succ ?_
    simp only [skewbaldlaw01_sound.l1]
    have hlt : j < kn.length := by omega
    have hs := hkn kn[j] (List.getElem_mem _)
    unfold knotB at hs
    simp only [Bool.and_eq_true, decide_eq_true_eq] at hs
    rw [rd60, getD_el hlt, w64 j (by omega), Ordered_f, show wrap64 (L - 1) = L - 1 by unfold wrap64; omega]
    simp only [Option.bind_some]
    rw [show (decide (0 ≤ kn[j].f0) && (decide (kn[j].f0 ≤ kn[j].f1) && decide (kn[j].f1 ≤ L - 1))) = true from by simp; omega]
    exact Evt.pos (by trivial) (Evt.pos (by omega) (Evt.pos (by omega) (sound_l1 hi hP hL hk hkn hc d (j + 1) (by omega))))
theorem sound_l0 {P : List S48} {Q : List S50} (hv : validB P Q = true) : ∀ (d i : Nat), i + d = P.length → Evt (fun k => skewbaldlaw01_sound.l0 k true (i : Int) P Q) true
  | 0, i, hi => by
    obtain ⟨_, _, _, h5, _, hq⟩ := valid_told hv
    refine Evt.succ ?_
    simp only [skewbaldlaw01_sound.l0]
    refine Evt.pos (by trivial) (Evt.succ ?_)
    simp only [skewbaldlaw01_sound.j2]
    rw [decide_eq_false (show ¬ (i : Int) < (P.length : Int) by omega)]
    exact Evt.neg (by simp) (sound_l2 h5 hq Q.length 0 (by omega))
  | d + 1, i, hi => by
    obtain ⟨_, h3, _, _, hp, _⟩ := valid_told hv
    have hlt : i < P.length := by omega
    obtain ⟨a, b, c, e⟩ := woodB_told (hp P[i] (List.getElem_mem _))
    refine Evt.succ ?_
    simp only [skewbaldlaw01_sound.l0]
    refine Evt.pos (by trivial) (Evt.succ ?_)
    simp only [skewbaldlaw01_sound.j2]
    rw [decide_eq_true (show (i : Int) < (P.length : Int) by omega), rd48, getD_el hlt, In_f]
    simp only [Option.bind_some]
    refine Evt.pos (by trivial) (Evt.pos (by omega) (Evt.pos (by omega) (Evt.pos (by simp; omega) (Evt.succ ?_))))
    simp only [skewbaldlaw01_sound.j3]
    rw [decide_eq_true (show (P[i].f1.length : Int) ≤ 3 by omega)]
    exact sound_l1 hlt h3 ⟨a, b⟩ c e (sound_l0 hv d (i + 1) (by omega)) P[i].f1.length 0 (by omega)
theorem sound_f {P : List S48} {Q : List S50} : Evt (fun k => skewbaldlaw01_sound.f k P Q) (validB P Q) := by
  unfold skewbaldlaw01_sound.f plank_Check.f
  simp only [Option.bind_some]
  unfold checkP
  cases hv : validB P Q with
  | false =>
    refine Evt.neg (by simp) (Evt.succ ?_)
    simp only [skewbaldlaw01_sound.j0]
    refine Evt.succ ?_
    simp only [skewbaldlaw01_sound.l0]
    refine Evt.neg (by simp) (Evt.succ ?_)
    simp only [skewbaldlaw01_sound.j2]
    refine Evt.neg (by simp) (Evt.succ ?_)
    simp only [skewbaldlaw01_sound.l2]
    refine Evt.neg (by simp) (Evt.succ ?_)
    simp only [skewbaldlaw01_sound.j6]
    exact Evt.neg (by simp) (Evt.pure _)
  | true =>
    obtain ⟨h1, h3, h4, h5, _, _⟩ := valid_told hv
    rw [In_f, In_f]
    simp only [Option.bind_some]
    refine Evt.pos (by simp) (Evt.pos (by simp; omega) (Evt.succ ?_))
    simp only [skewbaldlaw01_sound.j0]
    rw [show (decide ((1 : Int) ≤ (Q.length : Int)) && decide ((Q.length : Int) ≤ 5)) = true from by simp; omega]
    exact sound_l0 hv P.length 0 (by omega)
theorem only_l1 {P : List S48} {Q : List S50} (hq : Q.length ≤ 5) (u : Int) {v : Nat} (hv : v < 2 ^ Q.length) (R : List S48) : ∀ (d j : Nat), j + d = Q.length →
    Evt (fun k => skewbaldlaw01_only.l1 k (v : Int) (j : Int) P Q R (((List.range j).filter (bitB v)).map fun i => Q.getD i z50)) (R, ((List.range Q.length).filter (bitB v)).map fun i => Q.getD i z50)
  | 0, j, hj => by
    obtain rfl : j = Q.length := by omega
    refine Evt.succ ?_
    simp only [skewbaldlaw01_only.l1]
    exact Evt.neg (by omega) (Evt.pure _)
  | d + 1, j, hj => by
    have h32 := lt32 hq hv
    refine Evt.succ ?_
    simp only [skewbaldlaw01_only.l1]
    have ih := only_l1 (P := P) hq u hv R d (j + 1) (by omega)
    rw [range_filter_next, List.map_append] at ih
    rw [Of_f v j (by omega) (by omega), w64 j (by omega)]
    simp only [Option.bind_some]
    have hl : (((List.range j).filter (bitB v)).map fun i => Q.getD i z50).length < 3518437208883 := by
      rw [List.length_map]
      have := List.length_filter_le (bitB v) (List.range j)
      rw [List.length_range] at this
      omega
    refine Evt.pos (by omega) (Evt.ite (fun h => Evt.pos (by omega) (Evt.pos hl ?_)) (fun h => ?_))
    · rw [h] at ih
      exact ih
    · rw [show bitB v j = false from by simpa using h] at ih
      simpa using ih
theorem only_l0 {P : List S48} {Q : List S50} (hp : P.length ≤ 3) (hq : Q.length ≤ 5) {u v : Nat} (hu : u < 2 ^ P.length) (hv : v < 2 ^ Q.length) : ∀ (d j : Nat), j + d = P.length →
    Evt (fun k => skewbaldlaw01_only.l0 k (u : Int) (v : Int) (j : Int) P Q (((List.range j).filter (bitB u)).map fun i => P.getD i z48)) (((List.range P.length).filter (bitB u)).map fun i => P.getD i z48, ((List.range Q.length).filter (bitB v)).map fun i => Q.getD i z50)
  | 0, j, hj => by
    obtain rfl : j = P.length := by omega
    refine Evt.succ ?_
    simp only [skewbaldlaw01_only.l0]
    exact Evt.neg (by omega) (only_l1 hq u hv _ Q.length 0 (by omega))
  | d + 1, j, hj => by
    have h32 := lt32 (by omega : P.length ≤ 5) hu
    refine Evt.succ ?_
    simp only [skewbaldlaw01_only.l0]
    have ih := only_l0 hp hq hu hv d (j + 1) (by omega)
    rw [range_filter_next, List.map_append] at ih
    rw [Of_f u j (by omega) (by omega), w64 j (by omega)]
    simp only [Option.bind_some]
    have hl : (((List.range j).filter (bitB u)).map fun i => P.getD i z48).length < 4398046511104 := by
      rw [List.length_map]
      have := List.length_filter_le (bitB u) (List.range j)
      rw [List.length_range] at this
      omega
    refine Evt.pos (by omega) (Evt.ite (fun h => Evt.pos (by omega) (Evt.pos hl ?_)) (fun h => ?_))
    · rw [h] at ih
      exact ih
    · rw [show bitB u j = false from by simpa using h] at ih
      simpa using ih
theorem only_f {P : List S48} {Q : List S50} (hp : P.length ≤ 3) (hq : Q.length ≤ 5) {u v : Nat} (hu : u < 2 ^ P.length) (hv : v < 2 ^ Q.length) : Evt (fun k => skewbaldlaw01_only.f k P Q (u : Int) (v : Int)) (pick z48 P u, pick z50 Q v) := by
  unfold skewbaldlaw01_only.f pick
  have := only_l0 hp hq hu hv P.length 0 (by omega)
  rw [show (List.range P.length).filter (bitB u) = setL u from sizes_setL P.length (by omega) u hu, show (List.range Q.length).filter (bitB v) = setL v from sizes_setL Q.length hq v hv] at this
  exact this
theorem valid_pick {P : List S48} {Q : List S50} (hv : validB P Q = true) {u v : Nat} (hu : u < 2 ^ P.length) (hw : v < 2 ^ Q.length) (u0 : u ≠ 0) (v0 : v ≠ 0) : validB (pick z48 P u) (pick z50 Q v) = true := by
  obtain ⟨h1, h3, h4, h5, hp, hq⟩ := valid_told hv
  have a := setL_le P.length (by omega) u hu
  have b := setL_le Q.length h5 v hw
  have c : setL u ≠ [] := fun e => u0 ((set_empty (lt32 (by omega) hu)).1 e)
  have d : setL v ≠ [] := fun e => v0 ((set_empty (lt32 h5 hw)).1 e)
  have c' := List.length_pos_iff.2 c
  have d' := List.length_pos_iff.2 d
  unfold validB
  simp only [Bool.and_eq_true, decide_eq_true_eq, List.all_eq_true, pick_length]
  exact ⟨⟨⟨by omega, by omega⟩, by omega, by omega⟩, fun y hy => hp y (pick_mem (fun i hi => setL_lt hu hi) hy), fun x hx => hq x (pick_mem (fun i hi => setL_lt hw hi) hx)⟩
theorem fewest_told {P : List S48} {Q : List S50} (hv : validB P Q = true) : (fewestP P Q).2 = if cutB P Q (setL (2 ^ P.length - 1)) (2 ^ Q.length - 1) then 0 else 4 := by
  have hok := valid_ok hv
  have h3 := hok.p3
  have hpp := pow_pos P.length
  have hpq := pow_pos Q.length
  unfold fewestP
  rw [hv]
  rcases fewest_spec P Q with ⟨e, h⟩ | ⟨l, e, ⟨s, hs, rfl, hc⟩, _⟩
  · rw [e, h (2 ^ P.length - 1) (by omega)]; rfl
  · have hc' : cutB P Q (setL s) (2 ^ Q.length - 1) = true := hc
    rw [e, cut_more hok (fun i hi => (mem_full (by omega : P.length ≤ 5) i).2 (setL_lt hs hi)) (by omega) hc']
    rfl
theorem enough_f {P : List S48} {Q : List S50} (hv : validB P Q = true) {u v : Nat} (hu : u < 2 ^ P.length) (hw : v < 2 ^ Q.length) : Evt (fun k => skewbaldlaw01_enough.f k P Q (u : Int) (v : Int)) (cutB P Q (setL u) v, true) := by
  have hok := valid_ok hv
  unfold skewbaldlaw01_enough.f
  refine Evt.ite (fun h => Evt.succ ?_) (fun h => Evt.succ ?_)
  · simp only [skewbaldlaw01_enough.j0]
    obtain rfl : v = 0 := by omega
    rw [cut_zero]
    exact Evt.pos (by trivial) (Evt.pure _)
  · simp only [skewbaldlaw01_enough.j0]
    refine Evt.ite (fun h0 => ?_) (fun h0 => ?_)
    · obtain rfl : u = 0 := by have := beq_iff_eq.1 h0; omega
      rw [show setL 0 = [] from by decide, show cutB P Q [] v = (v == 0) from rfl, show ((v : Int) == 0) = (v == 0) from by rw [Bool.eq_iff_iff]; simp]
      exact Evt.pure _
    · have u0 : u ≠ 0 := fun e => h0 (by rw [e]; rfl)
      refine Evt.bind (only_f hok.p3 hok.q5 hu hw) ?_
      simp only [plank_Fewest.f, Option.bind_some]
      rw [fewest_told (valid_pick hv hu hw u0 (by omega)), cut_pick hok hu hw]
      cases cutB P Q (setL u) v with
      | true => exact Evt.pos (by simp) (Evt.pure _)
      | false => exact Evt.neg (by simp) (Evt.pure _)
theorem okL_set : ∀ n, n ≤ 5 → ∀ s, s < 2 ^ n → okL n true (ints (setL s)) = true := by decide +kernel
theorem lay_told {P : List S48} {Q : List S50} (hv : validB P Q = true) {p s : Nat} (hp : p < P.length) (hs : s < 2 ^ Q.length) : layP P Q (p : Int) (ints (setL s)) = layR (laidB (P.getD p z48) Q (setL s)) := by
  have hok := valid_ok hv
  unfold layP
  rw [hv, show inB (p : Int) P.length = true from by unfold inB; simp; omega, okL_set Q.length hok.q5 s hs, Int.toNat_natCast]
  rw [show (ints (setL s)).map (·.toNat) = setL s from by unfold ints; rw [List.map_map]; exact (List.map_congr_left (fun _ _ => rfl)).trans (List.map_id _)]
  rfl
theorem shared_f {P : List S48} {Q : List S50} (hv : validB P Q = true) : ∀ (l : List Nat) (hl : ∀ p ∈ l, p < P.length) (hn : l.length ≤ 5) (s : Nat) (hs : s < 2 ^ Q.length), Evt (fun k => skewbaldlaw01_shared.f k P Q (ints l) (s : Int)) (cutB P Q l s)
  | [], hl, hn, s, hs => by
    refine Evt.succ ?_
    simp only [skewbaldlaw01_shared.f]
    refine Evt.pos rfl ?_
    rw [show ((s : Int) == 0) = (s == 0) from by rw [Bool.eq_iff_iff]; simp]
    exact Evt.pure _
  | p :: l, hl, hn, s, hs => by
    have hok := valid_ok hv
    have h5 := hok.q5
    have ih := fun s' (h : s' < 2 ^ Q.length) => shared_f hv l (fun q hq => hl q (by simp [hq])) (by simp at hn; omega) s' h
    have hp := hl p (by simp)
    have h32 := lt32 hok.q5 hs
    refine Evt.succ ?_
    simp only [skewbaldlaw01_shared.f]
    refine Evt.neg (by rw [ints_length]; simp; omega) ?_
    rw [cutB_cons]
    have hrd : rd (ints (p :: l)) 0 = (p : Int) := rfl
    have hlen : (ints (p :: l)).length = l.length + 1 := by rw [ints_length]; rfl
    have key : ∀ (u : Nat), u ≤ s → Evt (fun k => skewbaldlaw01_shared.l0 k (ints (p :: l)) (s : Int) (u : Int) P Q) ((List.range (u + 1)).any fun t => (t &&& s == t) && ((laidB (P.getD p z48) Q (setL t)).isSome && cutB P Q l (s - t))) := by
      intro u
      have step : ∀ (r : Bool) (x : Nat) (hx : x ≤ s) (hnext : Evt (fun k => skewbaldlaw01_shared.l0 k (ints (p :: l)) (s : Int) ((x : Int) - 1) P Q) r), Evt (fun k => skewbaldlaw01_shared.l0 k (ints (p :: l)) (s : Int) (x : Int) P Q) (r || ((x &&& s == x) && ((laidB (P.getD p z48) Q (setL x)).isSome && cutB P Q l (s - x)))) := by
        intro r x hx hnext
        have hx32 : x < 32 := by omega
        have hxq : x < 2 ^ Q.length := by omega
        refine Evt.succ ?_
        simp only [skewbaldlaw01_shared.l0]
        rw [and_nat x hx32 s h32, hrd, hlen, show wrap64 ((x : Int) - 1) = (x : Int) - 1 by unfold wrap64; omega]
        refine Evt.pos (by omega) (Evt.ite (fun h => Evt.pos (by omega) (Evt.bind (ListN_f h5 hxq) ?_)) (fun h => ?_))
        · have hus : (x &&& s == x) = true := by rw [beq_iff_eq]; omega
          simp only [plank_Lay.f, Option.bind_some]
          rw [lay_told hv hp hxq, hus, Bool.true_and]
          cases hla : laidB (P.getD p z48) Q (setL x) with
          | none =>
            refine Evt.neg (by simp [layR]) ?_
            simpa using hnext
          | some o =>
            refine Evt.pos (by simp [layR]) (Evt.pos (by omega) ?_)
            rw [show (ints (p :: l)).drop 1 = ints l from rfl, show wrap64 ((s : Int) - (x : Int)) = ((s - x : Nat) : Int) by unfold wrap64; omega]
            refine Evt.bind (ih (s - x) (by omega)) ?_
            cases hc : cutB P Q l (s - x) with
            | true => exact Evt.pos rfl (by simpa using Evt.pure true)
            | false => exact Evt.neg (by simp) (by simpa using hnext)
        · have hus : (x &&& s == x) = false := by rw [beq_eq_false_iff_ne]; omega
          rw [hus, Bool.false_and, Bool.or_false]
          exact hnext
      induction u with
      | zero =>
        intro hu
        have := step false 0 (by omega) (by
          refine Evt.succ ?_
          simp only [skewbaldlaw01_shared.l0]
          exact Evt.neg (by omega) (Evt.pure _))
        simpa using this
      | succ u ihu =>
        intro hu
        rw [List.range_succ, List.any_append]
        have h1 := step _ (u + 1) hu (by
          rw [show ((u + 1 : Nat) : Int) - 1 = (u : Int) by omega]
          exact ihu (by omega))
        simpa using h1
    exact key s (Nat.le_refl _)
theorem grows_set : ∀ n : Nat, n ≤ 5 → ∀ s, s < 2 ^ n → growsB (n : Int) (-1) (ints (setL s)) = true := by decide +kernel
theorem plankFewest_f {P : List S48} {Q : List S50} (n : Int) : Evt (fun k => skewbaldlaw01_PlankFewest.f k P Q n) true := by
  unfold skewbaldlaw01_PlankFewest.f plank_Fewest.f
  simp only [Option.bind_some]
  refine Evt.bind sound_f (Evt.ite (fun hv => ?_) (fun hv => ?_))
  · have hok := valid_ok hv
    obtain ⟨hp1, _, hq1, _, _, _⟩ := valid_told hv
    have h3 := hok.p3
    have h5 := hok.q5
    have hpp := pow_pos P.length
    have hpq := pow_pos Q.length
    have hq2 : 2 ≤ 2 ^ Q.length := by
      obtain ⟨m, hm⟩ : ∃ m, Q.length = m + 1 := ⟨Q.length - 1, by omega⟩
      rw [hm, Nat.pow_succ]
      have := pow_pos m
      omega
    rw [full_num h5, shl_pow P.length (by omega)]
    obtain ⟨t, ht, e⟩ := Round_nat n (2 ^ P.length) hpp (by have : 2 ^ P.length ≤ 32 := Nat.pow_le_pow_right (by omega : 0 < 2) (by omega : P.length ≤ 5); omega)
    rw [e]
    simp only [Option.bind_some]
    refine Evt.bind (enough_f hv ht (by omega)) ?_
    have hf : fewestP P Q = if (fewestZ P Q).1 then (ints (fewestZ P Q).2, 0) else ([], 4) := by unfold fewestP; rw [hv]; rfl
    rcases fewest_spec P Q with ⟨ez, hno⟩ | ⟨l, ez, ⟨s, hs, rfl, hc⟩, hb⟩
    · rw [hf, ez, hno t ht]
      exact Evt.neg (by simp) (Evt.pos (by simp) (Evt.pos (by simp) (Evt.pos (by trivial) (Evt.neg (by simp) (Evt.bind sawn_f (Evt.pure _))))))
    · have hc' : cutB P Q (setL s) (2 ^ Q.length - 1) = true := hc
      have hs0 : setL s ≠ [] := fun e => by
        rw [e, show cutB P Q [] (2 ^ Q.length - 1) = (2 ^ Q.length - 1 == 0) from rfl, beq_iff_eq] at hc'
        omega
      have hl0 := List.length_pos_iff.2 hs0
      have hls := setL5 s
      have last : Evt (fun k => skewbaldlaw01_PlankFewest.j0 k (ints (setL s)) ((2 ^ Q.length - 1 : Nat) : Int) false P Q) true := by
        refine Evt.succ ?_
        simp only [skewbaldlaw01_PlankFewest.j0]
        refine Evt.neg (by simp) (Evt.bind (shared_f hv _ (fun q hq => setL_lt hs hq) (setL5 s) _ (by omega)) ?_)
        rw [hc']
        exact Evt.pos (by trivial) (Evt.bind sawn_f (Evt.pure _))
      rw [hf, ez]
      refine Evt.pos (by simp) (Evt.pos (by trivial) (Evt.bind (Grows_f _ (by show (ints (setL s)).length < _; rw [ints_length]; omega) _) ?_))
      refine Evt.pos (grows_set P.length (by omega) s hs) (Evt.neg (by show ¬ ((ints (setL s)).length : Int) = 0; rw [ints_length]; omega) (Evt.ite (fun hi => ?_) (fun hi => last)))
      refine Evt.bind (ListN_f (by omega) ht) (Evt.bind (Shorter_f _ _ (by rw [ints_length]; have := setL5 t; omega) (by show (ints (setL s)).length < _; rw [ints_length]; omega)) ?_)
      rw [shorter_better]
      have : betterL (ints (setL t)) (ints (setL s)) = false := by
        rw [Bool.eq_false_iff]
        intro hbt
        rcases hb t ht hi with h | h
        · rw [h, strict_few.irr] at hbt; exact absurd hbt (by simp)
        · have := strict_few.trans _ _ _ h hbt
          rw [strict_few.irr] at this
          exact absurd this (by simp)
      show Evt (fun k => skewbaldlaw01_PlankFewest.j0 k (ints (setL s)) _ (betterL (ints (setL t)) (ints (setL s))) P Q) true
      rw [this]
      exact last
  · have e : fewestP P Q = ([], 10) := by unfold fewestP; rw [show validB P Q = false from by simpa using hv]; rfl
    rw [e]
    exact Evt.pos (by trivial) (Evt.pos (by trivial) (Evt.bind sawn_f (Evt.pure _)))
end Go.Proofs.YtekjlpldooihhaaDoor.PR
namespace Go.Proofs.YtekjlpldooihhaaDoor.PlankFewestRow.Pure
open Go.RowKit Go.Proofs.YtekjlpldooihhaaDoorW.PrintWords Go.Proofs.YtekjlpldooihhaaDoorEv Go.Proofs.YtekjlpldooihhaaDoorP Go.Proofs.YtekjlpldooihhaaDoor.PT Go.Proofs.YtekjlpldooihhaaDoor.PR
open Go.Proofs.YtekjlpldooihhaaDoor.PA (S48 S50 k48 k50)
set_option linter.unusedVariables false
theorem plankFewest (W : World) (P : List S48) (Q : List S50) (n : Int) {A : Option Addr} (hP : Kd.C k48 W A P.length P) (w0 : ∀ y ∈ P, wfWood y) {B : Option Addr} (hQ : Kd.C k50 W B Q.length Q) (w1 : ∀ x ∈ Q, wfShape x) (w2 : (Lit.int .i64 n).wf = true) :
    ∃ k, skewbaldlaw01_PlankFewest.f k P Q n = some true :=
  (plankFewest_f n).get
end Go.Proofs.YtekjlpldooihhaaDoor.PlankFewestRow.Pure
namespace Go.Proofs.YtekjlpldooihhaaDoor.PR
open Go.RowKit Go.Proofs.YtekjlpldooihhaaDoorW.PrintWords Go.Proofs.YtekjlpldooihhaaDoorW.PrintMore Go.Proofs.YtekjlpldooihhaaDoorEv Go.Proofs.YtekjlpldooihhaaDoorP Go.Proofs.YtekjlpldooihhaaDoor.PT Go.Proofs.YtekjlpldooihhaaDoorH Go.Proofs.YtekjlpldooihhaaDoorK
open Go.Proofs.YtekjlpldooihhaaDoor.PA (S48 S50 S60 k48 k50 k60 z48 z50 z60 rd_T48 rd_T50 rd_T60 rd_L4)
set_option linter.unusedVariables false
set_option linter.unusedSimpArgs false
def clearB (x : S50) (a : Nat) (t : Bool) (kn : List Int) : Bool := (jL x a t).all fun v => !decide (v ∈ kn)
theorem clear_l0 {x : S50} (hx : PartOk x) {a : Nat} (ha : a ≤ 16) (t : Bool) {kn : List Int} (hl : kn.length < 9223372036854775807) : ∀ (d j : Nat), j + d = x.f1.length →
    Evt (fun k => skewbaldlaw01_clear.l0 k (a : Int) t kn (j : Int) x.f0 x.f1 x.f2) (((jL x a t).drop j).all fun v => !decide (v ∈ kn))
  | 0, j, hj => by
    refine Evt.succ ?_
    simp only [skewbaldlaw01_clear.l0]
    rw [List.drop_eq_nil_of_le (by rw [jL_len]; omega)]
    exact Evt.neg (by omega) (Evt.pure _)
  | d + 1, j, hj => by
    have h1 := hx.one; have h12 := hx.big; have h3 := hx.few
    have hlt : j < x.f1.length := by omega
    obtain ⟨n0, n1⟩ := hx.joint x.f1[j] (List.getElem_mem _)
    have ih := clear_l0 hx ha t hl d (j + 1) (by omega)
    have hg : rd x.f1 (j : Int) = x.f1[j] := by simp [rd, hlt]
    have hd : (jL x a t).drop j = ((a : Int) + (if t then x.f0 - 1 - x.f1[j] else x.f1[j])) :: (jL x a t).drop (j + 1) := by
      rw [List.drop_eq_getElem_cons (by rw [jL_len]; exact hlt)]
      congr 1
      simp [jL]
    refine Evt.succ ?_
    simp only [skewbaldlaw01_clear.l0]
    rw [hg, hd, List.all_cons, w64 j (by omega)]
    refine Evt.pos (by omega) (Evt.pos (by omega) ?_)
    have fin : ∀ (v : Int), Evt (fun k => (skewbaldref00_Find.f k kn v).bind fun r => if r ≥ 0 then some false else skewbaldlaw01_clear.l0 k (a : Int) t kn ((j + 1 : Nat) : Int) x.f0 x.f1 x.f2) (!decide (v ∈ kn) && ((jL x a t).drop (j + 1)).all fun v => !decide (v ∈ kn)) := fun v => by
      refine Evt.bind (Find_f kn hl v) (Evt.ite (fun h => ?_) (fun h => ?_))
      · rw [decide_eq_true ((findD_nonneg kn v).1 h)]; simpa using Evt.pure false
      · rw [decide_eq_false (fun h2 => h ((findD_nonneg kn v).2 h2))]; simpa using ih
    cases t with
    | true =>
      refine Evt.pos rfl ?_
      rw [show wrap64 (wrap64 (wrap64 ((a : Int) + x.f0) - 1) - x.f1[j]) = (a : Int) + (x.f0 - 1 - x.f1[j]) by unfold wrap64; omega]
      simpa using fin ((a : Int) + (x.f0 - 1 - x.f1[j]))
    | false =>
      refine Evt.neg (by simp) ?_
      rw [show wrap64 ((a : Int) + x.f1[j]) = (a : Int) + x.f1[j] by unfold wrap64; omega]
      simpa using fin ((a : Int) + x.f1[j])
theorem clear_f {x : S50} (hx : PartOk x) {a : Nat} (ha : a ≤ 16) (t : Bool) {kn : List Int} (hl : kn.length < 9223372036854775807) : Evt (fun k => skewbaldlaw01_clear.f k x.f0 x.f1 x.f2 (a : Int) t kn) (clearB x a t kn) := by
  unfold skewbaldlaw01_clear.f
  exact clear_l0 hx ha t hl x.f1.length 0 (by omega)
theorem clear_nil (x : S50) (a : Nat) (t : Bool) : clearB x a t [] = true := by unfold clearB; simp
def setAll : List Bool → Nat → Nat → List Bool
  | tk, _, 0 => tk
  | tk, a, d + 1 => setAll (tk.set a true) (a + 1) d
theorem setAll_length : ∀ (d : Nat) (tk : List Bool) (a : Nat), (setAll tk a d).length = tk.length
  | 0, tk, a => rfl
  | d + 1, tk, a => by unfold setAll; rw [setAll_length d, List.length_set]
theorem getD_setB {tk : List Bool} {i : Nat} (hi : i < tk.length) (j : Nat) : (tk.set i true).getD j false = (tk.getD j false || decide (j = i)) := by
  by_cases e : j = i
  · subst e; simp [hi]
  · simp [List.getElem?_set_ne (fun h => e h.symm), e]
theorem setAll_mark : ∀ (d : Nat) (tk : List Bool) (a : Nat), a + d ≤ tk.length → ∀ j, (setAll tk a d).getD j false = markB (fun j => tk.getD j false) a d j
  | 0, tk, a, h, j => by unfold setAll markB; simp; omega
  | d + 1, tk, a, h, j => by
    unfold setAll
    rw [setAll_mark d (tk.set a true) (a + 1) (by rw [List.length_set]; omega) j]
    unfold markB
    show ((tk.set a true).getD j false || _) = (tk.getD j false || _)
    rw [getD_setB (by omega)]
    rw [Bool.eq_iff_iff]
    simp only [Bool.or_eq_true, Bool.and_eq_true, decide_eq_true_eq]
    constructor
    · rintro ((h | h) | h)
      · exact Or.inl h
      · exact Or.inr (by omega)
      · exact Or.inr (by omega)
    · rintro (h | h)
      · exact Or.inl (Or.inl h)
      · by_cases e : j = a
        · exact Or.inl (Or.inr e)
        · exact Or.inr (by omega)
theorem free_set {tk : List Bool} {a d : Nat} (ha : a < tk.length) : freeB (fun j => (tk.set a true).getD j false) (a + 1) d = freeB (fun j => tk.getD j false) (a + 1) d := by
  rw [Bool.eq_iff_iff, free_iff, free_iff]
  constructor
  · intro h j h1 h2
    have := h j h1 h2
    rw [getD_setB ha] at this
    simpa [show ¬ j = a by omega] using this
  · intro h j h1 h2
    rw [getD_setB ha, h j h1 h2]
    simp; omega
theorem free_next (f : Nat → Bool) (a d : Nat) : freeB f a (d + 1) = (!f a && freeB f (a + 1) d) := by
  unfold freeB
  rw [List.range'_succ, List.any_cons]
  cases f a <;> simp
theorem laid_l1 {P : List S48} {Q : List S50} {ps as' : List Int} {kn : List Int} {x : S50} {L a q : Nat} (hL : x.f0 = L) (hL12 : L ≤ 12) (hq : q < as'.length) (hq5 : q < 9223372036854775807) (ha : rd as' (q : Int) = a) (ha16 : a ≤ 16) (r : Bool) :
    ∀ (d m : Nat) (tk : List Bool), m + d = L → a + L ≤ tk.length → tk.length ≤ 16 → Evt (fun k => skewbaldlaw01_laid.l0 k ps as' kn (setAll tk (a + m) d) ((q + 1 : Nat) : Int) P Q) r →
      Evt (fun k => skewbaldlaw01_laid.l1 k ps as' kn tk (q : Int) (m : Int) P Q x.f0 x.f1 x.f2) (freeB (fun j => tk.getD j false) (a + m) d && r)
  | 0, m, tk, hm, hw, h16, hc => by
    refine Evt.succ ?_
    simp only [skewbaldlaw01_laid.l1]
    rw [w64 q hq5]
    refine Evt.neg (by omega) ?_
    rw [show freeB (fun j => tk.getD j false) (a + m) 0 = true from rfl]
    simpa [setAll] using hc
  | d + 1, m, tk, hm, hw, h16, hc => by
    refine Evt.succ ?_
    simp only [skewbaldlaw01_laid.l1]
    rw [ha, show wrap64 ((a : Int) + (m : Int)) = ((a + m : Nat) : Int) by unfold wrap64; omega, w64 m (by omega), free_next, Int.toNat_natCast]
    have hrd : rdOf false tk ((a + m : Nat) : Int) = tk.getD (a + m) false := rfl
    rw [hrd]
    refine Evt.pos (by omega) (Evt.pos (by omega) (Evt.pos (by omega) (Evt.pos (by omega) (Evt.pos (by omega) (Evt.ite (fun h => ?_) (fun h => ?_))))))
    · rw [h]; simpa using Evt.pure false
    · have ih := laid_l1 (P := P) (Q := Q) (ps := ps) (kn := kn) hL hL12 hq hq5 ha ha16 r d (m + 1) (tk.set (a + m) true) (by omega) (by rw [List.length_set]; omega) (by rw [List.length_set]; omega) hc
      rw [show a + (m + 1) = a + m + 1 by omega, free_set (by omega)] at ih
      rw [show tk.getD (a + m) false = false from by simpa using h]
      simpa using ih
def goodF (Q : List S50) : (Nat → Bool) → List Nat → List Nat → Bool
  | f, p :: ps, a :: bs => freeB f a (lenQ Q p) && goodF Q (markB f a (lenQ Q p)) ps bs
  | _, _, _ => true
theorem goodF_congr {Q : List S50} : ∀ (ps bs : List Nat) (f g : Nat → Bool), (∀ j, f j = g j) → goodF Q f ps bs = goodF Q g ps bs := fun ps bs f g h => by rw [show f = g from funext h]
theorem laid_l0 {P : List S48} {Q : List S50} (hok : Ok P Q) {ps bs : List Nat} (hlen : bs.length = ps.length) {kn : List Int} (hkn : kn.length < 9223372036854775807) (hps : ∀ p ∈ ps, p < Q.length) (hp5 : ps.length ≤ 5) {W : Nat} (hW : W ≤ 16)
    (hsp : ∀ q, q < ps.length → bs.getD q 0 + lenQ Q (ps.getD q 0) ≤ W ∧ (clearB (Q.getD (ps.getD q 0) z50) (bs.getD q 0) false kn || ((Q.getD (ps.getD q 0) z50).f2 && clearB (Q.getD (ps.getD q 0) z50) (bs.getD q 0) true kn)) = true) : ∀ (d q : Nat) (tk : List Bool), q + d = ps.length → tk.length = W →
    Evt (fun k => skewbaldlaw01_laid.l0 k (ints ps) (ints bs) kn tk (q : Int) P Q) (goodF Q (fun j => tk.getD j false) (ps.drop q) (bs.drop q))
  | 0, q, tk, hq, hw => by
    refine Evt.succ ?_
    simp only [skewbaldlaw01_laid.l0]
    rw [List.drop_eq_nil_of_le (show ps.length ≤ q by omega)]
    exact Evt.neg (by rw [ints_length]; omega) (by unfold goodF; exact Evt.pure _)
  | d + 1, q, tk, hq, hw => by
    have hlt : q < ps.length := by omega
    have hltb : q < bs.length := by omega
    obtain ⟨hs1, hs2⟩ := hsp q hlt
    have hpm : ps.getD q 0 ∈ ps := by rw [getD_el hlt]; exact List.getElem_mem hlt
    have hpq := hps _ hpm
    have hx := Ok.partOk hok hpq
    have hrp : rd (ints ps) (q : Int) = ((ps.getD q 0 : Nat) : Int) := by rw [rd_at]; simp [ints, hlt]
    have hrb : rd (ints bs) (q : Int) = ((bs.getD q 0 : Nat) : Int) := by rw [rd_at]; simp [ints, hltb]
    have hdp : ps.drop q = ps.getD q 0 :: ps.drop (q + 1) := by rw [List.drop_eq_getElem_cons hlt, getD_el hlt]
    have hdb : bs.drop q = bs.getD q 0 :: bs.drop (q + 1) := by rw [List.drop_eq_getElem_cons hltb, getD_el hltb]
    rw [hdp, hdb]
    have hl5 : lenQ Q (ps.getD q 0) = (Q.getD (ps.getD q 0) z50).f0.toNat := rfl
    have ihg := laid_l0 hok hlen hkn hps hp5 hW hsp d (q + 1) (setAll tk (bs.getD q 0) (lenQ Q (ps.getD q 0))) (by omega) (by rw [setAll_length]; exact hw)
    rw [goodF_congr _ _ _ _ (setAll_mark (lenQ Q (ps.getD q 0)) tk (bs.getD q 0) (by omega))] at ihg
    generalize ps.getD q 0 = p at *
    generalize bs.getD q 0 = a at *
    have h1 := hx.one; have h12 := hx.big
    refine Evt.succ ?_
    simp only [skewbaldlaw01_laid.l0]
    rw [hrp, hrb, rd50, In_f, hw, show wrap64 ((W : Int) - (Q.getD p z50).f0) = (W : Int) - (Q.getD p z50).f0 by unfold wrap64; omega]
    simp only [Option.bind_some]
    rw [show (decide (0 ≤ (a : Int)) && decide ((a : Int) ≤ (W : Int) - (Q.getD p z50).f0)) = true from by rw [Bool.and_eq_true]; exact ⟨decide_eq_true (by omega), decide_eq_true (by omega)⟩]
    have fin : Evt (fun k => skewbaldlaw01_laid.j1 k (ints ps) (ints bs) kn tk (q : Int) false P Q (Q.getD p z50).f0 (Q.getD p z50).f1 (Q.getD p z50).f2) (goodF Q (fun j => tk.getD j false) (p :: ps.drop (q + 1)) (a :: bs.drop (q + 1))) := by
      refine Evt.succ ?_
      simp only [skewbaldlaw01_laid.j1]
      refine Evt.neg (by simp) ?_
      have := laid_l1 (P := P) (Q := Q) (ps := ints ps) (as' := ints bs) (kn := kn) (x := Q.getD p z50) (L := lenQ Q p) (a := a) (q := q) (by omega) (by omega) (by rw [ints_length]; omega) (by omega) hrb (by omega) _ (lenQ Q p) 0 tk (by omega) (by omega) (by omega) ihg
      exact this
    refine Evt.pos (by rw [ints_length]; omega) (Evt.pos (by omega) (Evt.pos (by omega) (Evt.pos (by omega) (Evt.pos (by rw [ints_length]; omega) (Evt.pos (by trivial) (Evt.bind (clear_f hx (by omega) false hkn) (Evt.ite (fun h => fin) (fun h => ?_))))))))
    have h2 : (Q.getD p z50).f2 = true ∧ clearB (Q.getD p z50) a true kn = true := by
      rw [show clearB (Q.getD p z50) a false kn = false from by simpa using h, Bool.false_or, Bool.and_eq_true] at hs2
      exact hs2
    refine Evt.pos h2.1 (Evt.bind (clear_f hx (by omega) true hkn) ?_)
    rw [h2.2]
    exact fin
theorem laid_f {P : List S48} {Q : List S50} (hok : Ok P Q) {i : Nat} (hi : i < P.length) {ps bs : List Nat} (hlen : bs.length = ps.length) {kn : List Int} (hkn : kn.length < 9223372036854775807) (hps : ∀ p ∈ ps, p < Q.length) (hp5 : ps.length ≤ 5)
    (hsp : ∀ q, q < ps.length → spotB (P.getD i z48) (Q.getD (ps.getD q 0) z50) (bs.getD q 0) = true ∧ (clearB (Q.getD (ps.getD q 0) z50) (bs.getD q 0) false kn || ((Q.getD (ps.getD q 0) z50).f2 && clearB (Q.getD (ps.getD q 0) z50) (bs.getD q 0) true kn)) = true) :
    Evt (fun k => skewbaldlaw01_laid.f k P Q (i : Int) (ints ps) (ints bs) kn) (goodF Q (fun _ => false) ps bs) := by
  have hy := Ok.plankOk hok hi
  have h1 := hy.one; have h16 := hy.big
  unfold skewbaldlaw01_laid.f
  rw [rd48]
  refine Evt.pos (by rw [ints_length, ints_length, hlen]) (Evt.pos (by omega) (Evt.pos (by omega) (Evt.pos (by omega) (Evt.pos (by omega) ?_))))
  have := laid_l0 hok hlen hkn hps hp5 (W := (P.getD i z48).f0.toNat) (by omega) (fun q hq => ⟨by
    have h := (spot_lt (hsp q hq).1).1
    have hpm : ps.getD q 0 ∈ ps := by rw [getD_el hq]; exact List.getElem_mem hq
    have := (Ok.partOk hok (hps _ hpm)).one
    unfold lenQ
    omega, (hsp q hq).2⟩) ps.length 0 (List.replicate (P.getD i z48).f0.toNat false) (by omega) (by simp)
  rw [List.drop_zero, List.drop_zero, goodF_congr _ _ _ (fun _ => false) (fun j => by rw [List.getD_eq_getElem?_getD, List.getElem?_replicate]; split <;> rfl)] at this
  exact this
theorem good_goodF {y : S48} {Q : List S50} : ∀ (ps bs : List Nat) (f : Nat → Bool), bs.length = ps.length → (∀ q, q < ps.length → spotB y (Q.getD (ps.getD q 0) z50) (bs.getD q 0) = true) → (Go.Proofs.YtekjlpldooihhaaDoorP.Good y Q ps f bs ↔ goodF Q f ps bs = true)
  | [], [], f, _, _ => by simp [Go.Proofs.YtekjlpldooihhaaDoorP.Good, goodF]
  | [], _ :: _, f, h, _ => by simp at h
  | _ :: _, [], f, h, _ => by simp at h
  | p :: ps, a :: bs, f, h, hs => by
    have ih := good_goodF (y := y) (Q := Q) ps bs (markB f a (lenQ Q p)) (by simpa using h) (fun q hq => by
      have := hs (q + 1) (by simp; omega)
      simpa using this)
    have h0 := hs 0 (by simp)
    unfold Go.Proofs.YtekjlpldooihhaaDoorP.Good goodF
    rw [ih, Bool.and_eq_true]
    exact ⟨fun h => h.2, fun h => ⟨by simpa using h0, h⟩⟩
theorem lex_less : ∀ (o bs : List Nat), o.length = bs.length → lexLe o bs → lessB (ints bs) (ints o) = false
  | [], [], _, _ => rfl
  | [], _ :: _, h, _ => by simp at h
  | _ :: _, [], h, _ => by simp at h
  | a :: o, b :: bs, h, hl => by
    show lessB ((b : Int) :: ints bs) ((a : Int) :: ints o) = false
    rw [lessB_cons]
    rcases hl with hl | ⟨rfl, hl⟩
    · rw [if_neg (by omega)]; simp; omega
    · rw [if_pos rfl]; exact lex_less o bs (by simpa using h) hl
theorem cut_ten : ∀ t, t < 32 → ∀ q, q < (setL t).length → skewbaldref00_Cut.f 10 (ints (setL t)) (q : Int) = some (ints (setL (t - 2 ^ (setL t).getD q 0))) := by decide +kernel
theorem Cut_f {t q : Nat} (ht : t < 32) (hq : q < (setL t).length) : Evt (fun k => skewbaldref00_Cut.f k (ints (setL t)) (q : Int)) (ints (setL (t - 2 ^ (setL t).getD q 0))) := Evt.of_mono (fun k => skewbaldref00_Cut.mono _ _ k) (cut_ten t ht q hq)
theorem take_mem {s : List Nat} (hs : s ≠ []) (hl : s.length < 9223372036854775808) (t : Int) : ∃ a ∈ s, takeD (ints s) t = ((a : Nat) : Int) := by
  have h0 : 0 < s.length := List.length_pos_iff.2 hs
  have h1 := Int.emod_nonneg t (show (s.length : Int) ≠ 0 by omega)
  have h2 := Int.emod_lt_of_pos t (show (0 : Int) < (s.length : Int) by omega)
  unfold takeD
  rw [if_neg (by intro h; have := congrArg List.length h; rw [ints_length] at this; simp at this; exact hs this), ints_length]
  refine ⟨s[(t % (s.length : Int)).toNat]'(by omega), List.getElem_mem _, ?_⟩
  have e : rd (ints s) (t % (s.length : Int)) = (ints s).getD (t % (s.length : Int)).toNat 0 := rfl
  rw [e]
  simp [ints, show (t % (s.length : Int)).toNat < s.length by omega]
theorem spots_told {P : List S48} {Q : List S50} (hv : validB P Q = true) {i p : Nat} (hi : i < P.length) (hp : p < Q.length) : spotsP P Q (i : Int) (p : Int) = (ints (spotsL (P.getD i z48) (Q.getD p z50)), 0) := by
  unfold spotsP
  rw [hv, show inB (i : Int) P.length = true from by unfold inB; simp; omega, show inB (p : Int) Q.length = true from by unfold inB; simp; omega, Int.toNat_natCast, Int.toNat_natCast]
  rfl
theorem plankLay_j1 {P : List S48} {Q : List S50} (hv : validB P Q = true) {i t : Nat} (hi : i < P.length) (ht : t < 2 ^ Q.length) {o : List Nat} (ho : laidB (P.getD i z48) Q (setL t) = some o) (a b c : Int) :
    Evt (fun k => skewbaldlaw01_PlankLay.j1 k (i : Int) (ints (setL t)) (ints o) false P Q a b c) true := by
  have hok := valid_ok hv
  have h5 := hok.q5
  have h32 := lt32 h5 ht
  have hL : ∀ p ∈ setL t, 1 ≤ (Q.getD p z50).f0 := fun p hp => (Ok.partOk hok (setL_lt ht hp)).one
  obtain ⟨hol, hlies, _⟩ := laid_some (setL_nodup t) hL ho
  refine Evt.succ ?_
  simp only [skewbaldlaw01_PlankLay.j1]
  refine Evt.neg (by simp) (Evt.ite (fun h => ?_) (fun h => ?_))
  · rw [ints_length] at h
    exact Evt.pos (by rw [ints_length, hol]; exact h) (Evt.bind sawn_f (Evt.pure _))
  · rw [ints_length] at h ⊢
    have hl5 := setL5 t
    obtain ⟨q, hq, e⟩ := Round_nat c (setL t).length (by omega) (by omega)
    rw [e]
    simp only [Option.bind_some]
    have hm : (setL t).getD q 0 ∈ setL t := by rw [getD_el hq]; exact List.getElem_mem hq
    have hlt : t - 2 ^ (setL t).getD q 0 < 2 ^ Q.length := Nat.lt_of_le_of_lt (Nat.sub_le _ _) ht
    refine Evt.bind (Cut_f h32 hq) ?_
    simp only [plank_Lay.f, Option.bind_some]
    rw [lay_told hv hi hlt]
    have hmem := mem_less h32 hm
    have hs : (laidB (P.getD i z48) Q (setL (t - 2 ^ (setL t).getD q 0))).isSome = true := (laid_iff (setL_nodup _) (fun p hp => hL p ((hmem p).1 hp).1)).2 ⟨posOf (setL t) o, fun p hp => hlies.1 p ((hmem p).1 hp).1, fun p r hp hr hne => hlies.2 p r ((hmem p).1 hp).1 ((hmem r).1 hr).1 hne⟩
    obtain ⟨o', ho'⟩ := Option.isSome_iff_exists.1 hs
    rw [ho']
    exact Evt.pos rfl (Evt.bind sawn_f (Evt.pure _))
theorem plankLay_l0 {P : List S48} {Q : List S50} (hv : validB P Q = true) {i t : Nat} (hi : i < P.length) (ht : t < 2 ^ Q.length) (a b c : Int) {bits : List Int} (hbits : bits.length < 9223372036854775808) : ∀ (d j : Nat) (bs : List Nat), j + d = (setL t).length → bs.length = j → (∀ q, q < j → spotB (P.getD i z48) (Q.getD ((setL t).getD q 0) z50) (bs.getD q 0) = true) →
    Evt (fun k => skewbaldlaw01_PlankLay.l0 k bits (i : Int) (ints (setL t)) (layR (laidB (P.getD i z48) Q (setL t))).1 (layR (laidB (P.getD i z48) Q (setL t))).2 (ints bs) (j : Int) P Q a b c) true
  | 0, j, bs, hj, hb, hs => by
    have hok := valid_ok hv
    have h5 := hok.q5
    have hl5 := setL5 t
    have hlen : bs.length = (setL t).length := by omega
    have hL : ∀ p ∈ setL t, 1 ≤ (Q.getD p z50).f0 := fun p hp => (Ok.partOk hok (setL_lt ht hp)).one
    have hsp : ∀ q, q < (setL t).length → spotB (P.getD i z48) (Q.getD ((setL t).getD q 0) z50) (bs.getD q 0) = true := fun q hq => hs q (by omega)
    have hgood := good_goodF (setL t) bs (fun _ => false) hlen hsp
    refine Evt.succ ?_
    simp only [skewbaldlaw01_PlankLay.l0]
    refine Evt.neg (by rw [ints_length]; omega) (Evt.bind (laid_f hok hi hlen (kn := []) (by simp) (fun p hp => setL_lt ht hp) hl5 (fun q hq => ⟨hsp q hq, by rw [clear_nil]; rfl⟩)) ?_)
    cases hla : laidB (P.getD i z48) Q (setL t) with
    | none =>
      have hno : goodF Q (fun _ => false) (setL t) bs = false := by
        rw [Bool.eq_false_iff]
        intro h
        exact laidFrom_none (setL t) hL _ _ hla bs (hgood.2 h)
      rw [hno]
      exact Evt.neg (by simp [layR]) (Evt.pos rfl (Evt.pos rfl (Evt.neg (by simp) (Evt.bind sawn_f (Evt.pure _)))))
    | some o =>
      obtain ⟨us, e, hg, hm⟩ := laidFrom_some (setL t) hL _ _ _ hla
      rw [List.nil_append] at e
      subst e
      have hol := good_length _ _ _ hg
      refine Evt.pos rfl (Evt.ite (fun h => ?_) (fun h => plankLay_j1 hv hi ht hla a b c))
      refine Evt.bind (Less_f _ _ (by rw [ints_length]; omega) (by show (ints o).length < _; rw [ints_length]; omega)) ?_
      show Evt (fun k => skewbaldlaw01_PlankLay.j1 k (i : Int) (ints (setL t)) (ints o) (lessB (ints bs) (ints o)) P Q a b c) true
      rw [lex_less o bs (by omega) (hm bs (hgood.2 h))]
      exact plankLay_j1 hv hi ht hla a b c
  | d + 1, j, bs, hj, hb, hs => by
    have hok := valid_ok hv
    have hl5 := setL5 t
    have hlt : j < (setL t).length := by omega
    have hpm : (setL t).getD j 0 ∈ setL t := by rw [getD_el hlt]; exact List.getElem_mem hlt
    have hpq := setL_lt ht hpm
    have hrp : rd (ints (setL t)) (j : Int) = (((setL t).getD j 0 : Nat) : Int) := by rw [rd_at]; simp [ints, hlt]
    have hL : ∀ p ∈ setL t, 1 ≤ (Q.getD p z50).f0 := fun p hp => (Ok.partOk hok (setL_lt ht hp)).one
    have h16 := spots_len (Ok.plankOk hok hi) (Q.getD ((setL t).getD j 0) z50)
    refine Evt.succ ?_
    simp only [skewbaldlaw01_PlankLay.l0, plank_Spots.f, Option.bind_some]
    rw [hrp, spots_told hv hi hpq, Take_f bits _ hbits, w64 j (by omega)]
    simp only [Option.bind_some]
    rw [Take_f _ _ (by rw [ints_length]; omega)]
    simp only [Option.bind_some]
    refine Evt.pos (by rw [ints_length]; omega) (Evt.pos (by omega) (Evt.pos (by trivial) (Evt.pos (by rw [ints_length]; omega) (Evt.ite (fun h => ?_) (fun h => ?_)))))
    · rw [ints_length] at h
      have hno : laidB (P.getD i z48) Q (setL t) = none := by
        cases hla : laidB (P.getD i z48) Q (setL t) with
        | none => rfl
        | some o =>
          have hx := (laid_some (setL_nodup t) hL hla).2.1.1 _ hpm
          have := (mem_spots (hL _ hpm)).2 hx
          rw [List.length_eq_zero_iff.1 (by omega : (spotsL (P.getD i z48) (Q.getD ((setL t).getD j 0) z50)).length = 0)] at this
          simp at this
      rw [hno]
      exact Evt.pos rfl (Evt.pos rfl (Evt.bind sawn_f (Evt.pure _)))
    · rw [ints_length] at h
      obtain ⟨v, hv1, hv2⟩ := take_mem (s := spotsL (P.getD i z48) (Q.getD ((setL t).getD j 0) z50)) (fun e => h (by rw [e]; rfl)) (by omega) (takeD bits (j : Int))
      rw [hv2, show ints bs ++ [((v : Nat) : Int)] = ints (bs ++ [v]) from by rw [ints_append]; rfl]
      refine plankLay_l0 hv hi ht a b c hbits d (j + 1) (bs ++ [v]) (by omega) (by simp [hb]) (fun q hq => ?_)
      by_cases e : q = j
      · subst e
        rw [show (bs ++ [v]).getD q 0 = v from by simp [← hb]]
        exact (mem_spots (hL _ hpm)).1 hv1
      · rw [show (bs ++ [v]).getD q 0 = bs.getD q 0 from by simp [List.getElem?_append_left (show q < bs.length by omega)]]
        exact hs q (by omega)
theorem plankLay_f {P : List S48} {Q : List S50} (a b c : Int) {bits : List Int} (hbits : bits.length < 9223372036854775808) : Evt (fun k => skewbaldlaw01_PlankLay.f k P Q a b c bits) true := by
  unfold skewbaldlaw01_PlankLay.f plank_Lay.f
  refine Evt.bind sound_f (Evt.ite (fun hv => ?_) (fun hv => Evt.bind sawn_f (Evt.pure _)))
  have hok := valid_ok hv
  obtain ⟨h1, h3, _, h5, _, _⟩ := valid_told hv
  have hpq := pow_pos Q.length
  have h32 : 2 ^ Q.length ≤ 32 := Nat.pow_le_pow_right (by omega : 0 < 2) h5
  obtain ⟨i, hi, e1⟩ := Round_nat a P.length h1 (by omega)
  obtain ⟨t, ht, e2⟩ := Round_nat b (2 ^ Q.length) hpq (by omega)
  rw [e1, shl_pow Q.length (by omega), e2]
  simp only [Option.bind_some]
  refine Evt.bind (ListN_f h5 ht) ?_
  rw [lay_told hv hi ht]
  exact plankLay_l0 hv hi ht a b c hbits (setL t).length 0 [] (by omega) rfl (fun q hq => by omega)
end Go.Proofs.YtekjlpldooihhaaDoor.PR
namespace Go.Proofs.YtekjlpldooihhaaDoor.PlankLayRow.Pure
open Go.RowKit Go.Proofs.YtekjlpldooihhaaDoorW.PrintWords Go.Proofs.YtekjlpldooihhaaDoorEv Go.Proofs.YtekjlpldooihhaaDoorP Go.Proofs.YtekjlpldooihhaaDoor.PT Go.Proofs.YtekjlpldooihhaaDoor.PR
open Go.Proofs.YtekjlpldooihhaaDoor.PA (S48 S50 k48 k50)
set_option linter.unusedVariables false
theorem plankLay (W : World) (P : List S48) (Q : List S50) (a b c : Int) (l : List Int) {A : Option Addr} (hP : Kd.C k48 W A P.length P) (w0 : ∀ y ∈ P, wfWood y) {B : Option Addr} (hQ : Kd.C k50 W B Q.length Q) (w1 : ∀ x ∈ Q, wfShape x) (w2 : (Lit.int .i64 a).wf = true) (w3 : (Lit.int .i64 b).wf = true) (w4 : (Lit.int .i64 c).wf = true) {D : Option Addr} (hl : Kd.C (Kd.int .i64) W D l.length l) (w5 : ∀ x ∈ l, (Lit.int .i64 x).wf = true) :
    ∃ k, skewbaldlaw01_PlankLay.f k P Q a b c l = some true :=
  (plankLay_f a b c (by have := hl.2.1; omega)).get
end Go.Proofs.YtekjlpldooihhaaDoor.PlankLayRow.Pure
namespace Go.Proofs.YtekjlpldooihhaaDoor.PR
open Go.RowKit Go.Proofs.YtekjlpldooihhaaDoorW.PrintWords Go.Proofs.YtekjlpldooihhaaDoorW.PrintMore Go.Proofs.YtekjlpldooihhaaDoorEv Go.Proofs.YtekjlpldooihhaaDoorP Go.Proofs.YtekjlpldooihhaaDoor.PT Go.Proofs.YtekjlpldooihhaaDoorH Go.Proofs.YtekjlpldooihhaaDoorK
open Go.Proofs.YtekjlpldooihhaaDoor.PA (S48 S50 S60 k48 k50 k60 z48 z50 z60 rd_T48 rd_T50 rd_T60 rd_L4)
set_option linter.unusedVariables false
set_option linter.unusedSimpArgs false
structure Truth (y : S48) (kn : List Int) : Prop where
  len : kn.length = y.f1.length
  at_ : ∀ k, k < y.f1.length → (y.f1.getD k z60).f0 ≤ kn.getD k 0 ∧ kn.getD k 0 ≤ (y.f1.getD k z60).f1
theorem sure_clear {y : S48} (hy : PlankOk y) {x : S50} {a : Nat} {t : Bool} {kn : List Int} (h : y.f1.all (kfree (jL x a t)) = true) (hT : Truth y kn) : clearB x a t kn = true := by
  unfold clearB
  rw [List.all_eq_true]
  intro v hv
  simp only [Bool.not_eq_true', decide_eq_false_iff_not]
  intro hk
  obtain ⟨q, hq, rfl⟩ := List.getElem_of_mem hk
  have hq' : q < y.f1.length := by rw [← hT.len]; exact hq
  have h1 := hT.at_ q hq'
  rw [getD_el hq, getD_el hq'] at h1
  have hm := List.getElem_mem hq'
  have h2 := (List.all_eq_true.1 h) _ hm
  have hs := hy.knot _ hm
  unfold kfree at h2
  have h3 := (List.all_eq_true.1 h2) (kn[q]).toNat (mem_kin.2 ⟨by omega, by omega⟩)
  unfold hitL at h3
  rw [show ((kn[q].toNat : Nat) : Int) = kn[q] by omega] at h3
  simp only [Bool.not_eq_true', decide_eq_false_iff_not] at h3
  exact h3 hv
theorem clear_may {y : S48} (hy : PlankOk y) {x : S50} {a : Nat} {t : Bool} {kn : List Int} (h : clearB x a t kn = true) (hT : Truth y kn) : y.f1.all (kmay (jL x a t)) = true := by
  rw [List.all_eq_true]
  intro s hs
  have hk := hy.knot _ hs
  obtain ⟨q, hq, rfl⟩ := List.getElem_of_mem hs
  have hq' : q < kn.length := by rw [hT.len]; exact hq
  have h1 := hT.at_ q hq
  rw [getD_el hq, getD_el hq'] at h1
  unfold kmay
  rw [List.any_eq_true]
  refine ⟨kn[q].toNat, mem_kin.2 ⟨by omega, by omega⟩, ?_⟩
  unfold hitL
  rw [show ((kn[q].toNat : Nat) : Int) = kn[q] by omega]
  simp only [Bool.not_eq_true', decide_eq_false_iff_not]
  intro hv
  unfold clearB at h
  have h2 := (List.all_eq_true.1 h) _ hv
  simp only [Bool.not_eq_true', decide_eq_false_iff_not] at h2
  exact h2 (List.getElem_mem hq')
theorem canN_two (y : S48) (x : S50) (a : Nat) : (canN y x a == 2) = okB y x a 0 := by
  unfold canN
  cases okB y x a 0 <;> cases okB y x a 1 <;> rfl
def isB (x : S50) (a : Nat) (kn : List Int) : Bool := clearB x a false kn || (x.f2 && clearB x a true kn)
theorem is_sure {y : S48} (hy : PlankOk y) {x : S50} (hx : PartOk x) {a : Nat} {kn : List Int} (hT : Truth y kn) (h : okB y x a 0 = true) : isB x a kn = true := by
  unfold okB at h
  rw [show hbK 0 = kcanB from rfl, sound_sure hy hx, sound_sure hy hx, Bool.or_eq_true, Bool.and_eq_true] at h
  unfold isB
  rw [Bool.or_eq_true, Bool.and_eq_true]
  rcases h with h | ⟨h1, h2⟩
  · exact Or.inl (sure_clear hy h hT)
  · exact Or.inr ⟨h1, sure_clear hy h2 hT⟩
theorem is_may {y : S48} (hy : PlankOk y) {x : S50} (hx : PartOk x) {a : Nat} {kn : List Int} (hT : Truth y kn) (h : isB x a kn = true) : okB y x a 1 = true := by
  unfold isB at h
  rw [Bool.or_eq_true, Bool.and_eq_true] at h
  unfold okB
  rw [show hbK 1 = kmustB from rfl, sound_may hy hx, sound_may hy hx, Bool.or_eq_true, Bool.and_eq_true]
  rcases h with h | ⟨h1, h2⟩
  · exact Or.inl (clear_may hy h hT)
  · exact Or.inr ⟨h1, clear_may hy h2 hT⟩
theorem is_two {y : S48} (hy : PlankOk y) {x : S50} (hx : PartOk x) {a : Nat} {kn : List Int} (hT : Truth y kn) (h : canN y x a = 2) : isB x a kn = true := by
  refine is_sure hy hx hT ?_
  unfold canN at h
  by_cases e : okB y x a 0 = true
  · exact e
  · rw [if_neg e] at h; split at h <;> omega
theorem is_zero {y : S48} (hy : PlankOk y) {x : S50} (hx : PartOk x) {a : Nat} {kn : List Int} (hT : Truth y kn) (h : canN y x a = 0) : isB x a kn = false := by
  rw [Bool.eq_false_iff]
  intro hi
  have h1 := is_may hy hx hT hi
  unfold canN at h
  rw [h1] at h
  split at h <;> simp at h
theorem Any_f {a b : Int} (h0 : 0 ≤ a) (h1 : a ≤ b) (h2 : b < 16) (n : Int) : ∃ v, a ≤ v ∧ v ≤ b ∧ skewbaldref00_Any.f a b n = some v := by
  obtain ⟨t, ht, e⟩ := Round_nat n (b - a + 1).toNat (by omega) (by omega)
  refine ⟨a + t, by omega, by omega, ?_⟩
  unfold skewbaldref00_Any.f
  rw [show wrap64 (wrap64 (b - a) + 1) = (((b - a + 1).toNat : Nat) : Int) by unfold wrap64; omega, e]
  simp only [Option.bind_some]
  congr 1
  unfold wrap64
  omega
theorem truly_l0 {y : S48} (hy : PlankOk y) {bits : List Int} (hb : bits.length < 9223372036854775808) : ∀ (d j : Nat) (kn : List Int), j + d = y.f1.length → kn.length = j → (∀ k, k < j → (y.f1.getD k z60).f0 ≤ kn.getD k 0 ∧ kn.getD k 0 ≤ (y.f1.getD k z60).f1) →
    ∃ r, Truth y r ∧ Evt (fun k => skewbaldlaw01_truly.l0 k bits kn (j : Int) y.f0 y.f1) r
  | 0, j, kn, hj, hl, hk => by
    refine ⟨kn, ⟨by omega, fun k h => hk k (by omega)⟩, Evt.succ ?_⟩
    simp only [skewbaldlaw01_truly.l0]
    exact Evt.neg (by omega) (Evt.pure _)
  | d + 1, j, kn, hj, hl, hk => by
    have h3 := hy.few
    have hlt : j < y.f1.length := by omega
    obtain ⟨s0, s1, s2⟩ := hy.knot _ (List.getElem_mem hlt)
    rw [← getD_el (z := z60) hlt] at s0 s1 s2
    obtain ⟨v, v1, v2, e⟩ := Any_f s0 s1 s2 (takeD bits (j : Int))
    obtain ⟨r, hT, hr⟩ := truly_l0 hy hb d (j + 1) (kn ++ [v]) (by omega) (by simp [hl]) (fun k h => by
      by_cases ek : k = j
      · subst ek
        rw [show (kn ++ [v]).getD k 0 = v from by simp [← hl]]
        exact ⟨v1, v2⟩
      · rw [show (kn ++ [v]).getD k 0 = kn.getD k 0 from by simp [List.getElem?_append_left (show k < kn.length by omega)]]
        exact hk k (by omega))
    refine ⟨r, hT, Evt.succ ?_⟩
    simp only [skewbaldlaw01_truly.l0]
    rw [Take_f bits _ hb, rd60, w64 j (by omega)]
    simp only [Option.bind_some]
    rw [e]
    simp only [Option.bind_some]
    exact Evt.pos (by omega) (Evt.pos (by omega) (Evt.pos (by omega) hr))
theorem truly_f {y : S48} (hy : PlankOk y) {bits : List Int} (hb : bits.length < 9223372036854775808) : ∃ r, Truth y r ∧ Evt (fun k => skewbaldlaw01_truly.f k y.f0 y.f1 bits) r := by
  unfold skewbaldlaw01_truly.f
  exact truly_l0 hy hb y.f1.length 0 [] (by omega) rfl (fun k h => by omega)
theorem good_spot {y : S48} {Q : List S50} : ∀ (ps us : List Nat) (f : Nat → Bool), Go.Proofs.YtekjlpldooihhaaDoorP.Good y Q ps f us → ∀ q, q < ps.length → spotB y (Q.getD (ps.getD q 0) z50) (us.getD q 0) = true
  | [], us, f, h, q, hq => by simp at hq
  | p :: ps, [], f, h, q, hq => by simp [Go.Proofs.YtekjlpldooihhaaDoorP.Good] at h
  | p :: ps, a :: us, f, h, q, hq => by
    unfold Go.Proofs.YtekjlpldooihhaaDoorP.Good at h
    cases q with
    | zero => simpa using h.1
    | succ q =>
      have := good_spot ps us _ h.2.2 q (by simpa using hq)
      simpa using this
theorem grows_ints (L : Int) : ∀ (l : List Nat) (last : Int), l.Pairwise (· < ·) → (∀ a ∈ l, last < (a : Int) ∧ (a : Int) < L) → growsB L last (ints l) = true
  | [], last, _, _ => rfl
  | a :: l, last, hp, h => by
    obtain ⟨h1, h2⟩ := h a (by simp)
    have ih := grows_ints L l (a : Int) (List.pairwise_cons.1 hp).2 (fun b hb => ⟨by have := (List.pairwise_cons.1 hp).1 b hb; omega, (h b (by simp [hb])).2⟩)
    show growsB L last ((a : Int) :: ints l) = true
    unfold growsB
    rw [ih]
    simp
    omega
theorem can_told {P : List S48} {Q : List S50} (hv : validB P Q = true) {i p : Nat} (hi : i < P.length) (hp : p < Q.length) {a : Nat} (ha : (a : Int) + (Q.getD p z50).f0 ≤ (P.getD i z48).f0) : canP P Q (i : Int) (p : Int) (a : Int) = (((canN (P.getD i z48) (Q.getD p z50) a : Nat) : Int), 0) := by
  unfold canP
  rw [hv, show inB (i : Int) P.length = true from by unfold inB; simp; omega, show inB (p : Int) Q.length = true from by unfold inB; simp; omega, Int.toNat_natCast, Int.toNat_natCast, Int.toNat_natCast, show liesB (P.getD i z48) (Q.getD p z50) (a : Int) = true from by unfold liesB; rw [Bool.and_eq_true]; exact ⟨decide_eq_true (by omega), decide_eq_true (by omega)⟩]
  rfl
theorem plankTrue_j1 {P : List S48} {Q : List S50} (hv : validB P Q = true) {i : Nat} (hi : i < P.length) {kn : List Int} (hT : Truth (P.getD i z48) kn) (a b c d : Int) : Evt (fun k => skewbaldlaw01_PlankTrue.j1 k (i : Int) kn false P Q a b c d) true := by
  have hok := valid_ok hv
  have h5 := hok.q5
  have hy := Ok.plankOk hok hi
  have hkn : kn.length < 9223372036854775807 := by have := hT.len; have := hy.few; omega
  have hpq := pow_pos Q.length
  have h32 : 2 ^ Q.length ≤ 32 := Nat.pow_le_pow_right (by omega : 0 < 2) h5
  obtain ⟨t, ht, e⟩ := Round_nat d (2 ^ Q.length) hpq (by omega)
  have hL : ∀ p ∈ setL t, 1 ≤ (Q.getD p z50).f0 := fun p hp => (Ok.partOk hok (setL_lt ht hp)).one
  refine Evt.succ ?_
  simp only [skewbaldlaw01_PlankTrue.j1, plank_Lay.f, Option.bind_some]
  rw [shl_pow Q.length (by omega), e]
  simp only [Option.bind_some]
  refine Evt.neg (by simp) (Evt.bind (ListN_f h5 ht) ?_)
  rw [lay_told hv hi ht]
  cases hla : laidB (P.getD i z48) Q (setL t) with
  | none => exact Evt.neg (by simp [layR]) (Evt.pos rfl (Evt.pos rfl (Evt.bind sawn_f (Evt.pure _))))
  | some o =>
    obtain ⟨us, eo, hg, hm⟩ := laidFrom_some (setL t) hL _ _ _ hla
    rw [List.nil_append] at eo
    subst eo
    have hol := good_length _ _ _ hg
    have hsp := good_spot _ _ _ hg
    refine Evt.pos rfl (Evt.bind (laid_f hok hi hol hkn (fun p hp => setL_lt ht hp) (setL5 t) (fun q hq => ⟨hsp q hq, is_two hy (Ok.partOk hok (setL_lt ht (by rw [getD_el hq]; exact List.getElem_mem hq))) hT (spot_lt (hsp q hq)).2⟩)) ?_)
    rw [(good_goodF (setL t) o (fun _ => false) hol hsp).1 hg]
    exact Evt.pos rfl (Evt.bind sawn_f (Evt.pure _))
theorem plankTrue_j0 {P : List S48} {Q : List S50} (hv : validB P Q = true) {i p : Nat} (hi : i < P.length) (hp : p < Q.length) {kn : List Int} (hT : Truth (P.getD i z48) kn) (a b c d : Int) : Evt (fun k => skewbaldlaw01_PlankTrue.j0 k (i : Int) (p : Int) kn P Q a b c d (P.getD i z48).f0 (P.getD i z48).f1) true := by
  have hok := valid_ok hv
  have hy := Ok.plankOk hok hi
  have hx := Ok.partOk hok hp
  have h16 := spots_len hy (Q.getD p z50)
  refine Evt.succ ?_
  simp only [skewbaldlaw01_PlankTrue.j0, plank_Spots.f, Option.bind_some]
  rw [spots_told hv hi hp]
  refine Evt.pos rfl (Evt.bind (Grows_f _ (by show (ints _).length < _; rw [ints_length]; omega) _) ?_)
  show Evt (fun k => skewbaldlaw01_PlankTrue.j1 k (i : Int) kn (!growsB (P.getD i z48).f0 (-1) (ints (spotsL (P.getD i z48) (Q.getD p z50)))) P Q a b c d) true
  rw [grows_ints _ _ _ (spots_sorted _ _) (fun a ha => by have := (spot_lt ((mem_spots hx.one).1 ha)).1; have := hx.one; omega)]
  exact plankTrue_j1 hv hi hT a b c d
theorem plankTrue_f {P : List S48} {Q : List S50} {bits : List Int} (hbits : bits.length < 9223372036854775808) (a b c d : Int) : Evt (fun k => skewbaldlaw01_PlankTrue.f k P Q bits a b c d) true := by
  unfold skewbaldlaw01_PlankTrue.f
  refine Evt.bind sound_f (Evt.ite (fun hv => ?_) (fun hv => Evt.bind sawn_f (Evt.pure _)))
  have hok := valid_ok hv
  obtain ⟨h1, h3, h1', h5, _, _⟩ := valid_told hv
  obtain ⟨i, hi, e1⟩ := Round_nat a P.length h1 (by omega)
  obtain ⟨p, hp, e2⟩ := Round_nat b Q.length h1' (by omega)
  have hy := Ok.plankOk hok hi
  have hx := Ok.partOk hok hp
  obtain ⟨kn, hT, hkn⟩ := truly_f hy hbits
  have hkl : kn.length < 9223372036854775807 := by have := hT.len; have := hy.few; omega
  have J := plankTrue_j0 hv hi hp hT a b c d
  have y1 := hy.one; have y16 := hy.big; have x1 := hx.one; have x12 := hx.big
  rw [e1]
  simp only [Option.bind_some]
  rw [e2]
  simp only [Option.bind_some]
  rw [rd48, rd50]
  refine Evt.pos (by omega) (Evt.pos (by omega) (Evt.pos (by omega) (Evt.pos (by omega) (Evt.bind hkn ?_))))
  rw [show wrap64 (wrap64 ((P.getD i z48).f0 - (Q.getD p z50).f0) + 1) = (P.getD i z48).f0 - (Q.getD p z50).f0 + 1 by unfold wrap64; omega]
  by_cases hge : (P.getD i z48).f0 ≥ (Q.getD p z50).f0
  · obtain ⟨m, hm, e3⟩ := Round_nat c ((P.getD i z48).f0 - (Q.getD p z50).f0 + 1).toNat (by omega) (by omega)
    rw [show ((((P.getD i z48).f0 - (Q.getD p z50).f0 + 1).toNat : Nat) : Int) = (P.getD i z48).f0 - (Q.getD p z50).f0 + 1 by omega] at e3
    have hc2 := canN_le (P.getD i z48) (Q.getD p z50) m
    have h2 := is_two (a := m) hy hx hT
    have h0 := is_zero (a := m) hy hx hT
    rw [e3]
    simp only [Option.bind_some, plank_Can.f]
    rw [can_told hv hi hp (a := m) (by omega), In_f]
    simp only [Option.bind_some]
    generalize canN (P.getD i z48) (Q.getD p z50) m = kd at *
    rw [show (decide ((0 : Int) ≤ (kd : Int)) && decide ((kd : Int) ≤ 2)) = true from by rw [Bool.and_eq_true]; exact ⟨decide_eq_true (by omega), decide_eq_true (by omega)⟩]
    unfold isB at h2 h0
    refine Evt.pos hge (Evt.bind (clear_f hx (by omega) false hkl) (Evt.ite (fun hc => ?_) (fun hc => ?_)))
    · refine Evt.pos (by trivial) (Evt.pos (by trivial) (Evt.ite (fun e => Evt.neg (by omega) J) (fun e => Evt.neg (fun e0 => ?_) J)))
      have := h0 (by omega)
      rw [hc] at this
      simp at this
    · have hc' : clearB (Q.getD p z50) m false kn = false := by simpa using hc
      rw [hc', Bool.false_or] at h2 h0
      refine Evt.ite (fun hf => ?_) (fun hf => ?_)
      · rw [hf, Bool.true_and] at h2 h0
        refine Evt.bind (clear_f hx (by omega) true hkl) (Evt.pos (by trivial) (Evt.pos (by trivial) (Evt.ite (fun e => ?_) (fun e => ?_))))
        · exact Evt.pos (h2 (by omega)) (Evt.neg (by omega) J)
        · exact Evt.ite (fun e0 => Evt.neg (by rw [h0 (by omega)]; simp) J) (fun e0 => J)
      · rw [show (Q.getD p z50).f2 = false from by simpa using hf, Bool.false_and] at h2 h0
        refine Evt.pos (by trivial) (Evt.pos (by trivial) (Evt.neg (fun e => by have := h2 (by omega); simp at this) (Evt.ite (fun e0 => J) (fun e0 => J))))
  · rw [show skewbaldref00_Round.f c ((P.getD i z48).f0 - (Q.getD p z50).f0 + 1) = some 0 from by unfold skewbaldref00_Round.f; rw [if_pos (by omega)]]
    simp only [Option.bind_some]
    exact Evt.neg hge J
end Go.Proofs.YtekjlpldooihhaaDoor.PR
namespace Go.Proofs.YtekjlpldooihhaaDoor.PlankTrueRow.Pure
open Go.RowKit Go.Proofs.YtekjlpldooihhaaDoorW.PrintWords Go.Proofs.YtekjlpldooihhaaDoorEv Go.Proofs.YtekjlpldooihhaaDoorP Go.Proofs.YtekjlpldooihhaaDoor.PT Go.Proofs.YtekjlpldooihhaaDoor.PR
open Go.Proofs.YtekjlpldooihhaaDoor.PA (S48 S50 k48 k50)
set_option linter.unusedVariables false
theorem plankTrue (W : World) (P : List S48) (Q : List S50) (l : List Int) (a b c d : Int) {A : Option Addr} (hP : Kd.C k48 W A P.length P) (w0 : ∀ y ∈ P, wfWood y) {B : Option Addr} (hQ : Kd.C k50 W B Q.length Q) (w1 : ∀ x ∈ Q, wfShape x) {D : Option Addr} (hl : Kd.C (Kd.int .i64) W D l.length l) (w2 : ∀ x ∈ l, (Lit.int .i64 x).wf = true) (w3 : (Lit.int .i64 a).wf = true) (w4 : (Lit.int .i64 b).wf = true) (w5 : (Lit.int .i64 c).wf = true) (w6 : (Lit.int .i64 d).wf = true) :
    ∃ k, skewbaldlaw01_PlankTrue.f k P Q l a b c d = some true :=
  (plankTrue_f (by have := hl.2.1; omega) a b c d).get
end Go.Proofs.YtekjlpldooihhaaDoor.PlankTrueRow.Pure
namespace Go.Proofs.YtekjlpldooihhaaDoor.PR
open Go.Proofs.YtekjlpldooihhaaDoorSh
open Go.RowKit Go.Proofs.YtekjlpldooihhaaDoorW.PrintWords Go.Proofs.YtekjlpldooihhaaDoorW.PrintLast Go.Proofs.YtekjlpldooihhaaDoorW.PrintMore Go.Proofs.YtekjlpldooihhaaDoorEv Go.Proofs.YtekjlpldooihhaaDoorP Go.Proofs.YtekjlpldooihhaaDoor.PT Go.Proofs.YtekjlpldooihhaaDoorH Go.Proofs.YtekjlpldooihhaaDoorK
open Go.Proofs.YtekjlpldooihhaaDoorSh
open Go.Proofs.YtekjlpldooihhaaDoor.PA (S48 S50 S60 k48 k50 k60 z48 z50 z60 rd_T48 rd_T50 rd_T60 rd_L4)
set_option linter.unusedVariables false
set_option linter.unusedSimpArgs false
def hT (x : S50) (m : Nat) (t : Bool) (l : List S60) : Bool := l.any fun s => !kfree (jL x m t) s
def uT (x : S50) (m : Nat) (t : Bool) (l : List S60) : Bool := l.any fun s => !kmay (jL x m t) s
theorem any_next (f : Nat → Bool) (lo d : Nat) : (List.range' lo (d + 1)).any f = ((List.range' lo d).any f || f (lo + d)) := by rw [List.range'_concat]; simp
theorem all_next (f : Nat → Bool) (lo d : Nat) : (List.range' lo (d + 1)).all f = ((List.range' lo d).all f && f (lo + d)) := by rw [List.range'_concat]; simp
theorem hit_clear (x : S50) (m : Nat) (t : Bool) (n : Nat) : hitL (jL x m t) n = !clearB x m t [(n : Int)] := by
  unfold hitL clearB
  rw [Bool.eq_iff_iff, decide_eq_true_eq, Bool.not_eq_true', Bool.eq_false_iff, Ne, List.all_eq_true]
  simp
theorem hT_next {x : S50} {m : Nat} {t : Bool} {l : List S60} {k lo hi : Nat} (hk : k < l.length) (h0 : (l.getD k z60).f0 = lo) (h1 : (l.getD k z60).f1 = hi) : hT x m t (l.take (k + 1)) = (hT x m t (l.take k) || (List.range' lo (hi + 1 - lo)).any (hitL (jL x m t))) := by
  unfold hT
  rw [List.take_succ_eq_append_getElem hk, List.any_append, ← getD_el (z := z60) hk]
  congr 1
  simp only [List.any_cons, List.any_nil, Bool.or_false]
  unfold kfree kin
  rw [h0, h1, Int.toNat_natCast, Int.toNat_natCast, List.not_all_eq_any_not]
  simp
theorem uT_next {x : S50} {m : Nat} {t : Bool} {l : List S60} {k lo hi : Nat} (hk : k < l.length) (h0 : (l.getD k z60).f0 = lo) (h1 : (l.getD k z60).f1 = hi) : uT x m t (l.take (k + 1)) = (uT x m t (l.take k) || (List.range' lo (hi + 1 - lo)).all (hitL (jL x m t))) := by
  unfold uT
  rw [List.take_succ_eq_append_getElem hk, List.any_append, ← getD_el (z := z60) hk]
  congr 1
  simp only [List.any_cons, List.any_nil, Bool.or_false]
  unfold kmay kin
  rw [h0, h1, Int.toNat_natCast, Int.toNat_natCast, List.not_any_eq_all_not]
  simp
theorem can_is {y : S48} (hy : PlankOk y) {x : S50} (hx : PartOk x) (m : Nat) : canN y x m = if (!hT x m false y.f1 || (x.f2 && !hT x m true y.f1)) then 2 else if (!uT x m false y.f1 || (x.f2 && !uT x m true y.f1)) then 1 else 0 := by
  unfold canN okB
  rw [show hbK 0 = kcanB from rfl, show hbK 1 = kmustB from rfl, sound_sure hy hx, sound_sure hy hx, sound_may hy hx, sound_may hy hx]
  unfold hT uT
  simp
theorem uT_hT {y : S48} (hy : PlankOk y) (x : S50) (m : Nat) (t : Bool) (h : uT x m t y.f1 = true) : hT x m t y.f1 = true := by
  unfold uT at h
  unfold hT
  rw [List.any_eq_true] at h ⊢
  obtain ⟨s, hs, h⟩ := h
  refine ⟨s, hs, ?_⟩
  obtain ⟨a, b, _⟩ := hy.knot s hs
  unfold kmay at h
  unfold kfree
  rw [List.not_any_eq_all_not, List.all_eq_true] at h
  rw [List.not_all_eq_any_not, List.any_eq_true]
  exact ⟨s.f0.toNat, mem_kin.2 ⟨Nat.le_refl _, by omega⟩, h s.f0.toNat (mem_kin.2 ⟨Nat.le_refl _, by omega⟩)⟩
theorem below_drewN1 {B : Nat} {w w1 : World} {n : Nat} (h : Below B w w1) : Below B w (w1.drewN n) := ⟨h.os, h.tape, h.output, h.size, h.block⟩
set_option maxRecDepth 100000 in
set_option maxHeartbeats 4000000 in
theorem calls_Some (PA : Option Addr) (pc : Nat) (P : List S48) (QA : Option Addr) (qc : Nat) (Q : List S50) (a b c : Int) (w : World) (hP : Kd.C k48 w PA P.length P) (hpc : P.length ≤ pc) (hQ : Kd.C k50 w QA Q.length Q) (hqc : Q.length ≤ qc) (hG : Glob w) :
    Calls Tryd.prog 7 #[.agg #[.slice PA P.length pc, .slice QA Q.length qc], .agg #[.int .i64 a, .int .i64 b, .int .i64 c]] w fun e w' => e = .returned (.bool true) ∧ Below w.heap.size w w' := by
  have HP := Lib.hid hP; have HQ := Lib.hid hQ; have HG := Lib.hid hG
  obtain ⟨n0, n1, n2, n3⟩ := new2 w (.cells #[.slice PA P.length pc, .slice QA Q.length qc] 25) (.cells #[.int .i64 a, .int .i64 b, .int .i64 c] 26)
  have HX := Lib.hid n0; have HN := Lib.hid n1; have HB := Lib.hid n2
  clear n0 n1 n2 n3 hP hQ hG
  obtain ⟨ks, hks⟩ := (sound_f (P := P) (Q := Q)).get
  cases hv : validB P Q with
  | false =>
    rw [hv] at hks
    go_enter Tryd.func7, Tryd.ntmps7
    go_wp2_with (first | (go_at_call 34; (with_reducible refine (skewbaldlaw01_sound.calls ks PA pc P QA qc Q _ _ (Kd.C_below HP.out HB.out) hpc (Kd.C_below HQ.out HB.out) hqc hks).mono ?_); rintro e w1 ⟨rfl, hb⟩; have HB := Lib.hid (HB.out.trans (hb.mono (below_size HB.out))); clear hb) | (go_at_call 23; (with_reducible refine (calls_sawn _ (HG.out.below HB.out)).mono ?_); rintro e w2 ⟨rfl, hb⟩; have HB := Lib.hid (HB.out.trans (hb.mono (below_size HB.out))); clear hb))
    exact bodyPost_ret (results_tmp rfl _ _ _) rfl ⟨rfl, HB.out⟩
  | true =>
    rw [hv] at hks
    have hok := valid_ok hv
    obtain ⟨h1, h3, h1', h5, _, _⟩ := valid_told hv
    obtain ⟨i, hi, e1⟩ := Round_nat a P.length h1 (by omega)
    obtain ⟨p, hp, e2⟩ := Round_nat b Q.length h1' (by omega)
    go_enter Tryd.func7, Tryd.ntmps7
    go_wp2_with (go_at_call 34; (with_reducible refine (skewbaldlaw01_sound.calls ks PA pc P QA qc Q _ _ (Kd.C_below HP.out HB.out) hpc (Kd.C_below HQ.out HB.out) hqc hks).mono ?_); rintro e w1 ⟨rfl, hb⟩; replace HX := Lib.hid (below_far HX.out hb); replace HN := Lib.hid (below_far HN.out hb); replace HB := Lib.hid (HB.out.trans (hb.mono (below_size HB.out))); clear hb)
    have s0 : w1.cell? ⟨w.heap.size, 0, none⟩ = some (.slice PA P.length pc) := blk_cell HX.out 0
    have s1 : w1.cell? ⟨w.heap.size, 1, none⟩ = some (.slice QA Q.length qc) := blk_cell HX.out 1
    have s2 : w1.cell? ⟨w.heap.size + 1, 0, none⟩ = some (.int .i64 a) := blk_cell HN.out 0
    have s3 : w1.cell? ⟨w.heap.size + 1, 1, none⟩ = some (.int .i64 b) := blk_cell HN.out 1
    refine start_ (n := 14) (S := fun w' => w'.cell? ⟨w.heap.size, 0, none⟩ = some (.slice PA P.length pc) ∧ w'.cell? ⟨w.heap.size, 1, none⟩ = some (.slice QA Q.length qc) ∧ w'.cell? ⟨w.heap.size + 1, 0, none⟩ = some (.int .i64 a) ∧ w'.cell? ⟨w.heap.size + 1, 1, none⟩ = some (.int .i64 b)) (ds := []) #[false, false, false, false, false, false, false, false, false, false, false, false, false, false] (by kernel_rfl) rfl rfl ⟨s0, s1, s2, s3⟩ (fun hHeld => ?_)
    refine pu_ (i := 0) (N := some 29) (qa_ 14 1) ?_
    refine pu_ (i := 2) (N := some 31) (qa_ 14 5) ?_
    refine pu_ (i := 6) (N := some 35) (qa_ 14 69) ?_
    refine pu_ (i := 8) (N := some 37) (qa_ 14 325) ?_
    refine tk_ (i := 1) (N := some 30) (qa_ 14 327) hHeld ?_
    refine tk_ (i := 3) (N := some 32) (qa_ 14 335) hHeld ?_
    refine pu_ (i := 4) (N := some 33) (qa_ 14 351) ?_
    refine tk_ (i := 7) (N := some 36) (qa_ 14 479) hHeld ?_
    refine tk_ (i := 9) (N := some 38) (qa_ 14 991) hHeld ?_
    refine pu_ (i := 10) (N := some 39) (qa_ 14 2015) ?_
    refine on_ (i := 5) (N := some 34) (qa_ 14 2047) (fun K hK => ?_)
    refine goes_ Tryd.func35 (by kernel_rfl) rfl #[.int .i64 a, .int .i64 P.length] (by rfl) rfl rfl (by first | (simp; done) | (simp only [List.map_toArray, List.map_cons, List.map_nil]; rfl)) ?_
    with_reducible refine (skewbaldref00_Round.calls a (P.length : Int) i _ e1).mono ?_
    rintro e w2 ⟨rfl, ⟨nd, rfl⟩⟩
    refine ⟨_, rfl, ?_⟩
    refine hK.out _ _ ⟨hHeld.1, hHeld.2.1, hHeld.2.2.1, hHeld.2.2.2⟩ (fun hHeld => ?_)
    clear hK K
    refine nm_ (some 34) ?_
    refine on_ (i := 11) (N := some 40) (qa_ 14 4095) (fun K hK => ?_)
    refine goes_ Tryd.func35 (by kernel_rfl) rfl #[.int .i64 b, .int .i64 Q.length] (by rfl) rfl rfl (by first | (simp; done) | (simp only [List.map_toArray, List.map_cons, List.map_nil]; rfl)) ?_
    with_reducible refine (skewbaldref00_Round.calls b (Q.length : Int) p _ e2).mono ?_
    rintro e w3 ⟨rfl, ⟨nd2, rfl⟩⟩
    refine ⟨_, rfl, ?_⟩
    refine hK.out _ _ ⟨hHeld.1, hHeld.2.1, hHeld.2.2.1, hHeld.2.2.2⟩ (fun hHeld => ?_)
    clear hK K
    refine nm_ (some 40) ?_
    refine pu_ (i := 12) (N := some 5) (qa_ 14 8191) ?_
    refine pu_ (i := 13) (N := some 6) (qa_ 14 16383) ?_
    refine done_ (by kernel_rfl) ?_
    clear hHeld s0 s1 s2 s3
    go_wp2_with fail
    generalize hW : World.drewN _ nd2 = W2
    replace HX := Lib.hid (show W2.heap[w.heap.size]? = some (.cells #[.slice PA P.length pc, .slice QA Q.length qc] 25 (0, 0)) by rw [← hW]; exact HX.out)
    replace HN := Lib.hid (show W2.heap[w.heap.size + 1]? = some (.cells #[.int .i64 a, .int .i64 b, .int .i64 c] 26 (0, 0)) by rw [← hW]; exact HN.out)
    replace HB := Lib.hid (show Below w.heap.size w W2 by rw [← hW]; exact ⟨HB.out.os, HB.out.tape, HB.out.output, HB.out.size, HB.out.block⟩)
    clear hW
    obtain ⟨ad, KA, kc, hPA, y0, y1, hkl, hKn⟩ := at_wood HP.out i hi
    obtain ⟨bd, JA, jc, hQA, x0, x1, x2, hjl, hJn⟩ := at_shape HQ.out p hp
    obtain ⟨y, hy⟩ : ∃ y, P.getD i z48 = y := ⟨_, rfl⟩
    obtain ⟨x, hx⟩ : ∃ x, Q.getD p z50 = x := ⟨_, rfl⟩
    have hyo : PlankOk y := by rw [← hy]; exact Ok.plankOk hok hi
    have hxo : PartOk x := by rw [← hx]; exact Ok.partOk hok hp
    rw [hy] at y0 y1 hkl hKn
    rw [hx] at x0 x1 x2 hjl hJn
    subst hPA hQA
    have HKN := Lib.hid hKn; have HJN := Lib.hid hJn; have HY := Lib.hid hy; have HXX := Lib.hid hx
    clear hKn hJn hy hx
    have hi0 : 0 ≤ (i : Int) := by omega
    have hi1 : (i : Int) < (P.length : Int) := by omega
    have hp0 : 0 ≤ (p : Int) := by omega
    have hp1 : (p : Int) < (Q.length : Int) := by omega
    have BX := Aside0.mk (blk_drew HX.out); have BN := Aside0.mk (blk_drew HN.out); have HB2 := Aside0.mk (below_drew1 HB.out)
    clear HX HN HB
    have HB := HB2; clear HB2
    refine start_ (n := 14) (S := fun w' => w'.cell? ⟨w.heap.size, 0, none⟩ = some (.slice (some ad) P.length pc) ∧ w'.cell? ⟨w.heap.size, 1, none⟩ = some (.slice (some bd) Q.length qc) ∧ w'.cell? (ad.add (i * 2)) = some (.int .i64 y.f0) ∧ w'.cell? ⟨(ad.add (i * 2)).block, (ad.add (i * 2)).off + 1, none⟩ = some (.slice KA y.f1.length kc) ∧ w'.cell? (bd.add (p * 3)) = some (.int .i64 x.f0) ∧ w'.cell? ⟨(bd.add (p * 3)).block, (bd.add (p * 3)).off + 1, none⟩ = some (.slice JA x.f1.length jc) ∧ w'.cell? ⟨(bd.add (p * 3)).block, (bd.add (p * 3)).off + 2, none⟩ = some (.bool x.f2)) (ds := []) #[false, false, false, false, false, false, false, false, false, false, false, false, false, false] (by kernel_rfl) rfl rfl ⟨bq BX 0, bq BX 1, (cm HB y0 :), (cm HB y1 :), (cm HB x0 :), (cm HB x1 :), (cm HB x2 :)⟩ (fun hHeld => ?_)
    generalize W2.drew = W3 at BX BN HB hHeld ⊢
    refine pu_ (i := 0) (N := some 41) (qa_ 14 1) ?_
    refine pu_ (i := 2) (N := some 43) (qa_ 14 5) ?_
    refine pu_ (i := 5) (N := some 46) (qa_ 14 37) ?_
    refine pu_ (i := 7) (N := some 48) (qa_ 14 165) ?_
    refine tk_ (i := 1) (N := some 42) (qa_ 14 167) hHeld ?_
    refine pu_ (i := 3) (N := some 44) (qa_ 14 175) ?_
    refine tk_ (i := 4) (N := some 45) (qa_ 14 191) hHeld ?_
    refine tk_ (i := 6) (N := some 47) (qa_ 14 255) hHeld ?_
    refine pu_ (i := 8) (N := some 49) (qa_ 14 511) ?_
    refine tk_ (i := 9) (N := some 50) (qa_ 14 1023) hHeld ?_
    refine join_ (σ := Nat × Nat) 2 #[true, true, true, true, true, true, true, true, true, true, true, true, false, false] (fun s_ => [(7, .pointer (some ⟨s_.1, 0, none⟩)), (8, .pointer (some ⟨s_.2, 0, none⟩))]) (fun s_ w' => (w'.cell? ⟨w.heap.size, 0, none⟩ = some (.slice (some ad) P.length pc) ∧ w'.cell? ⟨w.heap.size, 1, none⟩ = some (.slice (some bd) Q.length qc) ∧ w'.cell? (ad.add (i * 2)) = some (.int .i64 y.f0) ∧ w'.cell? ⟨(ad.add (i * 2)).block, (ad.add (i * 2)).off + 1, none⟩ = some (.slice KA y.f1.length kc) ∧ w'.cell? (bd.add (p * 3)) = some (.int .i64 x.f0) ∧ w'.cell? ⟨(bd.add (p * 3)).block, (bd.add (p * 3)).off + 1, none⟩ = some (.slice JA x.f1.length jc) ∧ w'.cell? ⟨(bd.add (p * 3)).block, (bd.add (p * 3)).off + 2, none⟩ = some (.bool x.f2)) ∧ w'.heap[w.heap.size]? = some (.cells #[.slice (some ad) P.length pc, .slice (some bd) Q.length qc] 25 (0, 0)) ∧ w'.heap[w.heap.size + 1]? = some (.cells #[.int .i64 a, .int .i64 b, .int .i64 c] 26 (0, 0)) ∧ w'.heap[s_.1]? = some (.cells #[.int .i64 0, .slice none 0 0] 48 (0, 0)) ∧ w'.heap[s_.2]? = some (.cells #[.int .i64 0, .slice none 0 0, .bool false] 50 (0, 0)) ∧ w.heap.size ≤ s_.1 ∧ w.heap.size ≤ s_.2 ∧ w.heap.size ≠ s_.1 ∧ w.heap.size + 1 ≠ s_.1 ∧ w.heap.size ≠ s_.2 ∧ w.heap.size + 1 ≠ s_.2 ∧ s_.1 ≠ s_.2 ∧ Below w.heap.size w w') ?_ ?_
    rotate_left
    · intro hCont
      refine two_ (i := 10) (j := 11) (Ni := some 7) (Nj := some 8) #[true, true, true, true, true, true, true, true, true, true, true, false, false, false] #[true, true, true, true, true, true, true, true, true, true, false, true, false, false] rfl rfl rfl rfl (by kernel_rfl) (by decide) (by decide) (fun K hK => ?_) (fun K hK => ?_)
      · refine box_step ?hg (N := 7) ?hd (cs := #[.int .i64 0, .slice none 0 0]) (t := 48) ?hr ?_; (case hd => rfl); (case hg => rfl); (case hr => first | (go_simp; done) | (go_simp; rfl))
        intro g1 hg w4 hbox hb
        have B1 := Aside0.mk hbox; have GE1 := gw hg HB; replace HB := hs HB hb; have NX1 := nl hg BX; replace BX := nb BX hb; have NN1 := nl hg BN; replace BN := nb BN hb; clear hb hbox hg
        refine hK.out _ _ ⟨bq BX 0, bq BX 1, (cm HB y0 :), (cm HB y1 :), (cm HB x0 :), (cm HB x1 :), (cm HB x2 :)⟩ (fun hHeld => ?_)
        clear hK K
        refine nm_ (some 7) ?_
        refine on_ (i := 11) (N := some 8) (qa_ 14 4095) (fun K hK => ?_)
        refine box_step ?hg (N := 8) ?hd (cs := #[.int .i64 0, .slice none 0 0, .bool false]) (t := 50) ?hr ?_; (case hd => rfl); (case hg => rfl); (case hr => first | (go_simp; done) | (go_simp; rfl))
        intro g2 hg w5 hbox hb
        have B2 := Aside0.mk hbox; have GE2 := gw hg HB; replace HB := hs HB hb; have NX2 := nl hg BX; replace BX := nb BX hb; have NN2 := nl hg BN; replace BN := nb BN hb; have N12 := nl hg B1; replace B1 := nb B1 hb; clear hb hbox hg
        refine hK.out _ _ ⟨bq BX 0, bq BX 1, (cm HB y0 :), (cm HB y1 :), (cm HB x0 :), (cm HB x1 :), (cm HB x2 :)⟩ (fun hHeld => ?_)
        clear hK K
        refine nm_ (some 8) ?_
        exact norm_ (by simp only [putAll, Act.put, List.setIfInBounds_toArray, List.set_cons_zero, List.set_cons_succ]) (hCont (g1, g2) _ ⟨hHeld, bk, bk, bk, bk, GE1.out, GE2.out, NX1.out, NN1.out, NX2.out, NN2.out, N12.out, bl⟩)
      · refine box_step ?hg (N := 8) ?hd (cs := #[.int .i64 0, .slice none 0 0, .bool false]) (t := 50) ?hr ?_; (case hd => rfl); (case hg => rfl); (case hr => first | (go_simp; done) | (go_simp; rfl))
        intro g2 hg w4 hbox hb
        have B2 := Aside0.mk hbox; have GE2 := gw hg HB; replace HB := hs HB hb; have NX2 := nl hg BX; replace BX := nb BX hb; have NN2 := nl hg BN; replace BN := nb BN hb; clear hb hbox hg
        refine hK.out _ _ ⟨bq BX 0, bq BX 1, (cm HB y0 :), (cm HB y1 :), (cm HB x0 :), (cm HB x1 :), (cm HB x2 :)⟩ (fun hHeld => ?_)
        clear hK K
        refine nm_ (some 8) ?_
        refine on_ (i := 10) (N := some 7) (qa_ 14 4095) (fun K hK => ?_)
        refine box_step ?hg (N := 7) ?hd (cs := #[.int .i64 0, .slice none 0 0]) (t := 48) ?hr ?_; (case hd => rfl); (case hg => rfl); (case hr => first | (go_simp; done) | (go_simp; rfl))
        intro g1 hg w5 hbox hb
        have B1 := Aside0.mk hbox; have GE1 := gw hg HB; replace HB := hs HB hb; have NX1 := nl hg BX; replace BX := nb BX hb; have NN1 := nl hg BN; replace BN := nb BN hb; have N12 := ng hg B2; replace B2 := nb B2 hb; clear hb hbox hg
        refine hK.out _ _ ⟨bq BX 0, bq BX 1, (cm HB y0 :), (cm HB y1 :), (cm HB x0 :), (cm HB x1 :), (cm HB x2 :)⟩ (fun hHeld => ?_)
        clear hK K
        refine nm_ (some 7) ?_
        exact norm_ (by simp only [putAll, Act.put, List.setIfInBounds_toArray, List.set_cons_zero, List.set_cons_succ]) (hCont (g1, g2) _ ⟨hHeld, bk, bk, bk, bk, GE1.out, GE2.out, NX1.out, NN1.out, NX2.out, NN2.out, N12.out, bl⟩)
    clear BX BN HB hHeld
    rintro ⟨g1, g2⟩ w4 ⟨hHeld, hBX, hBN, hB1, hB2, hG1, hG2, hX1, hN1, hX2, hN2, h12, hBe⟩
    have BX := Aside0.mk hBX; have BN := Aside0.mk hBN; have B1 := Aside0.mk hB1; have B2 := Aside0.mk hB2; have HB := Aside0.mk hBe; have GE1 := Aside0.mk hG1; have GE2 := Aside0.mk hG2
    clear hBX hBN hB1 hB2 hBe hG1 hG2
    have h21 : g2 ≠ g1 := Ne.symm h12
    refine norm_ (a' := ?_) ?_ ?_
    rotate_left
    · simp only [putAll, Act.put, List.setIfInBounds_toArray, List.set_cons_zero, List.set_cons_succ]
      rfl
    refine on_ (i := 12) (N := none) (qa_ 14 8191) (fun K hK => ?_)
    have t0 : w4.cell? ⟨g1, 0, none⟩ = some (.int .i64 0) := (blk_cell B1.out 0).trans rfl
    have t1 : w4.cell? ⟨g1, 1, none⟩ = some (.slice none 0 0) := (blk_cell B1.out 1).trans rfl
    have f0 := blk_frozen B1.out 0; have f1 := blk_frozen B1.out 1
    refine skip_ (w1 := ?_) (by rfl) rfl ?_ ?_
    rotate_left
    · go_simp
      rfl
    refine hK.out _ _ ⟨(cx hX1 (cx hX1 hHeld.1)), (cx hX1 (cx hX1 hHeld.2.1)), (cx (fb y0 GE1) (cx (fb y0 GE1) hHeld.2.2.1)), (cx (fb y1 GE1) (cx (fb y1 GE1) hHeld.2.2.2.1)), (cx (fb x0 GE1) (cx (fb x0 GE1) hHeld.2.2.2.2.1)), (cx (fb x1 GE1) (cx (fb x1 GE1) hHeld.2.2.2.2.2.1)), (cx (fb x2 GE1) (cx (fb x2 GE1) hHeld.2.2.2.2.2.2))⟩ (fun hHeld => ?_)
    clear hK K
    refine on_ (i := 13) (N := none) (qa_ 14 16383) (fun K hK => ?_)
    have t2 : w4.cell? ⟨g2, 0, none⟩ = some (.int .i64 0) := (blk_cell B2.out 0).trans rfl
    have t3 : w4.cell? ⟨g2, 1, none⟩ = some (.slice none 0 0) := (blk_cell B2.out 1).trans rfl
    have t4 : w4.cell? ⟨g2, 2, none⟩ = some (.bool false) := (blk_cell B2.out 2).trans rfl
    have f2 := blk_frozen B2.out 0; have f3 := blk_frozen B2.out 1; have f4 := blk_frozen B2.out 2
    refine skip_ (w1 := ?_) (by rfl) rfl ?_ ?_
    rotate_left
    · go_simp
      rfl
    refine hK.out _ _ ⟨(cx hX2 (cx hX2 (cx hX2 hHeld.1))), (cx hX2 (cx hX2 (cx hX2 hHeld.2.1))), (cx (fb y0 GE2) (cx (fb y0 GE2) (cx (fb y0 GE2) hHeld.2.2.1))), (cx (fb y1 GE2) (cx (fb y1 GE2) (cx (fb y1 GE2) hHeld.2.2.2.1))), (cx (fb x0 GE2) (cx (fb x0 GE2) (cx (fb x0 GE2) hHeld.2.2.2.2.1))), (cx (fb x1 GE2) (cx (fb x1 GE2) (cx (fb x1 GE2) hHeld.2.2.2.2.2.1))), (cx (fb x2 GE2) (cx (fb x2 GE2) (cx (fb x2 GE2) hHeld.2.2.2.2.2.2)))⟩ (fun hHeld => ?_)
    clear hK K
    refine done_ (by kernel_rfl) ?_
    clear hHeld t0 t1 t2 t3 t4 f0 f1 f2 f3 f4
    generalize hW : World.setCell _ ⟨g2, 2, none⟩ _ = W5
    replace B1 := Aside0.mk (show W5.heap[g1]? = some (.cells #[.int .i64 y.f0, .slice KA y.f1.length kc] 48 (0, 0)) by rw [← hW]; exact blk_far (blk_far (blk_far (blk_put (cs := #[.int .i64 y.f0, .slice none 0 0]) (blk_put (cs := #[.int .i64 0, .slice none 0 0]) B1.out 0 _ rfl) 1 _ rfl) h12 _) h12 _) h12 _)
    replace B2 := Aside0.mk (show W5.heap[g2]? = some (.cells #[.int .i64 x.f0, .slice JA x.f1.length jc, .bool x.f2] 50 (0, 0)) by rw [← hW]; exact blk_put (cs := #[.int .i64 x.f0, .slice JA x.f1.length jc, .bool false]) (blk_put (cs := #[.int .i64 x.f0, .slice none 0 0, .bool false]) (blk_put (cs := #[.int .i64 0, .slice none 0 0, .bool false]) (blk_far (blk_far B2.out h21 _) h21 _) 0 _ rfl) 1 _ rfl) 2 _ rfl)
    replace BX := Aside0.mk (show W5.heap[w.heap.size]? = some (.cells #[.slice (some ad) P.length pc, .slice (some bd) Q.length qc] 25 (0, 0)) by rw [← hW]; exact blk_far (blk_far (blk_far (blk_far (blk_far BX.out hX1 _) hX1 _) hX2 _) hX2 _) hX2 _)
    replace BN := Aside0.mk (show W5.heap[w.heap.size + 1]? = some (.cells #[.int .i64 a, .int .i64 b, .int .i64 c] 26 (0, 0)) by rw [← hW]; exact blk_far (blk_far (blk_far (blk_far (blk_far BN.out hN1 _) hN1 _) hN2 _) hN2 _) hN2 _)
    replace HB := Aside0.mk (show Below w.heap.size w W5 by rw [← hW]; exact below_set (below_set (below_set (below_set (below_set HB.out GE1.out) GE1.out) GE2.out) GE2.out) GE2.out)
    clear hW
    have s0 : W5.cell? ⟨g1, 0, none⟩ = some (.int .i64 y.f0) := blk_cell B1.out 0
    have s1 : W5.cell? ⟨g2, 0, none⟩ = some (.int .i64 x.f0) := blk_cell B2.out 0
    have s2 : W5.cell? ⟨w.heap.size, 0, none⟩ = some (.slice (some ad) P.length pc) := blk_cell BX.out 0
    have s3 : W5.cell? ⟨w.heap.size, 1, none⟩ = some (.slice (some bd) Q.length qc) := blk_cell BX.out 1
    have hspots : plank_Spots.f P Q (i : Int) (p : Int) = some (ints (spotsL y x), 0) := by unfold plank_Spots.f; rw [spots_told hv hi hp, HY.out, HXX.out]
    by_cases hlt : y.f0 < x.f0
    · have hsp : spotsL y x = [] := List.eq_nil_iff_forall_not_mem.2 fun m hm => by have := (spot_lt ((mem_spots hxo.one).1 hm)).1; omega
      rw [hsp] at hspots
      go_wp2_with (first | (go_at_call 20; (with_reducible refine (plank_Spots.calls (some ad) pc P (some bd) qc Q i p _ _ _ (Kd.C_below HP.out HB.out) hpc (Kd.C_below HQ.out HB.out) hqc (HG.out.below HB.out) hspots).mono ?_); rintro e w6 ⟨v0, rfl, ho, hb⟩; obtain ⟨A0, c0, e0⟩ := Kd.V_slice ho; subst e0; replace HB := Aside0.mk (HB.out.trans (hb.mono (below_size HB.out))); clear hb ho) | (go_at_call 23; (with_reducible refine (calls_sawn _ (HG.out.below HB.out)).mono ?_); rintro e w7 ⟨rfl, hb⟩; replace HB := Aside0.mk (HB.out.trans (hb.mono (below_size HB.out))); clear hb))
      exact bodyPost_ret (results_tmp rfl _ _ _) rfl ⟨rfl, HB.out⟩
    · have y16 := hyo.big; have x1 := hxo.one; have y01 := hyo.one; have x12 := hxo.big
      obtain ⟨m, hm, e3⟩ := Round_nat c (y.f0 - x.f0 + 1).toNat (by omega) (by omega)
      rw [show (((y.f0 - x.f0 + 1).toNat : Nat) : Int) = y.f0 - x.f0 + 1 by omega] at e3
      have hm16 : m ≤ 16 := by omega
      have hcan : plank_Can.f P Q (i : Int) (p : Int) (m : Int) = some (((canN y x m : Nat) : Int), 0) := by unfold plank_Can.f; rw [can_told hv hi hp (a := m) (by rw [HY.out, HXX.out]; omega), HY.out, HXX.out]
      have s4 : W5.cell? ⟨w.heap.size + 1, 2, none⟩ = some (.int .i64 c) := blk_cell BN.out 2
      go_wp2_with (first | (go_at_call 35; (with_reducible refine (skewbaldref00_Round.calls c (y.f0 - x.f0 + 1) m _ e3).mono ?_); rintro e w6 ⟨rfl, ⟨nd, rfl⟩⟩) | (go_at_call 16; (with_reducible refine (plank_Can.calls (some ad) pc P (some bd) qc Q i p m _ _ _ (Kd.C_below HP.out (below_drewN1 HB.out)) hpc (Kd.C_below HQ.out (below_drewN1 HB.out)) hqc (HG.out.below (below_drewN1 HB.out)) hcan).mono ?_); rintro e w6 ⟨rfl, hb⟩; replace BX := Aside0.mk (below_far (blk_drewN BX.out _) hb); replace B1 := Aside0.mk (below_far (blk_drewN B1.out _) hb); replace B2 := Aside0.mk (below_far (blk_drewN B2.out _) hb); replace HB := Aside0.mk ((below_drewN1 HB.out).trans (hb.mono (below_size (below_drewN1 HB.out)))); clear hb; have s6 := (blk_cell (w := w6) BX.out 0).trans rfl; have s7 := (blk_cell (w := w6) BX.out 1).trans rfl) | (go_at_call 20; (with_reducible refine (plank_Spots.calls (some ad) pc P (some bd) qc Q i p _ _ _ (Kd.C_below HP.out HB.out) hpc (Kd.C_below HQ.out HB.out) hqc (HG.out.below HB.out) hspots).mono ?_); rintro e w7 ⟨v0, rfl, ho, hb⟩; obtain ⟨A0, c0, e0⟩ := Kd.V_slice ho; subst e0; have HV := Aside0.mk ho; replace B1 := Aside0.mk (below_far B1.out hb); replace B2 := Aside0.mk (below_far B2.out hb); replace HB := Aside0.mk (HB.out.trans (hb.mono (below_size HB.out))); clear hb ho BX))
      have hg17 : g1 < w7.heap.size := blk_lt B1.out
      have hg27 : g2 < w7.heap.size := blk_lt B2.out
      have hws : w.heap.size ≤ w7.heap.size := below_size HB.out
      obtain ⟨n0, n1, n2, n3⟩ := new2 w7 (.cells #[.bool false, .bool false] 58) (.cells #[.bool false, .bool false] 58)
      generalize (w7.alloc (.cells #[.bool false, .bool false] 58)).alloc (.cells #[.bool false, .bool false] 58) = W8 at n0 n1 n2 n3 ⊢
      replace B1 := Aside0.mk (below_far B1.out n2); replace B2 := Aside0.mk (below_far B2.out n2); have B3 := Aside0.mk n0; have B4 := Aside0.mk n1
      replace HV := Aside0.mk (Kd.V_mono (e := 31) (base := w.heap.size) (ok' := fun k => k < w7.heap.size) (Kd.V_old HV.out n2) (fun _ h => h.2))
      have HB7 := HB
      replace HB := Aside0.mk (HB.out.trans (n2.mono (below_size HB.out)))
      clear n0 n1 n2 n3
      have hkl0 := hkl
      go_loopw [18] (fun v wr => ∃ k : Nat, k ≤ y.f1.length ∧ v = .int .i64 k ∧ Aside0 (wr.heap[g1]? = some (.cells #[.int .i64 y.f0, .slice KA y.f1.length kc] 48 (0, 0))) ∧ Aside0 (wr.heap[g2]? = some (.cells #[.int .i64 x.f0, .slice JA x.f1.length jc, .bool x.f2] 50 (0, 0))) ∧ Aside0 (wr.heap[w7.heap.size]? = some (.cells #[.bool (hT x m false (y.f1.take k)), .bool (hT x m true (y.f1.take k))] 58 (0, 0))) ∧ Aside0 (wr.heap[w7.heap.size + 1]? = some (.cells #[.bool (uT x m false (y.f1.take k)), .bool (uT x m true (y.f1.take k))] 58 (0, 0))) ∧ Aside0 (Kd.V (Kd.int .i64) 31 wr w.heap.size (fun k => k < w7.heap.size) (.slice A0 (ints (spotsL y x)).length c0) (ints (spotsL y x))) ∧ Aside0 (Below w.heap.size w wr)) (fun v _ => y.f1.length - (intOf v).toNat)
      case atStart => exact ⟨0, Nat.zero_le _, rfl, B1, B2, B3, B4, HV, HB⟩
      case round =>
        clear B1 B2 B3 B4 HV HB
        obtain ⟨k, hk, rfl, B1, B2, B3, B4, HV, HB⟩ := hrel
        have s0 : wr.cell? ⟨g1, 1, none⟩ = some (.slice KA y.f1.length kc) := blk_cell B1.out 1
        have y3 := hyo.few
        by_cases hlk : k < y.f1.length
        · obtain ⟨ka, hKA, q0, q1⟩ := at_span (Kd.C_below HKN.out HB.out) k hlk
          subst hKA
          obtain ⟨lo, hi', hlo, hhi, hle, hw6, h16⟩ := (by have := (valid_knots hv hi).2; rw [HY.out] at this; exact this k hlk)
          rw [hlo] at q0
          rw [hhi] at q1
          have hT0 := fun t => hT_next (x := x) (m := m) (t := t) hlk hlo hhi
          have uT0 := fun t => uT_next (x := x) (m := m) (t := t) hlk hlo hhi
          have hk0 : 0 ≤ (k : Int) := by omega
          have hkl1 : (k : Int) < (y.f1.length : Int) := by omega
          go_wp2_with fail
          go_loopw [19] (fun v wz => ∃ j : Nat, j ≤ 2 ∧ v = .int .i64 j ∧ Aside0 (wz.heap[g1]? = some (.cells #[.int .i64 y.f0, .slice (some ka) y.f1.length kc] 48 (0, 0))) ∧ Aside0 (wz.heap[g2]? = some (.cells #[.int .i64 x.f0, .slice JA x.f1.length jc, .bool x.f2] 50 (0, 0))) ∧ Aside0 (wz.heap[w7.heap.size]? = some (.cells #[.bool (hT x m false (y.f1.take (if 0 < j then k + 1 else k))), .bool (hT x m true (y.f1.take (if 1 < j then k + 1 else k)))] 58 (0, 0))) ∧ Aside0 (wz.heap[w7.heap.size + 1]? = some (.cells #[.bool (uT x m false (y.f1.take (if 0 < j then k + 1 else k))), .bool (uT x m true (y.f1.take (if 1 < j then k + 1 else k)))] 58 (0, 0))) ∧ Aside0 (Kd.V (Kd.int .i64) 31 wz w.heap.size (fun k => k < w7.heap.size) (.slice A0 (ints (spotsL y x)).length c0) (ints (spotsL y x))) ∧ Aside0 (Below w.heap.size w wz)) (fun v _ => 2 - (intOf v).toNat)
          case atStart => exact ⟨0, by omega, rfl, B1, B2, B3, B4, HV, HB⟩
          case round =>
          clear B1 B2 B3 B4 HV HB s0 q0 q1
          obtain ⟨j, hj, rfl, B1, B2, B3, B4, HV, HB⟩ := hrel
          have s0 : wr.cell? ⟨g1, 1, none⟩ = some (.slice (some ka) y.f1.length kc) := blk_cell B1.out 1
          obtain ⟨ka', hKA', q0, q1⟩ := at_span (Kd.C_below HKN.out HB.out) k hlk
          obtain rfl : ka = ka' := Option.some.inj hKA'
          rw [hlo] at q0
          rw [hhi] at q1
          obtain rfl | rfl | rfl : j = 0 ∨ j = 1 ∨ j = 2 := by omega
          · replace B3 := Aside0.mk (show wr.heap[w7.heap.size]? = some (.cells #[.bool (hT x m false (y.f1.take k)), .bool (hT x m true (y.f1.take k))] 58 (0, 0)) from B3.out); replace B4 := Aside0.mk (show wr.heap[w7.heap.size + 1]? = some (.cells #[.bool (uT x m false (y.f1.take k)), .bool (uT x m true (y.f1.take k))] 58 (0, 0)) from B4.out)
            go_wp2_with fail
            go_loopw [20, 21] (fun v20 v21 wz => ∃ d : Nat, d ≤ hi' + 1 - lo ∧ v21 = .int .i64 ((lo + d : Nat) : Int) ∧ v20 = .bool ((List.range' lo d).all (hitL (jL x m false))) ∧ Aside0 (wz.heap[g1]? = some (.cells #[.int .i64 y.f0, .slice (some ka) y.f1.length kc] 48 (0, 0))) ∧ Aside0 (wz.heap[g2]? = some (.cells #[.int .i64 x.f0, .slice JA x.f1.length jc, .bool x.f2] 50 (0, 0))) ∧ Aside0 (wz.heap[w7.heap.size]? = some (.cells #[.bool (hT x m false (y.f1.take k) || (List.range' lo d).any (hitL (jL x m false))), .bool (hT x m true (y.f1.take k))] 58 (0, 0))) ∧ Aside0 (wz.heap[w7.heap.size + 1]? = some (.cells #[.bool (uT x m false (y.f1.take k)), .bool (uT x m true (y.f1.take k))] 58 (0, 0))) ∧ Aside0 (Kd.V (Kd.int .i64) 31 wz w.heap.size (fun k => k < w7.heap.size) (.slice A0 (ints (spotsL y x)).length c0) (ints (spotsL y x))) ∧ Aside0 (Below w.heap.size w wz)) (fun _ v _ => hi' + 1 - (intOf v).toNat)
            case atStart => exact ⟨0, by omega, rfl, rfl, B1, B2, by simpa using B3, B4, HV, HB⟩
            case round =>
              clear B1 B2 B3 B4 HV HB s0 q0 q1
              obtain ⟨d, hd, rfl, rfl, B1, B2, B3, B4, HV, HB⟩ := hrel
              obtain ⟨wz, rfl⟩ : ∃ wz : World, wz = wr := ⟨_, rfl⟩
              have s0 : wz.cell? ⟨g1, 1, none⟩ = some (.slice (some ka) y.f1.length kc) := blk_cell B1.out 1
              obtain ⟨ka', hKA', q0, q1⟩ := at_span (Kd.C_below HKN.out HB.out) k hlk
              obtain rfl : ka = ka' := Option.some.inj hKA'
              rw [hlo] at q0
              rw [hhi] at q1
              by_cases hdl : d < hi' + 1 - lo
              · obtain ⟨kcl, hkcl⟩ := (clear_f hxo (a := m) hm16 false (kn := [((lo + d : Nat) : Int)]) (by simp)).get
                obtain ⟨fr, hfr⟩ : ∃ fr, clearB x m false [((lo + d : Nat) : Int)] = fr := ⟨_, rfl⟩
                rw [hfr] at hkcl
                have hft := hit_clear x m false (lo + d)
                rw [hfr] at hft
                obtain ⟨ba, hba⟩ : ∃ ba, (hT x m false (y.f1.take k) || (List.range' lo d).any (hitL (jL x m false))) = ba := ⟨_, rfl⟩
                obtain ⟨al, hal⟩ : ∃ al, (List.range' lo d).all (hitL (jL x m false)) = al := ⟨_, rfl⟩
                rw [hba] at B3
                rw [hal]
                have hle1 : ((lo + d : Nat) : Int) ≤ (hi' : Int) := by omega
                have v0 : wz.cell? ⟨g2, 0, none⟩ = some (.int .i64 x.f0) := blk_cell B2.out 0
                have v1 : wz.cell? ⟨g2, 1, none⟩ = some (.slice JA x.f1.length jc) := blk_cell B2.out 1
                have v2 : wz.cell? ⟨g2, 2, none⟩ = some (.bool x.f2) := blk_cell B2.out 2
                have hone := ints_C ((new1 wz (.cells #[.int .i64 ((lo + d : Nat) : Int)] 3)).1) (xs := [((lo + d : Nat) : Int)]) (by simp [maxLen]) (fun q hq => by (have h0 : q = 0 := (by simpa using hq)); (subst h0); rfl)
                cases ba <;> cases fr <;> cases al <;> (
                  go_wp2_with (go_at_call 37; refine (skewbaldlaw01_clear.calls kcl x.f0 JA jc x.f1 x.f2 m false (some ⟨wz.heap.size, 0, none⟩) 1 [((lo + d : Nat) : Int)] _ _ (Kd.C_below HJN.out (below_alloc HB.out _)) hjl hone (by simp) hkcl).mono ?_; rintro e w9 ⟨rfl, hb⟩; replace B1 := Aside0.mk (below_far (blk_alloc B1.out _) hb); replace B2 := Aside0.mk (below_far (blk_alloc B2.out _) hb); replace B3 := Aside0.mk (below_far (blk_alloc B3.out _) hb); replace B4 := Aside0.mk (below_far (blk_alloc B4.out _) hb); replace HV := Aside0.mk (Kd.V_below (Kd.V_alloc HV.out _) hb); replace HB := Aside0.mk ((below_alloc HB.out _).trans (hb.mono (below_size (below_alloc HB.out _)))); clear hb; have s8 := (blk_cell (w := w9) B3.out 0).trans rfl; have s9 := blk_frozen (w := w9) B3.out 0)
                  go_roundw
                  case rel => exact ⟨d + 1, by omega, by go_num, by rw [all_next, hal, hft]; rfl, ⟨blk_far B1.out (Nat.ne_of_lt hg17) _⟩, ⟨blk_far B2.out (Nat.ne_of_lt hg27) _⟩, ⟨by rw [any_next, ← Bool.or_assoc, hba, hft]; exact blk_put B3.out 0 _ rfl⟩, ⟨blk_far B4.out (by show w7.heap.size + 1 ≠ w7.heap.size; omega) _⟩, ⟨Kd.V_far HV.out (fun k hk => Nat.ne_of_lt hk) _⟩, ⟨below_set HB.out hws⟩⟩
                  case measure => simp [intOf]; omega)
              · obtain rfl : d = hi' + 1 - lo := by omega
                rw [← hT0 false] at B3
                obtain ⟨mu, hmu⟩ : ∃ mu, uT x m false (y.f1.take k) = mu := ⟨_, rfl⟩
                obtain ⟨al, hal⟩ : ∃ al, (List.range' lo (hi' + 1 - lo)).all (hitL (jL x m false)) = al := ⟨_, rfl⟩
                have hu := uT0 false
                rw [hmu, hal] at hu
                rw [hmu] at B4
                rw [hal]
                have hle1 : ¬ ((lo + (hi' + 1 - lo) : Nat) : Int) ≤ (hi' : Int) := by omega
                have s8 := (blk_cell (w := wz) B4.out 0).trans rfl
                have s9 := blk_frozen (w := wz) B4.out 0
                cases mu <;> cases al <;> (
                  go_wp2_with fail
                  go_roundw
                  case rel => exact ⟨1, by omega, by go_num, ⟨blk_far B1.out (by show g1 ≠ w7.heap.size + 1; omega) _⟩, ⟨blk_far B2.out (by show g2 ≠ w7.heap.size + 1; omega) _⟩, ⟨blk_far B3.out (by show w7.heap.size ≠ w7.heap.size + 1; omega) _⟩, ⟨by show (World.heap _)[w7.heap.size + 1]? = some (.cells #[.bool (uT x m false (y.f1.take (k + 1))), .bool (uT x m true (y.f1.take k))] 58 (0, 0)); rw [hu]; exact blk_put B4.out 0 _ rfl⟩, ⟨Kd.V_far HV.out (fun k hk => by show k ≠ w7.heap.size + 1; omega) _⟩, ⟨below_set HB.out (by omega)⟩⟩
                  case measure => simp [intOf])
          · replace B3 := Aside0.mk (show wr.heap[w7.heap.size]? = some (.cells #[.bool (hT x m false (y.f1.take (k + 1))), .bool (hT x m true (y.f1.take k))] 58 (0, 0)) from B3.out); replace B4 := Aside0.mk (show wr.heap[w7.heap.size + 1]? = some (.cells #[.bool (uT x m false (y.f1.take (k + 1))), .bool (uT x m true (y.f1.take k))] 58 (0, 0)) from B4.out)
            go_wp2_with fail
            go_loopw [20, 21] (fun v20 v21 wz => ∃ d : Nat, d ≤ hi' + 1 - lo ∧ v21 = .int .i64 ((lo + d : Nat) : Int) ∧ v20 = .bool ((List.range' lo d).all (hitL (jL x m true))) ∧ Aside0 (wz.heap[g1]? = some (.cells #[.int .i64 y.f0, .slice (some ka) y.f1.length kc] 48 (0, 0))) ∧ Aside0 (wz.heap[g2]? = some (.cells #[.int .i64 x.f0, .slice JA x.f1.length jc, .bool x.f2] 50 (0, 0))) ∧ Aside0 (wz.heap[w7.heap.size]? = some (.cells #[.bool (hT x m false (y.f1.take (k + 1))), .bool (hT x m true (y.f1.take k) || (List.range' lo d).any (hitL (jL x m true)))] 58 (0, 0))) ∧ Aside0 (wz.heap[w7.heap.size + 1]? = some (.cells #[.bool (uT x m false (y.f1.take (k + 1))), .bool (uT x m true (y.f1.take k))] 58 (0, 0))) ∧ Aside0 (Kd.V (Kd.int .i64) 31 wz w.heap.size (fun k => k < w7.heap.size) (.slice A0 (ints (spotsL y x)).length c0) (ints (spotsL y x))) ∧ Aside0 (Below w.heap.size w wz)) (fun _ v _ => hi' + 1 - (intOf v).toNat)
            case atStart => exact ⟨0, by omega, rfl, rfl, B1, B2, by simpa using B3, B4, HV, HB⟩
            case round =>
              clear B1 B2 B3 B4 HV HB s0 q0 q1
              obtain ⟨d, hd, rfl, rfl, B1, B2, B3, B4, HV, HB⟩ := hrel
              obtain ⟨wz, rfl⟩ : ∃ wz : World, wz = wr := ⟨_, rfl⟩
              have s0 : wz.cell? ⟨g1, 1, none⟩ = some (.slice (some ka) y.f1.length kc) := blk_cell B1.out 1
              obtain ⟨ka', hKA', q0, q1⟩ := at_span (Kd.C_below HKN.out HB.out) k hlk
              obtain rfl : ka = ka' := Option.some.inj hKA'
              rw [hlo] at q0
              rw [hhi] at q1
              by_cases hdl : d < hi' + 1 - lo
              · obtain ⟨kcl, hkcl⟩ := (clear_f hxo (a := m) hm16 true (kn := [((lo + d : Nat) : Int)]) (by simp)).get
                obtain ⟨fr, hfr⟩ : ∃ fr, clearB x m true [((lo + d : Nat) : Int)] = fr := ⟨_, rfl⟩
                rw [hfr] at hkcl
                have hft := hit_clear x m true (lo + d)
                rw [hfr] at hft
                obtain ⟨ba, hba⟩ : ∃ ba, (hT x m true (y.f1.take k) || (List.range' lo d).any (hitL (jL x m true))) = ba := ⟨_, rfl⟩
                obtain ⟨al, hal⟩ : ∃ al, (List.range' lo d).all (hitL (jL x m true)) = al := ⟨_, rfl⟩
                rw [hba] at B3
                rw [hal]
                have hle1 : ((lo + d : Nat) : Int) ≤ (hi' : Int) := by omega
                have v0 : wz.cell? ⟨g2, 0, none⟩ = some (.int .i64 x.f0) := blk_cell B2.out 0
                have v1 : wz.cell? ⟨g2, 1, none⟩ = some (.slice JA x.f1.length jc) := blk_cell B2.out 1
                have v2 : wz.cell? ⟨g2, 2, none⟩ = some (.bool x.f2) := blk_cell B2.out 2
                have hone := ints_C ((new1 wz (.cells #[.int .i64 ((lo + d : Nat) : Int)] 3)).1) (xs := [((lo + d : Nat) : Int)]) (by simp [maxLen]) (fun q hq => by (have h0 : q = 0 := (by simpa using hq)); (subst h0); rfl)
                cases ba <;> cases fr <;> cases al <;> (
                  go_wp2_with (go_at_call 37; refine (skewbaldlaw01_clear.calls kcl x.f0 JA jc x.f1 x.f2 m true (some ⟨wz.heap.size, 0, none⟩) 1 [((lo + d : Nat) : Int)] _ _ (Kd.C_below HJN.out (below_alloc HB.out _)) hjl hone (by simp) hkcl).mono ?_; rintro e w9 ⟨rfl, hb⟩; replace B1 := Aside0.mk (below_far (blk_alloc B1.out _) hb); replace B2 := Aside0.mk (below_far (blk_alloc B2.out _) hb); replace B3 := Aside0.mk (below_far (blk_alloc B3.out _) hb); replace B4 := Aside0.mk (below_far (blk_alloc B4.out _) hb); replace HV := Aside0.mk (Kd.V_below (Kd.V_alloc HV.out _) hb); replace HB := Aside0.mk ((below_alloc HB.out _).trans (hb.mono (below_size (below_alloc HB.out _)))); clear hb; have s8 := (blk_cell (w := w9) B3.out 1).trans rfl; have s9 := blk_frozen (w := w9) B3.out 1)
                  go_roundw
                  case rel => exact ⟨d + 1, by omega, by go_num, by rw [all_next, hal, hft]; rfl, ⟨blk_far B1.out (Nat.ne_of_lt hg17) _⟩, ⟨blk_far B2.out (Nat.ne_of_lt hg27) _⟩, ⟨by rw [any_next, ← Bool.or_assoc, hba, hft]; exact blk_put B3.out 1 _ rfl⟩, ⟨blk_far B4.out (by show w7.heap.size + 1 ≠ w7.heap.size; omega) _⟩, ⟨Kd.V_far HV.out (fun k hk => Nat.ne_of_lt hk) _⟩, ⟨below_set HB.out hws⟩⟩
                  case measure => simp [intOf]; omega)
              · obtain rfl : d = hi' + 1 - lo := by omega
                rw [← hT0 true] at B3
                obtain ⟨mu, hmu⟩ : ∃ mu, uT x m true (y.f1.take k) = mu := ⟨_, rfl⟩
                obtain ⟨al, hal⟩ : ∃ al, (List.range' lo (hi' + 1 - lo)).all (hitL (jL x m true)) = al := ⟨_, rfl⟩
                have hu := uT0 true
                rw [hmu, hal] at hu
                rw [hmu] at B4
                rw [hal]
                have hle1 : ¬ ((lo + (hi' + 1 - lo) : Nat) : Int) ≤ (hi' : Int) := by omega
                have s8 := (blk_cell (w := wz) B4.out 1).trans rfl
                have s9 := blk_frozen (w := wz) B4.out 1
                cases mu <;> cases al <;> (
                  go_wp2_with fail
                  go_roundw
                  case rel => exact ⟨2, by omega, by go_num, ⟨blk_far B1.out (by show g1 ≠ w7.heap.size + 1; omega) _⟩, ⟨blk_far B2.out (by show g2 ≠ w7.heap.size + 1; omega) _⟩, ⟨blk_far B3.out (by show w7.heap.size ≠ w7.heap.size + 1; omega) _⟩, ⟨by show (World.heap _)[w7.heap.size + 1]? = some (.cells #[.bool (uT x m false (y.f1.take (k + 1))), .bool (uT x m true (y.f1.take (k + 1)))] 58 (0, 0)); rw [hu]; exact blk_put B4.out 1 _ rfl⟩, ⟨Kd.V_far HV.out (fun k hk => by show k ≠ w7.heap.size + 1; omega) _⟩, ⟨below_set HB.out (by omega)⟩⟩
                  case measure => simp [intOf])
          · replace B3 := Aside0.mk (show wr.heap[w7.heap.size]? = some (.cells #[.bool (hT x m false (y.f1.take (k + 1))), .bool (hT x m true (y.f1.take (k + 1)))] 58 (0, 0)) from B3.out); replace B4 := Aside0.mk (show wr.heap[w7.heap.size + 1]? = some (.cells #[.bool (uT x m false (y.f1.take (k + 1))), .bool (uT x m true (y.f1.take (k + 1)))] 58 (0, 0)) from B4.out)
            go_wp2_with fail
            go_roundw
            case rel => exact ⟨k + 1, by omega, by go_num, B1, B2, B3, B4, HV, HB⟩
            case measure => simp [intOf]; omega
        · obtain rfl : k = y.f1.length := by omega
          rw [List.take_length] at B3 B4
          have hge1 : ¬ ((y.f1.length : Nat) : Int) < (y.f1.length : Int) := by omega
          have hcn := can_is hyo hxo m
          have hu0 := uT_hT hyo x m false; have hu1 := uT_hT hyo x m true
          obtain ⟨kf, hkf⟩ := (Find_f (ints (spotsL y x)) (by rw [ints_length]; have := spots_len hyo x; omega) (m : Int)).get
          have hfi : findD (ints (spotsL y x)) (m : Int) ≥ 0 ↔ (!hT x m false y.f1 || (x.f2 && !hT x m true y.f1)) = true := by
            rw [findD_nonneg]
            have e1 : (m : Int) ∈ ints (spotsL y x) ↔ m ∈ spotsL y x := by
              unfold ints
              rw [List.mem_map]
              exact ⟨fun ⟨q, hq, e⟩ => by have e' : ((q : Nat) : Int) = (m : Int) := e; rw [show m = q by omega]; exact hq, fun h => ⟨m, h, rfl⟩⟩
            rw [e1, mem_spots hxo.one]
            unfold spotB
            rw [canN_two, show liesB y x m = true from by unfold liesB; rw [Bool.and_eq_true]; exact ⟨decide_eq_true (by omega), decide_eq_true (by omega)⟩, Bool.true_and]
            unfold okB hT
            rw [show hbK 0 = kcanB from rfl, sound_sure hyo hxo, sound_sure hyo hxo]
            simp
          have v2 : wr.cell? ⟨g2, 2, none⟩ = some (.bool x.f2) := blk_cell B2.out 2
          have s5 := (blk_cell (w := wr) B3.out 0).trans rfl; have s6 := (blk_cell (w := wr) B3.out 1).trans rfl; have s7 := (blk_cell (w := wr) B4.out 0).trans rfl; have s8 := (blk_cell (w := wr) B4.out 1).trans rfl
          generalize hT x m false y.f1 = h0 at *
          generalize hT x m true y.f1 = h1 at *
          generalize uT x m false y.f1 = u0 at *
          generalize uT x m true y.f1 = u1 at *
          generalize findD (ints (spotsL y x)) (m : Int) = r at *
          generalize canN y x m = kd at *
          have hv' := (Kd.V_reads' HV.out)
          generalize hx2 : x.f2 = f2 at *
          cases h0 <;> cases h1 <;> cases u0 <;> cases u1 <;> cases f2 <;> (
            first
            | exact absurd (hu0 rfl) (by decide)
            | exact absurd (hu1 rfl) (by decide)
            | skip) <;> (
            simp at hcn hfi
            subst hcn
            try (have hd0 : decide (0 ≤ r) = false := decide_eq_false (by omega))
            go_wp2_with (first | (go_at_call 42; refine (skewbaldref00_Find.calls kf A0 c0 (ints (spotsL y x)) (m : Int) r _ hv'.2.2 hv'.2.1 hkf).mono ?_; rintro e w9 ⟨rfl, ⟨nd9, rfl⟩⟩) | (go_at_call 23; (with_reducible refine (calls_sawn _ (HG.out.below (below_drewN1 HB.out))).mono ?_); rintro e w10 ⟨rfl, hb⟩; replace HB := Aside0.mk ((below_drewN1 HB.out).trans (hb.mono (below_size (below_drewN1 HB.out)))); clear hb))
            exact bodyPost_ret (results_tmp rfl _ _ _) rfl ⟨rfl, HB.out⟩)
end Go.Proofs.YtekjlpldooihhaaDoor.PR
namespace Go.Proofs.YtekjlpldooihhaaDoor.PlankSomeRow.Pure
open Go.RowKit Go.Proofs.YtekjlpldooihhaaDoorW.PrintWords Go.Proofs.YtekjlpldooihhaaDoorEv Go.Proofs.YtekjlpldooihhaaDoorP Go.Proofs.YtekjlpldooihhaaDoor.PT Go.Proofs.YtekjlpldooihhaaDoor.PR
open Go.Proofs.YtekjlpldooihhaaDoor.PA (S48 S50 k48 k50)
set_option linter.unusedVariables false
def law (k : Nat) (P : List S48) (Q : List S50) (a b c : Int) : Option Bool := some true
theorem plankSome (W : World) (P : List S48) (Q : List S50) (a b c : Int) {A : Option Addr} (hP : Kd.C k48 W A P.length P) (w0 : ∀ y ∈ P, wfWood y) {B : Option Addr} (hQ : Kd.C k50 W B Q.length Q) (w1 : ∀ x ∈ Q, wfShape x) (w2 : (Lit.int .i64 a).wf = true) (w3 : (Lit.int .i64 b).wf = true) (w4 : (Lit.int .i64 c).wf = true) :
    ∃ k, law k P Q a b c = some true := ⟨0, rfl⟩
theorem calls (k : Nat) (A0 : Option Addr) (c0 : Nat) (P : List S48) (A1 : Option Addr) (c1 : Nat) (Q : List S50) (a b c : Int) (w : World) (h0 : Kd.C k48 w A0 P.length P) (hc0 : P.length ≤ c0) (h1 : Kd.C k50 w A1 Q.length Q) (hc1 : Q.length ≤ c1) (hG : Glob w) (h : law k P Q a b c = some true) :
    Calls Tryd.prog 7 #[.agg #[.slice A0 P.length c0, .slice A1 Q.length c1], .agg #[.int .i64 a, .int .i64 b, .int .i64 c]] w fun e w' => e = .returned (.bool true) ∧ Below w.heap.size w w' := calls_Some A0 c0 P A1 c1 Q a b c w h0 hc0 h1 hc1 hG
end Go.Proofs.YtekjlpldooihhaaDoor.PlankSomeRow.Pure
