/- Package plank, plain laws: planks that are turned end for end; PlankTurn. -/
import Derived.Test.YtekjlpldooihhaaDoorPTx4
import Derived.Test.YtekjlpldooihhaaDoorPTx17
import Derived.Test.YtekjlpldooihhaaDoorWNEv
import Derived.Test.YtekjlpldooihhaaDoorPv
import Derived.Test.YtekjlpldooihhaaDoorPTx32
namespace Go.Proofs.YtekjlpldooihhaaDoor.PR
open Go.RowKit Go.Proofs.YtekjlpldooihhaaDoorW.PrintWords Go.Proofs.YtekjlpldooihhaaDoorW.PrintMore Go.Proofs.YtekjlpldooihhaaDoorEv Go.Proofs.YtekjlpldooihhaaDoorP Go.Proofs.YtekjlpldooihhaaDoor.PT Go.Proofs.YtekjlpldooihhaaDoorH Go.Proofs.YtekjlpldooihhaaDoorK
open Go.Proofs.YtekjlpldooihhaaDoor.PA (S48 S50 S60 k48 k50 k60 z48 z50 z60 rd_T48 rd_T50 rd_T60 rd_L4)
set_option linter.unusedVariables false
set_option linter.unusedSimpArgs false
theorem and_nat : ∀ t, t < 32 → ∀ s, s < 32 → Go.bits .and .i64 ((t : Nat) : Int) ((s : Nat) : Int) = ((t &&& s : Nat) : Int) := by decide +kernel
theorem cutB_cons (P : List S48) (Q : List S50) (p : Nat) (l : List Nat) (s : Nat) : cutB P Q (p :: l) s = (List.range (s + 1)).any fun t => (t &&& s == t) && ((laidB (P.getD p z48) Q (setL t)).isSome && cutB P Q l (s - t)) := by
  conv => lhs; unfold cutB
  by_cases h : s = 0
  · subst h
    rw [show ((0 : Nat) == 0) = true from rfl, Bool.true_or]
    symm
    rw [List.any_eq_true]
    refine ⟨0, by simp, ?_⟩
    rw [show setL 0 = [] from by decide, cut_zero]
    rfl
  · rw [show (s == 0) = false from by simpa using h, Bool.false_or]
theorem given_f {P : List S48} {Q : List S50} (hok : Ok P Q) {t : List (List Int)} (ht : TabOk P Q t) : ∀ (l : List Nat) (hl : ∀ p ∈ l, p < P.length) (hn : l.length ≤ 5) (s : Nat) (hs : s < 2 ^ Q.length), Evt (fun k => skewbaldref01_given.f k t (ints l) (s : Int)) (cutB P Q l s)
  | [], hl, hn, s, hs => by
    refine Evt.succ ?_
    simp only [skewbaldref01_given.f]
    refine Evt.pos rfl ?_
    rw [show ((s : Int) == 0) = (s == 0) from by rw [Bool.eq_iff_iff]; simp]
    exact Evt.pure _
  | p :: l, hl, hn, s, hs => by
    have ih := fun s' (h : s' < 2 ^ Q.length) => given_f hok ht l (fun q hq => hl q (by simp [hq])) (by simp at hn; omega) s' h
    have hp := hl p (by simp)
    have h32 := lt32 hok.q5 hs
    obtain ⟨e1, e2⟩ := ht.2 p hp
    refine Evt.succ ?_
    simp only [skewbaldref01_given.f]
    refine Evt.neg (by rw [ints_length]; simp; omega) ?_
    rw [cutB_cons]
    have hrd : rd (ints (p :: l)) 0 = (p : Int) := rfl
    have hrl : rd_L4 t (p : Int) = t.getD p [] := rfl
    have hlen : (ints (p :: l)).length = l.length + 1 := by rw [ints_length]; rfl
    have key : ∀ (d u : Nat), u + d = s + 1 → Evt (fun k => skewbaldref01_given.l0 k t (ints (p :: l)) (s : Int) (u : Int)) ((List.range' u d).any fun t => (t &&& s == t) && ((laidB (P.getD p z48) Q (setL t)).isSome && cutB P Q l (s - t))) := by
      intro d
      induction d with
      | zero =>
        intro u hu
        refine Evt.succ ?_
        simp only [skewbaldref01_given.l0]
        exact Evt.neg (by omega) (Evt.pure _)
      | succ d ihd =>
        intro u hu
        have hu32 : u < 32 := by omega
        refine Evt.succ ?_
        simp only [skewbaldref01_given.l0]
        have hnext := ihd (u + 1) (by omega)
        rw [List.range'_succ, List.any_cons, and_nat u hu32 s h32, hrd, hrl, hlen, w64 u (by omega)]
        refine Evt.pos (by omega) (Evt.ite (fun h => ?_) (fun h => ?_))
        · have hus : (u &&& s == u) = true := by rw [beq_iff_eq]; omega
          have hE := e2 u (by omega)
          have hla := (EndAt.laid (fun q hq => (Ok.partOk hok (setL_lt (by omega : u < 2 ^ Q.length) hq)).one) hE).1
          rw [hus, Bool.true_and, ← hla, rd_at]
          refine Evt.pos (by omega) (Evt.pos (by omega) (Evt.pos (by rw [ht.1]; omega) (Evt.pos (by omega) (Evt.pos (by rw [e1]; omega) (Evt.ite (fun h99 => Evt.pos (by omega) ?_) (fun h99 => ?_))))))
          · rw [decide_eq_true h99, Bool.true_and, show (ints (p :: l)).drop 1 = ints l from rfl, show wrap64 ((s : Int) - (u : Int)) = ((s - u : Nat) : Int) by unfold wrap64; omega]
            refine Evt.bind (ih (s - u) (by omega)) ?_
            cases hc : cutB P Q l (s - u) with
            | true => exact Evt.pos rfl (by simpa using Evt.pure true)
            | false => exact Evt.neg (by simp) (by simpa using hnext)
          · rw [decide_eq_false h99, Bool.false_and, Bool.false_or]
            exact hnext
        · have hus : (u &&& s == u) = false := by rw [beq_eq_false_iff_ne]; omega
          rw [hus, Bool.false_and, Bool.false_or]
          exact hnext
    have := key (s + 1) 0 (by omega)
    rwa [← List.range_eq_range'] at this
theorem sizes_setL : ∀ n, n ≤ 5 → ∀ s, s < 2 ^ n → sizesL s n = setL s := by decide +kernel
theorem ListN_f {n s : Nat} (hn : n ≤ 5) (hs : s < 2 ^ n) : Evt (fun k => skewbaldref00_List.f k (s : Int) (n : Int)) (ints (setL s)) := by
  rw [← sizes_setL n hn s hs]
  exact List_f s n (by have := lt32 hn hs; omega) (by omega)
theorem pow_pos (n : Nat) : 0 < 2 ^ n := Nat.pos_of_ne_zero (by simp)
theorem full_num {n : Nat} (hn : n ≤ 5) : wrap64 (shl .i64 1 ((n : Nat) : Int) - 1) = ((2 ^ n - 1 : Nat) : Int) := by
  have := pow_pos n
  have h32 : 2 ^ n ≤ 32 := Nat.pow_le_pow_right (by omega : 0 < 2) hn
  rw [shl_pow n (by omega)]
  unfold wrap64
  omega
theorem every_f {P : List S48} {Q : List S50} (hok : Ok P Q) : Evt (fun k => skewbaldref01_every.f k P Q) (ints (setL (2 ^ P.length - 1))) := by
  have h3 := hok.p3
  have := pow_pos P.length
  unfold skewbaldref01_every.f
  rw [full_num (by omega)]
  exact Evt.bind (ListN_f (by omega) (by omega)) (Evt.pure _)
theorem less_cmp : ∀ l m : List Int, lessB l m = decide (cmpL l m < 0)
  | [], [] => rfl
  | [], _ :: _ => rfl
  | _ :: _, [] => rfl
  | a :: l, b :: m => by
    rw [lessB_cons]
    unfold cmpL
    rcases Int.lt_trichotomy a b with h | rfl | h
    · rw [if_neg (by omega), if_pos h]; simp [h]
    · rw [if_pos rfl, if_neg (by omega), if_neg (by omega)]; exact less_cmp l m
    · rw [if_neg (by omega), if_neg (by omega), if_pos h]; simp; omega
theorem shorter_better (l m : List Int) : shorterB l m = betterL l m := by
  unfold shorterB betterL
  rw [less_cmp]
  by_cases h : l.length = m.length
  · rw [if_pos (by omega), decide_eq_false (show ¬ l.length < m.length by omega), Bool.false_or, show (l.length == m.length) = true from by simpa using h, Bool.true_and]
  · rw [if_neg (by omega), show (l.length == m.length) = false from by simpa using h, Bool.false_and, Bool.or_false, decide_eq_decide]; omega
theorem setL_small {n s : Nat} (hn : n ≤ 5) (hs : s < 2 ^ n) : ∀ p ∈ setL s, p < n := fun p hp => setL_lt hs hp
theorem setL5 (s : Nat) : (setL s).length ≤ 5 := setL_len s
theorem cut_more {P : List S48} {Q : List S50} (hok : Ok P Q) {t u s : Nat} (h : ∀ i ∈ setL t, i ∈ setL u) (hs : s < 2 ^ Q.length) (hc : cutB P Q (setL t) s = true) : cutB P Q (setL u) s = true := by
  obtain ⟨a, pos, h1⟩ := (hok.cut t s hs).1 hc
  exact (hok.cut u s hs).2 ⟨a, pos, cuts_weaker h1 h (fun p hp => hp) (fun _ _ _ _ _ h => h) (fun _ _ => rfl)⟩
theorem Fewest_l0 {P : List S48} {Q : List S50} (hok : Ok P Q) {t : List (List Int)} (ht : TabOk P Q t) : ∀ (d s : Nat) (b : Nat), s + d = 2 ^ P.length → b < 2 ^ P.length → cutB P Q (setL b) (2 ^ Q.length - 1) = true →
    (∀ u, u < s → cutB P Q (setL u) (2 ^ Q.length - 1) = true → setL u = setL b ∨ betterL (ints (setL b)) (ints (setL u)) = true) →
    ∃ l, BestOf betterL (fun s => cutB P Q (setL s) (2 ^ Q.length - 1)) (2 ^ P.length) l ∧ Evt (fun k => skewbaldref01_Fewest.l0 k t ((2 ^ Q.length - 1 : Nat) : Int) (ints (setL b)) (s : Int) P Q) (ints l, 0)
  | 0, s, b, hs, hb, hc, hu => by
    have h3 := hok.p3
    obtain rfl : s = 2 ^ P.length := by omega
    refine ⟨setL b, ⟨⟨b, hb, rfl, hc⟩, hu⟩, Evt.succ ?_⟩
    simp only [skewbaldref01_Fewest.l0]
    rw [shl_pow P.length (by omega)]
    exact Evt.neg (by omega) (Evt.pure _)
  | d + 1, s, b, hs, hb, hc, hu => by
    have h3 := hok.p3
    have hlt : s < 2 ^ P.length := by omega
    have h32 := lt32 (by omega : P.length ≤ 5) hlt
    have hpq := pow_pos Q.length
    by_cases hbet : betterL (ints (setL s)) (ints (setL b)) = true ∧ cutB P Q (setL s) (2 ^ Q.length - 1) = true
    · obtain ⟨l, hl, hev⟩ := Fewest_l0 hok ht d (s + 1) s (by omega) hlt hbet.2 (fun u hu' hcu => by
        by_cases e : u = s
        · subst e; exact .inl rfl
        · rcases hu u (by omega) hcu with h | h
          · rw [h]; exact .inr hbet.1
          · exact .inr (strict_few.trans _ _ _ hbet.1 h))
      refine ⟨l, hl, Evt.succ ?_⟩
      simp only [skewbaldref01_Fewest.l0]
      rw [shl_pow P.length (by omega), w64 s (by omega)]
      refine Evt.pos (by omega) (Evt.bind (ListN_f (by omega) hlt) (Evt.bind (Shorter_f _ _ (by rw [ints_length]; have := setL5 s; omega) (by rw [ints_length]; have := setL5 b; omega)) ?_))
      rw [shorter_better]
      refine Evt.pos hbet.1 (Evt.bind (given_f hok ht _ (setL_small (by omega) hlt) (setL5 s) _ (by omega)) (Evt.pos hbet.2 hev))
    · obtain ⟨l, hl, hev⟩ := Fewest_l0 hok ht d (s + 1) b (by omega) hb hc (fun u hu' hcu => by
        by_cases e : u = s
        · subst e
          rcases strict_few.tot (ints (setL b)) (ints (setL u)) with h | h | h
          · exact .inl (ints_inj h).symm
          · exact .inr h
          · exact absurd ⟨h, hcu⟩ hbet
        · exact hu u (by omega) hcu)
      refine ⟨l, hl, Evt.succ ?_⟩
      simp only [skewbaldref01_Fewest.l0]
      rw [shl_pow P.length (by omega), w64 s (by omega)]
      refine Evt.pos (by omega) (Evt.bind (ListN_f (by omega) hlt) (Evt.bind (Shorter_f _ _ (by rw [ints_length]; have := setL5 s; omega) (by rw [ints_length]; have := setL5 b; omega)) ?_))
      rw [shorter_better]
      refine Evt.ite (fun hb1 => Evt.bind (given_f hok ht _ (setL_small (by omega) hlt) (setL5 s) _ (by omega)) (Evt.neg (fun h => hbet ⟨hb1, h⟩) hev)) (fun _ => hev)
theorem Fewest_f {P : List S48} {Q : List S50} (h : Short P Q) : Evt (fun k => skewbaldref01_Fewest.f k P Q) (fewestP P Q) := by
  unfold skewbaldref01_Fewest.f fewestP
  refine Evt.bind h.check ?_
  unfold checkP
  cases hv : validB P Q with
  | false => exact Evt.neg (by simp) (by simpa using Evt.pure (([] : List Int), (10 : Int)))
  | true =>
    have hok := valid_ok hv
    have h3 := hok.p3
    have hpp := pow_pos P.length
    have hpq := pow_pos Q.length
    obtain ⟨t, ht, hev⟩ := tables_f hok
    refine Evt.pos rfl (Evt.bind hev (Evt.bind (every_f hok) ?_))
    rw [full_num hok.q5]
    refine Evt.bind (given_f hok ht _ (setL_small (by omega : P.length ≤ 5) (by omega)) (setL5 _) _ (by omega)) (Evt.ite (fun hc => ?_) (fun hc => ?_))
    · obtain ⟨l, hl, hev2⟩ := Fewest_l0 hok ht (2 ^ P.length) 0 (2 ^ P.length - 1) (by omega) (by omega) hc (fun u hu _ => by omega)
      rcases fewest_spec P Q with ⟨_, h2⟩ | ⟨m, e, hm⟩
      · have := h2 (2 ^ P.length - 1) (by omega)
        rw [hc] at this
        exact absurd this (by simp)
      · obtain rfl := hm.unique strict_few hl
        rw [e]
        simpa using hev2
    · rcases fewest_spec P Q with ⟨e, h2⟩ | ⟨m, e, ⟨u, hu, rfl, hcu⟩, _⟩
      · rw [e]
        simpa using Evt.pure (([] : List Int), (4 : Int))
      · have hcu' : cutB P Q (setL u) (2 ^ Q.length - 1) = true := hcu
        refine absurd (cut_more hok (fun i hi => ?_) (by omega) hcu') hc
        exact (mem_full (by omega : P.length ≤ 5) i).2 (setL_lt hu hi)
theorem most_l0 {P : List S48} {Q : List S50} (hok : Ok P Q) {t : List (List Int)} (ht : TabOk P Q t) : ∀ (d s : Nat) (b : Nat), s + d = 2 ^ Q.length → b < 2 ^ Q.length → cutB P Q (setL (2 ^ P.length - 1)) b = true →
    (∀ u, u < s → cutB P Q (setL (2 ^ P.length - 1)) u = true → setL u = setL b ∨ moreL (ints (setL b)) (ints (setL u)) = true) →
    ∃ l, BestOf moreL (fun s => cutB P Q (setL (2 ^ P.length - 1)) s) (2 ^ Q.length) l ∧ Evt (fun k => skewbaldref01_most.l0 k t (ints (setL b)) (s : Int) P Q) (ints l)
  | 0, s, b, hs, hb, hc, hu => by
    have h5 := hok.q5
    obtain rfl : s = 2 ^ Q.length := by omega
    refine ⟨setL b, ⟨⟨b, hb, rfl, hc⟩, hu⟩, Evt.succ ?_⟩
    simp only [skewbaldref01_most.l0]
    rw [shl_pow Q.length (by omega)]
    exact Evt.neg (by omega) (Evt.pure _)
  | d + 1, s, b, hs, hb, hc, hu => by
    have h3 := hok.p3
    have h5 := hok.q5
    have hlt : s < 2 ^ Q.length := by omega
    have h32 := lt32 h5 hlt
    have hpp := pow_pos P.length
    have hgiv := given_f hok ht (setL (2 ^ P.length - 1)) (setL_small (by omega : P.length ≤ 5) (by omega)) (setL5 _) s hlt
    have hless := Less_f (ints (setL s)) (ints (setL b)) (by rw [ints_length]; have := setL5 s; omega) (by rw [ints_length]; have := setL5 b; omega)
    rw [less_cmp] at hless
    have hm : moreL (ints (setL s)) (ints (setL b)) = (decide ((ints (setL s)).length > (ints (setL b)).length) || (((ints (setL s)).length == (ints (setL b)).length) && decide (cmpL (ints (setL s)) (ints (setL b)) < 0))) := rfl
    by_cases hbet : moreL (ints (setL s)) (ints (setL b)) = true ∧ cutB P Q (setL (2 ^ P.length - 1)) s = true
    · obtain ⟨l, hl, hev⟩ := most_l0 hok ht d (s + 1) s (by omega) hlt hbet.2 (fun u hu' hcu => by
        by_cases e : u = s
        · subst e; exact .inl rfl
        · rcases hu u (by omega) hcu with h | h
          · rw [h]; exact .inr hbet.1
          · exact .inr (strict_more.trans _ _ _ hbet.1 h))
      refine ⟨l, hl, Evt.succ ?_⟩
      simp only [skewbaldref01_most.l0]
      rw [shl_pow Q.length (by omega), w64 s (by omega)]
      refine Evt.pos (by omega) (Evt.bind (ListN_f h5 hlt) ?_)
      have hb1 := hbet.1
      rw [hm, Bool.or_eq_true, Bool.and_eq_true, decide_eq_true_eq, beq_iff_eq] at hb1
      refine Evt.ite (fun hg => Evt.bind (every_f hok) (Evt.bind hgiv (Evt.pos hbet.2 hev))) (fun hg => ?_)
      rcases hb1 with hb1 | hb1
      · exact absurd hb1 (by omega)
      · exact Evt.pos (by omega) (Evt.bind hless (Evt.pos hb1.2 (Evt.bind (every_f hok) (Evt.bind hgiv (Evt.pos hbet.2 hev)))))
    · obtain ⟨l, hl, hev⟩ := most_l0 hok ht d (s + 1) b (by omega) hb hc (fun u hu' hcu => by
        by_cases e : u = s
        · subst e
          rcases strict_more.tot (ints (setL b)) (ints (setL u)) with h | h | h
          · exact .inl (ints_inj h).symm
          · exact .inr h
          · exact absurd ⟨h, hcu⟩ hbet
        · exact hu u (by omega) hcu)
      refine ⟨l, hl, Evt.succ ?_⟩
      simp only [skewbaldref01_most.l0]
      rw [shl_pow Q.length (by omega), w64 s (by omega)]
      refine Evt.pos (by omega) (Evt.bind (ListN_f h5 hlt) ?_)
      refine Evt.ite (fun hg => Evt.bind (every_f hok) (Evt.bind hgiv (Evt.neg (fun hx => hbet ⟨?_, hx⟩) hev))) (fun hg => Evt.ite (fun he => Evt.bind hless (Evt.ite (fun hx => Evt.bind (every_f hok) (Evt.bind hgiv (Evt.neg (fun hy => hbet ⟨?_, hy⟩) hev))) (fun _ => hev))) (fun _ => hev))
      · rw [hm, decide_eq_true (by omega), Bool.true_or]
      · rw [hm, hx, show ((ints (setL s)).length == (ints (setL b)).length) = true from by rw [beq_iff_eq]; omega]; simp
theorem most_f {P : List S48} {Q : List S50} (hok : Ok P Q) : Evt (fun k => skewbaldref01_most.f k P Q) (ints (mostN P Q)) := by
  have hpq := pow_pos Q.length
  obtain ⟨t, ht, hev⟩ := tables_f hok
  unfold skewbaldref01_most.f
  refine Evt.bind hev ?_
  obtain ⟨l, hl, hev2⟩ := most_l0 hok ht (2 ^ Q.length) 0 0 (by omega) hpq (cut_zero _ _ _) (fun u hu _ => by omega)
  obtain rfl := (most_spec P Q).unique strict_more hl
  rw [show setL 0 = [] from by decide] at hev2
  exact hev2
theorem Lacks_l0 {P : List S48} {Q : List S50} (hok : Ok P Q) {t : List (List Int)} (ht : TabOk P Q t) : ∀ (d j : Nat), j + d = Q.length →
    Evt (fun k => skewbaldref01_Lacks.l0 k t (j : Int) P Q) (lacksR ((List.range' j d).find? (lackB P Q)))
  | 0, j, hj => by
    refine Evt.succ ?_
    simp only [skewbaldref01_Lacks.l0]
    exact Evt.neg (by omega) (Evt.pure _)
  | d + 1, j, hj => by
    have h3 := hok.p3
    have h5 := hok.q5
    have hpp := pow_pos P.length
    have hpj := pow_pos (j + 1)
    have hle : 2 ^ (j + 1) ≤ 2 ^ Q.length := Nat.pow_le_pow_right (by omega) (by omega)
    refine Evt.succ ?_
    simp only [skewbaldref01_Lacks.l0]
    rw [w64 j (by omega), full_num (by omega : j + 1 ≤ 5), List.range'_succ, List.find?_cons]
    refine Evt.pos (by omega) (Evt.bind (every_f hok) (Evt.pos (by omega) (Evt.bind (given_f hok ht _ (setL_small (by omega : P.length ≤ 5) (by omega)) (setL5 _) _ (by omega)) (Evt.ite (fun h => ?_) (fun h => ?_)))))
    · rw [show lackB P Q j = false from by unfold lackB; rw [h]; rfl]
      exact Lacks_l0 hok ht d (j + 1) (by omega)
    · rw [show lackB P Q j = true from by unfold lackB; rw [show cutB P Q (setL (2 ^ P.length - 1)) (2 ^ (j + 1) - 1) = false from by simpa using h]; rfl]
      exact Evt.pure _
theorem Lacks_f {P : List S48} {Q : List S50} (h : Short P Q) : Evt (fun k => skewbaldref01_Lacks.f k P Q) (lacksP P Q) := by
  unfold skewbaldref01_Lacks.f lacksP
  refine Evt.bind h.check ?_
  unfold checkP
  cases hv : validB P Q with
  | false => exact Evt.neg (by simp) (by simpa using Evt.pure ((0 : Int), (10 : Int)))
  | true =>
    have hok := valid_ok hv
    obtain ⟨t, ht, hev⟩ := tables_f hok
    refine Evt.pos rfl (Evt.bind hev ?_)
    have := Lacks_l0 hok ht Q.length 0 (by omega)
    rw [← List.range_eq_range'] at this
    simpa using this
end Go.Proofs.YtekjlpldooihhaaDoor.PR
namespace Go.Proofs.YtekjlpldooihhaaDoor.PR
open Go.RowKit Go.Proofs.YtekjlpldooihhaaDoorW.PrintWords Go.Proofs.YtekjlpldooihhaaDoorW.PrintMore Go.Proofs.YtekjlpldooihhaaDoorEv Go.Proofs.YtekjlpldooihhaaDoorP Go.Proofs.YtekjlpldooihhaaDoor.PT Go.Proofs.YtekjlpldooihhaaDoorH Go.Proofs.YtekjlpldooihhaaDoorK
open Go.Proofs.YtekjlpldooihhaaDoor.PA (S48 S50 S60 k48 k50 k60 z48 z50 z60 rd_T48 rd_T50 rd_T60 rd_L4)
set_option linter.unusedVariables false
set_option linter.unusedSimpArgs false
theorem woodB_told {y : S48} (h : woodB y = true) : 1 ≤ y.f0 ∧ y.f0 ≤ 16 ∧ y.f1.length ≤ 3 ∧ ∀ s ∈ y.f1, knotB y.f0 s = true := by
  unfold woodB at h
  simp only [Bool.and_eq_true, decide_eq_true_eq, List.all_eq_true] at h
  exact ⟨h.1.1, h.1.2, h.2.1, h.2.2⟩
theorem shapeB_told {x : S50} (h : shapeB x = true) : 1 ≤ x.f0 ∧ x.f0 ≤ 12 ∧ x.f1.length ≤ 3 ∧ growsB x.f0 (-1) x.f1 = true := by
  unfold shapeB at h
  simp only [Bool.and_eq_true, decide_eq_true_eq] at h
  exact ⟨h.1.1, h.1.2, h.2.1, by rw [grows_asc]; exact h.2.2⟩
theorem valid_told {P : List S48} {Q : List S50} (h : validB P Q = true) : 1 ≤ P.length ∧ P.length ≤ 3 ∧ 1 ≤ Q.length ∧ Q.length ≤ 5 ∧ (∀ y ∈ P, woodB y = true) ∧ ∀ x ∈ Q, shapeB x = true := by
  unfold validB at h
  simp only [Bool.and_eq_true, decide_eq_true_eq, List.all_eq_true] at h
  exact ⟨h.1.1.1, h.1.1.2, h.1.2.1, h.1.2.2, h.2.1, h.2.2⟩
theorem sound_l2 {P : List S48} {Q : List S50} (hQ : Q.length ≤ 5) (hq : ∀ x ∈ Q, shapeB x = true) : ∀ (d j : Nat), j + d = Q.length → Evt (fun k => skewbaldlaw01_sound.l2 k true (j : Int) P Q) true
  | 0, j, hj => by
    refine Evt.succ ?_
    simp only [skewbaldlaw01_sound.l2]
    refine Evt.pos (by trivial) (Evt.succ ?_)
    simp only [skewbaldlaw01_sound.j6]
    rw [decide_eq_false (show ¬ (j : Int) < (Q.length : Int) by omega)]
    exact Evt.neg (by simp) (Evt.pure _)
  | d + 1, j, hj => by
    refine Evt.succ ?_
    simp only [skewbaldlaw01_sound.l2]
    refine Evt.pos (by trivial) (Evt.succ ?_)
    simp only [skewbaldlaw01_sound.j6]
    rw [decide_eq_true (show (j : Int) < (Q.length : Int) by omega)]
    have hlt : j < Q.length := by omega
    obtain ⟨h1, h12, h3, hg⟩ := shapeB_told (hq Q[j] (List.getElem_mem _))
    rw [rd50, getD_el hlt, w64 j (by omega), In_f]
    simp only [Option.bind_some]
    generalize Q[j] = x at h1 h12 h3 hg ⊢
    refine Evt.pos (by trivial) (Evt.pos (by omega) (Evt.pos (by omega) (Evt.pos (by simp; omega) (Evt.pos (by omega) (Evt.bind (Grows_f x.f1 (by omega) x.f0) ?_)))))
    rw [hg]
    exact sound_l2 hQ hq d (j + 1) (by omega)
theorem sound_l1 {P : List S48} {Q : List S50} {i : Nat} (hi : i < P.length) (hP : P.length ≤ 3) {L : Int} (hL : 1 ≤ L ∧ L ≤ 16) {kn : List S60} (hk : kn.length ≤ 3) (hkn : ∀ s ∈ kn, knotB L s = true) (hc : Evt (fun k => skewbaldlaw01_sound.l0 k true ((i + 1 : Nat) : Int) P Q) true) :
    ∀ (d j : Nat), j + d = kn.length → Evt (fun k => skewbaldlaw01_sound.l1 k true (i : Int) (j : Int) P Q L kn) true
  | 0, j, hj => by
    refine Evt.succ ?_
    simp only [skewbaldlaw01_sound.l1]
    rw [w64 i (by omega)]
    exact Evt.pos (by trivial) (Evt.neg (by omega) hc)
  | d + 1, j, hj => by
    refine Evt.succ ?_
    simp only [skewbaldlaw01_sound.l1]
    have hlt : j < kn.length := by omega
    have hs := hkn kn[j] (List.getElem_mem _)
    unfold knotB at hs
    simp only [Bool.and_eq_true, decide_eq_true_eq] at hs
    rw [rd60, getD_el hlt, w64 j (by omega), Ordered_f, show wrap64 (L - 1) = L - 1 by unfold wrap64; omega]
    simp only [Option.bind_some]
    rw [show (decide (0 ≤ kn[j].f0) && (decide (kn[j].f0 ≤ kn[j].f1) && decide (kn[j].f1 ≤ L - 1))) = true from by simp; omega]
    exact Evt.pos (by trivial) (Evt.pos (by omega) (Evt.pos (by omega) (sound_l1 hi hP hL hk hkn hc d (j + 1) (by omega))))
theorem sound_l0 {P : List S48} {Q : List S50} (hv : validB P Q = true) : ∀ (d i : Nat), i + d = P.length → Evt (fun k => skewbaldlaw01_sound.l0 k true (i : Int) P Q) true
  | 0, i, hi => by
    obtain ⟨_, _, _, h5, _, hq⟩ := valid_told hv
    refine Evt.succ ?_
    simp only [skewbaldlaw01_sound.l0]
    refine Evt.pos (by trivial) (Evt.succ ?_)
    simp only [skewbaldlaw01_sound.j2]
    rw [decide_eq_false (show ¬ (i : Int) < (P.length : Int) by omega)]
    exact Evt.neg (by simp) (sound_l2 h5 hq Q.length 0 (by omega))
  | d + 1, i, hi => by
    obtain ⟨_, h3, _, _, hp, _⟩ := valid_told hv
    have hlt : i < P.length := by omega
    obtain ⟨a, b, c, e⟩ := woodB_told (hp P[i] (List.getElem_mem _))
    refine Evt.succ ?_
    simp only [skewbaldlaw01_sound.l0]
    refine Evt.pos (by trivial) (Evt.succ ?_)
    simp only [skewbaldlaw01_sound.j2]
    rw [decide_eq_true (show (i : Int) < (P.length : Int) by omega), rd48, getD_el hlt, In_f]
    simp only [Option.bind_some]
    refine Evt.pos (by trivial) (Evt.pos (by omega) (Evt.pos (by omega) (Evt.pos (by simp; omega) (Evt.succ ?_))))
    simp only [skewbaldlaw01_sound.j3]
    rw [decide_eq_true (show (P[i].f1.length : Int) ≤ 3 by omega)]
    exact sound_l1 hlt h3 ⟨a, b⟩ c e (sound_l0 hv d (i + 1) (by omega)) P[i].f1.length 0 (by omega)
theorem sound_f {P : List S48} {Q : List S50} : Evt (fun k => skewbaldlaw01_sound.f k P Q) (validB P Q) := by
  unfold skewbaldlaw01_sound.f plank_Check.f
  simp only [Option.bind_some]
  unfold checkP
  cases hv : validB P Q with
  | false =>
    refine Evt.neg (by simp) (Evt.succ ?_)
    simp only [skewbaldlaw01_sound.j0]
    refine Evt.succ ?_
    simp only [skewbaldlaw01_sound.l0]
    refine Evt.neg (by simp) (Evt.succ ?_)
    simp only [skewbaldlaw01_sound.j2]
    refine Evt.neg (by simp) (Evt.succ ?_)
    simp only [skewbaldlaw01_sound.l2]
    refine Evt.neg (by simp) (Evt.succ ?_)
    simp only [skewbaldlaw01_sound.j6]
    exact Evt.neg (by simp) (Evt.pure _)
  | true =>
    obtain ⟨h1, h3, h4, h5, _, _⟩ := valid_told hv
    rw [In_f, In_f]
    simp only [Option.bind_some]
    refine Evt.pos (by simp) (Evt.pos (by simp; omega) (Evt.succ ?_))
    simp only [skewbaldlaw01_sound.j0]
    rw [show (decide ((1 : Int) ≤ (Q.length : Int)) && decide ((Q.length : Int) ≤ 5)) = true from by simp; omega]
    exact sound_l0 hv P.length 0 (by omega)
theorem only_l1 {P : List S48} {Q : List S50} (hq : Q.length ≤ 5) (u : Int) {v : Nat} (hv : v < 2 ^ Q.length) (R : List S48) : ∀ (d j : Nat), j + d = Q.length →
    Evt (fun k => skewbaldlaw01_only.l1 k (v : Int) (j : Int) P Q R (((List.range j).filter (bitB v)).map fun i => Q.getD i z50)) (R, ((List.range Q.length).filter (bitB v)).map fun i => Q.getD i z50)
  | 0, j, hj => by
    obtain rfl : j = Q.length := by omega
    refine Evt.succ ?_
    simp only [skewbaldlaw01_only.l1]
    exact Evt.neg (by omega) (Evt.pure _)
  | d + 1, j, hj => by
    have h32 := lt32 hq hv
    refine Evt.succ ?_
    simp only [skewbaldlaw01_only.l1]
    have ih := only_l1 (P := P) hq u hv R d (j + 1) (by omega)
    rw [range_filter_next, List.map_append] at ih
    rw [Of_f v j (by omega) (by omega), w64 j (by omega)]
    simp only [Option.bind_some]
    have hl : (((List.range j).filter (bitB v)).map fun i => Q.getD i z50).length < 3518437208883 := by
      rw [List.length_map]
      have := List.length_filter_le (bitB v) (List.range j)
      rw [List.length_range] at this
      omega
    refine Evt.pos (by omega) (Evt.ite (fun h => Evt.pos (by omega) (Evt.pos hl ?_)) (fun h => ?_))
    · rw [h] at ih
      exact ih
    · rw [show bitB v j = false from by simpa using h] at ih
      simpa using ih
theorem only_l0 {P : List S48} {Q : List S50} (hp : P.length ≤ 3) (hq : Q.length ≤ 5) {u v : Nat} (hu : u < 2 ^ P.length) (hv : v < 2 ^ Q.length) : ∀ (d j : Nat), j + d = P.length →
    Evt (fun k => skewbaldlaw01_only.l0 k (u : Int) (v : Int) (j : Int) P Q (((List.range j).filter (bitB u)).map fun i => P.getD i z48)) (((List.range P.length).filter (bitB u)).map fun i => P.getD i z48, ((List.range Q.length).filter (bitB v)).map fun i => Q.getD i z50)
  | 0, j, hj => by
    obtain rfl : j = P.length := by omega
    refine Evt.succ ?_
    simp only [skewbaldlaw01_only.l0]
    exact Evt.neg (by omega) (only_l1 hq u hv _ Q.length 0 (by omega))
  | d + 1, j, hj => by
    have h32 := lt32 (by omega : P.length ≤ 5) hu
    refine Evt.succ ?_
    simp only [skewbaldlaw01_only.l0]
    have ih := only_l0 hp hq hu hv d (j + 1) (by omega)
    rw [range_filter_next, List.map_append] at ih
    rw [Of_f u j (by omega) (by omega), w64 j (by omega)]
    simp only [Option.bind_some]
    have hl : (((List.range j).filter (bitB u)).map fun i => P.getD i z48).length < 4398046511104 := by
      rw [List.length_map]
      have := List.length_filter_le (bitB u) (List.range j)
      rw [List.length_range] at this
      omega
    refine Evt.pos (by omega) (Evt.ite (fun h => Evt.pos (by omega) (Evt.pos hl ?_)) (fun h => ?_))
    · rw [h] at ih
      exact ih
    · rw [show bitB u j = false from by simpa using h] at ih
      simpa using ih
theorem only_f {P : List S48} {Q : List S50} (hp : P.length ≤ 3) (hq : Q.length ≤ 5) {u v : Nat} (hu : u < 2 ^ P.length) (hv : v < 2 ^ Q.length) : Evt (fun k => skewbaldlaw01_only.f k P Q (u : Int) (v : Int)) (pick z48 P u, pick z50 Q v) := by
  unfold skewbaldlaw01_only.f pick
  have := only_l0 hp hq hu hv P.length 0 (by omega)
  rw [show (List.range P.length).filter (bitB u) = setL u from sizes_setL P.length (by omega) u hu, show (List.range Q.length).filter (bitB v) = setL v from sizes_setL Q.length hq v hv] at this
  exact this
theorem valid_pick {P : List S48} {Q : List S50} (hv : validB P Q = true) {u v : Nat} (hu : u < 2 ^ P.length) (hw : v < 2 ^ Q.length) (u0 : u ≠ 0) (v0 : v ≠ 0) : validB (pick z48 P u) (pick z50 Q v) = true := by
  obtain ⟨h1, h3, h4, h5, hp, hq⟩ := valid_told hv
  have a := setL_le P.length (by omega) u hu
  have b := setL_le Q.length h5 v hw
  have c : setL u ≠ [] := fun e => u0 ((set_empty (lt32 (by omega) hu)).1 e)
  have d : setL v ≠ [] := fun e => v0 ((set_empty (lt32 h5 hw)).1 e)
  have c' := List.length_pos_iff.2 c
  have d' := List.length_pos_iff.2 d
  unfold validB
  simp only [Bool.and_eq_true, decide_eq_true_eq, List.all_eq_true, pick_length]
  exact ⟨⟨⟨by omega, by omega⟩, by omega, by omega⟩, fun y hy => hp y (pick_mem (fun i hi => setL_lt hu hi) hy), fun x hx => hq x (pick_mem (fun i hi => setL_lt hw hi) hx)⟩
theorem fewest_told {P : List S48} {Q : List S50} (hv : validB P Q = true) : (fewestP P Q).2 = if cutB P Q (setL (2 ^ P.length - 1)) (2 ^ Q.length - 1) then 0 else 4 := by
  have hok := valid_ok hv
  have h3 := hok.p3
  have hpp := pow_pos P.length
  have hpq := pow_pos Q.length
  unfold fewestP
  rw [hv]
  rcases fewest_spec P Q with ⟨e, h⟩ | ⟨l, e, ⟨s, hs, rfl, hc⟩, _⟩
  · rw [e, h (2 ^ P.length - 1) (by omega)]; rfl
  · have hc' : cutB P Q (setL s) (2 ^ Q.length - 1) = true := hc
    rw [e, cut_more hok (fun i hi => (mem_full (by omega : P.length ≤ 5) i).2 (setL_lt hs hi)) (by omega) hc']
    rfl
theorem enough_f {P : List S48} {Q : List S50} (hv : validB P Q = true) {u v : Nat} (hu : u < 2 ^ P.length) (hw : v < 2 ^ Q.length) : Evt (fun k => skewbaldlaw01_enough.f k P Q (u : Int) (v : Int)) (cutB P Q (setL u) v, true) := by
  have hok := valid_ok hv
  unfold skewbaldlaw01_enough.f
  refine Evt.ite (fun h => Evt.succ ?_) (fun h => Evt.succ ?_)
  · simp only [skewbaldlaw01_enough.j0]
    obtain rfl : v = 0 := by omega
    rw [cut_zero]
    exact Evt.pos (by trivial) (Evt.pure _)
  · simp only [skewbaldlaw01_enough.j0]
    refine Evt.ite (fun h0 => ?_) (fun h0 => ?_)
    · obtain rfl : u = 0 := by have := beq_iff_eq.1 h0; omega
      rw [show setL 0 = [] from by decide, show cutB P Q [] v = (v == 0) from rfl, show ((v : Int) == 0) = (v == 0) from by rw [Bool.eq_iff_iff]; simp]
      exact Evt.pure _
    · have u0 : u ≠ 0 := fun e => h0 (by rw [e]; rfl)
      refine Evt.bind (only_f hok.p3 hok.q5 hu hw) ?_
      simp only [plank_Fewest.f, Option.bind_some]
      rw [fewest_told (valid_pick hv hu hw u0 (by omega)), cut_pick hok hu hw]
      cases cutB P Q (setL u) v with
      | true => exact Evt.pos (by simp) (Evt.pure _)
      | false => exact Evt.neg (by simp) (Evt.pure _)
theorem okL_set : ∀ n, n ≤ 5 → ∀ s, s < 2 ^ n → okL n true (ints (setL s)) = true := by decide +kernel
theorem lay_told {P : List S48} {Q : List S50} (hv : validB P Q = true) {p s : Nat} (hp : p < P.length) (hs : s < 2 ^ Q.length) : layP P Q (p : Int) (ints (setL s)) = layR (laidB (P.getD p z48) Q (setL s)) := by
  have hok := valid_ok hv
  unfold layP
  rw [hv, show inB (p : Int) P.length = true from by unfold inB; simp; omega, okL_set Q.length hok.q5 s hs, Int.toNat_natCast]
  rw [show (ints (setL s)).map (·.toNat) = setL s from by unfold ints; rw [List.map_map]; exact (List.map_congr_left (fun _ _ => rfl)).trans (List.map_id _)]
  rfl
theorem shared_f {P : List S48} {Q : List S50} (hv : validB P Q = true) : ∀ (l : List Nat) (hl : ∀ p ∈ l, p < P.length) (hn : l.length ≤ 5) (s : Nat) (hs : s < 2 ^ Q.length), Evt (fun k => skewbaldlaw01_shared.f k P Q (ints l) (s : Int)) (cutB P Q l s)
  | [], hl, hn, s, hs => by
    refine Evt.succ ?_
    simp only [skewbaldlaw01_shared.f]
    refine Evt.pos rfl ?_
    rw [show ((s : Int) == 0) = (s == 0) from by rw [Bool.eq_iff_iff]; simp]
    exact Evt.pure _
  | p :: l, hl, hn, s, hs => by
    have hok := valid_ok hv
    have h5 := hok.q5
    have ih := fun s' (h : s' < 2 ^ Q.length) => shared_f hv l (fun q hq => hl q (by simp [hq])) (by simp at hn; omega) s' h
    have hp := hl p (by simp)
    have h32 := lt32 hok.q5 hs
    refine Evt.succ ?_
    simp only [skewbaldlaw01_shared.f]
    refine Evt.neg (by rw [ints_length]; simp; omega) ?_
    rw [cutB_cons]
    have hrd : rd (ints (p :: l)) 0 = (p : Int) := rfl
    have hlen : (ints (p :: l)).length = l.length + 1 := by rw [ints_length]; rfl
    have key : ∀ (u : Nat), u ≤ s → Evt (fun k => skewbaldlaw01_shared.l0 k (ints (p :: l)) (s : Int) (u : Int) P Q) ((List.range (u + 1)).any fun t => (t &&& s == t) && ((laidB (P.getD p z48) Q (setL t)).isSome && cutB P Q l (s - t))) := by
      intro u
      have step : ∀ (r : Bool) (x : Nat) (hx : x ≤ s) (hnext : Evt (fun k => skewbaldlaw01_shared.l0 k (ints (p :: l)) (s : Int) ((x : Int) - 1) P Q) r), Evt (fun k => skewbaldlaw01_shared.l0 k (ints (p :: l)) (s : Int) (x : Int) P Q) (r || ((x &&& s == x) && ((laidB (P.getD p z48) Q (setL x)).isSome && cutB P Q l (s - x)))) := by
        intro r x hx hnext
        have hx32 : x < 32 := by omega
        have hxq : x < 2 ^ Q.length := by omega
        refine Evt.succ ?_
        simp only [skewbaldlaw01_shared.l0]
        rw [and_nat x hx32 s h32, hrd, hlen, show wrap64 ((x : Int) - 1) = (x : Int) - 1 by unfold wrap64; omega]
        refine Evt.pos (by omega) (Evt.ite (fun h => Evt.pos (by omega) (Evt.bind (ListN_f h5 hxq) ?_)) (fun h => ?_))
        · have hus : (x &&& s == x) = true := by rw [beq_iff_eq]; omega
          simp only [plank_Lay.f, Option.bind_some]
          rw [lay_told hv hp hxq, hus, Bool.true_and]
          cases hla : laidB (P.getD p z48) Q (setL x) with
          | none =>
            refine Evt.neg (by simp [layR]) ?_
            simpa using hnext
          | some o =>
            refine Evt.pos (by simp [layR]) (Evt.pos (by omega) ?_)
            rw [show (ints (p :: l)).drop 1 = ints l from rfl, show wrap64 ((s : Int) - (x : Int)) = ((s - x : Nat) : Int) by unfold wrap64; omega]
            refine Evt.bind (ih (s - x) (by omega)) ?_
            cases hc : cutB P Q l (s - x) with
            | true => exact Evt.pos rfl (by simpa using Evt.pure true)
            | false => exact Evt.neg (by simp) (by simpa using hnext)
        · have hus : (x &&& s == x) = false := by rw [beq_eq_false_iff_ne]; omega
          rw [hus, Bool.false_and, Bool.or_false]
          exact hnext
      induction u with
      | zero =>
        intro hu
        have := step false 0 (by omega) (by
          refine Evt.succ ?_
          simp only [skewbaldlaw01_shared.l0]
          exact Evt.neg (by omega) (Evt.pure _))
        simpa using this
      | succ u ihu =>
        intro hu
        rw [List.range_succ, List.any_append]
        have h1 := step _ (u + 1) hu (by
          rw [show ((u + 1 : Nat) : Int) - 1 = (u : Int) by omega]
          exact ihu (by omega))
        simpa using h1
    exact key s (Nat.le_refl _)
theorem grows_set : ∀ n : Nat, n ≤ 5 → ∀ s, s < 2 ^ n → growsB (n : Int) (-1) (ints (setL s)) = true := by decide +kernel
theorem plankFewest_f {P : List S48} {Q : List S50} (n : Int) : Evt (fun k => skewbaldlaw01_PlankFewest.f k P Q n) true := by
  unfold skewbaldlaw01_PlankFewest.f plank_Fewest.f
  simp only [Option.bind_some]
  refine Evt.bind sound_f (Evt.ite (fun hv => ?_) (fun hv => ?_))
  · have hok := valid_ok hv
    obtain ⟨hp1, _, hq1, _, _, _⟩ := valid_told hv
    have h3 := hok.p3
    have h5 := hok.q5
    have hpp := pow_pos P.length
    have hpq := pow_pos Q.length
    have hq2 : 2 ≤ 2 ^ Q.length := by
      obtain ⟨m, hm⟩ : ∃ m, Q.length = m + 1 := ⟨Q.length - 1, by omega⟩
      rw [hm, Nat.pow_succ]
      have := pow_pos m
      omega
    rw [full_num h5, shl_pow P.length (by omega)]
    obtain ⟨t, ht, e⟩ := Round_nat n (2 ^ P.length) hpp (by have : 2 ^ P.length ≤ 32 := Nat.pow_le_pow_right (by omega : 0 < 2) (by omega : P.length ≤ 5); omega)
    rw [e]
    simp only [Option.bind_some]
    refine Evt.bind (enough_f hv ht (by omega)) ?_
    have hf : fewestP P Q = if (fewestZ P Q).1 then (ints (fewestZ P Q).2, 0) else ([], 4) := by unfold fewestP; rw [hv]; rfl
    rcases fewest_spec P Q with ⟨ez, hno⟩ | ⟨l, ez, ⟨s, hs, rfl, hc⟩, hb⟩
    · rw [hf, ez, hno t ht]
      exact Evt.neg (by simp) (Evt.pos (by simp) (Evt.pos (by simp) (Evt.pos (by trivial) (Evt.neg (by simp) (Evt.bind sawn_f (Evt.pure _))))))
    · have hc' : cutB P Q (setL s) (2 ^ Q.length - 1) = true := hc
      have hs0 : setL s ≠ [] := fun e => by
        rw [e, show cutB P Q [] (2 ^ Q.length - 1) = (2 ^ Q.length - 1 == 0) from rfl, beq_iff_eq] at hc'
        omega
      have hl0 := List.length_pos_iff.2 hs0
      have hls := setL5 s
      have last : Evt (fun k => skewbaldlaw01_PlankFewest.j0 k (ints (setL s)) ((2 ^ Q.length - 1 : Nat) : Int) false P Q) true := by
        refine Evt.succ ?_
        simp only [skewbaldlaw01_PlankFewest.j0]
        refine Evt.neg (by simp) (Evt.bind (shared_f hv _ (fun q hq => setL_lt hs hq) (setL5 s) _ (by omega)) ?_)
        rw [hc']
        exact Evt.pos (by trivial) (Evt.bind sawn_f (Evt.pure _))
      rw [hf, ez]
      refine Evt.pos (by simp) (Evt.pos (by trivial) (Evt.bind (Grows_f _ (by show (ints (setL s)).length < _; rw [ints_length]; omega) _) ?_))
      refine Evt.pos (grows_set P.length (by omega) s hs) (Evt.neg (by show ¬ ((ints (setL s)).length : Int) = 0; rw [ints_length]; omega) (Evt.ite (fun hi => ?_) (fun hi => last)))
      refine Evt.bind (ListN_f (by omega) ht) (Evt.bind (Shorter_f _ _ (by rw [ints_length]; have := setL5 t; omega) (by show (ints (setL s)).length < _; rw [ints_length]; omega)) ?_)
      rw [shorter_better]
      have : betterL (ints (setL t)) (ints (setL s)) = false := by
        rw [Bool.eq_false_iff]
        intro hbt
        rcases hb t ht hi with h | h
        · rw [h, strict_few.irr] at hbt; exact absurd hbt (by simp)
        · have := strict_few.trans _ _ _ h hbt
          rw [strict_few.irr] at this
          exact absurd this (by simp)
      show Evt (fun k => skewbaldlaw01_PlankFewest.j0 k (ints (setL s)) _ (betterL (ints (setL t)) (ints (setL s))) P Q) true
      rw [this]
      exact last
  · have e : fewestP P Q = ([], 10) := by unfold fewestP; rw [show validB P Q = false from by simpa using hv]; rfl
    rw [e]
    exact Evt.pos (by trivial) (Evt.pos (by trivial) (Evt.bind sawn_f (Evt.pure _)))
end Go.Proofs.YtekjlpldooihhaaDoor.PR
namespace Go.Proofs.YtekjlpldooihhaaDoor.PlankFewestRow.Pure
open Go.RowKit Go.Proofs.YtekjlpldooihhaaDoorW.PrintWords Go.Proofs.YtekjlpldooihhaaDoorEv Go.Proofs.YtekjlpldooihhaaDoorP Go.Proofs.YtekjlpldooihhaaDoor.PT Go.Proofs.YtekjlpldooihhaaDoor.PR
open Go.Proofs.YtekjlpldooihhaaDoor.PA (S48 S50 k48 k50)
set_option linter.unusedVariables false
theorem plankFewest (W : World) (P : List S48) (Q : List S50) (n : Int) {A : Option Addr} (hP : Kd.C k48 W A P.length P) (w0 : ∀ y ∈ P, wfWood y) {B : Option Addr} (hQ : Kd.C k50 W B Q.length Q) (w1 : ∀ x ∈ Q, wfShape x) (w2 : (Lit.int .i64 n).wf = true) :
    ∃ k, skewbaldlaw01_PlankFewest.f k P Q n = some true :=
  (plankFewest_f n).get
end Go.Proofs.YtekjlpldooihhaaDoor.PlankFewestRow.Pure
namespace Go.Proofs.YtekjlpldooihhaaDoor.PR
open Go.RowKit Go.Proofs.YtekjlpldooihhaaDoorW.PrintWords Go.Proofs.YtekjlpldooihhaaDoorW.PrintMore Go.Proofs.YtekjlpldooihhaaDoorEv Go.Proofs.YtekjlpldooihhaaDoorP Go.Proofs.YtekjlpldooihhaaDoor.PT Go.Proofs.YtekjlpldooihhaaDoorH Go.Proofs.YtekjlpldooihhaaDoorK
open Go.Proofs.YtekjlpldooihhaaDoor.PA (S48 S50 S60 k48 k50 k60 z48 z50 z60 rd_T48 rd_T50 rd_T60 rd_L4)
set_option linter.unusedVariables false
set_option linter.unusedSimpArgs false
theorem set_ten : ∀ s, s < 32 → skewbaldref00_Set.f 10 (ints (setL s)) = some (s : Int) := by decide +kernel
theorem Set_f {s : Nat} (hs : s < 32) : Evt (fun k => skewbaldref00_Set.f k (ints (setL s))) (s : Int) := Evt.of_mono (fun k => skewbaldref00_Set.mono _ k) (set_ten s hs)
theorem full_len : ∀ n, n ≤ 5 → ∀ s, s < 2 ^ n → ((setL s).length = n ↔ s = 2 ^ n - 1) := by decide +kernel
theorem plankMost_f {P : List S48} {Q : List S50} (n : Int) : Evt (fun k => skewbaldlaw01_PlankMost.f k P Q n) true := by
  unfold skewbaldlaw01_PlankMost.f plank_Most.f plank_Fewest.f
  simp only [Option.bind_some]
  refine Evt.bind sound_f (Evt.ite (fun hv => ?_) (fun hv => ?_))
  · have hok := valid_ok hv
    have h3 := hok.p3
    have h5 := hok.q5
    have hpp := pow_pos P.length
    have hpq := pow_pos Q.length
    have h32 : 2 ^ Q.length ≤ 32 := Nat.pow_le_pow_right (by omega : 0 < 2) h5
    obtain ⟨⟨s, hs, e, hc⟩, hb⟩ := most_spec P Q
    have hc' : cutB P Q (setL (2 ^ P.length - 1)) s = true := hc
    have hm : mostP P Q = (ints (setL s), 0) := by unfold mostP; rw [hv, e]; rfl
    rw [e] at hb
    have hls := setL5 s
    have hle := setL_le Q.length h5 s hs
    rw [full_num (by omega : P.length ≤ 5), shl_pow Q.length (by omega), hm, fewest_told hv]
    obtain ⟨t, ht, er⟩ := Round_nat n (2 ^ Q.length) hpq (by omega)
    rw [er]
    simp only [Option.bind_some]
    refine Evt.bind (Set_f (by omega)) (Evt.bind (enough_f hv (by omega) hs) (Evt.bind (ListN_f h5 ht) (Evt.bind (Set_f (by omega)) (Evt.bind (enough_f hv (by omega) ht) ?_))))
    rw [hc']
    refine Evt.pos (by trivial) (Evt.pos (by trivial) (Evt.pos (by trivial) (Evt.pos (by trivial) (Evt.bind (Grows_f _ (by rw [ints_length]; omega) _) (Evt.pos (grows_set Q.length h5 s hs) (Evt.succ ?_))))))
    simp only [skewbaldlaw01_PlankMost.j0]
    have hiff : (setL s).length = Q.length ↔ cutB P Q (setL (2 ^ P.length - 1)) (2 ^ Q.length - 1) = true := by
      constructor
      · intro h
        rw [(full_len Q.length h5 s hs).1 h] at hc'
        exact hc'
      · intro h
        have hfl := (full_len Q.length h5 (2 ^ Q.length - 1) (by omega)).2 rfl
        rcases hb (2 ^ Q.length - 1) (by omega) h with h' | h'
        · rw [← h']; exact hfl
        · unfold moreL at h'
          rw [ints_length, ints_length, hfl] at h'
          simp only [Bool.or_eq_true, Bool.and_eq_true, decide_eq_true_eq, beq_iff_eq] at h'
          omega
    have hx : (((ints (setL s)).length : Int) == (Q.length : Int)) = ((if cutB P Q (setL (2 ^ P.length - 1)) (2 ^ Q.length - 1) = true then (0 : Int) else 4) == 0) := by
      rw [ints_length, Bool.eq_iff_iff, beq_iff_eq, beq_iff_eq]
      by_cases h : cutB P Q (setL (2 ^ P.length - 1)) (2 ^ Q.length - 1) = true
      · rw [if_pos h]; have := hiff.2 h; simp; omega
      · rw [if_neg h]; have : ¬ (setL s).length = Q.length := fun h' => h (hiff.1 h'); simp; omega
    refine Evt.neg (by rw [hx]; simp) (Evt.ite (fun hi => ?_) (fun _ => Evt.bind sawn_f (Evt.pure _)))
    have hmore : setL t = setL s ∨ (ints (setL t)).length < (ints (setL s)).length ∨ ((ints (setL t)).length = (ints (setL s)).length ∧ cmpL (ints (setL s)) (ints (setL t)) < 0) := by
      rcases hb t ht hi with h | h
      · exact .inl h
      · unfold moreL at h
        simp only [Bool.or_eq_true, Bool.and_eq_true, decide_eq_true_eq, beq_iff_eq] at h
        rcases h with h | h
        · exact .inr (.inl h)
        · exact .inr (.inr ⟨h.1.symm, h.2⟩)
    refine Evt.ite (fun _ => Evt.bind sawn_f (Evt.pure _)) (fun hlt => Evt.pos ?_ (Evt.bind (Less_f _ _ (by rw [ints_length]; have := setL5 t; omega) (by rw [ints_length]; omega)) (Evt.neg ?_ (Evt.bind sawn_f (Evt.pure _)))))
    · rcases hmore with h | h | h
      · rw [h]
      · omega
      · omega
    · rw [less_cmp]
      rcases hmore with h | h | h
      · rw [h, cmp_self]; simp
      · omega
      · have := cmp_neg (ints (setL s)) (ints (setL t))
        simp; omega
  · have e : mostP P Q = ([], 10) := by unfold mostP; rw [show validB P Q = false from by simpa using hv]; rfl
    rw [e]
    exact Evt.pos (by trivial) (Evt.pos (by trivial) (Evt.bind sawn_f (Evt.pure _)))
end Go.Proofs.YtekjlpldooihhaaDoor.PR
namespace Go.Proofs.YtekjlpldooihhaaDoor.PlankMostRow.Pure
open Go.RowKit Go.Proofs.YtekjlpldooihhaaDoorW.PrintWords Go.Proofs.YtekjlpldooihhaaDoorEv Go.Proofs.YtekjlpldooihhaaDoorP Go.Proofs.YtekjlpldooihhaaDoor.PT Go.Proofs.YtekjlpldooihhaaDoor.PR
open Go.Proofs.YtekjlpldooihhaaDoor.PA (S48 S50 k48 k50)
set_option linter.unusedVariables false
theorem plankMost (W : World) (P : List S48) (Q : List S50) (n : Int) {A : Option Addr} (hP : Kd.C k48 W A P.length P) (w0 : ∀ y ∈ P, wfWood y) {B : Option Addr} (hQ : Kd.C k50 W B Q.length Q) (w1 : ∀ x ∈ Q, wfShape x) (w2 : (Lit.int .i64 n).wf = true) :
    ∃ k, skewbaldlaw01_PlankMost.f k P Q n = some true :=
  (plankMost_f n).get
end Go.Proofs.YtekjlpldooihhaaDoor.PlankMostRow.Pure
namespace Go.Proofs.YtekjlpldooihhaaDoor.PR
open Go.RowKit Go.Proofs.YtekjlpldooihhaaDoorW.PrintWords Go.Proofs.YtekjlpldooihhaaDoorW.PrintMore Go.Proofs.YtekjlpldooihhaaDoorEv Go.Proofs.YtekjlpldooihhaaDoorP Go.Proofs.YtekjlpldooihhaaDoor.PT Go.Proofs.YtekjlpldooihhaaDoorH Go.Proofs.YtekjlpldooihhaaDoorK Go.Proofs.YtekjlpldooihhaaDoorA
open Go.Proofs.YtekjlpldooihhaaDoor.PA (S48 S50 S60 k48 k50 k60 z48 z50 z60 rd_T48 rd_T50 rd_T60 rd_L4)
set_option linter.unusedVariables false
set_option linter.unusedSimpArgs false
def refR : Option (List Nat) → List Int × Bool
  | some o => (ints o, true)
  | none => ([], false)
def clearOf (Q : List S50) (a L : Nat) : List Nat → List Nat → Bool
  | p :: ps, b :: bs => (decide (a + L ≤ b) || decide (b + lenQ Q p ≤ a)) && clearOf Q a L ps bs
  | _, _ => true
def takenBy (Q : List S50) : (Nat → Bool) → List Nat → List Nat → (Nat → Bool)
  | f, p :: ps, b :: bs => takenBy Q (markB f b (lenQ Q p)) ps bs
  | f, _, _ => f
theorem taken_nil (Q : List S50) (f : Nat → Bool) (ps : List Nat) : takenBy Q f ps [] = f := by cases ps <;> rfl
theorem clear_none (Q : List S50) (a L : Nat) (ps : List Nat) : clearOf Q a L ps [] = true := by cases ps <;> rfl
theorem free_taken {Q : List S50} {a L : Nat} (hL : 1 ≤ L) : ∀ (ps bs : List Nat) (f : Nat → Bool), (∀ p ∈ ps, 1 ≤ lenQ Q p) → freeB (takenBy Q f ps bs) a L = (freeB f a L && clearOf Q a L ps bs)
  | [], bs, f, _ => by cases bs <;> simp [takenBy, clearOf]
  | p :: ps, [], f, _ => by simp [takenBy, clearOf]
  | p :: ps, b :: bs, f, h => by
    show freeB (takenBy Q (markB f b (lenQ Q p)) ps bs) a L = (freeB f a L && ((decide (a + L ≤ b) || decide (b + lenQ Q p ≤ a)) && clearOf Q a L ps bs))
    rw [free_taken hL ps bs _ (fun q hq => h q (by simp [hq])), ← Bool.and_assoc]
    congr 1
    rw [Bool.eq_iff_iff, free_mark (h p (by simp)) hL, Bool.and_eq_true, Bool.or_eq_true, decide_eq_true_eq, decide_eq_true_eq]
    exact and_congr_right fun _ => or_comm
theorem taken_app {Q : List S50} : ∀ (ps bs : List Nat) (f : Nat → Bool) (p a : Nat), ps[bs.length]? = some p → takenBy Q f ps (bs ++ [a]) = markB (takenBy Q f ps bs) a (lenQ Q p)
  | [], bs, f, p, a, h => by simp at h
  | q :: ps, [], f, p, a, h => by
    obtain rfl : q = p := by simpa using h
    show takenBy Q (markB f a (lenQ Q q)) ps [] = _
    rw [taken_nil]
    rfl
  | q :: ps, b :: bs, f, p, a, h => taken_app ps bs (markB f b (lenQ Q q)) p a (by simpa using h)
theorem drop_at {l : List Nat} {m : Nat} (h : m < l.length) : l.drop m = l.getD m 0 :: l.drop (m + 1) := by rw [List.drop_eq_getElem_cons h, getD_el h]
theorem rd_ints {l : List Nat} {m : Nat} (h : m < l.length) : rd (ints l) (m : Int) = ((l.getD m 0 : Nat) : Int) := by rw [rd_at]; simp [ints, h]
theorem rlaid_l1 {P : List S48} {Q : List S50} (hok : Ok P Q) {ps o sp : List Nat} {i q : Nat} (hps : ∀ p ∈ ps, p < Q.length) (hp5 : ps.length ≤ 5) (hn : o.length < ps.length) (ho : ∀ a ∈ o, a < 16) (hq : q < sp.length) (hsp : ∀ a ∈ sp, a < 16) (hsl : sp.length ≤ 16) {R1 R0 : List Int × Bool}
    (h1 : Evt (fun k => (skewbaldref00_Add.f (ints o) ((sp.getD q 0 : Nat) : Int)).bind fun t => (skewbaldref01_laid.f k P Q (i : Int) (ints ps) t).bind fun bt => if bt.2 = true then some (bt.1, true) else skewbaldref01_laid.l0 k (i : Int) (ints ps) (ints o) (o.length : Int) (ints sp) ((q + 1 : Nat) : Int) P Q) R1)
    (h0 : Evt (fun k => skewbaldref01_laid.l0 k (i : Int) (ints ps) (ints o) (o.length : Int) (ints sp) ((q + 1 : Nat) : Int) P Q) R0) : ∀ (d m : Nat) (b : Bool), m + d = o.length →
    Evt (fun k => skewbaldref01_laid.l1 k (i : Int) (ints ps) (ints o) (o.length : Int) (ints sp) (q : Int) b (m : Int) P Q) (cond (b && clearOf Q (sp.getD q 0) (lenQ Q (ps.getD o.length 0)) (ps.drop m) (o.drop m)) R1 R0)
  | 0, m, b, hm => by
    refine Evt.succ ?_
    simp only [skewbaldref01_laid.l1]
    rw [List.drop_eq_nil_of_le (show o.length ≤ m by omega), clear_none, w64 q (by omega), rd_ints hq]
    refine Evt.neg (by omega) ?_
    cases b with
    | true => exact Evt.pos rfl (Evt.pos (by omega) (Evt.pos (by rw [ints_length]; omega) (by simpa using h1)))
    | false => exact Evt.neg (by simp) (by simpa using h0)
  | d + 1, m, b, hm => by
    have hlt : m < o.length := by omega
    have hmp : m < ps.length := by omega
    have ih := fun b => rlaid_l1 hok hps hp5 hn ho hq hsp hsl h1 h0 d (m + 1) b (by omega)
    rw [drop_at hlt, drop_at hmp]
    refine Evt.succ ?_
    simp only [skewbaldref01_laid.l1, clearOf]
    rw [w64 m (by omega)]
    refine Evt.pos (by omega) ?_
    cases b with
    | false =>
      refine Evt.neg (by simp) ?_
      simpa using ih false
    | true =>
      have hnp := hps _ (show ps.getD o.length 0 ∈ ps by rw [getD_el hn]; exact List.getElem_mem hn)
      have hpm := hps _ (show ps.getD m 0 ∈ ps by rw [getD_el hmp]; exact List.getElem_mem hmp)
      have hx := Ok.partOk hok hnp
      have hx' := Ok.partOk hok hpm
      have ha := hsp _ (show sp.getD q 0 ∈ sp by rw [getD_el hq]; exact List.getElem_mem hq)
      have hb := ho _ (show o.getD m 0 ∈ o by rw [getD_el hlt]; exact List.getElem_mem hlt)
      have a1 := hx.one; have a12 := hx.big; have b1 := hx'.one; have b12 := hx'.big
      rw [rd_ints hn, rd_ints hq, rd_ints hlt, rd_ints hmp, rd50, rd50]
      unfold lenQ at ih ⊢
      generalize hpn : ps.getD o.length 0 = pn at *
      generalize hpq : ps.getD m 0 = pm at *
      generalize sp.getD q 0 = a at *
      generalize o.getD m 0 = c at *
      rw [show wrap64 ((a : Int) + (Q.getD pn z50).f0) = ((a + (Q.getD pn z50).f0.toNat : Nat) : Int) by unfold wrap64; omega, show wrap64 ((c : Int) + (Q.getD pm z50).f0) = ((c + (Q.getD pm z50).f0.toNat : Nat) : Int) by unfold wrap64; omega]
      refine Evt.pos rfl (Evt.pos (by omega) (Evt.pos (by rw [ints_length]; omega) (Evt.pos (by omega) (Evt.pos (by rw [ints_length]; omega) (Evt.pos (by omega) (Evt.pos (by omega) (Evt.pos (by omega) (Evt.pos (by rw [ints_length]; omega) (Evt.ite (fun h => ?_) (fun h => ?_))))))))))
      · rw [decide_eq_true (show a + (Q.getD pn z50).f0.toNat ≤ c by omega)]
        simpa using ih true
      · rw [decide_eq_false (show ¬ a + (Q.getD pn z50).f0.toNat ≤ c by omega), show decide (((c + (Q.getD pm z50).f0.toNat : Nat) : Int) ≤ (a : Int)) = decide (c + (Q.getD pm z50).f0.toNat ≤ a) from decide_eq_decide.2 (by omega)]
        refine Evt.pos (by rw [ints_length]; omega) (Evt.pos (by omega) (Evt.pos (by omega) ?_))
        simpa using ih (decide (c + (Q.getD pm z50).f0.toNat ≤ a))
theorem rlaid_l0 {P : List S48} {Q : List S50} (hok : Ok P Q) {ps o sp : List Nat} {i : Nat} (hps : ∀ p ∈ ps, p < Q.length) (hp5 : ps.length ≤ 5) (hn : o.length < ps.length) (ho : ∀ a ∈ o, a < 16) (hsp : ∀ a ∈ sp, a < 16) (hsl : sp.length ≤ 16) {G : Nat → Option (List Nat)}
    (ih : ∀ a, a < 16 → Evt (fun k => skewbaldref01_laid.f k P Q (i : Int) (ints ps) (ints (o ++ [a]))) (refR (G a))) : ∀ (d q : Nat), q + d = sp.length →
    Evt (fun k => skewbaldref01_laid.l0 k (i : Int) (ints ps) (ints o) (o.length : Int) (ints sp) (q : Int) P Q) (refR ((sp.drop q).findSome? fun a => if clearOf Q a (lenQ Q (ps.getD o.length 0)) ps o then G a else none))
  | 0, q, hq => by
    refine Evt.succ ?_
    simp only [skewbaldref01_laid.l0]
    rw [List.drop_eq_nil_of_le (show sp.length ≤ q by omega)]
    exact Evt.neg (by rw [ints_length]; omega) (Evt.pure _)
  | d + 1, q, hq => by
    have hlt : q < sp.length := by omega
    have rest := rlaid_l0 hok hps hp5 hn ho hsp hsl ih d (q + 1) (by omega)
    have ha := hsp _ (show sp.getD q 0 ∈ sp by rw [getD_el hlt]; exact List.getElem_mem hlt)
    refine Evt.succ ?_
    simp only [skewbaldref01_laid.l0]
    refine Evt.pos (by rw [ints_length]; omega) ?_
    rw [drop_at hlt, List.findSome?_cons]
    generalize hr : (sp.drop (q + 1)).findSome? (fun a => if clearOf Q a (lenQ Q (ps.getD o.length 0)) ps o then G a else none) = re at *
    have h1 : Evt (fun k => (skewbaldref00_Add.f (ints o) ((sp.getD q 0 : Nat) : Int)).bind fun t => (skewbaldref01_laid.f k P Q (i : Int) (ints ps) t).bind fun bt => if bt.2 = true then some (bt.1, true) else skewbaldref01_laid.l0 k (i : Int) (ints ps) (ints o) (o.length : Int) (ints sp) ((q + 1 : Nat) : Int) P Q) (refR (match G (sp.getD q 0) with | some r => some r | none => re)) := by
      rw [show skewbaldref00_Add.f (ints o) ((sp.getD q 0 : Nat) : Int) = some (ints (o ++ [sp.getD q 0])) from by unfold skewbaldref00_Add.f; rw [if_pos (by rw [ints_length]; omega), ints_append]; rfl]
      simp only [Option.bind_some]
      refine Evt.bind (ih _ ha) ?_
      cases G (sp.getD q 0) with
      | some r => exact Evt.pos rfl (Evt.pure _)
      | none => exact Evt.neg (by simp [refR]) rest
    have := rlaid_l1 hok (i := i) hps hp5 hn ho hlt hsp hsl h1 rest o.length 0 true (by omega)
    rw [List.drop_zero, List.drop_zero, Bool.true_and] at this
    cases hc : clearOf Q (sp.getD q 0) (lenQ Q (ps.getD o.length 0)) ps o with
    | true =>
      rw [hc] at this
      cases hG : G (sp.getD q 0) with
      | some r => simp only [hG, cond_true] at this; simp only [hG, if_true]; exact this
      | none => simp only [hG, cond_true] at this; simp only [hG, if_true]; exact this
    | false => rw [hc] at this; simpa using this
theorem rlaid_f {P : List S48} {Q : List S50} (hok : Ok P Q) {i : Nat} (hi : i < P.length) {ps : List Nat} (hps : ∀ p ∈ ps, p < Q.length) (hp5 : ps.length ≤ 5) : ∀ (d : Nat) (o : List Nat), o.length + d = ps.length → (∀ a ∈ o, a < 16) →
    Evt (fun k => skewbaldref01_laid.f k P Q (i : Int) (ints ps) (ints o)) (refR (laidFrom (P.getD i z48) Q (ps.drop o.length) (takenBy Q (fun _ => false) ps o) o))
  | 0, o, hd, ho => by
    refine Evt.succ ?_
    simp only [skewbaldref01_laid.f]
    rw [List.drop_eq_nil_of_le (show ps.length ≤ o.length by omega)]
    exact Evt.pos (by rw [ints_length, ints_length]; omega) (Evt.pure _)
  | d + 1, o, hd, ho => by
    have hn : o.length < ps.length := by omega
    have hnp := hps _ (show ps.getD o.length 0 ∈ ps by rw [getD_el hn]; exact List.getElem_mem hn)
    have hx := Ok.partOk hok hnp
    have hy := Ok.plankOk hok hi
    refine Evt.succ ?_
    simp only [skewbaldref01_laid.f]
    rw [ints_length, ints_length, rd_ints hn]
    refine Evt.neg (by omega) (Evt.pos (by omega) (Evt.pos (by omega) (Evt.bind (spots_f hok hi hnp) ?_)))
    have := rlaid_l0 hok (i := i) hps hp5 hn ho (spots_small hy (Q.getD (ps.getD o.length 0) z50)) (spots_len hy _) (G := fun a => laidFrom (P.getD i z48) Q (ps.drop (o.length + 1)) (markB (takenBy Q (fun _ => false) ps o) a (lenQ Q (ps.getD o.length 0))) (o ++ [a])) (fun a ha => by
      have h := rlaid_f hok hi hps hp5 d (o ++ [a]) (by simp; omega) (fun c hc => by
        rcases List.mem_append.1 hc with hc | hc
        · exact ho c hc
        · rw [List.mem_singleton.1 hc]; exact ha)
      rw [taken_app ps o _ (ps.getD o.length 0) a (by rw [getD_el hn, List.getElem?_eq_getElem hn]), show (o ++ [a]).length = o.length + 1 by simp] at h
      exact h) (spotsL (P.getD i z48) (Q.getD (ps.getD o.length 0) z50)).length 0 (by omega)
    rw [List.drop_zero] at this
    rw [drop_at hn]
    unfold laidFrom
    have e : ∀ a, freeB (takenBy Q (fun _ => false) ps o) a (Q.getD (ps.getD o.length 0) z50).f0.toNat = clearOf Q a (lenQ Q (ps.getD o.length 0)) ps o := fun a => by
      have h1 := hx.one
      have := free_taken (Q := Q) (a := a) (L := lenQ Q (ps.getD o.length 0)) (by unfold lenQ; omega) ps o (fun _ => false) (fun p hp => by have := (Ok.partOk hok (hps p hp)).one; unfold lenQ; omega)
      rw [free_none, Bool.true_and] at this
      exact this
    simp only [e]
    exact this
theorem fold_grows (N : Nat) : ∀ (l : List Int) (b : Bool) (last : Int), -1 ≤ last → (l.foldl (lstep N) (b, last)).1 = (b && growsB (N : Int) last l)
  | [], b, last, _ => by simp [growsB]
  | a :: l, b, last, h => by
    show (l.foldl (lstep N) (b && (inB a N && decide (a > last)), a)).1 = (b && ((decide (last < a) && decide (a < (N : Int))) && growsB (N : Int) a l))
    by_cases h1 : last < a
    · rw [fold_grows N l _ a (by omega), show inB a N = decide (a < (N : Int)) from by unfold inB; rw [decide_eq_true (by omega), Bool.true_and]; exact decide_eq_decide.2 (by omega), decide_eq_true h1]
      simp [Bool.and_assoc]
    · rw [decide_eq_false h1, Bool.and_false, Bool.and_false, lstep_false]
      simp
theorem grows_sorted (N : Int) : ∀ (ps : List Nat) (last : Int), growsB N last (ints ps) = true → ps.Pairwise (· < ·) ∧ ∀ p ∈ ps, last < (p : Int) ∧ (p : Int) < N
  | [], last, _ => ⟨List.Pairwise.nil, fun p hp => absurd hp (by simp)⟩
  | a :: l, last, h => by
    have h' : ((decide (last < (a : Int)) && decide ((a : Int) < N)) && growsB N (a : Int) (ints l)) = true := h
    rw [Bool.and_eq_true, Bool.and_eq_true, decide_eq_true_eq, decide_eq_true_eq] at h'
    obtain ⟨h1, h2⟩ := grows_sorted N l (a : Int) h'.2
    refine ⟨List.pairwise_cons.2 ⟨fun b hb => by have := (h2 b hb).1; omega, h1⟩, fun p hp => ?_⟩
    rcases List.mem_cons.1 hp with rfl | hp
    · exact h'.1
    · have := h2 p hp; exact ⟨by omega, this.2⟩
theorem sorted_ext : ∀ (a b : List Nat), a.Pairwise (· < ·) → b.Pairwise (· < ·) → (∀ x, x ∈ a ↔ x ∈ b) → a = b
  | [], [], _, _, _ => rfl
  | [], y :: b, _, _, h => absurd ((h y).2 (by simp)) (by simp)
  | x :: a, [], _, _, h => absurd ((h x).1 (by simp)) (by simp)
  | x :: a, y :: b, ha, hb, h => by
    obtain ⟨ha1, ha2⟩ := List.pairwise_cons.1 ha
    obtain ⟨hb1, hb2⟩ := List.pairwise_cons.1 hb
    have e : x = y := by
      rcases List.mem_cons.1 ((h x).1 (by simp)) with e | e
      · exact e
      · rcases List.mem_cons.1 ((h y).2 (by simp)) with e2 | e2
        · exact e2.symm
        · have := hb1 x e; have := ha1 y e2; omega
    subst e
    congr 1
    refine sorted_ext a b ha2 hb2 (fun z => ⟨fun hz => ?_, fun hz => ?_⟩)
    · rcases List.mem_cons.1 ((h z).1 (by simp [hz])) with e | e
      · have := ha1 z hz; omega
      · exact e
    · rcases List.mem_cons.1 ((h z).2 (by simp [hz])) with e | e
      · have := hb1 z hz; omega
      · exact e
theorem set_small : ∀ N, N ≤ 5 → ∀ s, s < 32 → (∀ p ∈ setL s, p < N) → s < 2 ^ N := by decide +kernel
theorem set_of {N : Nat} (hN : N ≤ 5) {ps : List Nat} (hp : ps.Pairwise (· < ·)) (hb : ∀ p ∈ ps, p < N) : ∃ s, s < 2 ^ N ∧ setL s = ps := by
  have e : setL (numB fun q => decide (q ∈ ps)) = ps := sorted_ext _ _ (List.pairwise_lt_range.filter _) hp (fun x => by
    rw [mem_setL]
    constructor
    · rintro ⟨h1, h2⟩
      rw [bit_numB _ h1] at h2
      exact of_decide_eq_true h2
    · intro h
      have := hb x h
      exact ⟨by omega, by rw [bit_numB _ (by omega)]; exact decide_eq_true h⟩)
  exact ⟨_, set_small N hN _ (numB_lt _) (fun p h => hb p (by rw [e] at h; exact h)), e⟩
theorem Lay_f {P : List S48} {Q : List S50} (h : Short P Q) (i : Int) {l : List Int} (hl : l.length < 9223372036854775808) : Evt (fun k => skewbaldref01_Lay.f k P Q i l) (layP P Q i l) := by
  unfold skewbaldref01_Lay.f layP
  rw [isPlank_f h i, show okL Q.length (inB i P.length) l = (inB i P.length && growsB (Q.length : Int) (-1) l) from fold_grows Q.length l _ (-1) (by omega)]
  simp only [Option.bind_some]
  have bad : ∀ e : Int, e ≠ 0 → Evt (fun k => skewbaldref01_Lay.j0 k i l e P Q) (([], e) : List Int × Int) := fun e he => Evt.succ (by simp only [skewbaldref01_Lay.j0]; exact Evt.neg he (Evt.pure _))
  cases hb : inB i P.length with
  | false =>
    refine Evt.neg (by simp) (Evt.bind (asked_f h false) ?_)
    cases validB P Q with
    | false => exact bad 10 (by omega)
    | true => exact bad 11 (by omega)
  | true =>
    refine Evt.pos rfl (Evt.bind (Grows_f l hl _) ?_)
    cases hg : growsB (Q.length : Int) (-1) l with
    | false =>
      refine Evt.bind (asked_f h false) ?_
      cases validB P Q with
      | false => exact bad 10 (by omega)
      | true => exact bad 11 (by omega)
    | true =>
      refine Evt.bind (asked_f h true) ?_
      cases hv : validB P Q with
      | false => exact bad 10 (by omega)
      | true =>
        have hok := valid_ok hv
        have h5 := hok.q5
        obtain ⟨j, rfl, hj⟩ := in_nat hb
        obtain ⟨_, e, _, _⟩ := lstep_true Q.length l true (-1) (by rw [fold_grows Q.length l true (-1) (by omega), hg]; rfl)
        generalize l.map (·.toNat) = ps at e
        subst e
        obtain ⟨g1, g2⟩ := grows_sorted _ _ _ hg
        obtain ⟨s, hs, rfl⟩ := set_of h5 g1 (fun p hp => by have := (g2 p hp).2; omega)
        obtain ⟨r, hr, hev⟩ := ends_f hok hj
        have hL : ∀ p ∈ setL s, 1 ≤ (Q.getD p z50).f0 := fun p hp => (Ok.partOk hok (setL_lt hs hp)).one
        have hE := ((hr.2 s hs).laid hL).2
        refine Evt.succ ?_
        simp only [skewbaldref01_Lay.j0]
        refine Evt.pos (by trivial) (Evt.bind hev (Evt.bind (Set_f (lt32 h5 hs)) ?_))
        rw [rd_at]
        show Evt _ (layR (laidB (P.getD j z48) Q (setL s)))
        refine Evt.pos (by omega) (Evt.pos (by have := hr.1; omega) (Evt.ite (fun h99 => ?_) (fun h99 => ?_)))
        · rw [hE.1 h99]
          exact Evt.pure _
        · have hla := rlaid_f hok hj (fun p hp => setL_lt hs hp) (setL5 s) (setL s).length [] (by simp) (fun a ha => absurd ha (by simp))
          rw [taken_nil] at hla
          refine Evt.bind hla ?_
          cases hx : laidB (P.getD j z48) Q (setL s) with
          | none => exact absurd (hE.2 hx) h99
          | some o =>
            have hx' : laidFrom (P.getD j z48) Q (setL s) (fun _ => false) [] = some o := hx
            simp only [List.length_nil, List.drop_zero]
            rw [hx']
            exact Evt.pure _
theorem Most_f {P : List S48} {Q : List S50} (h : Short P Q) : Evt (fun k => skewbaldref01_Most.f k P Q) (mostP P Q) := by
  unfold skewbaldref01_Most.f mostP
  refine Evt.bind h.check ?_
  unfold checkP
  cases hv : validB P Q with
  | false => exact Evt.neg (by simp) (by simpa using Evt.pure (([] : List Int), (10 : Int)))
  | true => exact Evt.pos rfl (Evt.bind (most_f (valid_ok hv)) (by simpa using Evt.pure _))
theorem layP_len {P : List S48} {Q : List S50} (i : Int) (l : List Int) : (layP P Q i l).1.length < 9223372036854775808 := by
  unfold layP
  split
  · rename_i hv
    have hok := valid_ok hv
    have h5 := hok.q5
    split
    · rename_i ho
      obtain ⟨_, _, h3, h4⟩ := lstep_true Q.length l _ _ ho
      cases hx : laidB (P.getD i.toNat z48) Q (l.map fun n : Int => n.toNat) with
      | none => simp [layR]
      | some o =>
        obtain ⟨us, eo, hg, _⟩ := laidFrom_some (l.map fun n : Int => n.toNat) (fun p hp => (Ok.partOk hok (h3 p hp).1).one) _ _ _ hx
        rw [List.nil_append] at eo
        subst eo
        have := good_length _ _ _ hg
        rw [List.length_map] at this
        show (ints o).length < _
        rw [ints_length]
        omega
    · simp
  · simp
theorem mostP_len (P : List S48) (Q : List S50) : (mostP P Q).1.length < 9223372036854775808 := by
  unfold mostP
  split
  · obtain ⟨⟨s, _, e, _⟩, _⟩ := most_spec P Q
    rw [e]
    show (ints (setL s)).length < _
    rw [ints_length]
    have := setL5 s
    omega
  · simp
theorem plankLays_f {P : List S48} {Q : List S50} (h : Short P Q) (i : Int) {l : List Int} (hl : l.length < 9223372036854775808) : Evt (fun k => skewbaldlaw01_PlankLays.f k P Q i l) true := by
  unfold skewbaldlaw01_PlankLays.f plank_Lay.f
  simp only [Option.bind_some]
  refine Evt.bind (Lay_f h i hl) (Evt.bind (Equal_f _ _ (layP_len i l)) (Evt.pos (by simp) (Evt.succ ?_)))
  simp only [skewbaldlaw01_PlankLays.j0, plank_Most.f, Option.bind_some]
  exact Evt.neg (by simp) (Evt.bind (Most_f h) (Evt.bind (Equal_f _ _ (mostP_len P Q)) (Evt.pos (by simp) (Evt.pos rfl (Evt.bind sawn_f (Evt.pure _))))))
end Go.Proofs.YtekjlpldooihhaaDoor.PR
namespace Go.Proofs.YtekjlpldooihhaaDoor.PlankLaysRow.Pure
open Go.RowKit Go.Proofs.YtekjlpldooihhaaDoorW.PrintWords Go.Proofs.YtekjlpldooihhaaDoorEv Go.Proofs.YtekjlpldooihhaaDoorP Go.Proofs.YtekjlpldooihhaaDoor.PT Go.Proofs.YtekjlpldooihhaaDoor.PR
open Go.Proofs.YtekjlpldooihhaaDoor.PA (S48 S50 k48 k50)
set_option linter.unusedVariables false
theorem plankLays (W : World) (P : List S48) (Q : List S50) (i : Int) (l : List Int) {A : Option Addr} (hP : Kd.C k48 W A P.length P) (w0 : ∀ y ∈ P, wfWood y) {B : Option Addr} (hQ : Kd.C k50 W B Q.length Q) (w1 : ∀ x ∈ Q, wfShape x) (w2 : (Lit.int .i64 i).wf = true) {D : Option Addr} (hl : Kd.C (Kd.int .i64) W D l.length l) (w3 : ∀ x ∈ l, (Lit.int .i64 x).wf = true) :
    ∃ k, skewbaldlaw01_PlankLays.f k P Q i l = some true :=
  (plankLays_f (short_of hP hQ) i (by have := hl.2.1; omega)).get
end Go.Proofs.YtekjlpldooihhaaDoor.PlankLaysRow.Pure
namespace Go.Proofs.YtekjlpldooihhaaDoor.PT
open Go.Proofs.YtekjlpldooihhaaDoorSh
open Go.Proofs.YtekjlpldooihhaaDoor.PA (S48 S50 S60 at_L2 at_L4 at_T48 at_T50 at_T60 errW errW_none errW_some k48 k48_mk k48_mkM k48_open k48_openM k50 k50_mk k50_mkM k50_open k50_openM k60 k60_mk k60_mkM k60_open k60_openM rd_L2 rd_L4 rd_T48 rd_T50 rd_T60 z48 z50 z60)
open Go.Proofs.YtekjlpldooihhaaDoorP Go.Proofs.YtekjlpldooihhaaDoorA Go.Proofs.YtekjlpldooihhaaDoorK
open Go.RowKit Go.Proofs.YtekjlpldooihhaaDoorW.PrintWords Go.Proofs.YtekjlpldooihhaaDoorW.PrintLast Go.Proofs.YtekjlpldooihhaaDoorW.PrintMore
attribute [local go_sem] max2_int min2_int max_two min_two max_three min_three max_four min_four
set_option linter.unusedVariables false
set_option linter.unusedSimpArgs false
mutual
def skewbaldlaw01_laid.l0 : Nat → List Int → List Int → List Int → List Bool → Int → List (S48) → List (S50) → Option (Bool)
 | 0, _, _, _, _, _, _, _ => none
 | k + 1, x2, x3, x4, x11, x12, x371000, x371001 => if x12 < (x2.length : Int) then (if 0 ≤ x12 then (if 0 ≤ (rd x2 x12) then (if (rd x2 x12) < (x371001.length : Int) then (if x12 < (x3.length : Int) then ((skewbaldref00_In.f (rd x3 x12) 0 (wrap64 ((x11.length : Int) - ((rd_T50 x371001 (rd x2 x12)).f0)))).bind fun t379 => (if t379 = true then ((skewbaldlaw01_clear.f k ((rd_T50 x371001 (rd x2 x12)).f0) ((rd_T50 x371001 (rd x2 x12)).f1) ((rd_T50 x371001 (rd x2 x12)).f2) (rd x3 x12) false x4).bind fun t381 => (if t381 = true then (skewbaldlaw01_laid.j1 k x2 x3 x4 x11 x12 false x371000 x371001 ((rd_T50 x371001 (rd x2 x12)).f0) ((rd_T50 x371001 (rd x2 x12)).f1) ((rd_T50 x371001 (rd x2 x12)).f2)) else (if (rd_T50 x371001 (rd x2 x12)).f2 = true then ((skewbaldlaw01_clear.f k ((rd_T50 x371001 (rd x2 x12)).f0) ((rd_T50 x371001 (rd x2 x12)).f1) ((rd_T50 x371001 (rd x2 x12)).f2) (rd x3 x12) true x4).bind fun t383 => (skewbaldlaw01_laid.j1 k x2 x3 x4 x11 x12 (!t383) x371000 x371001 ((rd_T50 x371001 (rd x2 x12)).f0) ((rd_T50 x371001 (rd x2 x12)).f1) ((rd_T50 x371001 (rd x2 x12)).f2))) else (skewbaldlaw01_laid.j1 k x2 x3 x4 x11 x12 (!false) x371000 x371001 ((rd_T50 x371001 (rd x2 x12)).f0) ((rd_T50 x371001 (rd x2 x12)).f1) ((rd_T50 x371001 (rd x2 x12)).f2))))) else (skewbaldlaw01_laid.j1 k x2 x3 x4 x11 x12 true x371000 x371001 ((rd_T50 x371001 (rd x2 x12)).f0) ((rd_T50 x371001 (rd x2 x12)).f1) ((rd_T50 x371001 (rd x2 x12)).f2)))) else (none)) else (none)) else (none)) else (none)) else (some true)
def skewbaldlaw01_laid.j1 : Nat → List Int → List Int → List Int → List Bool → Int → Bool → List (S48) → List (S50) → Int → List Int → Bool → Option (Bool)
 | 0, _, _, _, _, _, _, _, _, _, _, _ => none
 | k + 1, x2, x3, x4, x11, x12, x75, x371000, x371001, x378000, x378001, x378002 => if x75 = true then (some false) else (skewbaldlaw01_laid.l1 k x2 x3 x4 x11 x12 0 x371000 x371001 x378000 x378001 x378002)
def skewbaldlaw01_laid.l1 : Nat → List Int → List Int → List Int → List Bool → Int → Int → List (S48) → List (S50) → Int → List Int → Bool → Option (Bool)
 | 0, _, _, _, _, _, _, _, _, _, _, _ => none
 | k + 1, x2, x3, x4, x11, x12, x14, x371000, x371001, x378000, x378001, x378002 => if x14 < x378000 then (if 0 ≤ x12 then (if x12 < (x3.length : Int) then (if 0 ≤ (wrap64 ((rd x3 x12) + x14)) then (if (wrap64 ((rd x3 x12) + x14)) < (x11.length : Int) then (if rdOf false x11 (wrap64 ((rd x3 x12) + x14)) = true then (some false) else (skewbaldlaw01_laid.l1 k x2 x3 x4 (x11.set ((wrap64 ((rd x3 x12) + x14)) : Int).toNat true) x12 (wrap64 (x14 + 1)) x371000 x371001 x378000 x378001 x378002)) else (none)) else (none)) else (none)) else (none)) else (skewbaldlaw01_laid.l0 k x2 x3 x4 x11 (wrap64 (x12 + 1)) x371000 x371001)
end
def skewbaldlaw01_laid.f (k : Nat) (l0_0 : List (S48)) (l0_1 : List (S50)) (a1 : Int) (l2 : List Int) (l3 : List Int) (l4 : List Int) : Option (Bool) := if (l3.length : Int) = (l2.length : Int) then (if 0 ≤ a1 then (if a1 < (l0_0.length : Int) then (if 0 ≤ ((rd_T48 l0_0 a1).f0) then (if ((rd_T48 l0_0 a1).f0 : Int).toNat ≤ 281474976710656 then (skewbaldlaw01_laid.l0 k l2 l3 l4 (List.replicate ((rd_T48 l0_0 a1).f0 : Int).toNat false) 0 l0_0 l0_1) else (none)) else (none)) else (none)) else (none)) else (some false)
def skewbaldref00_Cut.l0 : Nat → List Int → Int → List Int → Int → Option (List Int)
 | 0, _, _, _, _ => none
 | k + 1, x0, x1, x5, x6 => if x6 < (x0.length : Int) then (if x6 = x1 then (skewbaldref00_Cut.l0 k x0 x1 x5 (wrap64 (x6 + 1))) else (if 0 ≤ x6 then (if x5.length < 17592186044416 then (skewbaldref00_Cut.l0 k x0 x1 (x5 ++ [rd x0 x6]) (wrap64 (x6 + 1))) else (none)) else (none))) else (some x5)
def skewbaldref00_Cut.f (k : Nat) (l0 : List Int) (a1 : Int) : Option (List Int) := skewbaldref00_Cut.l0 k l0 a1 (([] : List Int)) 0
theorem skewbaldref00_Cut.mono_l : ∀ k, (∀ y0 y1 y2 y3, LeO (skewbaldref00_Cut.l0 k y0 y1 y2 y3) (skewbaldref00_Cut.l0 (k + 1) y0 y1 y2 y3))
 | 0 => fun _ _ _ _ r h => by simp [skewbaldref00_Cut.l0] at h
 | k + 1 => by
  have ih0 := skewbaldref00_Cut.mono_l k
  ·intro y0 y1 y2 y3
   unfold skewbaldref00_Cut.l0
   repeat' first
   | (with_reducible exact ih0 _ _ _ _)
   | (with_reducible exact LeO.refl _)
   | (with_reducible exact LeO.none _)
   | (with_reducible refine LeO.ite ?_ ?_)
   | (with_reducible refine LeO.bind ?_ (fun _ => ?_))
   | exact ih0 _ _ _ _
   | exact LeO.none _
   | refine LeO.ite ?_ ?_
   | refine LeO.bind ?_ (fun _ => ?_)
theorem skewbaldref00_Cut.mono : ∀ a0 a1 k, LeO (skewbaldref00_Cut.f k a0 a1) (skewbaldref00_Cut.f (k + 1) a0 a1) := by
 intro a0 a1 k
 have ih0 := skewbaldref00_Cut.mono_l k
 unfold skewbaldref00_Cut.f
 repeat' first
   | (with_reducible exact ih0 _ _ _ _)
   | (with_reducible exact LeO.refl _)
   | (with_reducible exact LeO.none _)
   | (with_reducible refine LeO.ite ?_ ?_)
   | (with_reducible refine LeO.bind ?_ (fun _ => ?_))
   | exact ih0 _ _ _ _
   | exact LeO.none _
   | refine LeO.ite ?_ ?_
   | refine LeO.bind ?_ (fun _ => ?_)
mutual
def skewbaldlaw01_PlankLay.l0 : Nat → List Int → Int → List Int → List Int → Int → List Int → Int → List (S48) → List (S50) → Int → Int → Int → Option (Bool)
 | 0, _, _, _, _, _, _, _, _, _, _, _, _ => none
 | k + 1, x2, x7, x8, x9, x10, x11, x12, x477000, x477001, x478000, x478001, x478002 => if x12 < (x8.length : Int) then (if 0 ≤ x12 then ((plank_Spots.f x477000 x477001 x7 (rd x8 x12)).bind fun bt493 => (if bt493.2 = 0 then ((skewbaldref00_Take.f x2 x12).bind fun t497 => ((skewbaldref00_Take.f bt493.1 t497).bind fun t498 => (if x11.length < 17592186044416 then (if (bt493.1.length : Int) = 0 then (if x10 = 4 then (if (x9.length : Int) = 0 then ((skewbaldlaw01_sawn.f).bind fun t502 => (some t502)) else (some false)) else (some false)) else (skewbaldlaw01_PlankLay.l0 k x2 x7 x8 x9 x10 (x11 ++ [t498]) (wrap64 (x12 + 1)) x477000 x477001 x478000 x478001 x478002)) else (none)))) else (some false))) else (none)) else ((skewbaldlaw01_laid.f k x477000 x477001 x7 x8 x11 ([] : List Int)).bind fun t503 => (if x10 = 0 then (if t503 = true then ((skewbaldref00_Less.f k x11 x9).bind fun t505 => (skewbaldlaw01_PlankLay.j1 k x7 x8 x9 t505 x477000 x477001 x478000 x478001 x478002)) else (skewbaldlaw01_PlankLay.j1 k x7 x8 x9 false x477000 x477001 x478000 x478001 x478002)) else (if x10 = 4 then (if (x9.length : Int) = 0 then (if t503 = true then (some false) else ((skewbaldlaw01_sawn.f).bind fun t504 => (some t504))) else (some false)) else (some false))))
def skewbaldlaw01_PlankLay.j1 : Nat → Int → List Int → List Int → Bool → List (S48) → List (S50) → Int → Int → Int → Option (Bool)
 | 0, _, _, _, _, _, _, _, _, _ => none
 | k + 1, x7, x8, x9, x112, x477000, x477001, x478000, x478001, x478002 => if x112 = true then (some false) else (if (x8.length : Int) = 0 then (if (x9.length : Int) = 0 then ((skewbaldlaw01_sawn.f).bind fun t506 => (some t506)) else (some false)) else ((skewbaldref00_Round.f x478002 (x8.length : Int)).bind fun t507 => ((skewbaldref00_Cut.f k x8 t507).bind fun t508 => ((plank_Lay.f x477000 x477001 x7 t508).bind fun bt511 => (if bt511.2 = 0 then ((skewbaldlaw01_sawn.f).bind fun t515 => (some t515)) else (some false))))))
end
def skewbaldlaw01_PlankLay.f (k : Nat) (l0_0 : List (S48)) (l0_1 : List (S50)) (a1_0 : Int) (a1_1 : Int) (a1_2 : Int) (l2 : List Int) : Option (Bool) := (skewbaldlaw01_sound.f k l0_0 l0_1).bind fun t478 => (if t478 = true then ((skewbaldref00_Round.f a1_0 (l0_0.length : Int)).bind fun t480 => ((skewbaldref00_Round.f a1_1 (shl .i64 1 (l0_1.length : Int))).bind fun t481 => ((skewbaldref00_List.f k t481 (l0_1.length : Int)).bind fun t482 => ((plank_Lay.f l0_0 l0_1 t480 t482).bind fun bt485 => (skewbaldlaw01_PlankLay.l0 k l2 t480 t482 bt485.1 bt485.2 (([] : List Int)) 0 l0_0 l0_1 a1_0 a1_1 a1_2))))) else ((skewbaldlaw01_sawn.f).bind fun t479 => (some t479)))
def skewbaldlaw01_PlankLay.T10 : Bool × List (List Nat × List Nat) := (true, [([], []), ([], []), ([], []), ([], []), ([2, 3], [2, 3]), ([4], [4]), ([0, 1, 5], [0, 1, 5]), ([6], [6]), ([7], [7]), ([7], [7]), ([8, 6, 0, 1, 2, 3, 4, 5, 6, 7, 8], [8]), ([9, 10, 0, 1, 2, 3, 4, 5, 6, 7, 8, 9, 10], [9])])
def skewbaldlaw01_PlankLay.B10 : List Nat := [0, 0, 0, 0, 12, 28, 63, 127, 255, 255, 511, 2047]
theorem skewbaldlaw01_PlankLay.tab10 : rtab .any (opsOf Tryd.f8 10) = skewbaldlaw01_PlankLay.T10 := by kernel_rfl
theorem skewbaldlaw01_PlankLay.bits10 : waitsOk skewbaldlaw01_PlankLay.T10.2 skewbaldlaw01_PlankLay.B10 = true := by kernel_rfl
end Go.Proofs.YtekjlpldooihhaaDoor.PT
namespace Go.Proofs.YtekjlpldooihhaaDoor.PR
open Go.RowKit Go.Proofs.YtekjlpldooihhaaDoorW.PrintWords Go.Proofs.YtekjlpldooihhaaDoorW.PrintMore Go.Proofs.YtekjlpldooihhaaDoorEv Go.Proofs.YtekjlpldooihhaaDoorP Go.Proofs.YtekjlpldooihhaaDoor.PT Go.Proofs.YtekjlpldooihhaaDoorH Go.Proofs.YtekjlpldooihhaaDoorK
open Go.Proofs.YtekjlpldooihhaaDoor.PA (S48 S50 S60 k48 k50 k60 z48 z50 z60 rd_T48 rd_T50 rd_T60 rd_L4)
set_option linter.unusedVariables false
set_option linter.unusedSimpArgs false
def clearB (x : S50) (a : Nat) (t : Bool) (kn : List Int) : Bool := (jL x a t).all fun v => !decide (v ∈ kn)
theorem clear_l0 {x : S50} (hx : PartOk x) {a : Nat} (ha : a ≤ 16) (t : Bool) {kn : List Int} (hl : kn.length < 9223372036854775807) : ∀ (d j : Nat), j + d = x.f1.length →
    Evt (fun k => skewbaldlaw01_clear.l0 k (a : Int) t kn (j : Int) x.f0 x.f1 x.f2) (((jL x a t).drop j).all fun v => !decide (v ∈ kn))
  | 0, j, hj => by
    refine Evt.succ ?_
    simp only [skewbaldlaw01_clear.l0]
    rw [List.drop_eq_nil_of_le (by rw [jL_len]; omega)]
    exact Evt.neg (by omega) (Evt.pure _)
  | d + 1, j, hj => by
    have h1 := hx.one; have h12 := hx.big; have h3 := hx.few
    have hlt : j < x.f1.length := by omega
    obtain ⟨n0, n1⟩ := hx.joint x.f1[j] (List.getElem_mem _)
    have ih := clear_l0 hx ha t hl d (j + 1) (by omega)
    have hg : rd x.f1 (j : Int) = x.f1[j] := by simp [rd, hlt]
    have hd : (jL x a t).drop j = ((a : Int) + (if t then x.f0 - 1 - x.f1[j] else x.f1[j])) :: (jL x a t).drop (j + 1) := by
      rw [List.drop_eq_getElem_cons (by rw [jL_len]; exact hlt)]
      congr 1
      simp [jL]
    refine Evt.succ ?_
    simp only [skewbaldlaw01_clear.l0]
    rw [hg, hd, List.all_cons, w64 j (by omega)]
    refine Evt.pos (by omega) (Evt.pos (by omega) ?_)
    have fin : ∀ (v : Int), Evt (fun k => (skewbaldref00_Find.f k kn v).bind fun r => if r ≥ 0 then some false else skewbaldlaw01_clear.l0 k (a : Int) t kn ((j + 1 : Nat) : Int) x.f0 x.f1 x.f2) (!decide (v ∈ kn) && ((jL x a t).drop (j + 1)).all fun v => !decide (v ∈ kn)) := fun v => by
      refine Evt.bind (Find_f kn hl v) (Evt.ite (fun h => ?_) (fun h => ?_))
      · rw [decide_eq_true ((findD_nonneg kn v).1 h)]; simpa using Evt.pure false
      · rw [decide_eq_false (fun h2 => h ((findD_nonneg kn v).2 h2))]; simpa using ih
    cases t with
    | true =>
      refine Evt.pos rfl ?_
      rw [show wrap64 (wrap64 (wrap64 ((a : Int) + x.f0) - 1) - x.f1[j]) = (a : Int) + (x.f0 - 1 - x.f1[j]) by unfold wrap64; omega]
      simpa using fin ((a : Int) + (x.f0 - 1 - x.f1[j]))
    | false =>
      refine Evt.neg (by simp) ?_
      rw [show wrap64 ((a : Int) + x.f1[j]) = (a : Int) + x.f1[j] by unfold wrap64; omega]
      simpa using fin ((a : Int) + x.f1[j])
theorem clear_f {x : S50} (hx : PartOk x) {a : Nat} (ha : a ≤ 16) (t : Bool) {kn : List Int} (hl : kn.length < 9223372036854775807) : Evt (fun k => skewbaldlaw01_clear.f k x.f0 x.f1 x.f2 (a : Int) t kn) (clearB x a t kn) := by
  unfold skewbaldlaw01_clear.f
  exact clear_l0 hx ha t hl x.f1.length 0 (by omega)
theorem clear_nil (x : S50) (a : Nat) (t : Bool) : clearB x a t [] = true := by unfold clearB; simp
def setAll : List Bool → Nat → Nat → List Bool
  | tk, _, 0 => tk
  | tk, a, d + 1 => setAll (tk.set a true) (a + 1) d
theorem setAll_length : ∀ (d : Nat) (tk : List Bool) (a : Nat), (setAll tk a d).length = tk.length
  | 0, tk, a => rfl
  | d + 1, tk, a => by unfold setAll; rw [setAll_length d, List.length_set]
theorem getD_setB {tk : List Bool} {i : Nat} (hi : i < tk.length) (j : Nat) : (tk.set i true).getD j false = (tk.getD j false || decide (j = i)) := by
  by_cases e : j = i
  · subst e; simp [hi]
  · simp [List.getElem?_set_ne (fun h => e h.symm), e]
theorem setAll_mark : ∀ (d : Nat) (tk : List Bool) (a : Nat), a + d ≤ tk.length → ∀ j, (setAll tk a d).getD j false = markB (fun j => tk.getD j false) a d j
  | 0, tk, a, h, j => by unfold setAll markB; simp; omega
  | d + 1, tk, a, h, j => by
    unfold setAll
    rw [setAll_mark d (tk.set a true) (a + 1) (by rw [List.length_set]; omega) j]
    unfold markB
    show ((tk.set a true).getD j false || _) = (tk.getD j false || _)
    rw [getD_setB (by omega)]
    rw [Bool.eq_iff_iff]
    simp only [Bool.or_eq_true, Bool.and_eq_true, decide_eq_true_eq]
    constructor
    · rintro ((h | h) | h)
      · exact Or.inl h
      · exact Or.inr (by omega)
      · exact Or.inr (by omega)
    · rintro (h | h)
      · exact Or.inl (Or.inl h)
      · by_cases e : j = a
        · exact Or.inl (Or.inr e)
        · exact Or.inr (by omega)
theorem free_set {tk : List Bool} {a d : Nat} (ha : a < tk.length) : freeB (fun j => (tk.set a true).getD j false) (a + 1) d = freeB (fun j => tk.getD j false) (a + 1) d := by
  rw [Bool.eq_iff_iff, free_iff, free_iff]
  constructor
  · intro h j h1 h2
    have := h j h1 h2
    rw [getD_setB ha] at this
    simpa [show ¬ j = a by omega] using this
  · intro h j h1 h2
    rw [getD_setB ha, h j h1 h2]
    simp; omega
theorem free_next (f : Nat → Bool) (a d : Nat) : freeB f a (d + 1) = (!f a && freeB f (a + 1) d) := by
  unfold freeB
  rw [List.range'_succ, List.any_cons]
  cases f a <;> simp
theorem laid_l1 {P : List S48} {Q : List S50} {ps as' : List Int} {kn : List Int} {x : S50} {L a q : Nat} (hL : x.f0 = L) (hL12 : L ≤ 12) (hq : q < as'.length) (hq5 : q < 9223372036854775807) (ha : rd as' (q : Int) = a) (ha16 : a ≤ 16) (r : Bool) :
    ∀ (d m : Nat) (tk : List Bool), m + d = L → a + L ≤ tk.length → tk.length ≤ 16 → Evt (fun k => skewbaldlaw01_laid.l0 k ps as' kn (setAll tk (a + m) d) ((q + 1 : Nat) : Int) P Q) r →
      Evt (fun k => skewbaldlaw01_laid.l1 k ps as' kn tk (q : Int) (m : Int) P Q x.f0 x.f1 x.f2) (freeB (fun j => tk.getD j false) (a + m) d && r)
  | 0, m, tk, hm, hw, h16, hc => by
    refine Evt.succ ?_
    simp only [skewbaldlaw01_laid.l1]
    rw [w64 q hq5]
    refine Evt.neg (by omega) ?_
    rw [show freeB (fun j => tk.getD j false) (a + m) 0 = true from rfl]
    simpa [setAll] using hc
  | d + 1, m, tk, hm, hw, h16, hc => by
    refine Evt.succ ?_
    simp only [skewbaldlaw01_laid.l1]
    rw [ha, show wrap64 ((a : Int) + (m : Int)) = ((a + m : Nat) : Int) by unfold wrap64; omega, w64 m (by omega), free_next, Int.toNat_natCast]
    have hrd : rdOf false tk ((a + m : Nat) : Int) = tk.getD (a + m) false := rfl
    rw [hrd]
    refine Evt.pos (by omega) (Evt.pos (by omega) (Evt.pos (by omega) (Evt.pos (by omega) (Evt.pos (by omega) (Evt.ite (fun h => ?_) (fun h => ?_))))))
    · rw [h]; simpa using Evt.pure false
    · have ih := laid_l1 (P := P) (Q := Q) (ps := ps) (kn := kn) hL hL12 hq hq5 ha ha16 r d (m + 1) (tk.set (a + m) true) (by omega) (by rw [List.length_set]; omega) (by rw [List.length_set]; omega) hc
      rw [show a + (m + 1) = a + m + 1 by omega, free_set (by omega)] at ih
      rw [show tk.getD (a + m) false = false from by simpa using h]
      simpa using ih
def goodF (Q : List S50) : (Nat → Bool) → List Nat → List Nat → Bool
  | f, p :: ps, a :: bs => freeB f a (lenQ Q p) && goodF Q (markB f a (lenQ Q p)) ps bs
  | _, _, _ => true
theorem goodF_congr {Q : List S50} : ∀ (ps bs : List Nat) (f g : Nat → Bool), (∀ j, f j = g j) → goodF Q f ps bs = goodF Q g ps bs := fun ps bs f g h => by rw [show f = g from funext h]
theorem laid_l0 {P : List S48} {Q : List S50} (hok : Ok P Q) {ps bs : List Nat} (hlen : bs.length = ps.length) {kn : List Int} (hkn : kn.length < 9223372036854775807) (hps : ∀ p ∈ ps, p < Q.length) (hp5 : ps.length ≤ 5) {W : Nat} (hW : W ≤ 16)
    (hsp : ∀ q, q < ps.length → bs.getD q 0 + lenQ Q (ps.getD q 0) ≤ W ∧ (clearB (Q.getD (ps.getD q 0) z50) (bs.getD q 0) false kn || ((Q.getD (ps.getD q 0) z50).f2 && clearB (Q.getD (ps.getD q 0) z50) (bs.getD q 0) true kn)) = true) : ∀ (d q : Nat) (tk : List Bool), q + d = ps.length → tk.length = W →
    Evt (fun k => skewbaldlaw01_laid.l0 k (ints ps) (ints bs) kn tk (q : Int) P Q) (goodF Q (fun j => tk.getD j false) (ps.drop q) (bs.drop q))
  | 0, q, tk, hq, hw => by
    refine Evt.succ ?_
    simp only [skewbaldlaw01_laid.l0]
    rw [List.drop_eq_nil_of_le (show ps.length ≤ q by omega)]
    exact Evt.neg (by rw [ints_length]; omega) (by unfold goodF; exact Evt.pure _)
  | d + 1, q, tk, hq, hw => by
    have hlt : q < ps.length := by omega
    have hltb : q < bs.length := by omega
    obtain ⟨hs1, hs2⟩ := hsp q hlt
    have hpm : ps.getD q 0 ∈ ps := by rw [getD_el hlt]; exact List.getElem_mem hlt
    have hpq := hps _ hpm
    have hx := Ok.partOk hok hpq
    have hrp : rd (ints ps) (q : Int) = ((ps.getD q 0 : Nat) : Int) := by rw [rd_at]; simp [ints, hlt]
    have hrb : rd (ints bs) (q : Int) = ((bs.getD q 0 : Nat) : Int) := by rw [rd_at]; simp [ints, hltb]
    have hdp : ps.drop q = ps.getD q 0 :: ps.drop (q + 1) := by rw [List.drop_eq_getElem_cons hlt, getD_el hlt]
    have hdb : bs.drop q = bs.getD q 0 :: bs.drop (q + 1) := by rw [List.drop_eq_getElem_cons hltb, getD_el hltb]
    rw [hdp, hdb]
    have hl5 : lenQ Q (ps.getD q 0) = (Q.getD (ps.getD q 0) z50).f0.toNat := rfl
    have ihg := laid_l0 hok hlen hkn hps hp5 hW hsp d (q + 1) (setAll tk (bs.getD q 0) (lenQ Q (ps.getD q 0))) (by omega) (by rw [setAll_length]; exact hw)
    rw [goodF_congr _ _ _ _ (setAll_mark (lenQ Q (ps.getD q 0)) tk (bs.getD q 0) (by omega))] at ihg
    generalize ps.getD q 0 = p at *
    generalize bs.getD q 0 = a at *
    have h1 := hx.one; have h12 := hx.big
    refine Evt.succ ?_
    simp only [skewbaldlaw01_laid.l0]
    rw [hrp, hrb, rd50, In_f, hw, show wrap64 ((W : Int) - (Q.getD p z50).f0) = (W : Int) - (Q.getD p z50).f0 by unfold wrap64; omega]
    simp only [Option.bind_some]
    rw [show (decide (0 ≤ (a : Int)) && decide ((a : Int) ≤ (W : Int) - (Q.getD p z50).f0)) = true from by rw [Bool.and_eq_true]; exact ⟨decide_eq_true (by omega), decide_eq_true (by omega)⟩]
    have fin : Evt (fun k => skewbaldlaw01_laid.j1 k (ints ps) (ints bs) kn tk (q : Int) false P Q (Q.getD p z50).f0 (Q.getD p z50).f1 (Q.getD p z50).f2) (goodF Q (fun j => tk.getD j false) (p :: ps.drop (q + 1)) (a :: bs.drop (q + 1))) := by
      refine Evt.succ ?_
      simp only [skewbaldlaw01_laid.j1]
      refine Evt.neg (by simp) ?_
      have := laid_l1 (P := P) (Q := Q) (ps := ints ps) (as' := ints bs) (kn := kn) (x := Q.getD p z50) (L := lenQ Q p) (a := a) (q := q) (by omega) (by omega) (by rw [ints_length]; omega) (by omega) hrb (by omega) _ (lenQ Q p) 0 tk (by omega) (by omega) (by omega) ihg
      exact this
    refine Evt.pos (by rw [ints_length]; omega) (Evt.pos (by omega) (Evt.pos (by omega) (Evt.pos (by omega) (Evt.pos (by rw [ints_length]; omega) (Evt.pos (by trivial) (Evt.bind (clear_f hx (by omega) false hkn) (Evt.ite (fun h => fin) (fun h => ?_))))))))
    have h2 : (Q.getD p z50).f2 = true ∧ clearB (Q.getD p z50) a true kn = true := by
      rw [show clearB (Q.getD p z50) a false kn = false from by simpa using h, Bool.false_or, Bool.and_eq_true] at hs2
      exact hs2
    refine Evt.pos h2.1 (Evt.bind (clear_f hx (by omega) true hkn) ?_)
    rw [h2.2]
    exact fin
theorem laid_f {P : List S48} {Q : List S50} (hok : Ok P Q) {i : Nat} (hi : i < P.length) {ps bs : List Nat} (hlen : bs.length = ps.length) {kn : List Int} (hkn : kn.length < 9223372036854775807) (hps : ∀ p ∈ ps, p < Q.length) (hp5 : ps.length ≤ 5)
    (hsp : ∀ q, q < ps.length → spotB (P.getD i z48) (Q.getD (ps.getD q 0) z50) (bs.getD q 0) = true ∧ (clearB (Q.getD (ps.getD q 0) z50) (bs.getD q 0) false kn || ((Q.getD (ps.getD q 0) z50).f2 && clearB (Q.getD (ps.getD q 0) z50) (bs.getD q 0) true kn)) = true) :
    Evt (fun k => skewbaldlaw01_laid.f k P Q (i : Int) (ints ps) (ints bs) kn) (goodF Q (fun _ => false) ps bs) := by
  have hy := Ok.plankOk hok hi
  have h1 := hy.one; have h16 := hy.big
  unfold skewbaldlaw01_laid.f
  rw [rd48]
  refine Evt.pos (by rw [ints_length, ints_length, hlen]) (Evt.pos (by omega) (Evt.pos (by omega) (Evt.pos (by omega) (Evt.pos (by omega) ?_))))
  have := laid_l0 hok hlen hkn hps hp5 (W := (P.getD i z48).f0.toNat) (by omega) (fun q hq => ⟨by
    have h := (spot_lt (hsp q hq).1).1
    have hpm : ps.getD q 0 ∈ ps := by rw [getD_el hq]; exact List.getElem_mem hq
    have := (Ok.partOk hok (hps _ hpm)).one
    unfold lenQ
    omega, (hsp q hq).2⟩) ps.length 0 (List.replicate (P.getD i z48).f0.toNat false) (by omega) (by simp)
  rw [List.drop_zero, List.drop_zero, goodF_congr _ _ _ (fun _ => false) (fun j => by rw [List.getD_eq_getElem?_getD, List.getElem?_replicate]; split <;> rfl)] at this
  exact this
theorem good_goodF {y : S48} {Q : List S50} : ∀ (ps bs : List Nat) (f : Nat → Bool), bs.length = ps.length → (∀ q, q < ps.length → spotB y (Q.getD (ps.getD q 0) z50) (bs.getD q 0) = true) → (Go.Proofs.YtekjlpldooihhaaDoorP.Good y Q ps f bs ↔ goodF Q f ps bs = true)
  | [], [], f, _, _ => by simp [Go.Proofs.YtekjlpldooihhaaDoorP.Good, goodF]
  | [], _ :: _, f, h, _ => by simp at h
  | _ :: _, [], f, h, _ => by simp at h
  | p :: ps, a :: bs, f, h, hs => by
    have ih := good_goodF (y := y) (Q := Q) ps bs (markB f a (lenQ Q p)) (by simpa using h) (fun q hq => by
      have := hs (q + 1) (by simp; omega)
      simpa using this)
    have h0 := hs 0 (by simp)
    unfold Go.Proofs.YtekjlpldooihhaaDoorP.Good goodF
    rw [ih, Bool.and_eq_true]
    exact ⟨fun h => h.2, fun h => ⟨by simpa using h0, h⟩⟩
theorem lex_less : ∀ (o bs : List Nat), o.length = bs.length → lexLe o bs → lessB (ints bs) (ints o) = false
  | [], [], _, _ => rfl
  | [], _ :: _, h, _ => by simp at h
  | _ :: _, [], h, _ => by simp at h
  | a :: o, b :: bs, h, hl => by
    show lessB ((b : Int) :: ints bs) ((a : Int) :: ints o) = false
    rw [lessB_cons]
    rcases hl with hl | ⟨rfl, hl⟩
    · rw [if_neg (by omega)]; simp; omega
    · rw [if_pos rfl]; exact lex_less o bs (by simpa using h) hl
theorem cut_ten : ∀ t, t < 32 → ∀ q, q < (setL t).length → skewbaldref00_Cut.f 10 (ints (setL t)) (q : Int) = some (ints (setL (t - 2 ^ (setL t).getD q 0))) := by decide +kernel
theorem Cut_f {t q : Nat} (ht : t < 32) (hq : q < (setL t).length) : Evt (fun k => skewbaldref00_Cut.f k (ints (setL t)) (q : Int)) (ints (setL (t - 2 ^ (setL t).getD q 0))) := Evt.of_mono (fun k => skewbaldref00_Cut.mono _ _ k) (cut_ten t ht q hq)
theorem take_mem {s : List Nat} (hs : s ≠ []) (hl : s.length < 9223372036854775808) (t : Int) : ∃ a ∈ s, takeD (ints s) t = ((a : Nat) : Int) := by
  have h0 : 0 < s.length := List.length_pos_iff.2 hs
  have h1 := Int.emod_nonneg t (show (s.length : Int) ≠ 0 by omega)
  have h2 := Int.emod_lt_of_pos t (show (0 : Int) < (s.length : Int) by omega)
  unfold takeD
  rw [if_neg (by intro h; have := congrArg List.length h; rw [ints_length] at this; simp at this; exact hs this), ints_length]
  refine ⟨s[(t % (s.length : Int)).toNat]'(by omega), List.getElem_mem _, ?_⟩
  have e : rd (ints s) (t % (s.length : Int)) = (ints s).getD (t % (s.length : Int)).toNat 0 := rfl
  rw [e]
  simp [ints, show (t % (s.length : Int)).toNat < s.length by omega]
theorem spots_told {P : List S48} {Q : List S50} (hv : validB P Q = true) {i p : Nat} (hi : i < P.length) (hp : p < Q.length) : spotsP P Q (i : Int) (p : Int) = (ints (spotsL (P.getD i z48) (Q.getD p z50)), 0) := by
  unfold spotsP
  rw [hv, show inB (i : Int) P.length = true from by unfold inB; simp; omega, show inB (p : Int) Q.length = true from by unfold inB; simp; omega, Int.toNat_natCast, Int.toNat_natCast]
  rfl
theorem plankLay_j1 {P : List S48} {Q : List S50} (hv : validB P Q = true) {i t : Nat} (hi : i < P.length) (ht : t < 2 ^ Q.length) {o : List Nat} (ho : laidB (P.getD i z48) Q (setL t) = some o) (a b c : Int) :
    Evt (fun k => skewbaldlaw01_PlankLay.j1 k (i : Int) (ints (setL t)) (ints o) false P Q a b c) true := by
  have hok := valid_ok hv
  have h5 := hok.q5
  have h32 := lt32 h5 ht
  have hL : ∀ p ∈ setL t, 1 ≤ (Q.getD p z50).f0 := fun p hp => (Ok.partOk hok (setL_lt ht hp)).one
  obtain ⟨hol, hlies, _⟩ := laid_some (setL_nodup t) hL ho
  refine Evt.succ ?_
  simp only [skewbaldlaw01_PlankLay.j1]
  refine Evt.neg (by simp) (Evt.ite (fun h => ?_) (fun h => ?_))
  · rw [ints_length] at h
    exact Evt.pos (by rw [ints_length, hol]; exact h) (Evt.bind sawn_f (Evt.pure _))
  · rw [ints_length] at h ⊢
    have hl5 := setL5 t
    obtain ⟨q, hq, e⟩ := Round_nat c (setL t).length (by omega) (by omega)
    rw [e]
    simp only [Option.bind_some]
    have hm : (setL t).getD q 0 ∈ setL t := by rw [getD_el hq]; exact List.getElem_mem hq
    have hlt : t - 2 ^ (setL t).getD q 0 < 2 ^ Q.length := Nat.lt_of_le_of_lt (Nat.sub_le _ _) ht
    refine Evt.bind (Cut_f h32 hq) ?_
    simp only [plank_Lay.f, Option.bind_some]
    rw [lay_told hv hi hlt]
    have hmem := mem_less h32 hm
    have hs : (laidB (P.getD i z48) Q (setL (t - 2 ^ (setL t).getD q 0))).isSome = true := (laid_iff (setL_nodup _) (fun p hp => hL p ((hmem p).1 hp).1)).2 ⟨posOf (setL t) o, fun p hp => hlies.1 p ((hmem p).1 hp).1, fun p r hp hr hne => hlies.2 p r ((hmem p).1 hp).1 ((hmem r).1 hr).1 hne⟩
    obtain ⟨o', ho'⟩ := Option.isSome_iff_exists.1 hs
    rw [ho']
    exact Evt.pos rfl (Evt.bind sawn_f (Evt.pure _))
theorem plankLay_l0 {P : List S48} {Q : List S50} (hv : validB P Q = true) {i t : Nat} (hi : i < P.length) (ht : t < 2 ^ Q.length) (a b c : Int) {bits : List Int} (hbits : bits.length < 9223372036854775808) : ∀ (d j : Nat) (bs : List Nat), j + d = (setL t).length → bs.length = j → (∀ q, q < j → spotB (P.getD i z48) (Q.getD ((setL t).getD q 0) z50) (bs.getD q 0) = true) →
    Evt (fun k => skewbaldlaw01_PlankLay.l0 k bits (i : Int) (ints (setL t)) (layR (laidB (P.getD i z48) Q (setL t))).1 (layR (laidB (P.getD i z48) Q (setL t))).2 (ints bs) (j : Int) P Q a b c) true
  | 0, j, bs, hj, hb, hs => by
    have hok := valid_ok hv
    have h5 := hok.q5
    have hl5 := setL5 t
    have hlen : bs.length = (setL t).length := by omega
    have hL : ∀ p ∈ setL t, 1 ≤ (Q.getD p z50).f0 := fun p hp => (Ok.partOk hok (setL_lt ht hp)).one
    have hsp : ∀ q, q < (setL t).length → spotB (P.getD i z48) (Q.getD ((setL t).getD q 0) z50) (bs.getD q 0) = true := fun q hq => hs q (by omega)
    have hgood := good_goodF (setL t) bs (fun _ => false) hlen hsp
    refine Evt.succ ?_
    simp only [skewbaldlaw01_PlankLay.l0]
    refine Evt.neg (by rw [ints_length]; omega) (Evt.bind (laid_f hok hi hlen (kn := []) (by simp) (fun p hp => setL_lt ht hp) hl5 (fun q hq => ⟨hsp q hq, by rw [clear_nil]; rfl⟩)) ?_)
    cases hla : laidB (P.getD i z48) Q (setL t) with
    | none =>
      have hno : goodF Q (fun _ => false) (setL t) bs = false := by
        rw [Bool.eq_false_iff]
        intro h
        exact laidFrom_none (setL t) hL _ _ hla bs (hgood.2 h)
      rw [hno]
      exact Evt.neg (by simp [layR]) (Evt.pos rfl (Evt.pos rfl (Evt.neg (by simp) (Evt.bind sawn_f (Evt.pure _)))))
    | some o =>
      obtain ⟨us, e, hg, hm⟩ := laidFrom_some (setL t) hL _ _ _ hla
      rw [List.nil_append] at e
      subst e
      have hol := good_length _ _ _ hg
      refine Evt.pos rfl (Evt.ite (fun h => ?_) (fun h => plankLay_j1 hv hi ht hla a b c))
      refine Evt.bind (Less_f _ _ (by rw [ints_length]; omega) (by show (ints o).length < _; rw [ints_length]; omega)) ?_
      show Evt (fun k => skewbaldlaw01_PlankLay.j1 k (i : Int) (ints (setL t)) (ints o) (lessB (ints bs) (ints o)) P Q a b c) true
      rw [lex_less o bs (by omega) (hm bs (hgood.2 h))]
      exact plankLay_j1 hv hi ht hla a b c
  | d + 1, j, bs, hj, hb, hs => by
    have hok := valid_ok hv
    have hl5 := setL5 t
    have hlt : j < (setL t).length := by omega
    have hpm : (setL t).getD j 0 ∈ setL t := by rw [getD_el hlt]; exact List.getElem_mem hlt
    have hpq := setL_lt ht hpm
    have hrp : rd (ints (setL t)) (j : Int) = (((setL t).getD j 0 : Nat) : Int) := by rw [rd_at]; simp [ints, hlt]
    have hL : ∀ p ∈ setL t, 1 ≤ (Q.getD p z50).f0 := fun p hp => (Ok.partOk hok (setL_lt ht hp)).one
    have h16 := spots_len (Ok.plankOk hok hi) (Q.getD ((setL t).getD j 0) z50)
    refine Evt.succ ?_
    simp only [skewbaldlaw01_PlankLay.l0, plank_Spots.f, Option.bind_some]
    rw [hrp, spots_told hv hi hpq, Take_f bits _ hbits, w64 j (by omega)]
    simp only [Option.bind_some]
    rw [Take_f _ _ (by rw [ints_length]; omega)]
    simp only [Option.bind_some]
    refine Evt.pos (by rw [ints_length]; omega) (Evt.pos (by omega) (Evt.pos (by trivial) (Evt.pos (by rw [ints_length]; omega) (Evt.ite (fun h => ?_) (fun h => ?_)))))
    · rw [ints_length] at h
      have hno : laidB (P.getD i z48) Q (setL t) = none := by
        cases hla : laidB (P.getD i z48) Q (setL t) with
        | none => rfl
        | some o =>
          have hx := (laid_some (setL_nodup t) hL hla).2.1.1 _ hpm
          have := (mem_spots (hL _ hpm)).2 hx
          rw [List.length_eq_zero_iff.1 (by omega : (spotsL (P.getD i z48) (Q.getD ((setL t).getD j 0) z50)).length = 0)] at this
          simp at this
      rw [hno]
      exact Evt.pos rfl (Evt.pos rfl (Evt.bind sawn_f (Evt.pure _)))
    · rw [ints_length] at h
      obtain ⟨v, hv1, hv2⟩ := take_mem (s := spotsL (P.getD i z48) (Q.getD ((setL t).getD j 0) z50)) (fun e => h (by rw [e]; rfl)) (by omega) (takeD bits (j : Int))
      rw [hv2, show ints bs ++ [((v : Nat) : Int)] = ints (bs ++ [v]) from by rw [ints_append]; rfl]
      refine plankLay_l0 hv hi ht a b c hbits d (j + 1) (bs ++ [v]) (by omega) (by simp [hb]) (fun q hq => ?_)
      by_cases e : q = j
      · subst e
        rw [show (bs ++ [v]).getD q 0 = v from by simp [← hb]]
        exact (mem_spots (hL _ hpm)).1 hv1
      · rw [show (bs ++ [v]).getD q 0 = bs.getD q 0 from by simp [List.getElem?_append_left (show q < bs.length by omega)]]
        exact hs q (by omega)
theorem plankLay_f {P : List S48} {Q : List S50} (a b c : Int) {bits : List Int} (hbits : bits.length < 9223372036854775808) : Evt (fun k => skewbaldlaw01_PlankLay.f k P Q a b c bits) true := by
  unfold skewbaldlaw01_PlankLay.f plank_Lay.f
  refine Evt.bind sound_f (Evt.ite (fun hv => ?_) (fun hv => Evt.bind sawn_f (Evt.pure _)))
  have hok := valid_ok hv
  obtain ⟨h1, h3, _, h5, _, _⟩ := valid_told hv
  have hpq := pow_pos Q.length
  have h32 : 2 ^ Q.length ≤ 32 := Nat.pow_le_pow_right (by omega : 0 < 2) h5
  obtain ⟨i, hi, e1⟩ := Round_nat a P.length h1 (by omega)
  obtain ⟨t, ht, e2⟩ := Round_nat b (2 ^ Q.length) hpq (by omega)
  rw [e1, shl_pow Q.length (by omega), e2]
  simp only [Option.bind_some]
  refine Evt.bind (ListN_f h5 ht) ?_
  rw [lay_told hv hi ht]
  exact plankLay_l0 hv hi ht a b c hbits (setL t).length 0 [] (by omega) rfl (fun q hq => by omega)
end Go.Proofs.YtekjlpldooihhaaDoor.PR
namespace Go.Proofs.YtekjlpldooihhaaDoor.PlankLayRow.Pure
open Go.RowKit Go.Proofs.YtekjlpldooihhaaDoorW.PrintWords Go.Proofs.YtekjlpldooihhaaDoorEv Go.Proofs.YtekjlpldooihhaaDoorP Go.Proofs.YtekjlpldooihhaaDoor.PT Go.Proofs.YtekjlpldooihhaaDoor.PR
open Go.Proofs.YtekjlpldooihhaaDoor.PA (S48 S50 k48 k50)
set_option linter.unusedVariables false
theorem plankLay (W : World) (P : List S48) (Q : List S50) (a b c : Int) (l : List Int) {A : Option Addr} (hP : Kd.C k48 W A P.length P) (w0 : ∀ y ∈ P, wfWood y) {B : Option Addr} (hQ : Kd.C k50 W B Q.length Q) (w1 : ∀ x ∈ Q, wfShape x) (w2 : (Lit.int .i64 a).wf = true) (w3 : (Lit.int .i64 b).wf = true) (w4 : (Lit.int .i64 c).wf = true) {D : Option Addr} (hl : Kd.C (Kd.int .i64) W D l.length l) (w5 : ∀ x ∈ l, (Lit.int .i64 x).wf = true) :
    ∃ k, skewbaldlaw01_PlankLay.f k P Q a b c l = some true :=
  (plankLay_f a b c (by have := hl.2.1; omega)).get
end Go.Proofs.YtekjlpldooihhaaDoor.PlankLayRow.Pure
namespace Go.Proofs.YtekjlpldooihhaaDoor.PT
open Go.Proofs.YtekjlpldooihhaaDoorSh
open Go.Proofs.YtekjlpldooihhaaDoor.PA (S48 S50 S60 at_L2 at_L4 at_T48 at_T50 at_T60 errW errW_none errW_some k48 k48_mk k48_mkM k48_open k48_openM k50 k50_mk k50_mkM k50_open k50_openM k60 k60_mk k60_mkM k60_open k60_openM rd_L2 rd_L4 rd_T48 rd_T50 rd_T60 z48 z50 z60)
open Go.Proofs.YtekjlpldooihhaaDoorP Go.Proofs.YtekjlpldooihhaaDoorA Go.Proofs.YtekjlpldooihhaaDoorK
open Go.RowKit Go.Proofs.YtekjlpldooihhaaDoorW.PrintWords Go.Proofs.YtekjlpldooihhaaDoorW.PrintLast Go.Proofs.YtekjlpldooihhaaDoorW.PrintMore
attribute [local go_sem] max2_int min2_int max_two min_two max_three min_three max_four min_four
set_option linter.unusedVariables false
set_option linter.unusedSimpArgs false
mutual
def skewbaldref01_Look.l0 : Nat → Int → Int → Int → Int → List (S48) → List (S50) → Option (Int × Int × Int)
 | 0, _, _, _, _, _, _ => none
 | k + 1, x6, x7, x8, x9, x303000, x303001 => if x9 < (x303000.length : Int) then (skewbaldref01_Look.l1 k x6 x7 x8 x9 0 x303000 x303001) else (if x8 < 0 then (some (0, 0, 4)) else (some (x6, x7, 0)))
def skewbaldref01_Look.l1 : Nat → Int → Int → Int → Int → Int → List (S48) → List (S50) → Option (Int × Int × Int)
 | 0, _, _, _, _, _, _, _ => none
 | k + 1, x6, x7, x8, x9, x10, x303000, x303001 => if 0 ≤ x9 then (if x9 < (x303000.length : Int) then (if x10 < (((rd_T48 x303000 x9).f1).length : Int) then (if 0 ≤ x10 then (skewbaldref01_Look.l2 k x6 x7 x8 x9 x10 (x303001.length : Int) ((rd_T60 ((rd_T48 x303000 x9).f1) x10).f0) x303000 x303001 ((rd_T60 ((rd_T48 x303000 x9).f1) x10).f0) ((rd_T60 ((rd_T48 x303000 x9).f1) x10).f1)) else (none)) else (skewbaldref01_Look.l0 k x6 x7 x8 (wrap64 (x9 + 1)) x303000 x303001)) else (none)) else (none)
def skewbaldref01_Look.l2 : Nat → Int → Int → Int → Int → Int → Int → Int → List (S48) → List (S50) → Int → Int → Option (Int × Int × Int)
 | 0, _, _, _, _, _, _, _, _, _, _, _ => none
 | k + 1, x6, x7, x8, x9, x10, x12, x13, x303000, x303001, x308000, x308001 => if x13 ≤ x308001 then ((skewbaldref01_Known.f x303000 x303001 x9 x10 x13).bind fun bt308 => ((skewbaldref01_most.f k bt308.1 bt308.2).bind fun t314 => (skewbaldref01_Look.l2 k x6 x7 x8 x9 x10 (mn x12 (t314.length : Int)) (wrap64 (x13 + 1)) x303000 x303001 x308000 x308001))) else (if x12 > x8 then (skewbaldref01_Look.l1 k x9 x10 x12 x9 (wrap64 (x10 + 1)) x303000 x303001) else (skewbaldref01_Look.l1 k x6 x7 x8 x9 (wrap64 (x10 + 1)) x303000 x303001))
end
def skewbaldref01_Look.f (k : Nat) (l0_0 : List (S48)) (l0_1 : List (S50)) : Option (Int × Int × Int) := (skewbaldref01_Check.f k l0_0 l0_1).bind fun t303 => (if t303 = 0 then (skewbaldref01_Look.l0 k 0 0 (-1) 0 l0_0 l0_1) else (some (0, 0, t303)))
def skewbaldref01_Look.T11 : Bool × List (List Nat × List Nat) := (true, [([], []), ([0], [0]), ([], []), ([1, 2], [1, 2]), ([3], [3]), ([4], [4]), ([], []), ([5, 6], [5, 6]), ([7], [7]), ([], []), ([9], [9]), ([10], [10]), ([], []), ([12, 8, 0, 1, 2, 3, 4, 5, 6, 7, 8, 12], [8, 12]), ([11, 13, 0, 1, 2, 3, 4, 5, 6, 7, 8, 9, 10, 11, 12, 13], [11])])
def skewbaldref01_Look.B11 : List Nat := [0, 1, 0, 7, 15, 31, 0, 127, 255, 0, 512, 1536, 0, 4607, 16383]
theorem skewbaldref01_Look.tab11 : rtab .any (opsOf Tryd.f33 11) = skewbaldref01_Look.T11 := by kernel_rfl
theorem skewbaldref01_Look.bits11 : waitsOk skewbaldref01_Look.T11.2 skewbaldref01_Look.B11 = true := by kernel_rfl
mutual
def skewbaldlaw01_PlankFewests.j0 : Nat → Bool → List (S48) → List (S50) → Option (Bool)
 | 0, _, _, _ => none
 | k + 1, x31, x318000, x318001 => if x31 = true then (some false) else ((plank_Lacks.f x318000 x318001).bind fun bt327 => ((skewbaldref01_Lacks.f k x318000 x318001).bind fun bt329 => (if bt327.1 = bt329.1 then (skewbaldlaw01_PlankFewests.j1 k (bt327.2 != bt329.2) x318000 x318001) else (skewbaldlaw01_PlankFewests.j1 k true x318000 x318001))))
def skewbaldlaw01_PlankFewests.j1 : Nat → Bool → List (S48) → List (S50) → Option (Bool)
 | 0, _, _, _ => none
 | k + 1, x49, x318000, x318001 => if x49 = true then (some false) else ((plank_Look.f x318000 x318001).bind fun bt331 => ((skewbaldref01_Look.f k x318000 x318001).bind fun bt334 => (if bt331.1 = bt334.1 then (if bt331.2.1 = bt334.2.1 then (if bt331.2.2 = bt334.2.2 then ((skewbaldlaw01_sawn.f).bind fun t337 => (some t337)) else (some false)) else (some false)) else (some false))))
end
def skewbaldlaw01_PlankFewests.f (k : Nat) (l0_0 : List (S48)) (l0_1 : List (S50)) : Option (Bool) := (plank_Fewest.f l0_0 l0_1).bind fun bt318 => ((skewbaldref01_Fewest.f k l0_0 l0_1).bind fun bt322 => ((skewbaldref00_Equal.f k bt318.1 bt322.1).bind fun t326 => (if t326 = true then (skewbaldlaw01_PlankFewests.j0 k (bt318.2 != bt322.2) l0_0 l0_1) else (skewbaldlaw01_PlankFewests.j0 k true l0_0 l0_1))))
end Go.Proofs.YtekjlpldooihhaaDoor.PT
namespace Go.Proofs.YtekjlpldooihhaaDoor.PR
open Go.RowKit Go.Proofs.YtekjlpldooihhaaDoorW.PrintWords Go.Proofs.YtekjlpldooihhaaDoorW.PrintMore Go.Proofs.YtekjlpldooihhaaDoorEv Go.Proofs.YtekjlpldooihhaaDoorP Go.Proofs.YtekjlpldooihhaaDoor.PT Go.Proofs.YtekjlpldooihhaaDoorH Go.Proofs.YtekjlpldooihhaaDoorK
open Go.Proofs.YtekjlpldooihhaaDoor.PA (S48 S50 S60 k48 k50 k60 z48 z50 z60 rd_T48 rd_T50 rd_T60 rd_L4)
set_option linter.unusedVariables false
set_option linter.unusedSimpArgs false
theorem most_len {P : List S48} {Q : List S50} (hq : Q.length ≤ 5) : (mostN P Q).length ≤ Q.length := by
  obtain ⟨⟨s, hs, e, _⟩, _⟩ := most_spec P Q
  rw [e]
  exact setL_le Q.length hq s hs
theorem foldl_mn_start {M : Int} : ∀ (l : List Int), l ≠ [] → (∀ x ∈ l, x ≤ M) → l.foldl mn M = l.foldl mn (l.getD 0 0)
  | [], h, _ => absurd rfl h
  | x :: xs, _, h => by
    have := h x (by simp)
    rw [List.foldl_cons, List.foldl_cons, show (x :: xs).getD 0 0 = x from rfl, mn_eq, mn_eq]
    congr 1
    omega
theorem worst_eq {P : List S48} {Q : List S50} (hq : Q.length ≤ 5) {p k lo hi : Nat} (h0 : ((P.getD p z48).f1.getD k z60).f0 = lo) (h1 : ((P.getD p z48).f1.getD k z60).f1 = hi) (hle : lo ≤ hi) :
    (worstTo P Q p k (hi + 1 - lo)).foldl mn (Q.length : Int) = worstB P Q p k := by
  rw [worst_is P Q p k lo hi h0 h1 hle, show hi - lo + 1 = hi + 1 - lo by omega]
  refine foldl_mn_start _ (fun e => ?_) (fun x hx => ?_)
  · have := worst_len P Q p k (hi + 1 - lo)
    rw [e] at this
    simp at this
    omega
  · unfold worstTo at hx
    obtain ⟨n, _, rfl⟩ := List.mem_map.1 hx
    unfold knotLen
    have := most_len (P := setKnot P p k (((P.getD p z48).f1.getD k z60).f0 + (n : Int))) hq
    omega
theorem look_l2 {P : List S48} {Q : List S50} (hok : Ok P Q) {i k : Nat} (hi : i < P.length) (hk : k < (P.getD i z48).f1.length) {lo hi' : Nat} (h0 : ((P.getD i z48).f1.getD k z60).f0 = lo) (h1 : ((P.getD i z48).f1.getD k z60).f1 = hi') (hle : lo ≤ hi') (h16 : hi' < 16)
    (z : Int × Int × Int) (r : Int × Int × Int) (hc : Evt (fun n => skewbaldref01_Look.l1 n (lookStep P Q i k z).1 (lookStep P Q i k z).2.1 (lookStep P Q i k z).2.2 (i : Int) ((k + 1 : Nat) : Int) P Q) r) :
    ∀ (d j : Nat), j + d = hi' + 1 - lo → Evt (fun n => skewbaldref01_Look.l2 n z.1 z.2.1 z.2.2 (i : Int) (k : Int) ((worstTo P Q i k j).foldl mn (Q.length : Int)) ((lo + j : Nat) : Int) P Q (lo : Int) (hi' : Int)) r
  | 0, j, hj => by
    have hk3 := (Ok.plankOk hok hi).few
    refine Evt.succ ?_
    simp only [skewbaldref01_Look.l2]
    rw [show j = hi' + 1 - lo by omega, worst_eq hok.q5 h0 h1 hle, w64 k (by omega)]
    unfold lookStep at hc
    refine Evt.neg (by omega) (Evt.ite (fun h => ?_) (fun h => ?_))
    · rw [if_pos (by omega)] at hc; exact hc
    · rw [if_neg (by omega)] at hc; exact hc
  | d + 1, j, hj => by
    have h3 := hok.p3
    have hk3 := (Ok.plankOk hok hi).few
    refine Evt.succ ?_
    simp only [skewbaldref01_Look.l2]
    have ih := look_l2 hok hi hk h0 h1 hle h16 z r hc d (j + 1) (by omega)
    rw [worst_next, List.foldl_append, h0] at ih
    have hkn : skewbaldref01_Known.f P Q (i : Int) (k : Int) ((lo + j : Nat) : Int) = some (setKnot P i k ((lo : Int) + (j : Int)), Q) := by
      unfold skewbaldref01_Known.f
      simp only [Int.toNat_natCast]
      rw [if_pos ⟨by omega, by omega, by omega, by omega, by omega, by omega⟩, show ((lo + j : Nat) : Int) = (lo : Int) + (j : Int) by omega]
    rw [hkn, w64 (lo + j) (by omega)]
    simp only [Option.bind_some]
    refine Evt.pos (by omega) (Evt.bind (most_f (ok_set hok hi (by omega) (by omega))) ?_)
    rw [ints_length]
    exact ih
theorem look_l1 {P : List S48} {Q : List S50} (hv : validB P Q = true) {i : Nat} (hi : i < P.length) (z : Int × Int × Int) (r : Int × Int × Int) (hc : Evt (fun n => skewbaldref01_Look.l0 n (lookIn P Q i z (P.getD i z48).f1.length).1 (lookIn P Q i z (P.getD i z48).f1.length).2.1 (lookIn P Q i z (P.getD i z48).f1.length).2.2 ((i + 1 : Nat) : Int) P Q) r) :
    ∀ (d k : Nat), k + d = (P.getD i z48).f1.length → Evt (fun n => skewbaldref01_Look.l1 n (lookIn P Q i z k).1 (lookIn P Q i z k).2.1 (lookIn P Q i z k).2.2 (i : Int) (k : Int) P Q) r
  | 0, k, hk => by
    have h3 := (valid_ok hv).p3
    refine Evt.succ ?_
    simp only [skewbaldref01_Look.l1]
    rw [rd48, w64 i (by omega)]
    obtain rfl : k = (P.getD i z48).f1.length := by omega
    exact Evt.pos (by omega) (Evt.pos (by omega) (Evt.neg (by omega) hc))
  | d + 1, k, hk => by
    have hlt : k < (P.getD i z48).f1.length := by omega
    obtain ⟨lo, hi', h0, h1, hle, _, h16⟩ := (valid_knots hv hi).2 k hlt
    refine Evt.succ ?_
    simp only [skewbaldref01_Look.l1]
    rw [rd48, rd60, h0, h1]
    refine Evt.pos (by omega) (Evt.pos (by omega) (Evt.pos (by omega) (Evt.pos (by omega) ?_)))
    exact look_l2 (valid_ok hv) hi hlt h0 h1 hle h16 (lookIn P Q i z k) r (look_l1 hv hi z r hc d (k + 1) (by omega)) _ 0 (Nat.zero_add _)
theorem look_l0 {P : List S48} {Q : List S50} (hv : validB P Q = true) : ∀ (d i : Nat), i + d = P.length →
    Evt (fun n => skewbaldref01_Look.l0 n (lookTo P Q i).1 (lookTo P Q i).2.1 (lookTo P Q i).2.2 (i : Int) P Q) (if (lookTo P Q P.length).2.2 < 0 then (0, 0, 4) else ((lookTo P Q P.length).1, (lookTo P Q P.length).2.1, 0))
  | 0, i, hi => by
    obtain rfl : i = P.length := by omega
    refine Evt.succ ?_
    simp only [skewbaldref01_Look.l0]
    refine Evt.neg (by omega) (Evt.ite (fun h => ?_) (fun h => ?_))
    · rw [if_pos h]; exact Evt.pure _
    · rw [if_neg h]; exact Evt.pure _
  | d + 1, i, hi => by
    refine Evt.succ ?_
    simp only [skewbaldref01_Look.l0]
    refine Evt.pos (by omega) ?_
    exact look_l1 hv (by omega) (lookTo P Q i) _ (look_l0 hv d (i + 1) (by omega)) (P.getD i z48).f1.length 0 (by omega)
theorem Look_f {P : List S48} {Q : List S50} (h : Short P Q) : Evt (fun k => skewbaldref01_Look.f k P Q) (lookP P Q) := by
  unfold skewbaldref01_Look.f lookP
  refine Evt.bind h.check ?_
  unfold checkP
  cases hv : validB P Q with
  | false => exact Evt.neg (by simp) (by simpa using Evt.pure ((0 : Int), (0 : Int), (10 : Int)))
  | true =>
    have h := look_l0 hv P.length 0 (by omega)
    rw [show lookTo P Q 0 = (0, 0, -1) from rfl] at h
    exact Evt.pos rfl (by simpa using h)
theorem fewestP_len (P : List S48) (Q : List S50) : (fewestP P Q).1.length < 9223372036854775808 := by
  unfold fewestP
  split
  · split
    · rename_i h
      rcases fewest_spec P Q with ⟨e, _⟩ | ⟨l, e, ⟨s, _, rfl, _⟩, _⟩
      · rw [e] at h; simp at h
      · rw [e]; show (ints (setL s)).length < _; rw [ints_length]; have := setL5 s; omega
    · simp
  · simp
theorem plankFewests_f {P : List S48} {Q : List S50} (h : Short P Q) : Evt (fun k => skewbaldlaw01_PlankFewests.f k P Q) true := by
  unfold skewbaldlaw01_PlankFewests.f plank_Fewest.f
  simp only [Option.bind_some]
  refine Evt.bind (Fewest_f h) (Evt.bind (Equal_f _ _ (fewestP_len P Q)) (Evt.pos (by simp) (Evt.succ ?_)))
  simp only [skewbaldlaw01_PlankFewests.j0, plank_Lacks.f, Option.bind_some]
  refine Evt.neg (by simp) (Evt.bind (Lacks_f h) (Evt.pos rfl (Evt.succ ?_)))
  simp only [skewbaldlaw01_PlankFewests.j1, plank_Look.f, Option.bind_some]
  exact Evt.neg (by simp) (Evt.bind (Look_f h) (Evt.pos rfl (Evt.pos rfl (Evt.pos rfl (Evt.bind sawn_f (Evt.pure _))))))
end Go.Proofs.YtekjlpldooihhaaDoor.PR
namespace Go.Proofs.YtekjlpldooihhaaDoor.PlankFewestsRow.Pure
open Go.RowKit Go.Proofs.YtekjlpldooihhaaDoorW.PrintWords Go.Proofs.YtekjlpldooihhaaDoorEv Go.Proofs.YtekjlpldooihhaaDoorP Go.Proofs.YtekjlpldooihhaaDoor.PT Go.Proofs.YtekjlpldooihhaaDoor.PR
open Go.Proofs.YtekjlpldooihhaaDoor.PA (S48 S50 k48 k50)
set_option linter.unusedVariables false
theorem plankFewests (W : World) (P : List S48) (Q : List S50) {A : Option Addr} (hP : Kd.C k48 W A P.length P) (w0 : ∀ y ∈ P, wfWood y) {B : Option Addr} (hQ : Kd.C k50 W B Q.length Q) (w1 : ∀ x ∈ Q, wfShape x) :
    ∃ k, skewbaldlaw01_PlankFewests.f k P Q = some true :=
  (plankFewests_f (short_of hP hQ)).get
end Go.Proofs.YtekjlpldooihhaaDoor.PlankFewestsRow.Pure
namespace Go.Proofs.YtekjlpldooihhaaDoor.PR
open Go.RowKit Go.Proofs.YtekjlpldooihhaaDoorW.PrintWords Go.Proofs.YtekjlpldooihhaaDoorW.PrintMore Go.Proofs.YtekjlpldooihhaaDoorEv Go.Proofs.YtekjlpldooihhaaDoorP Go.Proofs.YtekjlpldooihhaaDoor.PT Go.Proofs.YtekjlpldooihhaaDoorH Go.Proofs.YtekjlpldooihhaaDoorK
open Go.Proofs.YtekjlpldooihhaaDoor.PA (S48 S50 S60 k48 k50 k60 z48 z50 z60 rd_T48 rd_T50 rd_T60 rd_L4)
set_option linter.unusedVariables false
set_option linter.unusedSimpArgs false
def turnX (x : S50) : S50 := ⟨x.f0, x.f1, true⟩
def flipK (L : Int) (s : S60) : S60 := ⟨L - 1 - s.f1, L - 1 - s.f0⟩
def flipY (y : S48) : S48 := ⟨y.f0, y.f1.map (flipK y.f0)⟩
theorem getD_map {α β : Type} {l : List α} {p : Nat} (h : p < l.length) (f : α → β) (z : α) (z' : β) : (l.map f).getD p z' = f (l.getD p z) := by simp [h]
theorem valid_turn (P : List S48) (Q : List S50) : validB P (Q.map turnX) = validB P Q := by
  unfold validB
  rw [List.length_map, List.all_map]
  rfl
theorem knot_flip (L : Int) (s : S60) : knotB L (flipK L s) = knotB L s := by
  unfold knotB flipK
  rw [Bool.eq_iff_iff]
  simp only [Bool.and_eq_true, decide_eq_true_eq]
  omega
theorem wood_flip (y : S48) : woodB (flipY y) = woodB y := by
  unfold woodB flipY
  rw [List.length_map, List.all_map, show knotB y.f0 ∘ flipK y.f0 = knotB y.f0 from funext (knot_flip y.f0)]
theorem valid_flip (P : List S48) (Q : List S50) : validB (P.map flipY) Q = validB P Q := by
  unfold validB
  rw [List.length_map, List.all_map, show woodB ∘ flipY = woodB from funext wood_flip]
theorem flip_flip (y : S48) : flipY (flipY y) = y := by
  obtain ⟨L, ks⟩ := y
  unfold flipY
  congr 1
  show (ks.map (flipK L)).map (flipK L) = ks
  rw [List.map_map]
  conv => rhs; rw [← List.map_id ks]
  refine List.map_congr_left fun s _ => ?_
  obtain ⟨a, b⟩ := s
  show flipK L (flipK L ⟨a, b⟩) = ⟨a, b⟩
  unfold flipK
  congr 1 <;> (dsimp only; omega)
theorem flips_flip (P : List S48) : (P.map flipY).map flipY = P := by
  rw [List.map_map]
  conv => rhs; rw [← List.map_id P]
  exact List.map_congr_left fun s _ => flip_flip s
theorem PlankOk.flip {y : S48} (h : PlankOk y) (hk : ∀ s ∈ y.f1, s.f1 < y.f0) : PlankOk (flipY y) := by
  refine ⟨h.one, h.big, by show (y.f1.map _).length ≤ 3; rw [List.length_map]; exact h.few, fun s hs => ?_⟩
  obtain ⟨u, hu, rfl⟩ := List.mem_map.1 (show s ∈ y.f1.map (flipK y.f0) from hs)
  obtain ⟨a, b, c⟩ := h.knot u hu
  have := hk u hu
  have := h.big
  show 0 ≤ y.f0 - 1 - u.f1 ∧ y.f0 - 1 - u.f1 ≤ y.f0 - 1 - u.f0 ∧ y.f0 - 1 - u.f0 < 16
  omega
theorem hit_flip {x : S50} {a b n m : Nat} (t : Bool) (h : (n : Int) + m + 1 = a + b + x.f0) : hitL (jL x a t) n = hitL (jL x b (!t)) m := by
  unfold hitL jL
  rw [Bool.eq_iff_iff, decide_eq_true_eq, decide_eq_true_eq, List.mem_map, List.mem_map]
  constructor
  · rintro ⟨j, hj, e⟩
    exact ⟨j, hj, by cases t <;> simp at e ⊢ <;> omega⟩
  · rintro ⟨j, hj, e⟩
    exact ⟨j, hj, by cases t <;> simp at e ⊢ <;> omega⟩
theorem sure_flip {y : S48} (hy : PlankOk y) (hk : ∀ s ∈ y.f1, s.f1 < y.f0) {x : S50} {a b : Nat} (h : (a : Int) + x.f0 + b = y.f0) (t : Bool) : (flipY y).f1.all (kfree (jL x a t)) = y.f1.all (kfree (jL x b (!t))) := by
  show (y.f1.map (flipK y.f0)).all _ = _
  rw [List.all_map, Bool.eq_iff_iff, List.all_eq_true, List.all_eq_true]
  refine forall_congr' fun s => imp_congr_right fun hs => ?_
  obtain ⟨s0, s1, _⟩ := hy.knot s hs
  have s2 := hk s hs
  show (kin (y.f0 - 1 - s.f1).toNat (y.f0 - 1 - s.f0).toNat).all _ = true ↔ (kin s.f0.toNat s.f1.toNat).all _ = true
  rw [List.all_eq_true, List.all_eq_true]
  constructor
  · intro hh m hm
    obtain ⟨m1, m2⟩ := mem_kin.1 hm
    rw [← hit_flip (a := a) (b := b) (n := (y.f0 - 1 - m).toNat) (m := m) t (by omega)]
    exact hh _ (mem_kin.2 ⟨by omega, by omega⟩)
  · intro hh n hn
    obtain ⟨n1, n2⟩ := mem_kin.1 hn
    rw [hit_flip (a := a) (b := b) (n := n) (m := (y.f0 - 1 - n).toNat) t (by omega)]
    exact hh _ (mem_kin.2 ⟨by omega, by omega⟩)
theorem canN_two (y : S48) (x : S50) (a : Nat) : (canN y x a == 2) = okB y x a 0 := by
  unfold canN
  cases okB y x a 0 <;> cases okB y x a 1 <;> rfl
theorem spot_flip {y : S48} (hy : PlankOk y) (hk : ∀ s ∈ y.f1, s.f1 < y.f0) {x : S50} (hx : PartOk x) (ht : x.f2 = true) {a b : Nat} (h : (a : Int) + x.f0 + b = y.f0) : spotB (flipY y) x a = spotB y x b := by
  unfold spotB
  rw [canN_two, canN_two, show liesB (flipY y) x a = liesB y x b from by
    unfold liesB
    rw [decide_eq_true (show (0 : Int) ≤ (a : Int) by omega), decide_eq_true (show (0 : Int) ≤ (b : Int) by omega), show decide ((a : Int) ≤ (flipY y).f0 - x.f0) = true from decide_eq_true (by show (a : Int) ≤ y.f0 - x.f0; omega), decide_eq_true (show (b : Int) ≤ y.f0 - x.f0 by omega)]]
  congr 1
  unfold okB
  rw [show hbK 0 = kcanB from rfl, sound_sure (hy.flip hk) hx, sound_sure (hy.flip hk) hx, sound_sure hy hx, sound_sure hy hx, ht, Bool.true_and, Bool.true_and, sure_flip hy hk h, sure_flip hy hk h, Bool.or_comm]
  rfl
theorem spots_flip {y : S48} (hy : PlankOk y) (hk : ∀ s ∈ y.f1, s.f1 < y.f0) {x : S50} (hx : PartOk x) (ht : x.f2 = true) : spotsL (flipY y) x = ((spotsL y x).map fun a => (y.f0 - x.f0).toNat - a).reverse := by
  have h1 := hx.one
  have le : ∀ c ∈ spotsL y x, (c : Int) + x.f0 ≤ y.f0 := fun c hc => (spot_lt ((mem_spots h1).1 hc)).1
  refine sorted_ext _ _ (spots_sorted _ _) ?_ (fun v => ?_)
  · rw [List.pairwise_reverse, List.pairwise_map]
    refine List.Pairwise.imp_of_mem (fun {a b} ha hb hlt => ?_) (spots_sorted y x)
    have := le a ha; have := le b hb
    omega
  · rw [mem_spots h1, List.mem_reverse, List.mem_map]
    constructor
    · intro hv
      have l1 : (v : Int) + x.f0 ≤ y.f0 := (spot_lt hv).1
      exact ⟨(y.f0 - x.f0).toNat - v, (mem_spots h1).2 (by rw [← spot_flip hy hk hx ht (a := v) (by omega)]; exact hv), by omega⟩
    · rintro ⟨c, hc, rfl⟩
      have := le c hc
      rw [spot_flip hy hk hx ht (b := c) (by omega)]
      exact (mem_spots h1).1 hc
structure Turned (P : List S48) (Q : List S50) : Prop where
  ok : Ok P Q
  kn : ∀ y ∈ P, ∀ s ∈ y.f1, s.f1 < y.f0
  turns : ∀ x ∈ Q, x.f2 = true
theorem Turned.flip {P : List S48} {Q : List S50} (hv : validB P Q = true) (ht : ∀ x ∈ Q, x.f2 = true) : Turned P Q ∧ Turned (P.map flipY) Q := by
  have one : ∀ P : List S48, validB P Q = true → Turned P Q := fun P hv => ⟨valid_ok hv, fun y hy s hs => by
    have := (woodB_told ((valid_told hv).2.2.2.2.1 y hy)).2.2.2 s hs
    unfold knotB at this
    simp only [Bool.and_eq_true, decide_eq_true_eq] at this
    omega, ht⟩
  exact ⟨one P hv, one _ (by rw [valid_flip]; exact hv)⟩
theorem cuts_flip {P : List S48} {Q : List S50} (h : Turned P Q) {l : List Nat} (hl : ∀ i ∈ l, i < P.length) {S : Nat → Prop} (hS : ∀ p, S p → p < Q.length) {a pos : Nat → Nat} (hc : Cuts P Q l S a pos) : ∃ pos', Cuts (P.map flipY) Q l S a pos' := by
  have fact : ∀ p, S p → a p < P.length ∧ PlankOk (P.getD (a p) z48) ∧ (∀ s ∈ (P.getD (a p) z48).f1, s.f1 < (P.getD (a p) z48).f0) ∧ PartOk (Q.getD p z50) ∧ (Q.getD p z50).f2 = true ∧ (pos p : Int) + (Q.getD p z50).f0 ≤ (P.getD (a p) z48).f0 := fun p hp => by
    have h1 := hl _ (hc.1 p hp).1
    have h2 := hS p hp
    exact ⟨h1, Ok.plankOk h.ok h1, h.kn _ (by rw [getD_el h1]; exact List.getElem_mem h1), Ok.partOk h.ok h2, h.turns _ (by rw [getD_el h2]; exact List.getElem_mem h2), (spot_lt (hc.1 p hp).2).1⟩
  refine ⟨fun p => ((P.getD (a p) z48).f0 - (Q.getD p z50).f0).toNat - pos p, fun p hp => ⟨(hc.1 p hp).1, ?_⟩, fun p q hp hq hne he => ?_⟩
  · obtain ⟨f1, f2, f3, f4, f5, f6⟩ := fact p hp
    have := f4.one
    rw [getD_map f1 flipY z48 z48, spot_flip f2 f3 f4 f5 (b := pos p) (by dsimp only; omega)]
    exact (hc.1 p hp).2
  · obtain ⟨f1, f2, f3, f4, f5, f6⟩ := fact p hp
    obtain ⟨g1, g2, g3, g4, g5, g6⟩ := fact q hq
    have := hc.2 p q hp hq hne he
    have := f4.one; have := g4.one
    unfold Apart lenQ at *
    dsimp only
    rw [← he] at g6 ⊢
    omega
theorem cut_flip {P : List S48} {Q : List S50} (h : Turned P Q) (h' : Turned (P.map flipY) Q) {t s : Nat} (ht : t < 2 ^ P.length) (hs : s < 2 ^ Q.length) : cutB (P.map flipY) Q (setL t) s = cutB P Q (setL t) s := by
  rw [Bool.eq_iff_iff, h'.ok.cut t s hs, h.ok.cut t s hs]
  constructor
  · rintro ⟨a, pos, hc⟩
    obtain ⟨pos', hc'⟩ := cuts_flip h' (fun i hi => by rw [List.length_map]; exact setL_lt ht hi) (fun p hp => setL_lt hs hp) hc
    rw [flips_flip] at hc'
    exact ⟨a, pos', hc'⟩
  · rintro ⟨a, pos, hc⟩
    obtain ⟨pos', hc'⟩ := cuts_flip h (fun i hi => setL_lt ht hi) (fun p hp => setL_lt hs hp) hc
    exact ⟨a, pos', hc'⟩
theorem bestTo_congr {bt : List Int → List Int → Bool} {is is' : Nat → Bool} : ∀ n, (∀ s, s < n → is s = is' s) → bestTo bt is n = bestTo bt is' n
  | 0, _ => rfl
  | n + 1, h => by
    show bestStep bt is n (bestTo bt is n) = bestStep bt is' n (bestTo bt is' n)
    rw [bestTo_congr n fun s hs => h s (by omega)]
    unfold bestStep
    rw [h n (by omega)]
theorem most_flip {P : List S48} {Q : List S50} (h : Turned P Q) (h' : Turned (P.map flipY) Q) : mostP (P.map flipY) Q = mostP P Q := by
  have hpp := pow_pos P.length
  unfold mostP mostN
  rw [valid_flip, List.length_map, bestTo_congr (2 ^ Q.length) fun s hs => cut_flip h h' (t := 2 ^ P.length - 1) (by omega) hs]
theorem fewest_flip {P : List S48} {Q : List S50} (h : Turned P Q) (h' : Turned (P.map flipY) Q) : fewestP (P.map flipY) Q = fewestP P Q := by
  have hpq := pow_pos Q.length
  unfold fewestP fewestZ
  rw [valid_flip, List.length_map, bestTo_congr (2 ^ P.length) fun s hs => cut_flip h h' (s := 2 ^ Q.length - 1) hs (by omega)]
theorem mirror_l1 {P : List S48} {Q R : List S50} {i : Nat} (hi : i < P.length) (hP : P.length ≤ 3) {y : S48} (hy : P.getD i z48 = y) (hok : PlankOk y) (M : List S48) {r : List S48 × List S50} : ∀ (d j : Nat) (acc : List S60), j + d = y.f1.length → acc.length = j → M.length ≤ 3 →
    Evt (fun k => skewbaldlaw01_mirror.l0 k ((i + 1 : Nat) : Int) P Q (M ++ [⟨y.f0, acc ++ (y.f1.drop j).map (flipK y.f0)⟩]) R) r →
    Evt (fun k => skewbaldlaw01_mirror.l1 k (i : Int) (j : Int) P Q M R y.f0 acc) r
  | 0, j, acc, hj, ha, hM, hc => by
    refine Evt.succ ?_
    simp only [skewbaldlaw01_mirror.l1]
    rw [rd48, hy, w64 i (by omega)]
    refine Evt.pos (by omega) (Evt.pos (by omega) (Evt.neg (by omega) (Evt.pos (by omega) ?_)))
    rw [List.drop_eq_nil_of_le (show y.f1.length ≤ j by omega)] at hc
    simpa using hc
  | d + 1, j, acc, hj, ha, hM, hc => by
    have h3 := hok.few
    have hlt : j < y.f1.length := by omega
    obtain ⟨s0, s1, s2⟩ := hok.knot _ (List.getElem_mem hlt)
    rw [← getD_el (z := z60) hlt] at s0 s1 s2
    have y16 := hok.big
    have y1 := hok.one
    refine Evt.succ ?_
    simp only [skewbaldlaw01_mirror.l1]
    rw [rd48, hy, w64 j (by omega), rd60, show wrap64 (wrap64 (y.f0 - 1) - (y.f1.getD j z60).f1) = y.f0 - 1 - (y.f1.getD j z60).f1 by unfold wrap64; omega, show wrap64 (wrap64 (y.f0 - 1) - (y.f1.getD j z60).f0) = y.f0 - 1 - (y.f1.getD j z60).f0 by unfold wrap64; omega]
    simp only [skewbaldref00_From.f, Option.bind_some]
    refine Evt.pos (by omega) (Evt.pos (by omega) (Evt.pos (by omega) (Evt.pos (by omega) (Evt.pos (by omega) ?_))))
    refine mirror_l1 hi hP hy hok M d (j + 1) (acc ++ [flipK y.f0 (y.f1.getD j z60)]) (by omega) (by simp [ha]) hM ?_
    rw [List.drop_eq_getElem_cons hlt, ← getD_el (z := z60) hlt, List.map_cons] at hc
    rw [List.append_assoc]
    exact hc
theorem mirror_l0 {P : List S48} {Q R : List S50} (hP : P.length ≤ 3) (hok : ∀ y ∈ P, PlankOk y) : ∀ (d i : Nat), i + d = P.length → Evt (fun k => skewbaldlaw01_mirror.l0 k (i : Int) P Q ((P.take i).map flipY) R) (P.map flipY, R)
  | 0, i, hi => by
    refine Evt.succ ?_
    simp only [skewbaldlaw01_mirror.l0]
    rw [List.take_of_length_le (show P.length ≤ i by omega)]
    exact Evt.neg (by omega) (Evt.pure _)
  | d + 1, i, hi => by
    have hlt : i < P.length := by omega
    refine Evt.succ ?_
    simp only [skewbaldlaw01_mirror.l0]
    rw [rd48]
    refine Evt.pos (by omega) (Evt.pos (by omega) ?_)
    refine mirror_l1 hlt hP rfl (hok _ (by rw [getD_el hlt]; exact List.getElem_mem hlt)) _ (P.getD i z48).f1.length 0 [] (by omega) rfl (by rw [List.length_map, List.length_take]; omega) ?_
    have := mirror_l0 (Q := Q) (R := R) hP hok d (i + 1) (by omega)
    rw [List.take_succ_eq_append_getElem hlt, List.map_append, ← getD_el (z := z48) hlt] at this
    rw [List.nil_append, List.drop_zero]
    exact this
theorem mirror_f {P : List S48} {Q : List S50} (hP : P.length ≤ 3) (hok : ∀ y ∈ P, PlankOk y) : Evt (fun k => skewbaldlaw01_mirror.f k P Q) (P.map flipY, Q) := by
  unfold skewbaldlaw01_mirror.f
  exact mirror_l0 hP hok P.length 0 (by omega)
theorem plankTurn_l1 {P : List S48} {Q R : List S50} (hv : validB P R = true) (ht : ∀ x ∈ R, x.f2 = true) {i p : Nat} (hi : i < P.length) (hp : p < Q.length) (hy : PlankOk (P.getD i z48)) (hx : PartOk (Q.getD p z50)) {l m : List Nat} (hl : l.length ≤ 16) (hlt : ∀ a ∈ l, (a : Int) + (Q.getD p z50).f0 ≤ (P.getD i z48).f0)
    (hm : m = (l.map fun a => ((P.getD i z48).f0 - (Q.getD p z50).f0).toNat - a).reverse) : ∀ (d j : Nat), j + d = l.length →
    Evt (fun k => skewbaldlaw01_PlankTurn.l1 k (i : Int) (p : Int) (ints l) (ints m) (j : Int) P Q P R (P.map flipY) R) true
  | 0, j, hj => by
    obtain ⟨h1, h2⟩ := Turned.flip hv ht
    refine Evt.succ ?_
    simp only [skewbaldlaw01_PlankTurn.l1, plank_Most.f, plank_Fewest.f, Option.bind_some]
    rw [most_flip h1 h2, fewest_flip h1 h2, mostP_yes hv]
    refine Evt.neg (by rw [ints_length]; omega) (Evt.pos rfl (Evt.pos rfl (Evt.bind (Equal_f _ _ (by have := mostP_len P R; rw [mostP_yes hv] at this; exact this)) (Evt.pos (by simp) (Evt.pos rfl (Evt.bind (Equal_f _ _ (fewestP_len P R)) (Evt.pos (by simp) (Evt.bind sawn_f (Evt.pure _)))))))))
  | d + 1, j, hj => by
    have hjl : j < l.length := by omega
    have hml : m.length = l.length := by rw [hm]; simp
    have y16 := hy.big; have y1 := hy.one; have x1 := hx.one; have x12 := hx.big
    have ha := hlt _ (show l.getD j 0 ∈ l by rw [getD_el hjl]; exact List.getElem_mem hjl)
    have hmj : m.getD (l.length - 1 - j) 0 = ((P.getD i z48).f0 - (Q.getD p z50).f0).toNat - l.getD j 0 := by
      rw [getD_el (show l.length - 1 - j < m.length by omega), getD_el hjl]
      subst hm
      rw [List.getElem_reverse, List.getElem_map]
      congr 2
      simp
      omega
    refine Evt.succ ?_
    simp only [skewbaldlaw01_PlankTurn.l1]
    rw [w64 j (by omega), ints_length, ints_length, show wrap64 (wrap64 ((m.length : Int) - 1) - (j : Int)) = ((l.length - 1 - j : Nat) : Int) by unfold wrap64; omega, rd48, rd50, rd_ints hjl, rd_ints (show l.length - 1 - j < m.length by omega), hmj]
    refine Evt.pos (by omega) (Evt.pos (by omega) (Evt.pos (by omega) (Evt.pos (by omega) (Evt.pos (by omega) (Evt.pos (by omega) (Evt.pos (by omega) (Evt.pos (by omega) (Evt.pos (by unfold wrap64; omega) ?_))))))))
    exact plankTurn_l1 hv ht hi hp hy hx hl hlt hm d (j + 1) (by omega)
theorem plankTurn_l0 {P : List S48} {Q : List S50} (hv : validB P Q = true) (a b : Int) : ∀ (d j : Nat), j + d = Q.length → Evt (fun k => skewbaldlaw01_PlankTurn.l0 k (j : Int) P Q a b P ((Q.take j).map turnX ++ Q.drop j)) true
  | 0, j, hj => by
    have hok := valid_ok hv
    obtain ⟨h1, h3, h1', h5, _, _⟩ := valid_told hv
    obtain ⟨i, hi, e1⟩ := Round_nat a P.length h1 (by omega)
    obtain ⟨p, hp, e2⟩ := Round_nat b Q.length h1' (by omega)
    have hv' : validB P (Q.map turnX) = true := by rw [valid_turn]; exact hv
    have hok' := valid_ok hv'
    have hp' : p < (Q.map turnX).length := by rw [List.length_map]; exact hp
    have ht : ∀ x ∈ Q.map turnX, x.f2 = true := fun x hx => by obtain ⟨u, _, rfl⟩ := List.mem_map.1 hx; rfl
    have hT := (Turned.flip hv' ht).1
    have hy := Ok.plankOk hok hi
    have hx := Ok.partOk hok' hp'
    have h16 := spots_len hy ((Q.map turnX).getD p z50)
    have hf : ((Q.map turnX).getD p z50).f0 = (Q.getD p z50).f0 := by rw [getD_map hp turnX z50 z50]; rfl
    have e := spots_flip hy (hT.kn _ (by rw [getD_el hi]; exact List.getElem_mem hi)) hx (ht _ (by rw [getD_el hp']; exact List.getElem_mem hp'))
    refine Evt.succ ?_
    simp only [skewbaldlaw01_PlankTurn.l0, plank_Spots.f, Option.bind_some]
    rw [List.take_of_length_le (show Q.length ≤ j by omega), List.drop_eq_nil_of_le (show Q.length ≤ j by omega), List.append_nil, e1, e2]
    simp only [Option.bind_some]
    refine Evt.neg (by rw [List.length_map]; omega) (Evt.bind (mirror_f h3 (fun y hy' => by obtain ⟨q, hq, rfl⟩ := List.getElem_of_mem hy'; have := Ok.plankOk hok hq; rw [getD_el hq] at this; exact this)) ?_)
    rw [spots_told hv' hi hp', spots_told (by rw [valid_flip]; exact hv') (by rw [List.length_map]; exact hi) hp', getD_map hi flipY z48 z48, e]
    refine Evt.pos rfl (Evt.pos rfl (Evt.succ ?_))
    simp only [skewbaldlaw01_PlankTurn.j1]
    refine Evt.neg (by simp [ints_length]) ?_
    refine plankTurn_l1 hv' ht hi hp hy (Ok.partOk hok hp) h16 (fun c hc => ?_) (by rw [hf]) (spotsL (P.getD i z48) ((Q.map turnX).getD p z50)).length 0 (by omega)
    have := (spot_lt ((mem_spots hx.one).1 hc)).1
    rw [hf] at this
    exact this
  | d + 1, j, hj => by
    have hlt : j < Q.length := by omega
    have h5 := (valid_told hv).2.2.2.1
    have hl : ((Q.take j).map turnX).length = j := by rw [List.length_map, List.length_take]; omega
    have ih := plankTurn_l0 hv a b d (j + 1) (by omega)
    refine Evt.succ ?_
    simp only [skewbaldlaw01_PlankTurn.l0]
    rw [w64 j (by omega), rd50, List.drop_eq_getElem_cons hlt, show ((Q.take j).map turnX ++ Q[j] :: Q.drop (j + 1)).getD j z50 = Q[j] from by rw [List.getD_eq_getElem?_getD, List.getElem?_append_right (by omega), hl]; simp [hlt], Int.toNat_natCast, List.set_append_right _ _ (by omega), hl, Nat.sub_self, List.set_cons_zero]
    rw [List.take_succ_eq_append_getElem hlt, List.map_append, List.append_assoc] at ih
    exact Evt.pos (by simp; omega) (Evt.pos (by omega) ih)
theorem plankTurn_f {P : List S48} {Q : List S50} (a b : Int) : Evt (fun k => skewbaldlaw01_PlankTurn.f k P Q a b) true := by
  unfold skewbaldlaw01_PlankTurn.f
  refine Evt.bind sound_f (Evt.ite (fun hv => ?_) (fun hv => Evt.bind sawn_f (Evt.pure _)))
  have h5 := (valid_told hv).2.2.2.1
  simp only [Option.bind_some, List.nil_append, List.length_nil]
  exact Evt.pos (by omega) (plankTurn_l0 hv a b Q.length 0 (by omega))
end Go.Proofs.YtekjlpldooihhaaDoor.PR
namespace Go.Proofs.YtekjlpldooihhaaDoor.PlankTurnRow.Pure
open Go.RowKit Go.Proofs.YtekjlpldooihhaaDoorW.PrintWords Go.Proofs.YtekjlpldooihhaaDoorEv Go.Proofs.YtekjlpldooihhaaDoorP Go.Proofs.YtekjlpldooihhaaDoor.PT Go.Proofs.YtekjlpldooihhaaDoor.PR
open Go.Proofs.YtekjlpldooihhaaDoor.PA (S48 S50 k48 k50)
set_option linter.unusedVariables false
theorem plankTurn (W : World) (P : List S48) (Q : List S50) (a b : Int) {A : Option Addr} (hP : Kd.C k48 W A P.length P) (w0 : ∀ y ∈ P, wfWood y) {B : Option Addr} (hQ : Kd.C k50 W B Q.length Q) (w1 : ∀ x ∈ Q, wfShape x) (w2 : (Lit.int .i64 a).wf = true) (w3 : (Lit.int .i64 b).wf = true) :
    ∃ k, skewbaldlaw01_PlankTurn.f k P Q a b = some true :=
  (plankTurn_f a b).get
theorem calls (k : Nat) (A0 : Option Addr) (c0 : Nat) (P : List S48) (A1 : Option Addr) (c1 : Nat) (Q : List S50) (a b : Int) (w : World) (h0 : Kd.C k48 w A0 P.length P) (hc0 : P.length ≤ c0) (h1 : Kd.C k50 w A1 Q.length Q) (hc1 : Q.length ≤ c1) (hG : Glob w) (h : skewbaldlaw01_PlankTurn.f k P Q a b = some true) :
    Calls Tryd.prog 14 #[.agg #[.slice A0 P.length c0, .slice A1 Q.length c1], .agg #[.int .i64 a, .int .i64 b]] w fun e w' => e = .returned (.bool true) ∧ Below w.heap.size w w' :=
  skewbaldlaw01_PlankTurn.calls k A0 c0 P (fun k => k < w.heap.size) A1 c1 Q a b w h0 hc0 (Kd.V_mk hc1 (Kd.C_F k50_heap h1)) hG h
end Go.Proofs.YtekjlpldooihhaaDoor.PlankTurnRow.Pure
