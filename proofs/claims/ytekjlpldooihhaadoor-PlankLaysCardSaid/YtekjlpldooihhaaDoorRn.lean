/- Package plank, plain laws: laid, Lay and Most of the reference; PlankLays. -/
import Derived.Test.YtekjlpldooihhaaDoorPTx33
import Derived.Test.YtekjlpldooihhaaDoorPTx11
import Derived.Test.YtekjlpldooihhaaDoorQa
namespace Go.Proofs.YtekjlpldooihhaaDoor.PR
open Go.RowKit Go.Proofs.YtekjlpldooihhaaDoorW.PrintWords Go.Proofs.YtekjlpldooihhaaDoorW.PrintMore Go.Proofs.YtekjlpldooihhaaDoorEv Go.Proofs.YtekjlpldooihhaaDoorP Go.Proofs.YtekjlpldooihhaaDoor.PT Go.Proofs.YtekjlpldooihhaaDoorH Go.Proofs.YtekjlpldooihhaaDoorK Go.Proofs.YtekjlpldooihhaaDoorA
open Go.Proofs.YtekjlpldooihhaaDoor.PA (S48 S50 S60 k48 k50 k60 z48 z50 z60 rd_T48 rd_T50 rd_T60 rd_L4)
set_option linter.unusedVariables false
set_option linter.unusedSimpArgs false
def refR : Option (List Nat) → List Int × Bool
  | some o => (ints o, true)
  | none => ([], false)
def clearOf (Q : List S50) (a L : Nat) : List Nat → List Nat → Bool
  | p :: ps, b :: bs => (decide (a + L ≤ b) || decide (b + lenQ Q p ≤ a)) && clearOf Q a L ps bs
  | _, _ => true
def takenBy (Q : List S50) : (Nat → Bool) → List Nat → List Nat → (Nat → Bool)
  | f, p :: ps, b :: bs => takenBy Q (markB f b (lenQ Q p)) ps bs
  | f, _, _ => f
theorem taken_nil (Q : List S50) (f : Nat → Bool) (ps : List Nat) : takenBy Q f ps [] = f := by cases ps <;> rfl
theorem clear_none (Q : List S50) (a L : Nat) (ps : List Nat) : clearOf Q a L ps [] = true := by cases ps <;> rfl
theorem free_taken {Q : List S50} {a L : Nat} (hL : 1 ≤ L) : ∀ (ps bs : List Nat) (f : Nat → Bool), (∀ p ∈ ps, 1 ≤ lenQ Q p) → freeB (takenBy Q f ps bs) a L = (freeB f a L && clearOf Q a L ps bs)
  | [], bs, f, _ => by cases bs <;> simp [takenBy, clearOf]
  | p :: ps, [], f, _ => by simp [takenBy, clearOf]
  | p :: ps, b :: bs, f, h => by
    show freeB (takenBy Q (markB f b (lenQ Q p)) ps bs) a L = (freeB f a L && ((decide (a + L ≤ b) || decide (b + lenQ Q p ≤ a)) && clearOf Q a L ps bs))
    rw [free_taken hL ps bs _ (fun q hq => h q (by simp [hq])), ← Bool.and_assoc]
    congr 1
    rw [Bool.eq_iff_iff, free_mark (h p (by simp)) hL, Bool.and_eq_true, Bool.or_eq_true, decide_eq_true_eq, decide_eq_true_eq]
    exact and_congr_right fun _ => or_comm
theorem taken_app {Q : List S50} : ∀ (ps bs : List Nat) (f : Nat → Bool) (p a : Nat), ps[bs.length]? = some p → takenBy Q f ps (bs ++ [a]) = markB (takenBy Q f ps bs) a (lenQ Q p)
  | [], bs, f, p, a, h => by simp at h
  | q :: ps, [], f, p, a, h => by
    obtain rfl : q = p := by simpa using h
    show takenBy Q (markB f a (lenQ Q q)) ps [] = _
    rw [taken_nil]
    rfl
  | q :: ps, b :: bs, f, p, a, h => taken_app ps bs (markB f b (lenQ Q q)) p a (by simpa using h)
theorem drop_at {l : List Nat} {m : Nat} (h : m < l.length) : l.drop m = l.getD m 0 :: l.drop (m + 1) := by rw [List.drop_eq_getElem_cons h, getD_el h]
theorem rd_ints {l : List Nat} {m : Nat} (h : m < l.length) : rd (ints l) (m : Int) = ((l.getD m 0 : Nat) : Int) := by rw [rd_at]; simp [ints, h]
theorem rlaid_l1 {P : List S48} {Q : List S50} (hok : Ok P Q) {ps o sp : List Nat} {i q : Nat} (hps : ∀ p ∈ ps, p < Q.length) (hp5 : ps.length ≤ 5) (hn : o.length < ps.length) (ho : ∀ a ∈ o, a < 16) (hq : q < sp.length) (hsp : ∀ a ∈ sp, a < 16) (hsl : sp.length ≤ 16) {R1 R0 : List Int × Bool}
    (h1 : Evt (fun k => (skewbaldref00_Add.f (ints o) ((sp.getD q 0 : Nat) : Int)).bind fun t => (skewbaldref01_laid.f k P Q (i : Int) (ints ps) t).bind fun bt => if bt.2 = true then some (bt.1, true) else skewbaldref01_laid.l0 k (i : Int) (ints ps) (ints o) (o.length : Int) (ints sp) ((q + 1 : Nat) : Int) P Q) R1)
    (h0 : Evt (fun k => skewbaldref01_laid.l0 k (i : Int) (ints ps) (ints o) (o.length : Int) (ints sp) ((q + 1 : Nat) : Int) P Q) R0) : ∀ (d m : Nat) (b : Bool), m + d = o.length →
    Evt (fun k => skewbaldref01_laid.l1 k (i : Int) (ints ps) (ints o) (o.length : Int) (ints sp) (q : Int) b (m : Int) P Q) (cond (b && clearOf Q (sp.getD q 0) (lenQ Q (ps.getD o.length 0)) (ps.drop m) (o.drop m)) R1 R0)
  | 0, m, b, hm => by
    refine Evt.succ ?_
    simp only [skewbaldref01_laid.l1]
    rw [List.drop_eq_nil_of_le (show o.length ≤ m by omega), clear_none, w64 q (by omega), rd_ints hq]
    refine Evt.neg (by omega) ?_
    cases b with
    | true => exact Evt.pos rfl (Evt.pos (by omega) (Evt.pos (by rw [ints_length]; omega) (by simpa using h1)))
    | false => exact Evt.neg (by simp) (by simpa using h0)
  | d + 1, m, b, hm => by
    have hlt : m < o.length := by omega
    have hmp : m < ps.length := by omega
    have ih := fun b => rlaid_l1 hok hps hp5 hn ho hq hsp hsl h1 h0 d (m + 1) b (by omega)
    rw [drop_at hlt, drop_at hmp]
    refine Evt.succ ?_
    simp only [skewbaldref01_laid.l1, clearOf]
    rw [w64 m (by omega)]
    refine Evt.pos (by omega) ?_
    cases b with
    | false =>
      refine Evt.neg (by simp) ?_
      simpa using ih false
    | true =>
      have hnp := hps _ (show ps.getD o.length 0 ∈ ps by rw [getD_el hn]; exact List.getElem_mem hn)
      have hpm := hps _ (show ps.getD m 0 ∈ ps by rw [getD_el hmp]; exact List.getElem_mem hmp)
      have hx := Ok.partOk hok hnp
      have hx' := Ok.partOk hok hpm
      have ha := hsp _ (show sp.getD q 0 ∈ sp by rw [getD_el hq]; exact List.getElem_mem hq)
      have hb := ho _ (show o.getD m 0 ∈ o by rw [getD_el hlt]; exact List.getElem_mem hlt)
      have a1 := hx.one; have a12 := hx.big; have b1 := hx'.one; have b12 := hx'.big
      rw [rd_ints hn, rd_ints hq, rd_ints hlt, rd_ints hmp, rd50, rd50]
      unfold lenQ at ih ⊢
      generalize hpn : ps.getD o.length 0 = pn at *
      generalize hpq : ps.getD m 0 = pm at *
      generalize sp.getD q 0 = a at *
      generalize o.getD m 0 = c at *
      rw [show wrap64 ((a : Int) + (Q.getD pn z50).f0) = ((a + (Q.getD pn z50).f0.toNat : Nat) : Int) by unfold wrap64; omega, show wrap64 ((c : Int) + (Q.getD pm z50).f0) = ((c + (Q.getD pm z50).f0.toNat : Nat) : Int) by unfold wrap64; omega]
      refine Evt.pos rfl (Evt.pos (by omega) (Evt.pos (by rw [ints_length]; omega) (Evt.pos (by omega) (Evt.pos (by rw [ints_length]; omega) (Evt.pos (by omega) (Evt.pos (by omega) (Evt.pos (by omega) (Evt.pos (by rw [ints_length]; omega) (Evt.ite (fun h => ?_) (fun h => ?_))))))))))
      · rw [decide_eq_true (show a + (Q.getD pn z50).f0.toNat ≤ c by omega)]
        simpa using ih true
      · rw [decide_eq_false (show ¬ a + (Q.getD pn z50).f0.toNat ≤ c by omega), show decide (((c + (Q.getD pm z50).f0.toNat : Nat) : Int) ≤ (a : Int)) = decide (c + (Q.getD pm z50).f0.toNat ≤ a) from decide_eq_decide.2 (by omega)]
        refine Evt.pos (by rw [ints_length]; omega) (Evt.pos (by omega) (Evt.pos (by omega) ?_))
        simpa using ih (decide (c + (Q.getD pm z50).f0.toNat ≤ a))
theorem rlaid_l0 {P : List S48} {Q : List S50} (hok : Ok P Q) {ps o sp : List Nat} {i : Nat} (hps : ∀ p ∈ ps, p < Q.length) (hp5 : ps.length ≤ 5) (hn : o.length < ps.length) (ho : ∀ a ∈ o, a < 16) (hsp : ∀ a ∈ sp, a < 16) (hsl : sp.length ≤ 16) {G : Nat → Option (List Nat)}
    (ih : ∀ a, a < 16 → Evt (fun k => skewbaldref01_laid.f k P Q (i : Int) (ints ps) (ints (o ++ [a]))) (refR (G a))) : ∀ (d q : Nat), q + d = sp.length →
    Evt (fun k => skewbaldref01_laid.l0 k (i : Int) (ints ps) (ints o) (o.length : Int) (ints sp) (q : Int) P Q) (refR ((sp.drop q).findSome? fun a => if clearOf Q a (lenQ Q (ps.getD o.length 0)) ps o then G a else none))
  | 0, q, hq => by
    refine Evt.succ ?_
    simp only [skewbaldref01_laid.l0]
    rw [List.drop_eq_nil_of_le (show sp.length ≤ q by omega)]
    exact Evt.neg (by rw [ints_length]; omega) (Evt.pure _)
  | d + 1, q, hq => by
    have hlt : q < sp.length := by omega
    have rest := rlaid_l0 hok hps hp5 hn ho hsp hsl ih d (q + 1) (by omega)
    have ha := hsp _ (show sp.getD q 0 ∈ sp by rw [getD_el hlt]; exact List.getElem_mem hlt)
    refine Evt.succ ?_
    simp only [skewbaldref01_laid.l0]
    refine Evt.pos (by rw [ints_length]; omega) ?_
    rw [drop_at hlt, List.findSome?_cons]
    generalize hr : (sp.drop (q + 1)).findSome? (fun a => if clearOf Q a (lenQ Q (ps.getD o.length 0)) ps o then G a else none) = re at *
    have h1 : Evt (fun k => (skewbaldref00_Add.f (ints o) ((sp.getD q 0 : Nat) : Int)).bind fun t => (skewbaldref01_laid.f k P Q (i : Int) (ints ps) t).bind fun bt => if bt.2 = true then some (bt.1, true) else skewbaldref01_laid.l0 k (i : Int) (ints ps) (ints o) (o.length : Int) (ints sp) ((q + 1 : Nat) : Int) P Q) (refR (match G (sp.getD q 0) with | some r => some r | none => re)) := by
      rw [show skewbaldref00_Add.f (ints o) ((sp.getD q 0 : Nat) : Int) = some (ints (o ++ [sp.getD q 0])) from by unfold skewbaldref00_Add.f; rw [if_pos (by rw [ints_length]; omega), ints_append]; rfl]
      simp only [Option.bind_some]
      refine Evt.bind (ih _ ha) ?_
      cases G (sp.getD q 0) with
      | some r => exact Evt.pos rfl (Evt.pure _)
      | none => exact Evt.neg (by simp [refR]) rest
    have := rlaid_l1 hok (i := i) hps hp5 hn ho hlt hsp hsl h1 rest o.length 0 true (by omega)
    rw [List.drop_zero, List.drop_zero, Bool.true_and] at this
    cases hc : clearOf Q (sp.getD q 0) (lenQ Q (ps.getD o.length 0)) ps o with
    | true =>
      rw [hc] at this
      cases hG : G (sp.getD q 0) with
      | some r => simp only [hG, cond_true] at this; simp only [hG, if_true]; exact this
      | none => simp only [hG, cond_true] at this; simp only [hG, if_true]; exact this
    | false => rw [hc] at this; simpa using this
theorem rlaid_f {P : List S48} {Q : List S50} (hok : Ok P Q) {i : Nat} (hi : i < P.length) {ps : List Nat} (hps : ∀ p ∈ ps, p < Q.length) (hp5 : ps.length ≤ 5) : ∀ (d : Nat) (o : List Nat), o.length + d = ps.length → (∀ a ∈ o, a < 16) →
    Evt (fun k => skewbaldref01_laid.f k P Q (i : Int) (ints ps) (ints o)) (refR (laidFrom (P.getD i z48) Q (ps.drop o.length) (takenBy Q (fun _ => false) ps o) o))
  | 0, o, hd, ho => by
    refine Evt.succ ?_
    simp only [skewbaldref01_laid.f]
    rw [List.drop_eq_nil_of_le (show ps.length ≤ o.length by omega)]
    exact Evt.pos (by rw [ints_length, ints_length]; omega) (Evt.pure _)
  | d + 1, o, hd, ho => by
    have hn : o.length < ps.length := by omega
    have hnp := hps _ (show ps.getD o.length 0 ∈ ps by rw [getD_el hn]; exact List.getElem_mem hn)
    have hx := Ok.partOk hok hnp
    have hy := Ok.plankOk hok hi
    refine Evt.succ ?_
    simp only [skewbaldref01_laid.f]
    rw [ints_length, ints_length, rd_ints hn]
    refine Evt.neg (by omega) (Evt.pos (by omega) (Evt.pos (by omega) (Evt.bind (spots_f hok hi hnp) ?_)))
    have := rlaid_l0 hok (i := i) hps hp5 hn ho (spots_small hy (Q.getD (ps.getD o.length 0) z50)) (spots_len hy _) (G := fun a => laidFrom (P.getD i z48) Q (ps.drop (o.length + 1)) (markB (takenBy Q (fun _ => false) ps o) a (lenQ Q (ps.getD o.length 0))) (o ++ [a])) (fun a ha => by
      have h := rlaid_f hok hi hps hp5 d (o ++ [a]) (by simp; omega) (fun c hc => by
        rcases List.mem_append.1 hc with hc | hc
        · exact ho c hc
        · rw [List.mem_singleton.1 hc]; exact ha)
      rw [taken_app ps o _ (ps.getD o.length 0) a (by rw [getD_el hn, List.getElem?_eq_getElem hn]), show (o ++ [a]).length = o.length + 1 by simp] at h
      exact h) (spotsL (P.getD i z48) (Q.getD (ps.getD o.length 0) z50)).length 0 (by omega)
    rw [List.drop_zero] at this
    rw [drop_at hn]
    unfold laidFrom
    have e : ∀ a, freeB (takenBy Q (fun _ => false) ps o) a (Q.getD (ps.getD o.length 0) z50).f0.toNat = clearOf Q a (lenQ Q (ps.getD o.length 0)) ps o := fun a => by
      have h1 := hx.one
      have := free_taken (Q := Q) (a := a) (L := lenQ Q (ps.getD o.length 0)) (by unfold lenQ; omega) ps o (fun _ => false) (fun p hp => by have := (Ok.partOk hok (hps p hp)).one; unfold lenQ; omega)
      rw [free_none, Bool.true_and] at this
      exact this
    simp only [e]
    exact this
theorem fold_grows (N : Nat) : ∀ (l : List Int) (b : Bool) (last : Int), -1 ≤ last → (l.foldl (lstep N) (b, last)).1 = (b && growsB (N : Int) last l)
  | [], b, last, _ => by simp [growsB]
  | a :: l, b, last, h => by
    show (l.foldl (lstep N) (b && (inB a N && decide (a > last)), a)).1 = (b && ((decide (last < a) && decide (a < (N : Int))) && growsB (N : Int) a l))
    by_cases h1 : last < a
    · rw [fold_grows N l _ a (by omega), show inB a N = decide (a < (N : Int)) from by unfold inB; rw [decide_eq_true (by omega), Bool.true_and]; exact decide_eq_decide.2 (by omega), decide_eq_true h1]
      simp [Bool.and_assoc]
    · rw [decide_eq_false h1, Bool.and_false, Bool.and_false, lstep_false]
      simp
theorem grows_sorted (N : Int) : ∀ (ps : List Nat) (last : Int), growsB N last (ints ps) = true → ps.Pairwise (· < ·) ∧ ∀ p ∈ ps, last < (p : Int) ∧ (p : Int) < N
  | [], last, _ => ⟨List.Pairwise.nil, fun p hp => absurd hp (by simp)⟩
  | a :: l, last, h => by
    have h' : ((decide (last < (a : Int)) && decide ((a : Int) < N)) && growsB N (a : Int) (ints l)) = true := h
    rw [Bool.and_eq_true, Bool.and_eq_true, decide_eq_true_eq, decide_eq_true_eq] at h'
    obtain ⟨h1, h2⟩ := grows_sorted N l (a : Int) h'.2
    refine ⟨List.pairwise_cons.2 ⟨fun b hb => by have := (h2 b hb).1; omega, h1⟩, fun p hp => ?_⟩
    rcases List.mem_cons.1 hp with rfl | hp
    · exact h'.1
    · have := h2 p hp; exact ⟨by omega, this.2⟩
theorem sorted_ext : ∀ (a b : List Nat), a.Pairwise (· < ·) → b.Pairwise (· < ·) → (∀ x, x ∈ a ↔ x ∈ b) → a = b
  | [], [], _, _, _ => rfl
  | [], y :: b, _, _, h => absurd ((h y).2 (by simp)) (by simp)
  | x :: a, [], _, _, h => absurd ((h x).1 (by simp)) (by simp)
  | x :: a, y :: b, ha, hb, h => by
    obtain ⟨ha1, ha2⟩ := List.pairwise_cons.1 ha
    obtain ⟨hb1, hb2⟩ := List.pairwise_cons.1 hb
    have e : x = y := by
      rcases List.mem_cons.1 ((h x).1 (by simp)) with e | e
      · exact e
      · rcases List.mem_cons.1 ((h y).2 (by simp)) with e2 | e2
        · exact e2.symm
        · have := hb1 x e; have := ha1 y e2; omega
    subst e
    congr 1
    refine sorted_ext a b ha2 hb2 (fun z => ⟨fun hz => ?_, fun hz => ?_⟩)
    · rcases List.mem_cons.1 ((h z).1 (by simp [hz])) with e | e
      · have := ha1 z hz; omega
      · exact e
    · rcases List.mem_cons.1 ((h z).2 (by simp [hz])) with e | e
      · have := hb1 z hz; omega
      · exact e
theorem set_small : ∀ N, N ≤ 5 → ∀ s, s < 32 → (∀ p ∈ setL s, p < N) → s < 2 ^ N := by decide +kernel
theorem set_of {N : Nat} (hN : N ≤ 5) {ps : List Nat} (hp : ps.Pairwise (· < ·)) (hb : ∀ p ∈ ps, p < N) : ∃ s, s < 2 ^ N ∧ setL s = ps := by
  have e : setL (numB fun q => decide (q ∈ ps)) = ps := sorted_ext _ _ (List.pairwise_lt_range.filter _) hp (fun x => by
    rw [mem_setL]
    constructor
    · rintro ⟨h1, h2⟩
      rw [bit_numB _ h1] at h2
      exact of_decide_eq_true h2
    · intro h
      have := hb x h
      exact ⟨by omega, by rw [bit_numB _ (by omega)]; exact decide_eq_true h⟩)
  exact ⟨_, set_small N hN _ (numB_lt _) (fun p h => hb p (by rw [e] at h; exact h)), e⟩
theorem Lay_f {P : List S48} {Q : List S50} (h : Short P Q) (i : Int) {l : List Int} (hl : l.length < 9223372036854775808) : Evt (fun k => skewbaldref01_Lay.f k P Q i l) (layP P Q i l) := by
  unfold skewbaldref01_Lay.f layP
  rw [isPlank_f h i, show okL Q.length (inB i P.length) l = (inB i P.length && growsB (Q.length : Int) (-1) l) from fold_grows Q.length l _ (-1) (by omega)]
  simp only [Option.bind_some]
  have bad : ∀ e : Int, e ≠ 0 → Evt (fun k => skewbaldref01_Lay.j0 k i l e P Q) (([], e) : List Int × Int) := fun e he => Evt.succ (by simp only [skewbaldref01_Lay.j0]; exact Evt.neg he (Evt.pure _))
  cases hb : inB i P.length with
  | false =>
    refine Evt.neg (by simp) (Evt.bind (asked_f h false) ?_)
    cases validB P Q with
    | false => exact bad 10 (by omega)
    | true => exact bad 11 (by omega)
  | true =>
    refine Evt.pos rfl (Evt.bind (Grows_f l hl _) ?_)
    cases hg : growsB (Q.length : Int) (-1) l with
    | false =>
      refine Evt.bind (asked_f h false) ?_
      cases validB P Q with
      | false => exact bad 10 (by omega)
      | true => exact bad 11 (by omega)
    | true =>
      refine Evt.bind (asked_f h true) ?_
      cases hv : validB P Q with
      | false => exact bad 10 (by omega)
      | true =>
        have hok := valid_ok hv
        have h5 := hok.q5
        obtain ⟨j, rfl, hj⟩ := in_nat hb
        obtain ⟨_, e, _, _⟩ := lstep_true Q.length l true (-1) (by rw [fold_grows Q.length l true (-1) (by omega), hg]; rfl)
        generalize l.map (·.toNat) = ps at e
        subst e
        obtain ⟨g1, g2⟩ := grows_sorted _ _ _ hg
        obtain ⟨s, hs, rfl⟩ := set_of h5 g1 (fun p hp => by have := (g2 p hp).2; omega)
        obtain ⟨r, hr, hev⟩ := ends_f hok hj
        have hL : ∀ p ∈ setL s, 1 ≤ (Q.getD p z50).f0 := fun p hp => (Ok.partOk hok (setL_lt hs hp)).one
        have hE := ((hr.2 s hs).laid hL).2
        refine Evt.succ ?_
        simp only [skewbaldref01_Lay.j0]
        refine Evt.pos (by trivial) (Evt.bind hev (Evt.bind (Set_f (lt32 h5 hs)) ?_))
        rw [rd_at]
        show Evt _ (layR (laidB (P.getD j z48) Q (setL s)))
        refine Evt.pos (by omega) (Evt.pos (by have := hr.1; omega) (Evt.ite (fun h99 => ?_) (fun h99 => ?_)))
        · rw [hE.1 h99]
          exact Evt.pure _
        · have hla := rlaid_f hok hj (fun p hp => setL_lt hs hp) (setL5 s) (setL s).length [] (by simp) (fun a ha => absurd ha (by simp))
          rw [taken_nil] at hla
          refine Evt.bind hla ?_
          cases hx : laidB (P.getD j z48) Q (setL s) with
          | none => exact absurd (hE.2 hx) h99
          | some o =>
            have hx' : laidFrom (P.getD j z48) Q (setL s) (fun _ => false) [] = some o := hx
            simp only [List.length_nil, List.drop_zero]
            rw [hx']
            exact Evt.pure _
theorem Most_f {P : List S48} {Q : List S50} (h : Short P Q) : Evt (fun k => skewbaldref01_Most.f k P Q) (mostP P Q) := by
  unfold skewbaldref01_Most.f mostP
  refine Evt.bind h.check ?_
  unfold checkP
  cases hv : validB P Q with
  | false => exact Evt.neg (by simp) (by simpa using Evt.pure (([] : List Int), (10 : Int)))
  | true => exact Evt.pos rfl (Evt.bind (most_f (valid_ok hv)) (by simpa using Evt.pure _))
theorem layP_len {P : List S48} {Q : List S50} (i : Int) (l : List Int) : (layP P Q i l).1.length < 9223372036854775808 := by
  unfold layP
  split
  · rename_i hv
    have hok := valid_ok hv
    have h5 := hok.q5
    split
    · rename_i ho
      obtain ⟨_, _, h3, h4⟩ := lstep_true Q.length l _ _ ho
      cases hx : laidB (P.getD i.toNat z48) Q (l.map fun n : Int => n.toNat) with
      | none => simp [layR]
      | some o =>
        obtain ⟨us, eo, hg, _⟩ := laidFrom_some (l.map fun n : Int => n.toNat) (fun p hp => (Ok.partOk hok (h3 p hp).1).one) _ _ _ hx
        rw [List.nil_append] at eo
        subst eo
        have := good_length _ _ _ hg
        rw [List.length_map] at this
        show (ints o).length < _
        rw [ints_length]
        omega
    · simp
  · simp
theorem mostP_len (P : List S48) (Q : List S50) : (mostP P Q).1.length < 9223372036854775808 := by
  unfold mostP
  split
  · obtain ⟨⟨s, _, e, _⟩, _⟩ := most_spec P Q
    rw [e]
    show (ints (setL s)).length < _
    rw [ints_length]
    have := setL5 s
    omega
  · simp
theorem plankLays_f {P : List S48} {Q : List S50} (h : Short P Q) (i : Int) {l : List Int} (hl : l.length < 9223372036854775808) : Evt (fun k => skewbaldlaw01_PlankLays.f k P Q i l) true := by
  unfold skewbaldlaw01_PlankLays.f plank_Lay.f
  simp only [Option.bind_some]
  refine Evt.bind (Lay_f h i hl) (Evt.bind (Equal_f _ _ (layP_len i l)) (Evt.pos (by simp) (Evt.succ ?_)))
  simp only [skewbaldlaw01_PlankLays.j0, plank_Most.f, Option.bind_some]
  exact Evt.neg (by simp) (Evt.bind (Most_f h) (Evt.bind (Equal_f _ _ (mostP_len P Q)) (Evt.pos (by simp) (Evt.pos rfl (Evt.bind sawn_f (Evt.pure _))))))
end Go.Proofs.YtekjlpldooihhaaDoor.PR
namespace Go.Proofs.YtekjlpldooihhaaDoor.PlankLaysRow.Pure
open Go.RowKit Go.Proofs.YtekjlpldooihhaaDoorW.PrintWords Go.Proofs.YtekjlpldooihhaaDoorEv Go.Proofs.YtekjlpldooihhaaDoorP Go.Proofs.YtekjlpldooihhaaDoor.PT Go.Proofs.YtekjlpldooihhaaDoor.PR
open Go.Proofs.YtekjlpldooihhaaDoor.PA (S48 S50 k48 k50)
set_option linter.unusedVariables false
theorem plankLays (W : World) (P : List S48) (Q : List S50) (i : Int) (l : List Int) {A : Option Addr} (hP : Kd.C k48 W A P.length P) (w0 : ∀ y ∈ P, wfWood y) {B : Option Addr} (hQ : Kd.C k50 W B Q.length Q) (w1 : ∀ x ∈ Q, wfShape x) (w2 : (Lit.int .i64 i).wf = true) {D : Option Addr} (hl : Kd.C (Kd.int .i64) W D l.length l) (w3 : ∀ x ∈ l, (Lit.int .i64 x).wf = true) :
    ∃ k, skewbaldlaw01_PlankLays.f k P Q i l = some true :=
  (plankLays_f (short_of hP hQ) i (by have := hl.2.1; omega)).get
end Go.Proofs.YtekjlpldooihhaaDoor.PlankLaysRow.Pure
