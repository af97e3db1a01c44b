/- Package plank: what is asked of sets of planks and of parts; the most parts. -/
import Derived.Test.YtekjlpldooihhaaDoorWWords
import Derived.Test.YtekjlpldooihhaaDoorPc
import Derived.Deep.RegionLawGrows
import Derived.Laws.EntriesVeiled
namespace Go.Proofs.YtekjlpldooihhaaDoorP
open Go.Proofs.YtekjlpldooihhaaDoorSh
open Go.RowKit Go.Proofs.YtekjlpldooihhaaDoorW.PrintWords Go.Proofs.YtekjlpldooihhaaDoorW.PrintLast Go.Proofs.YtekjlpldooihhaaDoorW.PrintMore Go.Proofs.YtekjlpldooihhaaDoorH Go.Proofs.YtekjlpldooihhaaDoorEv Go.Proofs.YtekjlpldooihhaaDoor.PA
set_option linter.unusedVariables false
set_option linter.unusedSimpArgs false
theorem markB_zero (taken : Nat → Bool) (a : Nat) : rowI (markB taken a 0) = rowI taken := rowI_congr fun j _ => by
  unfold markB
  have : (decide (a ≤ j) && decide (j < a + 0)) = false := by
    by_cases h : a ≤ j
    · (simp; try omega)
    · simp [h]
  rw [this, Bool.or_false]
theorem markB_next (taken : Nat → Bool) (a k : Nat) (h : a + k < 16) : rowI (markB taken a (k + 1)) = (rowI (markB taken a k)).setIfInBounds (a + k) (.bool true) := by
  rw [rowI_set _ _ h]
  refine rowI_congr fun j _ => ?_
  unfold markB
  by_cases e : j = a + k
  · subst e
    rw [if_pos rfl]
    simp
  · rw [if_neg e]
    congr 1
    by_cases h1 : a ≤ j
    · simp only [h1, decide_true, Bool.true_and, decide_eq_decide]; omega
    · simp [h1]
attribute [local go_sem] Oper.semAt_some
set_option maxRecDepth 100000 in
set_option maxHeartbeats 4000000 in
theorem lay_step (PA : Option Addr) (pc : Nat) (QA : Option Addr) (qc m : Nat) (P : List S48) (Q : List S50) (hok : Ok P Q) (i : Nat) (hi : i < P.length) (BA : Option Addr) (bc : Nat) (ps : List Nat) (hps : ∀ p ∈ ps, p < Q.length) (h5 : ps.length ≤ 5) (gp gb gl gf base : Nat) (d : Nat) (hS : LaySaid PA pc QA qc m P Q i BA bc ps gp gb gl gf base d) : LaySaid PA pc QA qc m P Q i BA bc ps gp gb gl gf base (d + 1) := by
    intro out hd taken A c w hL hA hV hbase
    obtain ⟨p, hp⟩ : ∃ p, ps[out.length]? = some p := ⟨ps[out.length]'(by omega), List.getElem?_eq_getElem (by omega)⟩
    have hpl : p < Q.length := hps p (List.mem_of_getElem? hp)
    have hdr : ps.drop out.length = p :: ps.drop (out.length + 1) := by
      rw [List.drop_eq_getElem_cons (show out.length < ps.length by omega)]
      rw [List.getElem?_eq_getElem (show out.length < ps.length by omega)] at hp
      rw [Option.some.inj hp]
    rw [hdr]
    have ih : ∀ (out : List Nat) (hd : out.length + d = ps.length) (taken : Nat → Bool) (A : Option Addr) (c : Nat) (w : World) (hL : LayInv PA pc QA qc m P Q i BA bc ps gp gb gl gf w) (hA : A = none → out.length = 0) (hV : VI base w (.slice A out.length c) (ints out)) (hbase : base ≤ w.heap.size), Calls Tryd.prog 103 #[.agg (rowI taken), .slice A out.length c, .pointer (some ⟨gp, 0, none⟩), .pointer (some ⟨gb, 0, none⟩), .pointer (some ⟨gl, 0, none⟩), .pointer (some ⟨gf, 0, none⟩)] w fun e w' => Bk PA QA m P Q w' ∧ w.grownBy w' (some m) ∧ LayPost base (laidFrom (P.getD i z48) Q (ps.drop out.length) taken out) e w' := hS
    have IH := Lib.hid ih; clear ih
    obtain ⟨x, hx⟩ : ∃ x, Q.getD p z50 = x := ⟨_, rfl⟩
    obtain ⟨y, hy⟩ : ∃ y, P.getD i z48 = y := ⟨_, rfl⟩
    have hlf : laidFrom y Q (p :: ps.drop (out.length + 1)) taken out = (spotsL y x).findSome? fun a => if freeB taken a x.f0.toNat then laidFrom y Q (ps.drop (out.length + 1)) (markB taken a x.f0.toNat) (out ++ [a]) else none := by rw [← hx]; rfl
    rw [hy] at IH ⊢
    rw [hlf]
    obtain ⟨fa, hfa⟩ : ∃ fa : Nat → Option (List Nat), (fun a => if freeB taken a x.f0.toNat then laidFrom y Q (ps.drop (out.length + 1)) (markB taken a x.f0.toNat) (out ++ [a]) else none) = fa := ⟨_, rfl⟩
    rw [hfa]
    have HFA := Lib.hid hfa; clear hfa
    obtain ⟨n0, n1, n2, n3, n4⟩ := new3 w (.cells (rowI taken) 131) (.cells #[.slice A out.length c] 31) (.cells #[.slice none 0 0] 31)
    obtain ⟨k0, k1, k2, k3⟩ := new2 (((w.alloc (.cells (rowI taken) 131)).alloc (.cells #[.slice A out.length c] 31)).alloc (.cells #[.slice none 0 0] 31)) (.cells #[.bool false] 4) (.cells #[.int .i64 out.length] 3)
    rw [n4] at k0 k1 k3
    have hbw := n3.trans (k2.mono (by rw [n4]; omega))
    have HFR := Lib.hid (Frame.mk (w := w) (m := m) (below_far n0 k2) (below_far n1 k2) (below_far n2 k2) k0 k1 (grown_of_below hbw (some m)))
    have HBW0 := Lib.hid hL.bk
    have hmw := hL.bk.lt
    have HLI := Lib.hid (hL.below hbw); have HVI := Lib.hid (hV.below hbw); have HBW := Lib.hid hbw; have HK3 := Lib.hid k3
    have hp0 : w.cell? ⟨gp, 0, none⟩ = some (.slice BA ps.length bc) := blk_cell hL.parts 0
    have hgp : gp < w.heap.size := blk_lt hL.parts
    have hgp1 : gp < w.heap.size + 1 := by omega
    have hgp2 : gp < w.heap.size + 1 + 1 := by omega
    have hgp3 : gp < w.heap.size + 1 + 1 + 1 := by omega
    have hgp4 : gp < w.heap.size + 1 + 1 + 1 + 1 := by omega
    have hkn : ((out.length : Int) == (ps.length : Int)) = false := by simp; omega
    have HAN := Lib.hid hA; have HBASE := Lib.hid hbase
    clear n0 n1 n2 n3 n4 k0 k1 k2 k3 hbw hL hV hdr hlf hA hbase
    refine (callsIn_wide (n := 3)).1 ?_
    refine callsIn_of_wp_marks Tryd.func103 rfl trivial ?_
    simp only [Tryd.ntmps103, List.size_toArray, List.length_cons, List.length_nil, Nat.reduceAdd, Nat.reduceSub, Array.replicate_succ, Array.replicate_zero, List.push_toArray, List.append_toArray, List.nil_append, List.cons_append]
    gi_wp2
    generalize ((((w.alloc (.cells (rowI taken) 131)).alloc (.cells #[.slice A out.length c] 31)).alloc (.cells #[.slice none 0 0] 31)).alloc (.cells #[.bool false] 4)).alloc (.cells #[.int .i64 out.length] 3) = W at HFR HLI HVI HBW HK3 ⊢
    clear hp0 hgp hgp1 hgp2 hgp3 hgp4 hkn
    -- the iterator
    obtain ⟨ba, rfl, hcp⟩ := at_nat HLI.out.list out.length (by rw [ints_length]; omega)
    have hrd : rd (ints ps) out.length = p := by
      have : (ints ps)[out.length]? = some (p : Int) := by unfold ints; rw [List.getElem?_map, hp]; rfl
      unfold rd; simp [this]
    rw [hrd] at hcp
    obtain ⟨b0, b1, b2⟩ : W.cell? ⟨gb, 0, none⟩ = some (.slice PA P.length pc) ∧ W.cell? ⟨gb, 1, none⟩ = some (.slice QA Q.length qc) ∧ W.cell? ⟨gb, 2, none⟩ = some (.map (some m)) := ⟨blk_cell HLI.out.book 0, blk_cell HLI.out.book 1, blk_cell HLI.out.book 2⟩
    have c0 : W.cell? ⟨gl, 0, none⟩ = some (.int .i64 i) := blk_cell HLI.out.plank 0
    have c1 : W.cell? ⟨gp, 0, none⟩ = some (.slice (some ba) ps.length bc) := blk_cell HLI.out.parts 0
    have c2 : W.cell? ⟨w.heap.size + 1 + 1 + 1 + 1, 0, none⟩ = some (.int .i64 out.length) := blk_cell HFR.out.t4 0
    have hcs : ∀ W, Calls Tryd.prog 74 #[.agg #[.slice PA P.length pc, .slice QA Q.length qc, .map (some m)], .int .i64 i, .int .i64 p] W fun e w' => e = .returned (.func (.func 102) #[] #[.pointer (some ⟨W.heap.size, 0, none⟩), .pointer (some ⟨W.heap.size + 1, 0, none⟩), .pointer (some ⟨W.heap.size + 2, 0, none⟩)]) ∧ SpotBox PA P.length pc QA Q.length qc m i p W.heap.size w' ∧ Below W.heap.size W w' ∧ w'.heap.size = W.heap.size + 3 := fun W => calls_spots PA P.length pc QA Q.length qc m i p W
    have hol : (out.length : Int) < (ps.length : Int) := by omega
    refine wpIn_wide.2 (wp_region_noPanic ?_)
    refine start_ (n := 7) (S := fun w' => w'.cell? ⟨gb, 0, none⟩ = some (.slice PA P.length pc) ∧ w'.cell? ⟨gb, 1, none⟩ = some (.slice QA Q.length qc) ∧ w'.cell? ⟨gb, 2, none⟩ = some (.map (some m)) ∧ w'.cell? ⟨gl, 0, none⟩ = some (.int .i64 i) ∧ w'.cell? ⟨gp, 0, none⟩ = some (.slice (some ba) ps.length bc) ∧ w'.cell? ⟨w.heap.size + 1 + 1 + 1 + 1, 0, none⟩ = some (.int .i64 out.length) ∧ w'.cell? (ba.add out.length) = some (.int .i64 p)) (ds := [6]) #[false, false, false, false, false, false, false] (by kernel_rfl) rfl rfl ⟨b0, b1, b2, c0, c1, c2, hcp⟩ (fun hHeld => ?_)
    refine tk_ (i := 0) (N := some 24) (qa_ 7 1) hHeld ?_
    refine tk_ (i := 1) (N := some 25) (qa_ 7 3) hHeld ?_
    refine tk_ (i := 2) (N := some 26) (qa_ 7 7) hHeld ?_
    refine tk_ (i := 3) (N := some 27) (qa_ 7 15) hHeld ?_
    refine pu_ (i := 4) (N := some 28) (qa_ 7 31) ?_
    refine tk_ (i := 5) (N := some 29) (qa_ 7 63) hHeld ?_
    refine last_ (i := 6) (N := some 30) (qa_ 7 127) rfl rfl (by kernel_rfl) (by decide) (fun K hK => ?_)
    refine goes_ Tryd.func74 (by kernel_rfl) rfl #[.agg #[.slice PA P.length pc, .slice QA Q.length qc, .map (some m)], .int .i64 i, .int .i64 p] (by rfl) rfl rfl (by first | (simp; done) | (simp only [List.map_toArray, List.map_cons, List.map_nil]; rfl)) ?_
    with_reducible refine (hcs _).mono ?_
    rintro e w2 ⟨rfl, hT, hb3, hs3⟩
    refine ⟨_, rfl, ?_⟩
    refine hK.out _ _ ?_
    clear hK K
    refine nm_ (some 30) ?_
    refine done_ (by kernel_rfl) ?_
    refine NoPanic.normal ?_
    have hb3' : Below W.heap.size W w2 := undrew hb3
    have HT := Lib.hid (show SpotBox PA P.length pc QA Q.length qc m i p W.heap.size w2 from hT)
    have HS3 := Lib.hid (show w2.heap.size = W.heap.size + 3 from hs3)
    have HLI2 := Lib.hid (HLI.out.below hb3')
    have HFR2 := Lib.hid (HFR.out.move (CB.below hb3') (grown_belowM HFR.out.rel hb3'))
    have HVI2 := Lib.hid (HVI.out.below hb3')
    clear hT hb3 hs3 hb3' b0 b1 b2 c0 c1 c2 hcp hcs HLI HFR HVI
    gi_wp2_with fail
    have hmlt : m < w2.heap.size := HLI2.out.bk.lt
    have hinv0 : SpotInv PA pc QA qc m P Q i p W.heap.size w2 := ⟨HLI2.out.bk, HT.out⟩
    have hsz2 : w.heap.size + 5 ≤ w2.heap.size := by have h1 := HS3.out; have h2 := HK3.out; omega
    have hseq := spots_seq 2 PA pc QA qc m P Q hok i p W.heap.size hi hpl
    rw [hx, hy] at hseq
    refine rangeFunc_memo_var (n := 3) (by omega) (gf := 102) (s := 11) (enc := fun a : Nat => .int .i64 (a : Nat)) (lb := #[.pointer (some ⟨W.heap.size, 0, none⟩), .pointer (some ⟨W.heap.size + 1, 0, none⟩), .pointer (some ⟨W.heap.size + 2, 0, none⟩)]) rfl (enters_of Tryd.func102 (by kernel_rfl) rfl)
      hseq hmlt hinv0 (fun W' o h => h.below (new1 W' o).2.1) (fun W' l o o' hl hlo ho h => h.put hlo ho (by omega) o')
      (fun pre W' => (∀ b ∈ pre, fa b = none) ∧ Frame w m taken A out.length c W' ∧ LayInv PA pc QA qc m P Q i (some ba) bc ps gp gb gl gf W' ∧ VI base W' (.slice A out.length c) (ints out))
      (fun cc pre W' => cc = .ret ∧ ∃ pre0 b o v, pre = pre0 ++ [b] ∧ (∀ b ∈ pre0, fa b = none) ∧ fa b = some o ∧ W'.heap[w.heap.size + 1 + 1]? = some (.cells #[v] 31 (0, 0)) ∧ W'.heap[w.heap.size + 1 + 1 + 1]? = some (.cells #[.bool true] 4 (0, 0)) ∧ VI base W' v (ints o) ∧ Bk PA QA m P Q W' ∧ w.grownBy W' (some m))
      (fun pre A B row hs hg hr => ⟨hs.1, hs.2.1.move (CB.turn hg hr) (grown_turn hs.2.1.rel (by omega) hg hr), hs.2.2.1.move (CB.turn hg hr) (hs.2.2.1.bk.turn hmlt hg hr), hs.2.2.2.cells (CB.turn hg hr).cells⟩)
      (fun cc pre A B row hs hg hr => by
        obtain ⟨h1, pre0, b, o, v, h2, h3, h4, h5, h6, h7, h8, h9⟩ := hs
        exact ⟨h1, pre0, b, o, v, h2, h3, h4, CB.turn hg hr _ _ _ _ h5, CB.turn hg hr _ _ _ _ h6, h7.cells (CB.turn hg hr).cells, h8.turn hmlt hg hr, grown_turn h9 (by omega) hg hr⟩)
      (fun pre A B hs hg hv => ⟨hs.1, hs.2.1.move (CB.grown hs.2.2.1.bk.is hg) (grown_trans hs.2.1.rel hg), hs.2.2.1.move (CB.grown hs.2.2.1.bk.is hg) hv.1, hs.2.2.2.cells (CB.grown hs.2.2.1.bk.is hg).cells⟩)
      ⟨(fun b hb => absurd hb (by simp)), HFR2.out, HLI2.out, HVI2.out⟩ ?assign ?body ?done ?stop
    case assign =>
      intro l' b W' K hK
      simp only [List.setIfInBounds_toArray, List.set_cons_succ, List.set_cons_zero] at hK ⊢
      gi_wp2
      exact hK
    case body =>
      rintro l' pre a W' hl1 hl2 ⟨hnone, hfr, hli, hvi⟩ hinv hpre
      have ha : a ∈ spotsL y x := hpre.subset (by simp)
      have ha2 : spotB y x a = true := (List.mem_filter.1 ha).2
      have hlb : liesB y x a = true := by unfold spotB at ha2; simp only [Bool.and_eq_true] at ha2; exact ha2.1
      have hfit := hok.fits hi hpl (by rw [hx, hy]; exact hlb)
      rw [hx] at hfit
      obtain ⟨L, hL⟩ : ∃ L : Nat, x.f0 = L := ⟨x.f0.toNat, by have := hfit.one; omega⟩
      have hL2 : x.f0.toNat = L := by omega
      have hL1 : 1 ≤ L := by have := hfit.one; omega
      have haL : a + L ≤ 16 := by have := hfit.room; omega
      have hfa : fa a = (if freeB taken a L then laidFrom y Q (ps.drop (out.length + 1)) (markB taken a L) (out ++ [a]) else none) := by rw [← HFA.out, ← hL2]
      have HFAA := Lib.hid hfa; clear hfa
      obtain ⟨qa, B2, d2, rfl, e0, -, -, -, -⟩ := at_shape hli.bk.parts p hpl
      rw [hx, hL] at e0
      have HN := Lib.hid hnone; have HF := Lib.hid hfr; have HLI := Lib.hid hli; have HVI := Lib.hid hvi; have HIV := Lib.hid hinv; have HE0 := Lib.hid e0; have HPRE := Lib.hid hpre
      clear hnone hfr hli hvi hinv e0 hpre ha ha2 hlb hfit hseq hinv0
      simp only [List.setIfInBounds_toArray, List.set_cons_succ, List.set_cons_zero]
      have HNEW := Lib.hid (blk_new W' (.cells zeroI 131))
      gi_wp2_with (first | ((with_reducible refine gateR_dst (N := 32) rfl ?_); refine wpListR_load_row rfl 131 _ rfl w.heap.size rfl 131 _ _ _ HF.out.t0 Tryd.underlying131 rfl (by kernel_rfl) ?_) | ((with_reducible refine gateR_store (t := 131) (p := 12) rfl ?_); refine wpListR_store_row rfl 131 _ _ rfl W'.heap.size _ rfl rfl 131 _ HNEW.out (by kernel_rfl) rfl (rowI_one _) ?_; have q0 := setRow_heap _ W'.heap.size _ (rowI taken) 131 _ HNEW.out; have q1 := below_setRow (g := W'.heap.size) (new1 W' (.cells zeroI 131)).2.1 (Nat.le_refl _) (rowI taken); have q2 : ((W'.alloc (.cells zeroI 131)).setRow W'.heap.size (rowI taken)).heap.size = W'.heap.size + 1 := (by rw [setRow_size, World.size_alloc]); clear HNEW; (try change wpListIn _ _ _ _ _ _ _ ((W'.alloc (.cells zeroI 131)).setRow W'.heap.size (rowI taken))); generalize (W'.alloc (.cells zeroI 131)).setRow W'.heap.size (rowI taken) = W6 at q0 q1 q2 ⊢))
      have HQ0 := Lib.hid q0; have HQ1 := Lib.hid q1; have HQ2 := Lib.hid q2
      have HCB := Lib.hid (CB.below q1)
      obtain ⟨ba', hba', hcp⟩ := at_nat (C_keeps keeps_int HCB.out.cells HLI.out.list) out.length (by rw [ints_length]; omega)
      obtain rfl := Option.some.inj hba'
      rw [hrd] at hcp
      have b1 : W6.cell? ⟨gb, 1, none⟩ = some (.slice (some qa) Q.length qc) := blk_cell (HCB.out _ _ _ _ HLI.out.book) 1
      have c1 : W6.cell? ⟨gp, 0, none⟩ = some (.slice (some ba) ps.length bc) := blk_cell (HCB.out _ _ _ _ HLI.out.parts) 0
      have c2 : W6.cell? ⟨w.heap.size + 1 + 1 + 1 + 1, 0, none⟩ = some (.int .i64 out.length) := blk_cell (HCB.out _ _ _ _ HF.out.t4) 0
      have c3 := HCB.out.cells _ _ HE0.out
      have hpl2 : (p : Int) < (Q.length : Int) := by omega
      clear q0 q1 q2
      refine startR_ (by kernel_rfl) (k := 11) (S := fun w' => w'.cell? ⟨gb, 1, none⟩ = some (.slice (some qa) Q.length qc) ∧ w'.cell? ⟨gp, 0, none⟩ = some (.slice (some ba) ps.length bc) ∧ w'.cell? ⟨w.heap.size + 1 + 1 + 1 + 1, 0, none⟩ = some (.int .i64 out.length) ∧ w'.cell? (ba.add out.length) = some (.int .i64 p) ∧ w'.cell? (qa.add (p * 3)) = some (.int .i64 L)) (ds := []) #[false, false, false, false, false, false, false, false, false, false, false] (by kernel_rfl) rfl rfl ⟨b1, c1, c2, hcp, c3⟩ (fun hHeld => ?_)
      refine pu_ (i := 0) (N := some 33) (qa_ 11 1) ?_
      refine pu_ (i := 1) (N := some 34) (qa_ 11 3) ?_
      refine tk_ (i := 2) (N := some 35) (qa_ 11 7) hHeld ?_
      refine tk_ (i := 3) (N := some 36) (qa_ 11 15) hHeld ?_
      refine tk_ (i := 4) (N := some 37) (qa_ 11 31) hHeld ?_
      refine pu_ (i := 5) (N := some 38) (qa_ 11 63) ?_
      refine tk_ (i := 6) (N := some 39) (qa_ 11 127) hHeld ?_
      refine pu_ (i := 7) (N := some 40) (qa_ 11 255) ?_
      refine pu_ (i := 8) (N := some 41) (qa_ 11 511) ?_
      refine tk_ (i := 9) (N := some 42) (qa_ 11 1023) hHeld ?_
      refine pu_ (i := 10) (N := some 13) (qa_ 11 2047) ?_
      refine done_ (by kernel_rfl) ?_
      refine Plain.normal ?_
      clear b1 c1 c2 c3 hcp
      have HQ0 := Lib.hid (blk_drew HQ0.out); have HQ1 := Lib.hid (below_drew HQ1.out)
      clear HCB
      obtain ⟨W7, hW7⟩ : ∃ W7, W7 = W6.drew := ⟨_, rfl⟩
      rw [← hW7] at HQ0 HQ1 ⊢
      have hW7s : W7.heap.size = W'.heap.size + 1 := by rw [hW7]; exact HQ2.out
      clear hW7 HQ2
      -- are the inches free
      have hCt := HF.out.t0
      have hC := rowI_C (below_far hCt HQ1.out) a L haL
      have hct : ((List.range' a L).map taken).contains true = !freeB taken a L := by rw [map_contains_true]; unfold freeB; rw [Bool.not_not]
      have hll : ((List.range' a L).map taken).length = L := by simp
      have hsl : ∀ W, (Instr.sliceAt 131 (.pointer (some ⟨w.heap.size, 0, none⟩)) (some (.int .i64 (a : Int))) (some (.int .i64 ((a : Int) + (L : Int)))) none).run Tryd.prog W = .ok (.slice (some ⟨w.heap.size, a, none⟩) L (16 - a)) W := fun W => by
        have := slice_at w.heap.size a (a + L) (by omega) (by omega) (by omega) W
        rw [show a + L - a = L from by omega] at this
        exact_mod_cast this
      generalize (List.range' a L).map taken = xs at hC hct hll
      rw [← hll] at hsl
      obtain ⟨fr, hfr⟩ : ∃ fr, freeB taken a L = fr := ⟨_, rfl⟩
      rw [hfr] at hct HFAA
      have HCC := Lib.hid (calls_ContainsB (some ⟨w.heap.size, a, none⟩) (16 - a) xs true W7 hC (by omega))
      have HCT := Lib.hid hct; have HHF := Lib.hid hfr
      clear hCt hC hct hfr
      rw [hll] at hsl HCC
      cases fr with
      | false =>
        gi_wp2_with ((with_reducible refine And.intro (wide_fn _) ?_); gi_at_call 104; (with_reducible refine (CallsIn.inRound l' (callsIn_wide.2 HCC.out)).mono ?_); rintro e w3 ⟨he, hb⟩; rw [HCT.out] at he; subst he)
        have hbb := HQ1.out.trans (hb.mono (by omega))
        have hcb := CB.below hbb
        exact ⟨KeepsFrom.of_grownBy (grown_of_below hbb none) (fun j e => by cases e), HIV.out.below hbb, fun b hb => by
          rcases List.mem_append.1 hb with h | h
          · exact HN.out b h
          · obtain rfl := List.mem_singleton.1 h
            rw [HFAA.out]; rfl, HF.out.move hcb (grown_belowM HF.out.rel hbb), HLI.out.below hbb, HVI.out.below hbb⟩
      | true =>
        gi_wp2_with ((with_reducible refine And.intro (wide_fn _) ?_); gi_at_call 104; (with_reducible refine (CallsIn.inRound l' (callsIn_wide.2 HCC.out)).mono ?_); rintro e w3 ⟨he, hb⟩; rw [HCT.out] at he; subst he)
        have hbb := HQ1.out.trans (hb.mono (by omega))
        have HQ := Lib.hid (below_far HQ0.out hb)
        have HBB := Lib.hid hbb
        clear hb hbb HQ0 HQ1 HCC hsl hW7s
        gi_loopw [50] (fun v wr => ∃ k : Nat, k ≤ L ∧ v = .int .i64 k ∧ Hid (wr.heap[W'.heap.size]? = some (.cells (rowI (markB taken a k)) 131 (0, 0))) ∧ Hid (Below W'.heap.size W' wr)) (fun v _ => L - (intOf v).toNat)
        case atStart => exact ⟨0, Nat.zero_le _, rfl, Lib.hid (by rw [markB_zero]; exact HQ.out), HBB⟩
        case round =>
          clear HQ HBB
          obtain ⟨k, hk, rfl, HQ, HBB⟩ := hrel
          by_cases hlt : k < L
          · have hak : a + k < 16 := by omega
            have HNX := Lib.hid (show rowI (markB taken a (k + 1)) = (rowI (markB taken a k)).setIfInBounds (a + k) (.bool true) from markB_next taken a k hak)
            obtain ⟨q, hq⟩ : ∃ q, a + k = q := ⟨_, rfl⟩
            rw [hq] at hak HNX
            have r0 := rowI_cell HQ.out q hak
            have r1 := blk_frozen HQ.out q
            have hq2 : (a : Int) + (k : Int) = (q : Int) := by omega
            have hq3 : (q : Int) < 16 := by omega
            clear hq
            gi_wp2_with fail
            go_roundw
            case rel => exact ⟨k + 1, by omega, by go_num, Lib.hid (by rw [HNX.out]; exact blk_set HQ.out q (.bool true)), Lib.hid (HBB.out.setCell (Nat.le_refl _) _)⟩
            case measure => simp [intOf]; omega
          · obtain rfl : k = L := by omega
            gi_wp2_with fail
            obtain ⟨M, hM⟩ : ∃ M, markB taken a k = M := ⟨_, rfl⟩
            rw [hM] at HQ HFAA
            have hcb := CB.below HBB.out
            have HFN := Lib.hid (hcb _ _ _ _ HLI.out.fn); have HO1 := Lib.hid (hcb _ _ _ _ HF.out.t1); have HK4 := Lib.hid (hcb _ _ _ _ HF.out.t4)
            have hoc : out.length ≤ c := by
              obtain ⟨A', c', h1, h2, _, _⟩ := HVI.out
              injection h1 with _ _ h1
              rw [ints_length] at h2; omega
            have HOLD := Lib.hid (show ∀ b, A = some b → ∀ (j : Nat) (u : Value), ((ints out).map (Value.int .i64))[j]? = some u → (wr.drew.alloc (.cells #[.int .i64 a] 3)).cell? (b.add j) = some u from fun b hb j u hu => by
              obtain ⟨A', c', h1, h2, hC, _⟩ := HVI.out
              injection h1 with h1 _ _
              rw [← h1, hb] at hC
              have hju : j < out.length := by have := (List.getElem?_eq_some_iff.1 hu).1; simpa [ints_length] using this
              obtain ⟨ad5, e5, h5'⟩ := at_nat hC j (by rw [ints_length]; exact hju)
              obtain rfl := Option.some.inj e5
              have : u = .int .i64 (rd (ints out) j) := by
                have h7 := hu
                rw [List.getElem?_map, List.getElem?_eq_getElem (by rw [ints_length]; exact hju)] at h7
                rw [← Option.some.inj h7]
                simp [rd, hju, ints_length]
              rw [this]
              exact pw_cell_below (below_alloc (HBB.out.drew) _) h5')
            have hlen1 : (out ++ [a]).length = out.length + 1 := by simp
            have HPRE2 := Lib.hid (show ∀ (g3 cap3 : Nat) (w3 : World), w3.ownsRow (wr.drew.alloc (.cells #[.int .i64 a] 3)).heap.size 3 1 (.slice (some ⟨g3, 0, none⟩) (out.length + 1) cap3) (out.length + 1) ((ints out).map (Value.int .i64) ++ [.int .i64 a]) → (wr.drew.alloc (.cells #[.int .i64 a] 3)).grownBy w3 none →
                Calls Tryd.prog 103 #[.agg #[.bool (M 0), .bool (M 1), .bool (M 2), .bool (M 3), .bool (M 4), .bool (M 5), .bool (M 6), .bool (M 7), .bool (M 8), .bool (M 9), .bool (M 10), .bool (M 11), .bool (M 12), .bool (M 13), .bool (M 14), .bool (M 15)], .slice (some ⟨g3, 0, none⟩) (out.length + 1) cap3, .pointer (some ⟨gp, 0, none⟩), .pointer (some ⟨gb, 0, none⟩), .pointer (some ⟨gl, 0, none⟩), .pointer (some ⟨gf, 0, none⟩)] w3 fun e w4 => ∃ v b, e = .returned (.tuple #[v, .bool b]) ∧ LayTold base (fa a) v b w4 ∧ Bk PA (some qa) m P Q w4 ∧ W'.grownBy w4 (some m) ∧ CB W' w4 from fun g3 cap3 w3 hown hg3 => by
              have hbz : Below W'.heap.size W' (wr.drew.alloc (.cells #[.int .i64 a] 3)) := below_alloc HBB.out.drew _
              have hb3 : Below W'.heap.size W' w3 := hbz.grown hg3 (below_size hbz) (fun k e => by cases e)
              have hvi3 : VI base w3 (.slice (some ⟨g3, 0, none⟩) (out.length + 1) cap3) (ints (out ++ [a])) := by
                refine VI.of_own (n := out.length + 1) (b := (wr.drew.alloc (.cells #[.int .i64 a] 3)).heap.size) ?_ (by rw [ints_length, hlen1]) (Nat.le_trans (Nat.le_trans HBASE.out (by have := HF.out.rel.size; exact this)) (below_size hbz))
                rw [ints_append, List.map_append]
                exact hown
              have hc := IH.out (out ++ [a]) (by rw [hlen1]; omega) M (some ⟨g3, 0, none⟩) cap3 w3 (HLI.out.below hb3) (fun e => by cases e) (by rw [hlen1]; exact hvi3) (Nat.le_trans HBASE.out (Nat.le_trans HF.out.rel.size (below_size hb3)))
              rw [hlen1] at hc
              refine hc.mono fun e w4 h => ?_
              obtain ⟨h1, h2, h3⟩ := h
              have hcb4 : CB W' w4 := fun g cs t fr h => blk_grownM (below_far h hb3) (HLI.out.below hb3).bk.is h2
              have hr4 : W'.grownBy w4 (some m) := grown_trans (grown_of_below hb3 _) h2
              have hfe : fa a = laidFrom y Q (ps.drop (out.length + 1)) M (out ++ [a]) := by rw [HFAA.out]; rfl
              rw [hfe]
              obtain ⟨v, b, he, hb⟩ := LayPost.told h3
              exact ⟨v, b, he, hb, h1, hr4, hcb4⟩)
            have HHM := Lib.hid hM
            obtain ⟨i0, hinf, hz0, hz1, hz2⟩ := info_parts infoInt
            have hfn0 := Tryd.func103
            have hfc : ∀ W : World, W.heap[gf]? = some (.cells #[.func (.func 103) #[] #[.pointer (some ⟨gp, 0, none⟩), .pointer (some ⟨gb, 0, none⟩), .pointer (some ⟨gl, 0, none⟩), .pointer (some ⟨gf, 0, none⟩)]] 129 (0, 0)) → W.cell? ⟨gf, 0, none⟩ = some (.func (.func 103) #[] #[.pointer (some ⟨gp, 0, none⟩), .pointer (some ⟨gb, 0, none⟩), .pointer (some ⟨gl, 0, none⟩), .pointer (some ⟨gf, 0, none⟩)]) := fun W h => blk_cell h 0
            have hoc1 : ∀ W : World, W.heap[w.heap.size + 1]? = some (.cells #[.slice A out.length c] 31 (0, 0)) → W.cell? ⟨w.heap.size + 1, 0, none⟩ = some (.slice A out.length c) := fun W h => blk_cell h 0
            have hkc1 : ∀ W : World, W.heap[w.heap.size + 1 + 1 + 1 + 1]? = some (.cells #[.int .i64 out.length] 3 (0, 0)) → W.cell? ⟨w.heap.size + 1 + 1 + 1 + 1, 0, none⟩ = some (.int .i64 out.length) := fun W h => blk_cell h 0
            have hm0 := fun (W : World) (h : W.heap[W'.heap.size]? = some (.cells (rowI M) 131 (0, 0))) => rowI_cell h 0 (by decide)
            have hm1 := fun (W : World) (h : W.heap[W'.heap.size]? = some (.cells (rowI M) 131 (0, 0))) => rowI_cell h 1 (by decide)
            have hm2 := fun (W : World) (h : W.heap[W'.heap.size]? = some (.cells (rowI M) 131 (0, 0))) => rowI_cell h 2 (by decide)
            have hm3 := fun (W : World) (h : W.heap[W'.heap.size]? = some (.cells (rowI M) 131 (0, 0))) => rowI_cell h 3 (by decide)
            have hm4 := fun (W : World) (h : W.heap[W'.heap.size]? = some (.cells (rowI M) 131 (0, 0))) => rowI_cell h 4 (by decide)
            have hm5 := fun (W : World) (h : W.heap[W'.heap.size]? = some (.cells (rowI M) 131 (0, 0))) => rowI_cell h 5 (by decide)
            have hm6 := fun (W : World) (h : W.heap[W'.heap.size]? = some (.cells (rowI M) 131 (0, 0))) => rowI_cell h 6 (by decide)
            have hm7 := fun (W : World) (h : W.heap[W'.heap.size]? = some (.cells (rowI M) 131 (0, 0))) => rowI_cell h 7 (by decide)
            have hm8 := fun (W : World) (h : W.heap[W'.heap.size]? = some (.cells (rowI M) 131 (0, 0))) => rowI_cell h 8 (by decide)
            have hm9 := fun (W : World) (h : W.heap[W'.heap.size]? = some (.cells (rowI M) 131 (0, 0))) => rowI_cell h 9 (by decide)
            have hm10 := fun (W : World) (h : W.heap[W'.heap.size]? = some (.cells (rowI M) 131 (0, 0))) => rowI_cell h 10 (by decide)
            have hm11 := fun (W : World) (h : W.heap[W'.heap.size]? = some (.cells (rowI M) 131 (0, 0))) => rowI_cell h 11 (by decide)
            have hm12 := fun (W : World) (h : W.heap[W'.heap.size]? = some (.cells (rowI M) 131 (0, 0))) => rowI_cell h 12 (by decide)
            have hm13 := fun (W : World) (h : W.heap[W'.heap.size]? = some (.cells (rowI M) 131 (0, 0))) => rowI_cell h 13 (by decide)
            have hm14 := fun (W : World) (h : W.heap[W'.heap.size]? = some (.cells (rowI M) 131 (0, 0))) => rowI_cell h 14 (by decide)
            have hm15 := fun (W : World) (h : W.heap[W'.heap.size]? = some (.cells (rowI M) 131 (0, 0))) => rowI_cell h 15 (by decide)
            clear hM hcb
            refine startR_ (by kernel_rfl) (k := 15) (S := fun w' => w'.heap[gf]? = some (.cells #[.func (.func 103) #[] #[.pointer (some ⟨gp, 0, none⟩), .pointer (some ⟨gb, 0, none⟩), .pointer (some ⟨gl, 0, none⟩), .pointer (some ⟨gf, 0, none⟩)]] 129 (0, 0)) ∧ w'.heap[W'.heap.size]? = some (.cells (rowI M) 131 (0, 0)) ∧ w'.heap[w.heap.size + 1]? = some (.cells #[.slice A out.length c] 31 (0, 0)) ∧ w'.heap[w.heap.size + 1 + 1 + 1 + 1]? = some (.cells #[.int .i64 out.length] 3 (0, 0))) (ds := [9]) #[false, false, false, false, false, false, false, false, false, false, false, false, false, false, false] (by kernel_rfl) rfl rfl ⟨HFN.out, HQ.out, HO1.out, HK4.out⟩ (fun hHeld => ?_)
            refine pu_ (i := 6) (N := some 65) (qa_ 15 64) ?_
            refine tk_ (i := 0) (N := some 59) (qa_ 15 65) hHeld ?_
            refine tk_ (i := 1) (N := some 60) (qa_ 15 67) hHeld ?_
            refine tk_ (i := 2) (N := some 61) (qa_ 15 71) hHeld ?_
            refine tk_ (i := 3) (N := some 62) (qa_ 15 79) hHeld ?_
            refine tk_ (i := 4) (N := some 63) (qa_ 15 95) hHeld ?_
            refine pu_ (i := 5) (N := some 64) (qa_ 15 127) ?_
            refine on_ (i := 7) (N := some 66) (qa_ 15 255) (fun K hK => ?_)
            refine value_ (w1 := ?_) (v := ?_) (by rfl) rfl ?_ ?_
            rotate_left 2
            · go_simp
              constructor
              · rfl
              · rfl
            refine hK.out _ _ ⟨blk_alloc (w := wr.drew) HFN.out _, blk_alloc (w := wr.drew) HQ.out _, blk_alloc (w := wr.drew) HO1.out _, blk_alloc (w := wr.drew) HK4.out _⟩ (fun hHeld => ?_)
            clear hK K
            refine nm_ (some 66) ?_
            refine on_ (i := 8) (N := some 67) (qa_ 15 511) (fun K hK => ?_)
            refine step_append_grows rfl (.tmp 64) (.tmp 66) 31 rfl 3 i0 (.int .i64 0) 1 8 Tryd.underlying31 hinf hz0 hz1 hz2 rfl (by decide) A out.length out.length ((ints out).map (Value.int .i64)) (by rfl) (fun e => ⟨HAN.out e, HAN.out e⟩) (by simp [ints_length]) HOLD.out ⟨wr.drew.heap.size, 0, none⟩ 1 1 [.int .i64 a] (by rfl) rfl (cell_one_new _ _ _) (by simp [Value.oneCell']) (by omega) (by simp [maxLen]; omega) (by omega) ?_
            intro v3 w3 hown hg3
            obtain ⟨g3, cap3, rfl⟩ := ownsRow_succ hown
            refine hK.out _ _ ⟨blk_grown (blk_alloc (w := wr.drew) HFN.out _) hg3 (by simp), blk_grown (blk_alloc (w := wr.drew) HQ.out _) hg3 (by simp), blk_grown (blk_alloc (w := wr.drew) HO1.out _) hg3 (by simp), blk_grown (blk_alloc (w := wr.drew) HK4.out _) hg3 (by simp)⟩ (fun hHeld => ?_)
            clear hK K
            refine nm_ (some 67) ?_
            refine last_ (i := 9) (N := some 68) (qa_ 15 1023) rfl rfl (by kernel_rfl) (by decide) (fun K hK => ?_)
            have hpre := HPRE2.out g3 cap3 w3 hown hg3
            refine goesV_ hfn0 (by kernel_rfl) rfl #[.agg #[.bool (M 0), .bool (M 1), .bool (M 2), .bool (M 3), .bool (M 4), .bool (M 5), .bool (M 6), .bool (M 7), .bool (M 8), .bool (M 9), .bool (M 10), .bool (M 11), .bool (M 12), .bool (M 13), .bool (M 14), .bool (M 15)], .slice (some ⟨g3, 0, none⟩) (out.length + 1) cap3, .pointer (some ⟨gp, 0, none⟩), .pointer (some ⟨gb, 0, none⟩), .pointer (some ⟨gl, 0, none⟩), .pointer (some ⟨gf, 0, none⟩)] (by rfl) rfl rfl rfl (by (try simp only [Array.empty_append, Array.append_empty, List.map_toArray, List.map_cons, List.map_nil, List.append_toArray, List.nil_append, List.append_nil, List.cons_append]); rfl) ?_
            with_reducible refine (hpre).mono ?_
            rintro e w4 ⟨v4, b4, rfl, hlt4, hbk4, hgr4, hcb4⟩
            refine ⟨_, rfl, ?_⟩
            refine hK.out _ _ ?_
            clear hK K
            refine nm_ (some 68) ?_
            refine pu_ (i := 10) (N := some 58) (qa_ 15 2047) ?_
            refine pu_ (i := 11) (N := some 69) (qa_ 15 4095) ?_
            refine pu_ (i := 12) (N := some 70) (qa_ 15 8191) ?_
            refine pu_ (i := 13) (N := some 15) (qa_ 15 16383) ?_
            refine pu_ (i := 14) (N := some 16) (qa_ 15 32767) ?_
            refine done_ (by kernel_rfl) ?_
            refine Plain.normal ?_
            clear hHeld hfc hoc1 hkc1 hfn0 hown hg3 hinf hz0 hz1 hz2 hpre hm0 hm1 hm2 hm3 hm4 hm5 hm6 hm7 hm8 hm9 hm10 hm11 hm12 hm13 hm14 hm15
            have hfal : ∃ r, fa a = r := ⟨_, rfl⟩
            obtain ⟨r, hr⟩ := hfal
            rw [hr] at hlt4
            have HB4 := Lib.hid hbk4; have HG4 := Lib.hid hgr4; have HC4 := Lib.hid hcb4; have HR4 := Lib.hid hr
            clear hbk4 hgr4 hcb4 hr
            cases r with
            | some o =>
              obtain ⟨rfl, hv4⟩ := hlt4
              obtain ⟨A4, c4, rfl, hl4, hC4, hb4⟩ := hv4
              have HV4 := Lib.hid (show VI base w4 (.slice A4 (ints o).length c4) (ints o) from ⟨A4, c4, rfl, hl4, hC4, hb4⟩)
              clear hC4 hb4
              have HT2 := Lib.hid (HC4.out _ _ _ _ HF.out.t2); have HT3 := Lib.hid (HC4.out _ _ _ _ HF.out.t3)
              have s0 := blk_cell HT2.out 0; have s1 := blk_frozen HT2.out 0; have s2 := blk_cell HT3.out 0; have s3 := blk_frozen HT3.out 0
              gi_wp2_with fail
              have hset := (KeepsOthers.setCell w4 ⟨w.heap.size + 1 + 1, 0, none⟩ (.slice A4 (ints o).length c4)).trans (KeepsOthers.setCell _ ⟨w.heap.size + 1 + 1 + 1, 0, none⟩ (.bool true))
              have hgf := grown_set (grown_set (grown_trans HF.out.rel HG4.out) ⟨w.heap.size + 1 + 1, 0, none⟩ (.slice A4 (ints o).length c4) (by show w.heap.size ≤ w.heap.size + 1 + 1; omega)) ⟨w.heap.size + 1 + 1 + 1, 0, none⟩ (.bool true) (by show w.heap.size ≤ w.heap.size + 1 + 1 + 1; omega)
              have hv5 : VI base ((w4.setCell ⟨w.heap.size + 1 + 1, 0, none⟩ (.slice A4 (ints o).length c4)).setCell ⟨w.heap.size + 1 + 1 + 1, 0, none⟩ (.bool true)) (.slice A4 (ints o).length c4) (ints o) :=
                (HV4.out.set (fun n e => by rw [s0] at e; cases e) _).set (fun n e => by rw [World.cell?_setCell_other _ _ _ _ (fun h => by injection h with h _ _; omega), s2] at e; cases e) _
              refine ⟨(KeepsFrom.of_grownBy HG4.out (fun j e => by cases e; omega)).trans (hset.from _), rfl, pre, a, o, _, rfl, HN.out, HR4.out, blk_far (blk_set HT2.out 0 _) (by show w.heap.size + 1 + 1 ≠ w.heap.size + 1 + 1 + 1; omega) _, ?_, hv5, HBW0.out.back hgf ?_, hgf⟩
              · exact blk_set (blk_far HT3.out (by show w.heap.size + 1 + 1 + 1 ≠ w.heap.size + 1 + 1; omega) _) 0 _
              · obtain ⟨f, hf, hm⟩ := HB4.out.map
                exact ⟨f, (hf.set _ _ (by show m ≠ w.heap.size + 1 + 1; omega)).set _ _ (by show m ≠ w.heap.size + 1 + 1 + 1; omega), hm⟩
            | none =>
              obtain ⟨rfl, rfl⟩ := hlt4
              gi_wp2_with fail
              exact ⟨KeepsFrom.of_grownBy HG4.out (fun j e => by cases e; omega), HIV.out.of HC4.out HB4.out, fun b hb => by
                rcases List.mem_append.1 hb with h | h
                · exact HN.out b h
                · obtain rfl := List.mem_singleton.1 h
                  exact HR4.out, HF.out.move HC4.out (grown_trans HF.out.rel HG4.out), HLI.out.move HC4.out HB4.out, HVI.out.cells HC4.out.cells⟩
    case done =>
      rintro D W' hD ⟨hnone, hfr, hli, hvi⟩ hinv hK
      have hres : (spotsL y x).findSome? fa = none := by rw [List.findSome?_eq_none_iff]; exact hnone
      have HF := Lib.hid hfr; have HLI := Lib.hid hli; have HK := Lib.hid hK; have HRES := Lib.hid hres
      clear hnone hfr hli hvi hinv hK hseq hinv0 hres
      have s0 := blk_cell HF.out.t2 0; have s1 := blk_frozen HF.out.t2 0; have s2 := blk_cell HF.out.t3 0; have s3 := blk_frozen HF.out.t3 0
      gi_wp2_with fail
      have hK2 := ((KeepsOthers.setCell W' ⟨w.heap.size + 1 + 1, 0, none⟩ (.slice none 0 0)).trans (KeepsOthers.setCell _ ⟨w.heap.size + 1 + 1 + 1, 0, none⟩ (.bool false))).same D _ HK.out rfl
      have hC2 := blk_far (blk_set HF.out.t2 0 (.slice none 0 0)) (p := ⟨w.heap.size + 1 + 1 + 1, 0, none⟩) (by show w.heap.size + 1 + 1 ≠ w.heap.size + 1 + 1 + 1; omega) (.bool false)
      have hC3 := blk_set (blk_far HF.out.t3 (p := ⟨w.heap.size + 1 + 1, 0, none⟩) (by show w.heap.size + 1 + 1 + 1 ≠ w.heap.size + 1 + 1; omega) (.slice none 0 0)) 0 (.bool false)
      have hgf := grown_set (grown_set HF.out.rel ⟨w.heap.size + 1 + 1, 0, none⟩ (.slice none 0 0) (by show w.heap.size ≤ w.heap.size + 1 + 1; omega)) ⟨w.heap.size + 1 + 1 + 1, 0, none⟩ (.bool false) (by show w.heap.size ≤ w.heap.size + 1 + 1 + 1; omega)
      have hbk : Bk PA QA m P Q ((W'.setCell ⟨w.heap.size + 1 + 1, 0, none⟩ (.slice none 0 0)).setCell ⟨w.heap.size + 1 + 1 + 1, 0, none⟩ (.bool false)) := HBW0.out.back hgf (by
        obtain ⟨f, hf, hm⟩ := HLI.out.bk.map
        exact ⟨f, (hf.set _ _ (by show m ≠ w.heap.size + 1 + 1; omega)).set _ _ (by show m ≠ w.heap.size + 1 + 1 + 1; omega), hm⟩)
      generalize (W'.setCell ⟨w.heap.size + 1 + 1, 0, none⟩ (.slice none 0 0)).setCell ⟨w.heap.size + 1 + 1 + 1, 0, none⟩ (.bool false) = W5 at hK2 hC2 hC3 hgf hbk ⊢
      have hgt := grownBy_putObj' W5 D (.deferred none)
      have hrt : ∀ r, some D = some r → w2.heap.size ≤ r ∧ ∃ o : Obj, W5.heap[r]? = some o ∧ o.isCells = false := fun r e => by cases e; exact ⟨hD, _, hK2, rfl⟩
      refine ⟨by simp, .inl ⟨_, _, rfl, run_takeDeferred hK2, ?_⟩⟩
      refine ⟨_, results_cell_two rfl (v := .slice none 0 0) (z := .bool false) rfl rfl (blk_cell (turn_cells hC2 hgt hrt) 0) (blk_cell (turn_cells hC3 hgt hrt) 0) Tryd.underlying31 rfl Tryd.underlying4 rfl, hbk.turn hmlt hgt hrt, grown_turn hgf (by omega) hgt hrt, ?_⟩
      rw [HRES.out]
      rfl
    case stop =>
      rintro D cc pre W' hD hpre ⟨rfl, pre0, b, o, v, rfl, hnone, hsome, hv, hb, hvi, hbk, hrel⟩ hK
      have hres : (spotsL y x).findSome? fa = some o := by
        obtain ⟨tl, htl⟩ := hpre
        rw [← htl, List.append_assoc, List.findSome?_append, (List.findSome?_eq_none_iff.2 hnone), Option.none_or]
        simp [hsome]
      gi_wp2_with fail
      have hgt := grownBy_putObj' W' D (.deferred none)
      have hrt : ∀ r, some D = some r → w2.heap.size ≤ r ∧ ∃ o : Obj, W'.heap[r]? = some o ∧ o.isCells = false := fun r e => by cases e; exact ⟨hD, _, hK, rfl⟩
      refine ⟨by simp, .inl ⟨_, _, rfl, run_takeDeferred hK, ?_⟩⟩
      refine ⟨_, results_cell_two rfl (v := v) (z := .bool true) rfl rfl (blk_cell (turn_cells hv hgt hrt) 0) (blk_cell (turn_cells hb hgt hrt) 0) Tryd.underlying31 rfl Tryd.underlying4 rfl, hbk.turn hmlt hgt hrt, grown_turn hrel (by omega) hgt hrt, ?_⟩
      rw [hres]
      exact ⟨v, rfl, hvi.cells (CB.turn hgt hrt).cells⟩
theorem calls_lay (PA : Option Addr) (pc : Nat) (QA : Option Addr) (qc m : Nat) (P : List S48) (Q : List S50) (hok : Ok P Q) (i : Nat) (hi : i < P.length) (BA : Option Addr) (bc : Nat) (ps : List Nat) (hps : ∀ p ∈ ps, p < Q.length) (h5 : ps.length ≤ 5) (gp gb gl gf base : Nat) : ∀ d, LaySaid PA pc QA qc m P Q i BA bc ps gp gb gl gf base d
  | 0 => lay_zero PA pc QA qc m P Q hok i hi BA bc ps hps h5 gp gb gl gf base
  | d + 1 => lay_step PA pc QA qc m P Q hok i hi BA bc ps hps h5 gp gb gl gf base d (calls_lay PA pc QA qc m P Q hok i hi BA bc ps hps h5 gp gb gl gf base d)
def laidB (y : S48) (Q : List S50) (ps : List Nat) : Option (List Nat) := laidFrom y Q ps (fun _ => false) []
set_option maxRecDepth 100000 in
set_option maxHeartbeats 1000000 in
theorem calls_laid (PA : Option Addr) (pc : Nat) (QA : Option Addr) (qc m : Nat) (P : List S48) (Q : List S50) (hok : Ok P Q) (i : Nat) (hi : i < P.length) (BA : Option Addr) (bc : Nat) (ps : List Nat) (hps : ∀ p ∈ ps, p < Q.length) (h5 : ps.length ≤ 5) (w : World) (hB : Bk PA QA m P Q w) (hC : Kd.C (Kd.int .i64) w BA (ints ps).length (ints ps)) :
    Calls Tryd.prog 76 #[.agg #[.slice PA P.length pc, .slice QA Q.length qc, .map (some m)], .int .i64 i, .slice BA ps.length bc] w fun e w' =>
      Bk PA QA m P Q w' ∧ w.grownBy w' (some m) ∧ LayPost w.heap.size (laidB (P.getD i z48) Q ps) e w' := by
  obtain ⟨n0, n1, n2, n3, n4⟩ := new3 w (.cells #[.slice PA P.length pc, .slice QA Q.length qc, .map (some m)] 84) (.cells #[.int .i64 i] 3) (.cells #[.slice BA ps.length bc] 31)
  obtain ⟨k0, k1, k2⟩ := new1 (((w.alloc (.cells #[.slice PA P.length pc, .slice QA Q.length qc, .map (some m)] 84)).alloc (.cells #[.int .i64 i] 3)).alloc (.cells #[.slice BA ps.length bc] 31)) (.cells #[.func (.func 103) #[] #[.pointer (some ⟨w.heap.size + 1 + 1, 0, none⟩), .pointer (some ⟨w.heap.size, 0, none⟩), .pointer (some ⟨w.heap.size + 1, 0, none⟩), .pointer (some ⟨w.heap.size + 1 + 1 + 1, 0, none⟩)]] 129)
  rw [n4] at k0 k2
  have hbw := n3.trans (k1.mono (by rw [n4]; omega))
  have HLI := Lib.hid (LayInv.mk (PA := PA) (pc := pc) (QA := QA) (qc := qc) (m := m) (P := P) (Q := Q) (i := i) (BA := BA) (bc := bc) (ps := ps) (hB.below hbw) (Kd.C_below hC hbw) (below_far n2 k1) (below_far n0 k1) (below_far n1 k1) k0)
  have HBW := Lib.hid hbw; have HK2 := Lib.hid k2
  clear n0 n1 n2 n3 n4 k0 k1 k2 hbw hB hC
  go_enter Tryd.func76, Tryd.ntmps76
  go_wp2_with fail
  generalize (((w.alloc (.cells #[.slice PA P.length pc, .slice QA Q.length qc, .map (some m)] 84)).alloc (.cells #[.int .i64 i] 3)).alloc (.cells #[.slice BA ps.length bc] 31)).alloc (.cells #[.func (.func 103) #[] #[.pointer (some ⟨w.heap.size + 1 + 1, 0, none⟩), .pointer (some ⟨w.heap.size, 0, none⟩), .pointer (some ⟨w.heap.size + 1, 0, none⟩), .pointer (some ⟨w.heap.size + 1 + 1 + 1, 0, none⟩)]] 129) = W at HLI HBW HK2 ⊢
  have HFN := Lib.hid HLI.out.fn
  have hfn0 := Tryd.func103
  have hfc : ∀ W' : World, W'.heap[w.heap.size + 1 + 1 + 1]? = some (.cells #[.func (.func 103) #[] #[.pointer (some ⟨w.heap.size + 1 + 1, 0, none⟩), .pointer (some ⟨w.heap.size, 0, none⟩), .pointer (some ⟨w.heap.size + 1, 0, none⟩), .pointer (some ⟨w.heap.size + 1 + 1 + 1, 0, none⟩)]] 129 (0, 0)) → W'.cell? ⟨w.heap.size + 1 + 1 + 1, 0, none⟩ = some (.func (.func 103) #[] #[.pointer (some ⟨w.heap.size + 1 + 1, 0, none⟩), .pointer (some ⟨w.heap.size, 0, none⟩), .pointer (some ⟨w.heap.size + 1, 0, none⟩), .pointer (some ⟨w.heap.size + 1 + 1 + 1, 0, none⟩)]) := fun W' h => blk_cell h 0
  have HCALL := Lib.hid (show ∀ W3 : World, Below W.heap.size W W3 → Calls Tryd.prog 103 #[.agg (rowI fun _ => false), .slice none 0 0, .pointer (some ⟨w.heap.size + 1 + 1, 0, none⟩), .pointer (some ⟨w.heap.size, 0, none⟩), .pointer (some ⟨w.heap.size + 1, 0, none⟩), .pointer (some ⟨w.heap.size + 1 + 1 + 1, 0, none⟩)] W3 fun e w' => ∃ v b, e = .returned (.tuple #[v, .bool b]) ∧ LayTold w.heap.size (laidB (P.getD i z48) Q ps) v b w' ∧ Bk PA QA m P Q w' ∧ w.grownBy w' (some m) from fun W3 hb => by
    have hb3 : Below w.heap.size w W3 := HBW.out.trans (hb.mono (below_size HBW.out))
    have h := calls_lay PA pc QA qc m P Q hok i hi BA bc ps hps h5 (w.heap.size + 1 + 1) w.heap.size (w.heap.size + 1) (w.heap.size + 1 + 1 + 1) w.heap.size ps.length [] (by simp) (fun _ => false) none 0 W3 (HLI.out.below hb) (fun _ => rfl) (VI.nil _ _) (below_size hb3)
    refine h.mono fun e w' hh => ?_
    obtain ⟨h1, h2, h3⟩ := hh
    obtain ⟨v, b, he, hb⟩ := LayPost.told h3
    exact ⟨v, b, he, hb, h1, grown_trans (grown_of_below hb3 _) h2⟩)
  refine start_ (n := 7) (S := fun w' => w'.heap[w.heap.size + 1 + 1 + 1]? = some (.cells #[.func (.func 103) #[] #[.pointer (some ⟨w.heap.size + 1 + 1, 0, none⟩), .pointer (some ⟨w.heap.size, 0, none⟩), .pointer (some ⟨w.heap.size + 1, 0, none⟩), .pointer (some ⟨w.heap.size + 1 + 1 + 1, 0, none⟩)]] 129 (0, 0))) (ds := [2]) #[false, false, false, false, false, false, false] (by kernel_rfl) rfl rfl (HFN.out) (fun hHeld => ?_)
  refine tk_ (i := 0) (N := some 10) (qa_ 7 1) hHeld ?_
  refine on_ (i := 1) (N := some 11) (qa_ 7 3) (fun K hK => ?_)
  refine goes_ Tryd.func105 (by kernel_rfl) rfl #[] (by rfl) rfl rfl (by first | (simp; done) | (simp only [List.map_toArray, List.map_cons, List.map_nil]; rfl)) ?_
  with_reducible refine (calls_none _).mono ?_
  rintro e w5 ⟨rfl, hb5⟩
  have hb6 : Below W.heap.size W w5 := undrew hb5
  refine ⟨_, rfl, ?_⟩
  refine hK.out _ _ (below_far HFN.out hb6) (fun hHeld => ?_)
  clear hK K
  refine nm_ (some 11) ?_
  refine last_ (i := 2) (N := some 12) (qa_ 7 7) rfl rfl (by kernel_rfl) (by decide) (fun K hK => ?_)
  refine goesV_ hfn0 (by kernel_rfl) rfl #[.agg (rowI fun _ => false), .slice none 0 0, .pointer (some ⟨w.heap.size + 1 + 1, 0, none⟩), .pointer (some ⟨w.heap.size, 0, none⟩), .pointer (some ⟨w.heap.size + 1, 0, none⟩), .pointer (some ⟨w.heap.size + 1 + 1 + 1, 0, none⟩)] (by rfl) rfl rfl rfl (by (try simp only [Array.empty_append, Array.append_empty, List.map_toArray, List.map_cons, List.map_nil, List.append_toArray, List.nil_append, List.append_nil, List.cons_append]); rfl) ?_
  with_reducible refine (HCALL.out _ hb6).mono ?_
  rintro e w6 ⟨v7, b7, rfl, hl7, hb7, hg7⟩
  refine ⟨_, rfl, ?_⟩
  refine hK.out _ _ ?_
  clear hK K
  refine nm_ (some 12) ?_
  refine pu_ (i := 3) (N := some 13) (qa_ 7 15) ?_
  refine pu_ (i := 4) (N := some 14) (qa_ 7 31) ?_
  refine pu_ (i := 5) (N := some 6) (qa_ 7 63) ?_
  refine pu_ (i := 6) (N := some 7) (qa_ 7 127) ?_
  refine done_ (by kernel_rfl) ?_
  clear hHeld hfc hfn0
  go_wp2_with fail
  refine bodyPost_ret (results_tmp2 rfl _ _ _) rfl ⟨hb7, hg7, ?_⟩
  change LayPost w.heap.size (laidB (P.getD i z48) Q ps) (.returned (.tuple #[v7, .bool b7])) w6
  exact LayTold.post hl7
theorem VI.of_R {base : Nat} {W : World} {ok : Nat → Prop} {v : Value} {xs : List Int} (h : (Kd.int .i64).R 3 W base ok v xs) : VI base W v xs := by
  obtain ⟨A, c, rfl, h2, h3⟩ := Kd.R_reads h
  refine ⟨A, c, rfl, h2, h3, fun ad e => ?_⟩
  subst e
  exact Kd.R_base h ad.block rfl
def bitB (s k : Nat) : Bool := s / 2 ^ k % 2 == 1
def setL (s : Nat) : List Nat := (List.range 5).filter (bitB s)
theorem bits_next_yes {s k : Nat} (h : bitB s k = true) : (List.range (k + 1)).filter (bitB s) = (List.range k).filter (bitB s) ++ [k] := by
  rw [List.range_succ, List.filter_append]; simp [h]
theorem bits_next_no {s k : Nat} (h : bitB s k = false) : (List.range (k + 1)).filter (bitB s) = (List.range k).filter (bitB s) := by
  rw [List.range_succ, List.filter_append]; simp [h]
theorem bits_all : ∀ s : Fin 32, ∀ n : Fin 6, s.val / 2 ^ n.val = 0 → (List.range n.val).filter (bitB s.val) = setL s.val := by decide +kernel
theorem bits_len (s n : Nat) : ((List.range n).filter (bitB s)).length ≤ n := by
  have := List.length_filter_le (bitB s) (List.range n)
  rwa [List.length_range] at this
theorem pow5 (s n : Nat) (hs : s < 32) (hn : 5 ≤ n) : s / 2 ^ n = 0 := by
  refine Nat.div_eq_of_lt (Nat.lt_of_lt_of_le hs ?_)
  exact Nat.pow_le_pow_right (n := 2) (by omega) hn
set_option maxRecDepth 100000 in
set_option maxHeartbeats 1000000 in
theorem calls_listed (s : Nat) (hs : s < 32) (w : World) : Calls Tryd.prog 86 #[.int .i64 s] w fun e w' => ∃ v, e = .returned v ∧ VI w.heap.size w' v (ints (setL s)) ∧ Below w.heap.size w w' := by
  go_enter Tryd.func86, Tryd.ntmps86
  go_wp2_with fail
  go_loopw [3, 4] (fun v3 v wr => ∃ n : Nat, n ≤ 5 ∧ v = .int .i64 n ∧ Hid (Kd.R (Kd.int .i64) 3 wr w.heap.size (fun _ => True) v3 (ints ((List.range n).filter (bitB s)))) ∧ Hid (Below w.heap.size w wr)) (fun _ v _ => 5 - (intOf v).toNat)
  case atStart => exact ⟨0, by omega, rfl, Lib.hid (Kd.R_nil _ _ _ _ _), Lib.hid (Below.refl _ _)⟩
  case round =>
    obtain ⟨n, hn, rfl, HL, HB⟩ := hrel
    obtain ⟨A2, c2, rfl, _, _⟩ := Kd.R_reads HL.out
    obtain ⟨q, hq⟩ : ∃ q, s / 2 ^ n = q := ⟨_, rfl⟩
    have hqi : (s : Int) / 2 ^ n = (q : Int) := by rw [← hq]; simp
    by_cases h0 : q = 0
    · subst h0
      have hall := bits_all ⟨s, hs⟩ ⟨n, by omega⟩ hq
      simp only at hall
      rw [hall] at HL ⊢
      go_wp2_with fail
      go_ret
      exact ⟨_, rfl, VI.of_R HL.out, HB.out⟩
    · have hn5 : n < 5 := by
        by_cases h : n < 5
        · exact h
        · exact absurd (hq.symm.trans (pow5 s n hs (by omega))) h0
      have hq0 : (0 : Int) < (q : Int) := by omega
      have hbit := bit_at s n (by omega)
      rw [hqi] at hbit
      cases hbb : bitB s n with
      | true =>
        have hbb2 : (s / 2 ^ n % 2 == 1) = true := hbb
        rw [hbb2] at hbit
        go_wp2_with ((with_reducible refine gate_builtin (b := .append) (xs := #[.tmp 16, .tmp 18]) rfl ?_); at_builtin; refine Kd.R_append (Kd.int .i64) (w0 := w) w.heap.size rfl (.tmp 16) (.tmp 18) 31 3 (.int .i64 0) 8 rfl Tryd.underlying31 infoInt rfl (by decide) (by omega) _ (ints ((List.range n).filter (bitB s))) (n : Int) [.int .i64 n] (fun _ => True) (fun _ => False) rfl rfl ?aP (fun _ hk => hk.elim) ?aF ?aO ?aB ?aS ?aL ?_; (case aP => exact rfl); (case aF => exact (fun _ _ => trivial)); (case aO => exact HL.out); (case aB => exact HB.out); (case aS => exact below_size HB.out); (case aL => rw [ints_length]; have := bits_len s n; omega); intro v2 w3 ho hb2 hg2 hat)
        obtain ⟨A3, c3, rfl, _, _⟩ := Kd.R_reads ho
        go_roundw
        case rel => exact ⟨n + 1, by omega, by go_num, by rw [bits_next_yes hbb, ints_append]; exact Lib.hid ho, Lib.hid hb2⟩
        case measure => simp [intOf]; omega
      | false =>
        have hbb2 : (s / 2 ^ n % 2 == 1) = false := hbb
        rw [hbb2] at hbit
        go_wp2_with fail
        go_roundw
        case rel => exact ⟨n + 1, by omega, by go_num, by rw [bits_next_no hbb]; exact HL, HB⟩
        case measure => simp [intOf]; omega
def cutB (P : List S48) (Q : List S50) : List Nat → Nat → Bool
  | [], s => s == 0
  | p :: l, s => s == 0 || (List.range (s + 1)).any fun t => (t &&& s == t) && ((laidB (P.getD p z48) Q (setL t)).isSome && cutB P Q l (s - t))
theorem fin_not : ∀ s t : Fin 32, (t.val &&& s.val) = t.val → Go.bits .andNot .i64 (s.val : Int) (t.val : Int) = ((s.val - t.val : Nat) : Int) ∧ s.val - t.val < 32 := by decide +kernel
theorem fin_and : ∀ s t : Fin 32, t.val ≠ 0 → Go.bits .and .i64 ((t.val : Int) - 1) (s.val : Int) = (((t.val - 1) &&& s.val : Nat) : Int) := by decide +kernel
theorem fin_next : ∀ s t u : Fin 32, t.val ≠ 0 → (t.val &&& s.val) = t.val → (u.val &&& s.val) = u.val → u.val < t.val → u.val ≤ ((t.val - 1) &&& s.val) := by decide +kernel
theorem any_none {f : Nat → Bool} {s : Nat} (h : ∀ u, 0 < u → u ≤ s → f u = false) (h0 : f 0 = false) : (List.range (s + 1)).any f = false := by
  rw [List.any_eq_false]
  intro u hu
  have hu2 := List.mem_range.1 hu
  by_cases e : u = 0
  · subst e; rw [h0]; simp
  · rw [h u (by omega) (by omega)]; simp
theorem any_yes {f : Nat → Bool} {s t : Nat} (h : t ≤ s) (h0 : f t = true) : (List.range (s + 1)).any f = true :=
  List.any_eq_true.2 ⟨t, List.mem_range.2 (by omega), h0⟩
theorem next_no {f g : Nat → Bool} {s t : Nat} (hs : s < 32) (ht : t < 32) (hts : (t &&& s) = t) (h0 : t ≠ 0) (hf : (fun u => (u &&& s == u) && g u) = f) (h : ∀ u, t < u → u ≤ s → f u = false) (h1 : f t = false) : ∀ u, ((t - 1) &&& s) < u → u ≤ s → f u = false := by
  intro u hu1 hu2
  rcases Nat.lt_trichotomy u t with e | e | e
  · by_cases hus : (u &&& s) = u
    · have := fin_next ⟨s, hs⟩ ⟨t, ht⟩ ⟨u, by omega⟩ h0 hts hus e
      simp only at this
      omega
    · rw [← hf]; simp [hus]
  · subst e; exact h1
  · exact h u e hu2
theorem and_and (s t : Nat) : ((t &&& s) &&& s) = t &&& s := by rw [Nat.and_assoc, Nat.and_self]
theorem set_lt {Q : List S50} {s : Nat} (h : s < 2 ^ Q.length) (h5 : Q.length ≤ 5) : s < 32 := Nat.lt_of_lt_of_le h (Nat.pow_le_pow_right (n := 2) (by omega) h5)
theorem setL_lt {q s p : Nat} (h : s < 2 ^ q) (hp : p ∈ setL s) : p < q := by
  have h1 := (List.mem_filter.1 hp).2
  unfold bitB at h1
  by_cases e : p < q
  · exact e
  · have : s / 2 ^ p = 0 := Nat.div_eq_of_lt (Nat.lt_of_lt_of_le h (Nat.pow_le_pow_right (n := 2) (by omega) (by omega)))
    rw [this] at h1
    simp at h1
theorem setL_len (s : Nat) : (setL s).length ≤ 5 := bits_len s 5
set_option maxRecDepth 100000 in
theorem slice_tail (ad : Addr) (n c : Nat) (hc : n + 1 ≤ c) : ∃ A1 c1, (∀ W, (Instr.sliceAt 31 (.slice (some ad) (n + 1) c) (some (.int .i64 1)) none none).run Tryd.prog W = .ok (.slice A1 n c1) W) ∧
    (∀ (W : World) (x : Int) (xs : List Int), xs.length = n → Kd.C (Kd.int .i64) W (some ad) (x :: xs).length (x :: xs) → Kd.C (Kd.int .i64) W A1 xs.length xs) ∧ n ≤ c1 := by
  have hu : Tryd.prog.underlying 31 = some (.slice (Tryd.prog.elem 31)) := by kernel_rfl
  have he : Tryd.prog.elem 31 = 3 := by kernel_rfl
  obtain ⟨i0, hi0⟩ : ∃ i, Tryd.prog.info? 3 = some i := ⟨_, rfl⟩
  have hs : ∀ W, (sizeOf 3).run Tryd.prog W = .ok 1 W := fun W => by rw [run_sizeOf W hi0, show Tryd.prog.cellsOf 3 = 1 from by kernel_rfl]
  refine ⟨if c = 1 then some ad else (some ad : Option Addr).map (·.add (1 * 1)), c - 1, fun W => ?_, fun W x xs hl hC => ?_, by omega⟩
  · rw [run_sliceAt_slice W 31 _ _ _ _ hu, run_slice_l W 31 (some ad) (n + 1) c hu .i64 1 (by omega) (by omega), he, hs]
    simp only [Result.andThen_ok, sliced]
    rfl
  · have h := Kd.C_drop (m := 1) (c := c) hC (by simp) (by simp; omega)
    exact h
set_option maxRecDepth 100000 in
set_option maxHeartbeats 2000000 in
theorem calls_cut (PA : Option Addr) (pc : Nat) (QA : Option Addr) (qc m : Nat) (P : List S48) (Q : List S50) (hok : Ok P Q) : ∀ (l : List Nat) (hl : ∀ p ∈ l, p < P.length) (s : Nat) (hs : s < 2 ^ Q.length) (A : Option Addr) (c : Nat) (w : World) (hB : Bk PA QA m P Q w) (hC : Kd.C (Kd.int .i64) w A (ints l).length (ints l)) (hc : l.length ≤ c),
    Calls Tryd.prog 84 #[.agg #[.slice PA P.length pc, .slice QA Q.length qc, .map (some m)], .int .i64 s, .slice A l.length c] w fun e w' => e = .returned (.bool (cutB P Q l s)) ∧ Bk PA QA m P Q w' ∧ w.grownBy w' (some m)
  | [], hl, s, hs, A, c, w, hB, hC, hc => by
    obtain ⟨n0, n1, n2⟩ := new1 w (.cells #[.slice PA P.length pc, .slice QA Q.length qc, .map (some m)] 84)
    have h32 := set_lt hs hok.q5
    have HB := Lib.hid (hB.below n1); have HW := Lib.hid n1
    clear hB n0 n1 n2 hC
    by_cases h0 : s = 0
    · subst h0
      go_enter Tryd.func84, Tryd.ntmps84
      go_wp2_with fail
      go_ret
      exact ⟨rfl, HB.out, grown_of_below HW.out _⟩
    · have h1 : ((s : Int) == 0) = false := by simp; omega
      have h2 : (s == 0) = false := by simpa using h0
      rw [show ([] : List Nat).length = 0 from rfl]
      go_enter Tryd.func84, Tryd.ntmps84
      go_wp2_with fail
      go_ret
      exact ⟨by unfold cutB; rw [h2]; rfl, HB.out, grown_of_below HW.out _⟩
  | p :: l, hl, s, hs, A, c, w, hB, hC, hc => by
    obtain ⟨n0, n1, n2⟩ := new1 w (.cells #[.slice PA P.length pc, .slice QA Q.length qc, .map (some m)] 84)
    have h32 := set_lt hs hok.q5
    have HB := Lib.hid (hB.below n1); have HW := Lib.hid n1; have HX := Lib.hid n0
    have hmw := hB.lt
    have HBW := Lib.hid hB; have HC := Lib.hid hC
    clear hB n0 n1 n2 hC
    by_cases h0 : s = 0
    · subst h0
      go_enter Tryd.func84, Tryd.ntmps84
      go_wp2_with fail
      go_ret
      exact ⟨by unfold cutB; rfl, HB.out, grown_of_below HW.out _⟩
    · have h1 : ((s : Int) == 0) = false := by simp; omega
      have h2 : (s == 0) = false := by simpa using h0
      have h3 : (((p :: l).length : Int) == 0) = false := by simp; omega
      obtain ⟨ad, rfl, -⟩ := at_nat HC.out 0 (by rw [ints_length]; simp)
      obtain ⟨A1, c1, hsl, hC1, hle1⟩ := slice_tail ad l.length c (by simpa using hc)
      have HC1 := Lib.hid hC1; clear hC1
      have ih := fun s hs A c w hB hC hc => calls_cut PA pc QA qc m P Q hok l (fun q hq => hl q (List.mem_cons_of_mem _ hq)) s hs A c w hB hC hc
      have IH := Lib.hid ih; clear ih
      obtain ⟨f, hf⟩ : ∃ f : Nat → Bool, (fun t => (t &&& s == t) && ((laidB (P.getD p z48) Q (setL t)).isSome && cutB P Q l (s - t))) = f := ⟨_, rfl⟩
      have hcut : cutB P Q (p :: l) s = (List.range (s + 1)).any f := by rw [← hf]; conv => lhs; unfold cutB; rw [h2, Bool.false_or]
      rw [hcut]
      have HF := Lib.hid hf; clear hf hcut
      go_enter Tryd.func84, Tryd.ntmps84
      go_wp2_with fail
      have h4 : ((l.length : Int) + 1 == 0) = false := by simp; omega
      rw [h4]
      go_loopw [7, 8, 9] (fun v7 v8 v9 wr => ∃ t : Nat, v7 = .int .i64 t ∧ (t &&& s) = t ∧ (∀ u, t < u → u ≤ s → f u = false) ∧ Hid (Bk PA QA m P Q wr) ∧ Hid (wr.heap[w.heap.size]? = some (.cells #[.slice PA P.length pc, .slice QA Q.length qc, .map (some m)] 84 (0, 0))) ∧ Hid (w.grownBy wr (some m))) (fun v7 _ _ _ => (intOf v7).toNat)
      case atStart => exact ⟨s, rfl, Nat.and_self s, (fun u h1 h2 => absurd h2 (by omega)), HB, HX, Lib.hid (grown_of_below HW.out _)⟩
      case round =>
        clear HB HW HX
        obtain ⟨t, rfl, hts, hno, HBT, HXT, HGT⟩ := hrel
        have htl : t ≤ s := by rw [← hts]; exact Nat.and_le_right
        have ht32 : t < 32 := by omega
        have hnot : Go.bits .andNot .i64 (s : Int) (t : Int) = ((s - t : Nat) : Int) := (fin_not ⟨s, h32⟩ ⟨t, ht32⟩ hts).1
        have hs2 : s - t < 2 ^ Q.length := Nat.lt_of_le_of_lt (Nat.sub_le _ _) hs
        have hpl : p < P.length := hl p (by simp)
        have HFT := Lib.hid (show f t = ((laidB (P.getD p z48) Q (setL t)).isSome && cutB P Q l (s - t)) from by rw [← HF.out]; simp [hts])
        obtain ⟨r, hr⟩ : ∃ r, (laidB (P.getD p z48) Q (setL t)).isSome = r := ⟨_, rfl⟩
        rw [hr] at HFT
        have HLD := Lib.hid (show ∀ (w5 : World) (A5 : Option Addr) (c5 : Nat), Below wr.heap.size wr w5 → Kd.C (Kd.int .i64) w5 A5 (ints (setL t)).length (ints (setL t)) → Calls Tryd.prog 76 #[.agg #[.slice PA P.length pc, .slice QA Q.length qc, .map (some m)], .int .i64 p, .slice A5 (ints (setL t)).length c5] w5 fun e w6 => ∃ v, e = .returned (.tuple #[v, .bool r]) ∧ Bk PA QA m P Q w6 ∧ wr.grownBy w6 (some m) from fun w5 A5 c5 hb hC => by
          have h := calls_laid PA pc QA qc m P Q hok p hpl A5 c5 (setL t) (fun q hq => setL_lt (Nat.lt_of_le_of_lt htl hs) hq) (setL_len t) w5 (HBT.out.below hb) hC
          rw [ints_length]
          refine h.mono fun e w6 hh => ?_
          obtain ⟨h1, h2, h3⟩ := hh
          obtain ⟨v, b, he, hb2⟩ := LayPost.told h3
          refine ⟨v, ?_, h1, grown_trans (grown_of_below hb _) h2⟩
          rw [he]
          have : b = r := by
            rw [← hr]
            unfold LayTold at hb2
            cases hq : laidB (P.getD p z48) Q (setL t) with
            | some o => rw [hq] at hb2; exact hb2.1
            | none => rw [hq] at hb2; exact hb2.1
          rw [this])
        clear hr
        obtain ⟨b0, b1, b2⟩ : wr.cell? ⟨w.heap.size, 0, none⟩ = some (.slice PA P.length pc) ∧ wr.cell? ⟨w.heap.size, 1, none⟩ = some (.slice QA Q.length qc) ∧ wr.cell? ⟨w.heap.size, 2, none⟩ = some (.map (some m)) := ⟨blk_cell HXT.out 0, blk_cell HXT.out 1, blk_cell HXT.out 2⟩
        obtain ⟨ad', had', hcp⟩ := at_nat (C_keeps keeps_int (grown_cells HBW.out.is HGT.out) HC.out) 0 (by rw [ints_length]; simp)
        obtain rfl := Option.some.inj had'
        rw [show rd (ints (p :: l)) ((0 : Nat) : Int) = (p : Int) from rfl, show ad.add 0 = ad from if_pos rfl] at hcp
        go_wp2_with fail
        refine start_ (n := 12) (S := fun w' => w'.cell? ⟨w.heap.size, 0, none⟩ = some (.slice PA P.length pc) ∧ w'.cell? ⟨w.heap.size, 1, none⟩ = some (.slice QA Q.length qc) ∧ w'.cell? ⟨w.heap.size, 2, none⟩ = some (.map (some m)) ∧ w'.cell? ad = some (.int .i64 p)) (ds := [6]) #[false, false, false, false, false, false, false, false, false, false, false, false] (by kernel_rfl) rfl rfl ⟨b0, b1, b2, hcp⟩ (fun hHeld => ?_)
        refine pu_ (i := 1) (N := some 22) (qa_ 12 2) ?_
        refine pu_ (i := 2) (N := some 23) (qa_ 12 6) ?_
        refine pu_ (i := 4) (N := some 25) (qa_ 12 22) ?_
        refine tk_ (i := 0) (N := some 21) (qa_ 12 23) hHeld ?_
        refine tk_ (i := 3) (N := some 24) (qa_ 12 31) hHeld ?_
        refine on_ (i := 5) (N := some 26) (qa_ 12 63) (fun K hK => ?_)
        refine goes_ Tryd.func86 (by kernel_rfl) rfl #[.int .i64 t] (by rfl) rfl rfl (by first | (simp; done) | (simp only [List.map_toArray, List.map_cons, List.map_nil]; rfl)) ?_
        with_reducible refine (calls_listed t ht32 _).mono ?_
        rintro e w5 ⟨v5, rfl, hvi5, hb5⟩
        have hb6 : Below wr.heap.size wr w5 := undrew hb5
        obtain ⟨A5, c5, rfl, hl5, hC5, -⟩ := hvi5
        refine ⟨_, rfl, ?_⟩
        refine hK.out _ _ ⟨pw_cell_below hb6 b0, pw_cell_below hb6 b1, pw_cell_below hb6 b2, pw_cell_below hb6 hcp⟩ (fun hHeld => ?_)
        clear hK K
        refine nm_ (some 26) ?_
        refine last_ (i := 6) (N := some 27) (qa_ 12 127) rfl rfl (by kernel_rfl) (by decide) (fun K hK => ?_)
        refine goes_ Tryd.func76 (by kernel_rfl) rfl #[.agg #[.slice PA P.length pc, .slice QA Q.length qc, .map (some m)], .int .i64 p, .slice A5 (ints (setL t)).length c5] (by rfl) rfl rfl (by first | (simp; done) | (simp only [List.map_toArray, List.map_cons, List.map_nil]; rfl)) ?_
        with_reducible refine (HLD.out _ _ _ hb6 hC5).mono ?_
        rintro e w6 ⟨v7, rfl, hbk6, hg6⟩
        refine ⟨_, rfl, ?_⟩
        refine hK.out _ _ ?_
        clear hK K
        refine nm_ (some 27) ?_
        refine pu_ (i := 7) (N := some 20) (qa_ 12 255) ?_
        refine pu_ (i := 8) (N := some 28) (qa_ 12 511) ?_
        refine pu_ (i := 9) (N := some 29) (qa_ 12 1023) ?_
        refine pu_ (i := 10) (N := some 8) (qa_ 12 2047) ?_
        refine pu_ (i := 11) (N := some 9) (qa_ 12 4095) ?_
        refine done_ (by kernel_rfl) ?_
        clear hHeld b0 b1 b2 hcp had' HLD hb5 hb6 hC5 hl5
        have HB6 := Lib.hid hbk6
        have HX6 := Lib.hid (blk_grownM HXT.out HBT.out.is hg6)
        have HG6 := Lib.hid (grown_trans HGT.out hg6)
        clear hbk6 hg6 HBT HXT HGT
        go_wp2_with fail
        cases r with
        | false =>
          refine start_ (n := 10) (S := fun w' => True) (ds := []) #[false, false, false, false, false, false, false, false, false, false] (by kernel_rfl) rfl rfl trivial (fun hHeld => ?_)
          refine pu_ (i := 0) (N := some 30) (qa_ 10 1) ?_
          refine pu_ (i := 1) (N := some 31) (qa_ 10 3) ?_
          refine pn_ (i := 2) (N := some 32) (qa_ 10 7) ?_
          refine pn_ (i := 3) (N := some 33) (qa_ 10 15) ?_
          refine pn_ (i := 4) (N := some 34) (qa_ 10 31) ?_
          refine pn_ (i := 5) (N := some 35) (qa_ 10 63) ?_
          refine pn_ (i := 6) (N := some 36) (qa_ 10 127) ?_
          refine pn_ (i := 7) (N := some 37) (qa_ 10 255) ?_
          refine pn_ (i := 8) (N := some 38) (qa_ 10 511) ?_
          refine pu_ (i := 9) (N := some 39) (qa_ 10 1023) ?_
          refine done_ (by kernel_rfl) ?_
          have hd : Below w6.heap.size w6 w6.drew := below_drew (Below.refl _ _)
          have HBD := Lib.hid (HB6.out.below hd)
          have HXD := Lib.hid (below_far HX6.out hd)
          have HGD := Lib.hid (grown_belowM HG6.out hd)
          clear hd
          by_cases ht0 : t = 0
          · subst ht0
            go_wp2_with fail
            go_ret
            exact ⟨by rw [any_none hno (by rw [HFT.out]; rfl)]; rfl, HBD.out, HGD.out⟩
          · have hand : Go.bits .and .i64 ((t : Int) - 1) (s : Int) = (((t - 1) &&& s : Nat) : Int) := fin_and ⟨s, h32⟩ ⟨t, ht32⟩ ht0
            have hne : ((t : Int) == 0) = false := by simp; omega
            have hnx := next_no h32 ht32 hts ht0 HF.out hno (by rw [HFT.out]; rfl)
            go_wp2_with fail
            go_roundw
            case rel => exact ⟨(t - 1) &&& s, rfl, and_and _ _, hnx, HBD, HXD, HGD⟩
            case measure =>
              have := Nat.and_le_left (n := t - 1) (m := s)
              simp [intOf]
              omega
        | true =>
          obtain ⟨b0, b1, b2⟩ : w6.cell? ⟨w.heap.size, 0, none⟩ = some (.slice PA P.length pc) ∧ w6.cell? ⟨w.heap.size, 1, none⟩ = some (.slice QA Q.length qc) ∧ w6.cell? ⟨w.heap.size, 2, none⟩ = some (.map (some m)) := ⟨blk_cell HX6.out 0, blk_cell HX6.out 1, blk_cell HX6.out 2⟩
          have HCL := Lib.hid (show Calls Tryd.prog 84 #[.agg #[.slice PA P.length pc, .slice QA Q.length qc, .map (some m)], .int .i64 (s - t : Nat), .slice A1 l.length c1] w6.drew fun e w' => e = .returned (.bool (cutB P Q l (s - t))) ∧ Bk PA QA m P Q w' ∧ w6.grownBy w' (some m) from by
            have hd : Below w6.heap.size w6 w6.drew := below_drew (Below.refl _ _)
            have h := IH.out (s - t) hs2 A1 c1 w6.drew (HB6.out.below hd) (by have := HC1.out w6.drew p (ints l) (ints_length l) (Kd.C_below (C_keeps keeps_int (grown_cells HBW.out.is HG6.out) HC.out) hd); exact this) hle1
            refine h.mono fun e w' hh => ?_
            obtain ⟨h1, h2, h3⟩ := hh
            exact ⟨h1, h2, grown_trans (grown_of_below hd _) h3⟩)
          refine start_ (n := 10) (S := fun w' => w'.cell? ⟨w.heap.size, 0, none⟩ = some (.slice PA P.length pc) ∧ w'.cell? ⟨w.heap.size, 1, none⟩ = some (.slice QA Q.length qc) ∧ w'.cell? ⟨w.heap.size, 2, none⟩ = some (.map (some m))) (ds := [8]) #[false, false, false, false, false, false, false, false, false, false] (by kernel_rfl) rfl rfl ⟨b0, b1, b2⟩ (fun hHeld => ?_)
          refine pu_ (i := 0) (N := some 30) (qa_ 10 1) ?_
          refine pu_ (i := 1) (N := some 31) (qa_ 10 3) ?_
          refine pu_ (i := 3) (N := some 33) (qa_ 10 11) ?_
          refine pu_ (i := 4) (N := some 34) (qa_ 10 27) ?_
          refine pu_ (i := 5) (N := some 35) (qa_ 10 59) ?_
          refine pu_ (i := 6) (N := some 36) (qa_ 10 123) ?_
          refine pu_ (i := 7) (N := some 37) (qa_ 10 251) ?_
          refine tk_ (i := 2) (N := some 32) (qa_ 10 255) hHeld ?_
          refine last_ (i := 8) (N := some 38) (qa_ 10 511) rfl rfl (by kernel_rfl) (by decide) (fun K hK => ?_)
          refine goes_ Tryd.func84 (by kernel_rfl) rfl #[.agg #[.slice PA P.length pc, .slice QA Q.length qc, .map (some m)], .int .i64 (s - t : Nat), .slice A1 l.length c1] (by rfl) rfl rfl (by first | (simp; done) | (simp only [List.map_toArray, List.map_cons, List.map_nil]; rfl)) ?_
          with_reducible refine (HCL.out).mono ?_
          rintro e w8 ⟨rfl, hbk8, hg8⟩
          refine ⟨_, rfl, ?_⟩
          refine hK.out _ _ ?_
          clear hK K
          refine nm_ (some 38) ?_
          refine pu_ (i := 9) (N := some 39) (qa_ 10 1023) ?_
          refine done_ (by kernel_rfl) ?_
          have HBD := Lib.hid hbk8
          have HXD := Lib.hid (blk_grownM HX6.out HB6.out.is hg8)
          have HGD := Lib.hid (grown_trans HG6.out hg8)
          clear hbk8 hg8 hHeld b0 b1 b2 HCL
          obtain ⟨q, hq⟩ : ∃ q, cutB P Q l (s - t) = q := ⟨_, rfl⟩
          rw [hq] at HFT ⊢
          cases q with
          | true =>
            go_wp2_with fail
            go_ret
            exact ⟨by rw [any_yes htl (by rw [HFT.out]; rfl)]; rfl, HBD.out, HGD.out⟩
          | false =>
            by_cases ht0 : t = 0
            · subst ht0
              go_wp2_with fail
              go_ret
              exact ⟨by rw [any_none hno (by rw [HFT.out]; rfl)]; rfl, HBD.out, HGD.out⟩
            · have hand : Go.bits .and .i64 ((t : Int) - 1) (s : Int) = (((t - 1) &&& s : Nat) : Int) := fin_and ⟨s, h32⟩ ⟨t, ht32⟩ ht0
              have hne : ((t : Int) == 0) = false := by simp; omega
              have hnx := next_no h32 ht32 hts ht0 HF.out hno (by rw [HFT.out]; rfl)
              go_wp2_with fail
              go_roundw
              case rel => exact ⟨(t - 1) &&& s, rfl, and_and _ _, hnx, HBD, HXD, HGD⟩
              case measure =>
                have := Nat.and_le_left (n := t - 1) (m := s)
                simp [intOf]
                omega
def knotB (L : Int) (s : S60) : Bool := decide (0 ≤ s.f0) && (decide (s.f0 ≤ s.f1) && (decide (s.f1 < L) && decide (s.f1 - s.f0 ≤ 6)))
def woodB (y : S48) : Bool := (decide (1 ≤ y.f0) && decide (y.f0 ≤ 16)) && (decide (y.f1.length ≤ 3) && y.f1.all (knotB y.f0))
def ascB (L : Int) : Int → List Int → Bool
  | _, [] => true
  | last, n :: l => (decide (last + 1 ≤ n) && decide (n ≤ L - 1)) && ascB L n l
def shapeB (x : S50) : Bool := (decide (1 ≤ x.f0) && decide (x.f0 ≤ 12)) && (decide (x.f1.length ≤ 3) && ascB x.f0 (-1) x.f1)
def validB (P : List S48) (Q : List S50) : Bool :=
  ((decide (1 ≤ P.length) && decide (P.length ≤ 3)) && (decide (1 ≤ Q.length) && decide (Q.length ≤ 5))) && (P.all woodB && Q.all shapeB)
theorem isWood_l0 (L : Int) (l : List S60) (hl : l.length < 9223372036854775808) : ∀ (d j : Nat) (ok : Bool), j + d = l.length → (ok = true → L ≤ 16) →
    Evt (fun k => plank_isWood.l0 k ok l (l.length : Int) (j : Int) L l) (ok && (l.drop j).all (knotB L))
  | 0, j, ok, hj, _ => by
    refine Evt.succ ?_
    simp only [plank_isWood.l0]
    rw [List.drop_eq_nil_of_le (by omega), List.all_nil, Bool.and_true]
    exact Evt.neg (by omega) (Evt.pure _)
  | d + 1, j, ok, hj, hL => by
    have h1 : l.drop j = l[j] :: l.drop (j + 1) := List.drop_eq_getElem_cons (by omega)
    have hg : rd_T60 l (j : Int) = l[j] := by simp [rd_T60, show j < l.length by omega]
    refine Evt.succ ?_
    simp only [plank_isWood.l0]
    refine Evt.pos (by omega) (Evt.pos (by omega) (Evt.pos (by omega) ?_))
    rw [hg, w64 j (by omega), h1, List.all_cons]
    have ih := fun ok h => isWood_l0 L l hl d (j + 1) ok (by omega) h
    cases ok with
    | false =>
      refine Evt.neg (by simp) ?_
      rw [Bool.false_and]
      exact (ih false (fun e => by cases e)).of_eq (Bool.false_and _)
    | true =>
      have hL := hL rfl
      refine Evt.pos rfl ?_
      rw [Bool.true_and]
      generalize l[j] = s at *
      refine Evt.bind (v := decide (0 ≤ s.f0) && decide (s.f0 ≤ s.f1)) (Evt.const (on_f _ _ _)) ?_
      rw [show knotB L s = (decide (0 ≤ s.f0) && (decide (s.f0 ≤ s.f1) && (decide (s.f1 < L) && decide (s.f1 - s.f0 ≤ 6)))) from rfl]
      by_cases h0 : 0 ≤ s.f0
      · by_cases h2 : s.f0 ≤ s.f1
        · refine Evt.pos (by simp [h0, h2]) ?_
          by_cases h3 : s.f1 < L
          · refine Evt.pos h3 ?_
            rw [show wrap64 (s.f1 - s.f0) = s.f1 - s.f0 from by unfold wrap64; omega]
            refine (ih _ (fun _ => hL)).of_eq ?_
            simp [h0, h2, h3]
          · refine Evt.neg h3 ((ih _ (fun e => by cases e)).of_eq ?_)
            simp [h3]
        · refine Evt.neg (by simp [h2]) ((ih _ (fun e => by cases e)).of_eq ?_)
          simp [h2]
      · refine Evt.neg (by simp [h0]) ((ih _ (fun e => by cases e)).of_eq ?_)
        simp [h0]
theorem isWood_f (y : S48) (hl : y.f1.length < 9223372036854775808) : Evt (fun k => plank_isWood.f k y.f0 y.f1) (woodB y) := by
  unfold plank_isWood.f
  refine Evt.bind (f := fun _ => plank_on.f y.f0 1 16) (Evt.const (on_f _ _ _)) ?_
  have h := fun ok h => isWood_l0 y.f0 y.f1 hl y.f1.length 0 ok (by omega) h
  unfold woodB
  by_cases h1 : (decide (1 ≤ y.f0) && decide (y.f0 ≤ 16)) = true
  · refine Evt.pos h1 (Evt.succ ?_)
    simp only [plank_isWood.j0]
    rw [h1]
    simp only [Bool.and_eq_true, decide_eq_true_eq] at h1
    refine (h _ (fun _ => h1.2)).of_eq ?_
    rw [List.drop_zero, Bool.true_and]
    congr 1
    simp
    omega
  · refine Evt.neg h1 (Evt.succ ?_)
    simp only [plank_isWood.j0]
    refine (h _ (fun e => by cases e)).of_eq ?_
    rw [Bool.false_and, show (decide (1 ≤ y.f0) && decide (y.f0 ≤ 16)) = false from by simpa using h1, Bool.false_and]
theorem mx_eq (a b : Int) (h : a ≤ b) : mx a b = b := by unfold mx; omega
theorem isShape_l0 (L : Int) (l : List Int) (t : Bool) (hl : l.length < 9223372036854775808) : ∀ (d j : Nat) (ok : Bool) (last : Int), j + d = l.length → (ok = true → 1 ≤ L ∧ L ≤ 12 ∧ -1 ≤ last ∧ last < L) →
    Evt (fun k => plank_isShape.l0 k ok last l (l.length : Int) (j : Int) L l t) (ok && ascB L last (l.drop j))
  | 0, j, ok, last, hj, _ => by
    refine Evt.succ ?_
    simp only [plank_isShape.l0]
    rw [List.drop_eq_nil_of_le (by omega)]
    unfold ascB
    rw [Bool.and_true]
    exact Evt.neg (by omega) (Evt.pure _)
  | d + 1, j, ok, last, hj, hL => by
    have h1 : l.drop j = l[j] :: l.drop (j + 1) := List.drop_eq_getElem_cons (by omega)
    have hg : rd l (j : Int) = l[j] := by simp [rd, show j < l.length by omega]
    refine Evt.succ ?_
    simp only [plank_isShape.l0]
    refine Evt.pos (by omega) (Evt.pos (by omega) (Evt.pos (by omega) ?_))
    rw [hg, w64 j (by omega), h1]
    have ih := fun ok last h => isShape_l0 L l t hl d (j + 1) ok last (by omega) h
    cases ok with
    | false =>
      refine Evt.neg (by simp) ?_
      exact (ih false _ (fun e => by cases e)).of_eq (by rw [Bool.false_and, Bool.false_and])
    | true =>
      obtain ⟨b1, b2, b3, b4⟩ := hL rfl
      refine Evt.pos rfl ?_
      rw [Bool.true_and]
      generalize l[j] = n at *
      rw [show wrap64 (last + 1) = last + 1 from by unfold wrap64; omega, show wrap64 (L - 1) = L - 1 from by unfold wrap64; omega]
      refine Evt.bind (f := fun _ => plank_on.f n (last + 1) (L - 1)) (Evt.const (on_f _ _ _)) ?_
      by_cases h2 : (decide (last + 1 ≤ n) && decide (n ≤ L - 1)) = true
      · have h3 := h2
        simp only [Bool.and_eq_true, decide_eq_true_eq] at h3
        rw [mx_eq last n (by omega)]
        refine (ih _ _ (fun _ => ⟨b1, b2, by omega, by omega⟩)).of_eq ?_
        conv => rhs; unfold ascB
      · have h3 : (decide (last + 1 ≤ n) && decide (n ≤ L - 1)) = false := by simpa using h2
        rw [h3]
        refine (ih _ _ (fun e => by cases e)).of_eq ?_
        conv => rhs; unfold ascB
        rw [h3, Bool.false_and, Bool.false_and]
theorem isShape_f (x : S50) (hl : x.f1.length < 9223372036854775808) : Evt (fun k => plank_isShape.f k x.f0 x.f1 x.f2) (shapeB x) := by
  unfold plank_isShape.f
  refine Evt.bind (f := fun _ => plank_on.f x.f0 1 12) (Evt.const (on_f _ _ _)) ?_
  have h := fun ok h => isShape_l0 x.f0 x.f1 x.f2 hl x.f1.length 0 ok (-1) (by omega) h
  unfold shapeB
  by_cases h1 : (decide (1 ≤ x.f0) && decide (x.f0 ≤ 12)) = true
  · refine Evt.pos h1 (Evt.succ ?_)
    simp only [plank_isShape.j0]
    rw [h1]
    simp only [Bool.and_eq_true, decide_eq_true_eq] at h1
    refine (h _ (fun _ => ⟨h1.1, h1.2, by omega, by omega⟩)).of_eq ?_
    rw [List.drop_zero, Bool.true_and]
    congr 1
    simp
    omega
  · refine Evt.neg h1 (Evt.succ ?_)
    simp only [plank_isShape.j0]
    refine (h _ (fun e => by cases e)).of_eq ?_
    rw [Bool.false_and, show (decide (1 ≤ x.f0) && decide (x.f0 ≤ 12)) = false from by simpa using h1, Bool.false_and]
theorem Check_l1 (Q : List S50) (hq : Q.length < 9223372036854775808) (hQ : ∀ x ∈ Q, x.f1.length < 9223372036854775808) : ∀ (d j : Nat) (ok : Bool), j + d = Q.length →
    Evt (fun k => plank_Check.l1 k ok Q (Q.length : Int) (j : Int)) (if ok && (Q.drop j).all shapeB then 0 else 10)
  | 0, j, ok, hj => by
    refine Evt.succ ?_
    simp only [plank_Check.l1]
    rw [List.drop_eq_nil_of_le (by omega), List.all_nil, Bool.and_true]
    refine Evt.neg (by omega) ?_
    cases ok
    · exact Evt.pure _
    · exact Evt.pure _
  | d + 1, j, ok, hj => by
    have h1 : Q.drop j = Q[j] :: Q.drop (j + 1) := List.drop_eq_getElem_cons (by omega)
    have hg : rd_T50 Q (j : Int) = Q[j] := by simp [rd_T50, show j < Q.length by omega]
    have hm : Q[j].f1.length < 9223372036854775808 := hQ _ (List.getElem_mem (by omega))
    refine Evt.succ ?_
    simp only [plank_Check.l1]
    refine Evt.pos (by omega) (Evt.pos (by omega) (Evt.pos (by omega) ?_))
    rw [hg, w64 j (by omega), h1, List.all_cons]
    have ih := fun ok => Check_l1 Q hq hQ d (j + 1) ok (by omega)
    cases ok with
    | false => exact Evt.neg (by simp) ((ih false).of_eq (by rw [Bool.false_and, Bool.false_and]))
    | true =>
      refine Evt.pos rfl ?_
      rw [Bool.true_and]
      exact Evt.bind (isShape_f _ hm) (ih _)
theorem Check_l0 (P : List S48) (Q : List S50) (hp : P.length < 9223372036854775808) (hP : ∀ y ∈ P, y.f1.length < 9223372036854775808) (hq : Q.length < 9223372036854775808) (hQ : ∀ x ∈ Q, x.f1.length < 9223372036854775808) : ∀ (d j : Nat) (ok : Bool), j + d = P.length →
    Evt (fun k => plank_Check.l0 k ok P (P.length : Int) (j : Int) P Q) (if ok && ((P.drop j).all woodB && Q.all shapeB) then 0 else 10)
  | 0, j, ok, hj => by
    refine Evt.succ ?_
    simp only [plank_Check.l0]
    rw [List.drop_eq_nil_of_le (by omega), List.all_nil, Bool.true_and]
    refine Evt.neg (by omega) ?_
    have h := Check_l1 Q hq hQ Q.length 0 ok (by omega)
    rwa [List.drop_zero] at h
  | d + 1, j, ok, hj => by
    have h1 : P.drop j = P[j] :: P.drop (j + 1) := List.drop_eq_getElem_cons (by omega)
    have hg : rd_T48 P (j : Int) = P[j] := by simp [rd_T48, show j < P.length by omega]
    have hm : P[j].f1.length < 9223372036854775808 := hP _ (List.getElem_mem (by omega))
    refine Evt.succ ?_
    simp only [plank_Check.l0]
    refine Evt.pos (by omega) (Evt.pos (by omega) (Evt.pos (by omega) ?_))
    rw [hg, w64 j (by omega), h1, List.all_cons]
    have ih := fun ok => Check_l0 P Q hp hP hq hQ d (j + 1) ok (by omega)
    cases ok with
    | false => exact Evt.neg (by simp) ((ih false).of_eq (by rw [Bool.false_and, Bool.false_and]))
    | true =>
      refine Evt.pos rfl ?_
      rw [Bool.true_and, Bool.and_assoc]
      exact Evt.bind (isWood_f _ hm) (ih _)
def checkP (P : List S48) (Q : List S50) : Int := if validB P Q then 0 else 10
theorem Check_f (P : List S48) (Q : List S50) (hp : P.length < 9223372036854775808) (hP : ∀ y ∈ P, y.f1.length < 9223372036854775808) (hq : Q.length < 9223372036854775808) (hQ : ∀ x ∈ Q, x.f1.length < 9223372036854775808) :
    Evt (fun k => plank_Check.f k P Q) (checkP P Q) := by
  unfold plank_Check.f checkP validB
  refine Evt.bind (f := fun _ => plank_on.f (P.length : Int) 1 3) (Evt.const (on_f _ _ _)) ?_
  have h := fun ok => Check_l0 P Q hp hP hq hQ P.length 0 ok (by omega)
  have e1 : (decide ((1 : Int) ≤ (P.length : Int)) && decide ((P.length : Int) ≤ 3)) = (decide (1 ≤ P.length) && decide (P.length ≤ 3)) := by congr 1 <;> (simp; omega)
  have e2 : (decide ((1 : Int) ≤ (Q.length : Int)) && decide ((Q.length : Int) ≤ 5)) = (decide (1 ≤ Q.length) && decide (Q.length ≤ 5)) := by congr 1 <;> (simp; omega)
  rw [e1]
  by_cases h1 : (decide (1 ≤ P.length) && decide (P.length ≤ 3)) = true
  · refine Evt.pos h1 (Evt.bind (f := fun _ => plank_on.f (Q.length : Int) 1 5) (Evt.const (on_f _ _ _)) (Evt.succ ?_))
    simp only [plank_Check.j0]
    rw [e2, h1, Bool.true_and]
    have := h (decide (1 ≤ Q.length) && decide (Q.length ≤ 5))
    rwa [List.drop_zero] at this
  · refine Evt.neg h1 (Evt.succ ?_)
    simp only [plank_Check.j0]
    refine (h false).of_eq ?_
    rw [show (decide (1 ≤ P.length) && decide (P.length ≤ 3)) = false from by simpa using h1, Bool.false_and, Bool.false_and, Bool.false_and]
theorem calls_Check (PA : Option Addr) (pc : Nat) (P : List S48) (QA : Option Addr) (qc : Nat) (Q : List S50) (w : World) (hP : Kd.C k48 w PA P.length P) (hpc : P.length ≤ pc) (hQ : Kd.C k50 w QA Q.length Q) (hqc : Q.length ≤ qc) :
    Calls Tryd.prog 18 #[.agg #[.slice PA P.length pc, .slice QA Q.length qc]] w fun e w' => e = .returned (.int .i64 (checkP P Q)) ∧ Below w.heap.size w w' := by
  have m1 : ∀ y ∈ P, y.f1.length < 9223372036854775808 := fun y hy => by
    obtain ⟨i, hi, rfl⟩ := List.getElem_of_mem hy
    obtain ⟨_, _, _, _, _, _, _, h⟩ := at_wood hP i hi
    have := h.2.1
    simp [List.getD_eq_getElem?_getD, hi] at this
    omega
  have m2 : ∀ x ∈ Q, x.f1.length < 9223372036854775808 := fun y hy => by
    obtain ⟨i, hi, rfl⟩ := List.getElem_of_mem hy
    obtain ⟨_, _, _, _, _, _, _, _, h⟩ := at_shape hQ i hi
    have := h.2.1
    simp [List.getD_eq_getElem?_getD, hi] at this
    omega
  obtain ⟨k, hk⟩ := (Check_f P Q (by have := hP.2.1; omega) m1 (by have := hQ.2.1; omega) m2).get
  exact plank_Check.calls k PA pc P QA qc Q _ w hP hpc hQ hqc hk
theorem calls_isPlank (PA : Option Addr) (pc : Nat) (P : List S48) (QA : Option Addr) (qc : Nat) (Q : List S50) (n : Int) (w : World) (hP : Kd.C k48 w PA P.length P) (hpc : P.length ≤ pc) (hQ : Kd.C k50 w QA Q.length Q) (hqc : Q.length ≤ qc) :
    Calls Tryd.prog 61 #[.agg #[.slice PA P.length pc, .slice QA Q.length qc], .int .i64 n] w fun e w' => e = .returned (.bool (decide (0 ≤ n) && decide (n ≤ (P.length : Int) - 1))) ∧ Below w.heap.size w w' := by
  refine (plank_isPlank.calls PA pc P QA qc Q n (w := w) (hr0_0 := hP) (hc0_0 := hpc) (hr0_1 := hQ) (hc0_1 := hqc) (r := decide (0 ≤ n) && decide (n ≤ (P.length : Int) - 1)) ?_).mono fun e w' h => ⟨h.1, by first | exact h.2 | exact h.2.below⟩
  unfold plank_isPlank.f
  rw [on_f, show wrap64 ((P.length : Int) - 1) = (P.length : Int) - 1 from by have := hP.2.1; unfold wrap64; omega]
  rfl
theorem calls_isPart (PA : Option Addr) (pc : Nat) (P : List S48) (QA : Option Addr) (qc : Nat) (Q : List S50) (n : Int) (w : World) (hP : Kd.C k48 w PA P.length P) (hpc : P.length ≤ pc) (hQ : Kd.C k50 w QA Q.length Q) (hqc : Q.length ≤ qc) :
    Calls Tryd.prog 62 #[.agg #[.slice PA P.length pc, .slice QA Q.length qc], .int .i64 n] w fun e w' => e = .returned (.bool (decide (0 ≤ n) && decide (n ≤ (Q.length : Int) - 1))) ∧ Below w.heap.size w w' := by
  refine (plank_isPart.calls PA pc P QA qc Q n (w := w) (hr0_0 := hP) (hc0_0 := hpc) (hr0_1 := hQ) (hc0_1 := hqc) (r := decide (0 ≤ n) && decide (n ≤ (Q.length : Int) - 1)) ?_).mono fun e w' h => ⟨h.1, by first | exact h.2 | exact h.2.below⟩
  unfold plank_isPart.f
  rw [on_f, show wrap64 ((Q.length : Int) - 1) = (Q.length : Int) - 1 from by have := hQ.2.1; unfold wrap64; omega]
  rfl
theorem asc_mem (L : Int) : ∀ (l : List Int) (last : Int), ascB L last l = true → ∀ n ∈ l, last + 1 ≤ n ∧ n < L
  | [], _, _, n, hn => absurd hn (by simp)
  | a :: l, last, h, n, hn => by
    unfold ascB at h
    simp only [Bool.and_eq_true, decide_eq_true_eq] at h
    rcases List.mem_cons.1 hn with rfl | hn
    · omega
    · have := asc_mem L l a h.2 n hn
      omega
theorem valid_ok {P : List S48} {Q : List S50} (h : validB P Q = true) : Ok P Q := by
  unfold validB at h
  simp only [Bool.and_eq_true, decide_eq_true_eq, List.all_eq_true] at h
  obtain ⟨⟨⟨a1, a2⟩, a3, a4⟩, a5, a6⟩ := h
  refine ⟨a2, a4, fun y hy => ?_, fun x hx => ?_⟩
  · have := a5 y hy
    unfold woodB at this
    simp only [Bool.and_eq_true, decide_eq_true_eq, List.all_eq_true] at this
    refine ⟨this.1.1, this.1.2, this.2.1, fun k hk => ?_⟩
    have h2 := this.2.2 k hk
    unfold knotB at h2
    simp only [Bool.and_eq_true, decide_eq_true_eq] at h2
    omega
  · have := a6 x hx
    unfold shapeB at this
    simp only [Bool.and_eq_true, decide_eq_true_eq] at this
    refine ⟨this.1.1, this.1.2, this.2.1, fun n hn => ?_⟩
    have := asc_mem _ _ _ this.2.2 n hn
    omega
def cmpL : List Int → List Int → Int
  | [], [] => 0
  | [], _ :: _ => -1
  | _ :: _, [] => 1
  | a :: l, b :: m => if a < b then -1 else if b < a then 1 else cmpL l m
theorem Compare_l0 (l m : List Int) (hl : l.length < 9223372036854775808) : ∀ (d j : Nat), j + d = l.length → j ≤ m.length →
    Evt (fun k => slices_Compare_int_int.l0 k l m l (l.length : Int) (j : Int)) (cmpL (l.drop j) (m.drop j))
  | 0, j, hj, hm => by
    refine Evt.succ ?_
    simp only [slices_Compare_int_int.l0]
    have h1 : l.drop j = [] := List.drop_eq_nil_of_le (by omega)
    rw [h1]
    refine Evt.neg (by omega) ?_
    by_cases h : l.length < m.length
    · refine Evt.pos (by omega) ?_
      have hd : m.drop j = m[j] :: m.drop (j + 1) := List.drop_eq_getElem_cons (by omega)
      rw [hd]; exact Evt.pure _
    · refine Evt.neg (by omega) ?_
      have h2 : m.drop j = [] := List.drop_eq_nil_of_le (by omega)
      rw [h2]; exact Evt.pure _
  | d + 1, j, hj, hm => by
    refine Evt.succ ?_
    simp only [slices_Compare_int_int.l0]
    have h1 : l.drop j = l[j] :: l.drop (j + 1) := List.drop_eq_getElem_cons (by omega)
    have hg : rd l (j : Int) = l[j] := by simp [rd, show j < l.length by omega]
    rw [h1]
    refine Evt.pos (by omega) (Evt.pos (by omega) (Evt.pos (by omega) ?_))
    by_cases h : j < m.length
    · refine Evt.neg (by omega) (Evt.pos (by omega) ?_)
      have h2 : m.drop j = m[j] :: m.drop (j + 1) := List.drop_eq_getElem_cons (by omega)
      have hg2 : rd m (j : Int) = m[j] := by simp [rd, h]
      rw [h2, hg, hg2]
      have hn : ∀ x : Int, (x != x) = false := fun x => by simp
      simp only [cmp_Compare_int.f, cmp_isNaN_int.f, hn, Option.bind_some, Bool.false_eq_true, if_false, cmpL]
      by_cases c1 : l[j] < m[j]
      · simp only [if_pos c1, Option.bind_some]
        exact Evt.neg (by omega) (Evt.pure _)
      · by_cases c2 : m[j] < l[j]
        · simp only [if_neg c1, if_pos c2, show l[j] > m[j] from c2, if_true, Option.bind_some]
          exact Evt.neg (by omega) (Evt.pure _)
        · simp only [if_neg c1, if_neg c2, show ¬ l[j] > m[j] from c2, if_false, Option.bind_some]
          refine Evt.pos trivial ?_
          rw [w64 j (by omega)]
          exact Compare_l0 l m hl d (j + 1) (by omega) (by omega)
    · have h2 : m.drop j = [] := List.drop_eq_nil_of_le (by omega)
      rw [h2]
      exact Evt.pos (by omega) (Evt.pure _)
theorem calls_Compare (A : Option Addr) (c : Nat) (l : List Int) (B : Option Addr) (d : Nat) (m : List Int) (w : World) (hr : Kd.C (Kd.int .i64) w A l.length l) (hc : l.length ≤ c) (hr1 : Kd.C (Kd.int .i64) w B m.length m) (hc1 : m.length ≤ d) :
    Calls Tryd.prog 110 #[.slice A l.length c, .slice B m.length d] w fun e w' => e = .returned (.int .i64 (cmpL l m)) ∧ Below w.heap.size w w' := by
  have hl : l.length < 9223372036854775808 := by have := hr.2.1; omega
  obtain ⟨k, hk⟩ := (Compare_l0 l m hl l.length 0 (by omega) (by omega)).get
  exact (slices_Compare_int_int.calls k A c l B d m _ w hr hc hr1 hc1 hk).mono fun e w' h => ⟨h.1, h.2.below⟩
def betterL (l m : List Int) : Bool := decide (l.length < m.length) || ((l.length == m.length) && decide (cmpL l m < 0))
theorem calls_few1 (A : Option Addr) (c : Nat) (l : List Int) (B : Option Addr) (d : Nat) (m : List Int) (w : World) (hr : Kd.C (Kd.int .i64) w A l.length l) (hc : l.length ≤ c) (hr1 : Kd.C (Kd.int .i64) w B m.length m) (hc1 : m.length ≤ d) :
    Calls Tryd.prog 109 #[.slice A l.length c, .slice B m.length d] w fun e w' => e = .returned (.bool (betterL l m)) ∧ Below w.heap.size w w' := by
  have HR := Lib.hid hr; have HR1 := Lib.hid hr1
  clear hr hr1
  go_enter Tryd.func109, Tryd.ntmps109
  by_cases h1 : l.length < m.length
  · have e : betterL l m = true := by simp [betterL, h1]
    rw [e]
    go_wp2
    go_ret
    exact ⟨rfl, by repeat (first | exact Below.refl _ _ | apply below_drew1 | apply pw_below_drewN)⟩
  · by_cases h2 : l.length = m.length
    · have e : betterL l m = decide (cmpL l m < 0) := by simp [betterL, h2]
      have HE := Lib.hid e; clear e
      have HH := Lib.hid h2; clear h2
      have h2 : ((l.length : Int) == (m.length : Int)) = true := by rw [HH.out]; simp
      go_wp2_with (go_at_call 110; refine (calls_Compare A c l B d m _ HR.out hc HR1.out hc1).mono ?_; rintro e w1 ⟨rfl, hb⟩)
      go_ret
      exact ⟨by rw [HE.out]; rfl, hb⟩
    · have e : betterL l m = false := by simp [betterL, h1, h2]
      rw [e]
      have h3 : ((l.length : Int) == (m.length : Int)) = false := by simp; omega
      go_wp2
      go_ret
      exact ⟨rfl, by repeat (first | exact Below.refl _ _ | apply below_drew1 | apply pw_below_drewN)⟩
def moreL (l m : List Int) : Bool := decide (l.length > m.length) || ((l.length == m.length) && decide (cmpL l m < 0))
theorem calls_many1 (A : Option Addr) (c : Nat) (l : List Int) (B : Option Addr) (d : Nat) (m : List Int) (w : World) (hr : Kd.C (Kd.int .i64) w A l.length l) (hc : l.length ≤ c) (hr1 : Kd.C (Kd.int .i64) w B m.length m) (hc1 : m.length ≤ d) :
    Calls Tryd.prog 113 #[.slice A l.length c, .slice B m.length d] w fun e w' => e = .returned (.bool (moreL l m)) ∧ Below w.heap.size w w' := by
  have HR := Lib.hid hr; have HR1 := Lib.hid hr1
  clear hr hr1
  go_enter Tryd.func113, Tryd.ntmps113
  by_cases h1 : l.length > m.length
  · have e : moreL l m = true := by simp [moreL, h1]
    rw [e]
    go_wp2
    go_ret
    exact ⟨rfl, by repeat (first | exact Below.refl _ _ | apply below_drew1 | apply pw_below_drewN)⟩
  · by_cases h2 : l.length = m.length
    · have e : moreL l m = decide (cmpL l m < 0) := by simp [moreL, h2]
      have HE := Lib.hid e; clear e
      have HH := Lib.hid h2; clear h2
      have h2 : ((l.length : Int) == (m.length : Int)) = true := by rw [HH.out]; simp
      go_wp2_with (go_at_call 110; refine (calls_Compare A c l B d m _ HR.out hc HR1.out hc1).mono ?_; rintro e w1 ⟨rfl, hb⟩)
      go_ret
      exact ⟨by rw [HE.out]; rfl, hb⟩
    · have e : moreL l m = false := by simp [moreL, h1, h2]
      rw [e]
      have h3 : ((l.length : Int) == (m.length : Int)) = false := by simp; omega
      go_wp2
      go_ret
      exact ⟨rfl, by repeat (first | exact Below.refl _ _ | apply below_drew1 | apply pw_below_drewN)⟩
theorem calls_few (w : World) : Calls Tryd.prog 81 #[] w fun e w' => e = .returned (.agg #[.func (.func 109) #[] #[]]) ∧ Below w.heap.size w w' := by
  go_enter Tryd.func81, Tryd.ntmps81
  have hX := blk_new w (.cells #[.nilFunc] 106)
  go_wp2_with ((with_reducible refine gate_store (t := 106) (p := 0) rfl ?_); refine wpList_store_row rfl 106 _ _ rfl w.heap.size _ rfl rfl 106 _ hX (by kernel_rfl) rfl (by simp [Value.oneCell']) ?_)
  have hX2 := setRow_heap (w.alloc (.cells #[.nilFunc] 106)) w.heap.size _ #[.func (.func 109) #[] #[]] 106 _ hX
  exact bodyPost_ret (results_cell_row rfl _ _ w.heap.size 106 _ _ _ rfl hX2 Tryd.underlying106 rfl (by kernel_rfl)) rfl ⟨rfl, below_setRow (below_alloc (Below.refl _ _) _) (Nat.le_refl _) _⟩
theorem calls_many (w : World) : Calls Tryd.prog 107 #[] w fun e w' => e = .returned (.agg #[.func (.func 113) #[] #[]]) ∧ Below w.heap.size w w' := by
  go_enter Tryd.func107, Tryd.ntmps107
  have hX := blk_new w (.cells #[.nilFunc] 106)
  go_wp2_with ((with_reducible refine gate_store (t := 106) (p := 0) rfl ?_); refine wpList_store_row rfl 106 _ _ rfl w.heap.size _ rfl rfl 106 _ hX (by kernel_rfl) rfl (by simp [Value.oneCell']) ?_)
  have hX2 := setRow_heap (w.alloc (.cells #[.nilFunc] 106)) w.heap.size _ #[.func (.func 113) #[] #[]] 106 _ hX
  exact bodyPost_ret (results_cell_row rfl _ _ w.heap.size 106 _ _ _ rfl hX2 Tryd.underlying106 rfl (by kernel_rfl)) rfl ⟨rfl, below_setRow (below_alloc (Below.refl _ _) _) (Nat.le_refl _) _⟩
theorem pow_small (n : Nat) (h : n ≤ 5) : 1 ≤ 2 ^ n ∧ 2 ^ n ≤ 32 := ⟨Nat.one_le_two_pow, Nat.pow_le_pow_right (n := 2) (by omega) h⟩
theorem pow_int (n : Nat) (h : n ≤ 5) : wrap64 ((2 : Int) ^ n) = ((2 ^ n : Nat) : Int) := by
  have h2 := pow_small n h
  have : ((2 : Int) ^ n) = ((2 ^ n : Nat) : Int) := by simp
  rw [this]; unfold wrap64; omega
set_option maxRecDepth 100000 in
theorem calls_parts (PA : Option Addr) (pn pc : Nat) (QA : Option Addr) (qn qc m : Nat) (hq : qn ≤ 5) (w : World) :
    Calls Tryd.prog 85 #[.agg #[.slice PA pn pc, .slice QA qn qc, .map (some m)]] w fun e w' => e = .returned (.int .i64 ((2 ^ qn - 1 : Nat) : Int)) ∧ Below w.heap.size w w' := by
  obtain ⟨n0, n1, n2⟩ := new1 w (.cells #[.slice PA pn pc, .slice QA qn qc, .map (some m)] 84)
  have HN := Lib.hid n1
  clear n0 n1 n2
  have h2 := pow_int qn hq
  have h3 := pow_small qn hq
  obtain ⟨q, hqq⟩ : ∃ q : Nat, 2 ^ qn = q := ⟨_, rfl⟩
  rw [hqq] at h2 h3 ⊢
  clear hqq
  have h4 : ((q - 1 : Nat) : Int) = (q : Int) - 1 := by omega
  rw [h4]
  go_enter Tryd.func85, Tryd.ntmps85
  go_wp2_with fail
  go_ret
  exact ⟨rfl, HN.out⟩
set_option maxRecDepth 100000 in
theorem calls_planks (PA : Option Addr) (pn pc : Nat) (QA : Option Addr) (qn qc m : Nat) (hp : pn ≤ 5) (w : World) :
    Calls Tryd.prog 90 #[.agg #[.slice PA pn pc, .slice QA qn qc, .map (some m)]] w fun e w' => ∃ v, e = .returned v ∧ VI w.heap.size w' v (ints (setL (2 ^ pn - 1))) ∧ Below w.heap.size w w' := by
  obtain ⟨n0, n1, n2⟩ := new1 w (.cells #[.slice PA pn pc, .slice QA pn qc, .map (some m)] 84)
  obtain ⟨n0, n1, n2⟩ := new1 w (.cells #[.slice PA pn pc, .slice QA qn qc, .map (some m)] 84)
  have HN := Lib.hid n1
  clear n0 n1 n2
  have h2 := pow_int pn hp
  have h3 := pow_small pn hp
  obtain ⟨q, hqq⟩ : ∃ q : Nat, 2 ^ pn = q := ⟨_, rfl⟩
  rw [hqq] at h2 h3 ⊢
  clear hqq
  obtain ⟨q', rfl⟩ : ∃ q' : Nat, q = q' + 1 := ⟨q - 1, by omega⟩
  rw [show q' + 1 - 1 = q' from rfl]
  have h4 : ((q' + 1 : Nat) : Int) - 1 = (q' : Int) := by omega
  go_enter Tryd.func90, Tryd.ntmps90
  go_wp2_with (go_at_call 86; (with_reducible refine (calls_listed q' (by omega) _).mono ?_); rintro e w1 ⟨v, rfl, hv, hb⟩)
  go_ret
  obtain ⟨A, c, h5, h6, h7, h8⟩ := hv
  exact ⟨_, rfl, ⟨A, c, h5, h6, h7, fun ad e => Nat.le_trans (below_size HN.out) (h8 ad e)⟩, HN.out.trans (hb.mono (below_size HN.out))⟩
def bestStep (bt : List Int → List Int → Bool) (is : Nat → Bool) (s : Nat) (z : Bool × List Nat) : Bool × List Nat :=
  if (!z.1 || bt (ints (setL s)) (ints z.2)) && is s then (true, setL s) else z
def bestTo (bt : List Int → List Int → Bool) (is : Nat → Bool) : Nat → Bool × List Nat
  | 0 => (false, [])
  | s + 1 => bestStep bt is s (bestTo bt is s)
def Open (F : Nat) : Prop := ∃ fn, Tryd.prog.funcs[F]? = some fn ∧ (fn.name == "runtime.NumGoroutine") = false ∧ fn.body.isSome = true
structure Better (ob : Nat) (bt : List Int → List Int → Bool) : Prop where
  call : ∀ (A : Option Addr) (c : Nat) (l : List Int) (B : Option Addr) (d : Nat) (m : List Int) (w : World) (hr : Kd.C (Kd.int .i64) w A l.length l) (hc : l.length ≤ c) (hr1 : Kd.C (Kd.int .i64) w B m.length m) (hc1 : m.length ≤ d), Calls Tryd.prog ob #[.slice A l.length c, .slice B m.length d] w fun e w' => e = .returned (.bool (bt l m)) ∧ Below w.heap.size w w'
  fn : Open ob
theorem better_few : Better 109 betterL := ⟨calls_few1, _, Tryd.func109, by kernel_rfl, rfl⟩
theorem better_many : Better 113 moreL := ⟨calls_many1, _, Tryd.func113, by kernel_rfl, rfl⟩
theorem Open.enters {F : Nat} (h : Open F) : ∀ args w, (callFunc F args).run Tryd.prog w = .ok (.enter F args) w := by
  obtain ⟨fn, h1, h2, h3⟩ := h
  obtain ⟨b, hb⟩ := Option.isSome_iff_exists.1 h3
  exact enters_of h1 h2 hb
structure Asks (F : Nat) (ds : Array Value) (m N : Nat) (is : Nat → Bool) (I : World → Prop) : Prop where
  call : ∀ (s : Nat), s < N → ∀ w : World, I w → Calls Tryd.prog F (#[.int .i64 s] ++ ds) w fun e w' => e = .returned (.bool (is s)) ∧ I w' ∧ w.grownBy w' (some m)
  fn : Open F
  below : ∀ W W', I W → Below W.heap.size W W' → I W'
  is : ∀ W, I W → IsMap W m
theorem vi_of {base : Nat} {W : World} {A : Option Addr} {xs : List Int} {c : Nat} (h1 : xs.length ≤ c) (h2 : Kd.C (Kd.int .i64) W A xs.length xs) (h3 : ∀ ad, A = some ad → base ≤ ad.block) : VI base W (.slice A xs.length c) xs := ⟨A, c, rfl, h1, h2, h3⟩
theorem vi_C {base : Nat} {W : World} {A : Option Addr} {n c : Nat} {xs : List Int} (h : VI base W (.slice A n c) xs) : Kd.C (Kd.int .i64) W A xs.length xs := by
  obtain ⟨A2, c2, h1, h2, h3, h4⟩ := h
  cases h1
  exact h3
set_option maxRecDepth 100000 in
set_option maxHeartbeats 1000000 in
theorem calls_best (ob : Nat) (bt : List Int → List Int → Bool) (hbt : Better ob bt) (F : Nat) (ds : Array Value) (m n : Nat) (hn : n ≤ 5) (is : Nat → Bool) (I : World → Prop) (hF : Asks F ds m (2 ^ n) is I) (w : World) (hI : I w) (hm : m < w.heap.size) :
    Calls Tryd.prog 82 #[.agg #[.func (.func ob) #[] #[]], .int .i64 n, .func (.func F) #[] ds] w fun e w' => ∃ v, e = .returned (.tuple #[v, .bool (bestTo bt is (2 ^ n)).1]) ∧ VI w.heap.size w' v (ints (bestTo bt is (2 ^ n)).2) ∧ I w' ∧ w.grownBy w' (some m) := by
  have h2 := pow_int n hn
  have h3 := pow_small n hn
  have hcall := hF.call
  obtain ⟨N, hN⟩ : ∃ N : Nat, 2 ^ n = N := ⟨_, rfl⟩
  rw [hN] at h2 h3 hcall ⊢
  have hbel := hF.below
  have his := hF.is
  have hentF := hF.fn.enters
  have hentB := hbt.fn.enters
  have hcb := hbt.call
  have HCF := Lib.hid hcall; have HBEL := Lib.hid hbel; have HIS := Lib.hid his; have HEF := Lib.hid hentF; have HEB := Lib.hid hentB; have HCB := Lib.hid hcb
  clear hF hbt hN hcall hbel his hentF hentB hcb
  obtain ⟨n0, n1, n2⟩ := new1 w (.cells #[.func (.func ob) #[] #[]] 106)
  have HX := Lib.hid n0; have HI := Lib.hid (HBEL.out _ _ hI n1); have HG := Lib.hid (grown_of_below n1 (some m))
  clear n0 n1 n2 hI
  go_enter Tryd.func82, Tryd.ntmps82
  go_wp2_with fail
  rw [h2]
  clear h2
  go_loopw [8, 9, 14] (fun v8 v9 v wr => ∃ s : Nat, s ≤ N ∧ v = .int .i64 s ∧ v9 = .bool (bestTo bt is s).1 ∧ Hid (wr.heap[w.heap.size]? = some (.cells #[.func (.func ob) #[] #[]] 106 (0, 0))) ∧ Hid (VI w.heap.size wr v8 (ints (bestTo bt is s).2)) ∧ Hid (I wr) ∧ Hid (w.grownBy wr (some m))) (fun _ _ v _ => N - (intOf v).toNat)
  case atStart => exact ⟨0, Nat.zero_le _, rfl, rfl, HX, Lib.hid (VI.nil _ _), HI, HG⟩
  case round =>
    clear HX HI HG
    obtain ⟨s, hs, rfl, rfl, HX, HV, HI, HG⟩ := hrel
    obtain ⟨A', c', rfl, hle, hC'⟩ := HV.out
    have HC' := Lib.hid hC'; clear hC'
    by_cases hlt : s < N
    · have hs32 : s < 32 := by omega
      have hst : bestTo bt is (s + 1) = bestStep bt is s (bestTo bt is s) := rfl
      obtain ⟨fnd, best, hz⟩ : ∃ fnd best, bestTo bt is s = (fnd, best) := ⟨_, _, rfl⟩
      rw [hz] at hst HV hle ⊢
      unfold bestStep at hst
      simp only at hst hle HV ⊢
      clear HC'
      obtain ⟨b, hb⟩ : ∃ b, bt (ints (setL s)) (ints best) = b := ⟨_, rfl⟩
      obtain ⟨r, hr⟩ : ∃ r, is s = r := ⟨_, rfl⟩
      rw [hb, hr] at hst
      have HB := Lib.hid hb; have HR := Lib.hid hr; have HST := Lib.hid hst
      clear hz hb hr hst
      have hent1 := HEB.out
      have hent2 := HEF.out
      have hx0 : ∀ W : World, W.heap[w.heap.size]? = some (.cells #[.func (.func ob) #[] #[]] 106 (0, 0)) → W.cell? ⟨w.heap.size, 0, none⟩ = some (.func (.func ob) #[] #[]) := fun W h => blk_cell h 0
      have HX0 := Lib.hid hx0; clear hx0
      cases fnd with
      | false =>
        cases r with
        | true =>
          have HN := Lib.hid (HST.out.trans (show _ = (true, setL s) from rfl))
          go_wp2_with (first | (go_at_call 86; (with_reducible refine (calls_listed s hs32 _).mono ?_); rintro e w1 ⟨v1, rfl, hv1, hb1⟩; obtain ⟨A1, c1, rfl, hle1, hC1, hB1⟩ := hv1; have HI := Lib.hid (HBEL.out _ _ HI.out hb1); have HX := Lib.hid (below_far HX.out hb1); have HV := Lib.hid (HV.out.below hb1); have HV1 := Lib.hid (vi_of (base := w.heap.size) hle1 hC1 (fun ad e => Nat.le_trans HG.out.size (hB1 ad e))); have HG := Lib.hid (grown_belowM HG.out hb1); have hxc := HX0.out _ HX.out; clear hb1 hB1 hC1) | (go_at_fn F; refine (HCF.out s hlt _ HI.out).mono ?_; rintro e w2 ⟨he, hi2, hg2⟩; rw [HR.out] at he; subst he; have HX := Lib.hid (blk_grownM HX.out (HIS.out _ HI.out) hg2); have hcc := grown_cells (HIS.out _ HI.out) hg2; have HV := Lib.hid (HV.out.cells hcc); have HV1 := Lib.hid (HV1.out.cells hcc); have HG := Lib.hid (grown_trans HG.out hg2); have HI := Lib.hid hi2; clear hi2 hg2 hcc))
          go_roundw
          case rel => exact ⟨s + 1, by omega, by go_num, by rw [HN.out], HX, by rw [HN.out]; exact HV1, HI, HG⟩
          case measure => simp [intOf]; omega
        | false =>
          have HN := Lib.hid (HST.out.trans (show _ = (false, best) from rfl))
          go_wp2_with (first | (go_at_call 86; (with_reducible refine (calls_listed s hs32 _).mono ?_); rintro e w1 ⟨v1, rfl, hv1, hb1⟩; obtain ⟨A1, c1, rfl, hle1, hC1, hB1⟩ := hv1; have HI := Lib.hid (HBEL.out _ _ HI.out hb1); have HX := Lib.hid (below_far HX.out hb1); have HV := Lib.hid (HV.out.below hb1); have HV1 := Lib.hid (vi_of (base := w.heap.size) hle1 hC1 (fun ad e => Nat.le_trans HG.out.size (hB1 ad e))); have HG := Lib.hid (grown_belowM HG.out hb1); have hxc := HX0.out _ HX.out; clear hb1 hB1 hC1) | (go_at_fn F; refine (HCF.out s hlt _ HI.out).mono ?_; rintro e w2 ⟨he, hi2, hg2⟩; rw [HR.out] at he; subst he; have HX := Lib.hid (blk_grownM HX.out (HIS.out _ HI.out) hg2); have hcc := grown_cells (HIS.out _ HI.out) hg2; have HV := Lib.hid (HV.out.cells hcc); have HV1 := Lib.hid (HV1.out.cells hcc); have HG := Lib.hid (grown_trans HG.out hg2); have HI := Lib.hid hi2; clear hi2 hg2 hcc))
          go_roundw
          case rel => exact ⟨s + 1, by omega, by go_num, by rw [HN.out], HX, by rw [HN.out]; exact HV, HI, HG⟩
          case measure => simp [intOf]; omega
      | true =>
        cases b with
        | false =>
          have HN := Lib.hid (HST.out.trans (show _ = (true, best) from rfl))
          go_wp2_with (first | (go_at_call 86; (with_reducible refine (calls_listed s hs32 _).mono ?_); rintro e w1 ⟨v1, rfl, hv1, hb1⟩; obtain ⟨A1, c1, rfl, hle1, hC1, hB1⟩ := hv1; have HI := Lib.hid (HBEL.out _ _ HI.out hb1); have HX := Lib.hid (below_far HX.out hb1); have HV := Lib.hid (HV.out.below hb1); have HV1 := Lib.hid (vi_of (base := w.heap.size) hle1 hC1 (fun ad e => Nat.le_trans HG.out.size (hB1 ad e))); have HG := Lib.hid (grown_belowM HG.out hb1); have hxc := HX0.out _ HX.out; clear hb1 hB1 hC1) | (go_at_fn ob; refine (HCB.out A1 c1 (ints (setL s)) A' c' (ints best) _ (vi_C HV1.out) hle1 (vi_C HV.out) hle).mono ?_; rintro e w3 ⟨he, hb3⟩; rw [HB.out] at he; subst he; have HI := Lib.hid (HBEL.out _ _ HI.out hb3); have HX := Lib.hid (below_far HX.out hb3); have HV := Lib.hid (HV.out.below hb3); have HV1 := Lib.hid (HV1.out.below hb3); have HG := Lib.hid (grown_belowM HG.out hb3); clear hb3))
          go_roundw
          case rel => exact ⟨s + 1, by omega, by go_num, by rw [HN.out], HX, by rw [HN.out]; exact HV, HI, HG⟩
          case measure => simp [intOf]; omega
        | true =>
          cases r with
          | true =>
            have HN := Lib.hid (HST.out.trans (show _ = (true, setL s) from rfl))
            go_wp2_with (first | (go_at_call 86; (with_reducible refine (calls_listed s hs32 _).mono ?_); rintro e w1 ⟨v1, rfl, hv1, hb1⟩; obtain ⟨A1, c1, rfl, hle1, hC1, hB1⟩ := hv1; have HI := Lib.hid (HBEL.out _ _ HI.out hb1); have HX := Lib.hid (below_far HX.out hb1); have HV := Lib.hid (HV.out.below hb1); have HV1 := Lib.hid (vi_of (base := w.heap.size) hle1 hC1 (fun ad e => Nat.le_trans HG.out.size (hB1 ad e))); have HG := Lib.hid (grown_belowM HG.out hb1); have hxc := HX0.out _ HX.out; clear hb1 hB1 hC1) | (go_at_fn ob; refine (HCB.out A1 c1 (ints (setL s)) A' c' (ints best) _ (vi_C HV1.out) hle1 (vi_C HV.out) hle).mono ?_; rintro e w3 ⟨he, hb3⟩; rw [HB.out] at he; subst he; have HI := Lib.hid (HBEL.out _ _ HI.out hb3); have HX := Lib.hid (below_far HX.out hb3); have HV := Lib.hid (HV.out.below hb3); have HV1 := Lib.hid (HV1.out.below hb3); have HG := Lib.hid (grown_belowM HG.out hb3); clear hb3) | (go_at_fn F; refine (HCF.out s hlt _ HI.out).mono ?_; rintro e w2 ⟨he, hi2, hg2⟩; rw [HR.out] at he; subst he; have HX := Lib.hid (blk_grownM HX.out (HIS.out _ HI.out) hg2); have hcc := grown_cells (HIS.out _ HI.out) hg2; have HV := Lib.hid (HV.out.cells hcc); have HV1 := Lib.hid (HV1.out.cells hcc); have HG := Lib.hid (grown_trans HG.out hg2); have HI := Lib.hid hi2; clear hi2 hg2 hcc))
            go_roundw
            case rel => exact ⟨s + 1, by omega, by go_num, by rw [HN.out], HX, by rw [HN.out]; exact HV1, HI, HG⟩
            case measure => simp [intOf]; omega
          | false =>
            have HN := Lib.hid (HST.out.trans (show _ = (true, best) from rfl))
            go_wp2_with (first | (go_at_call 86; (with_reducible refine (calls_listed s hs32 _).mono ?_); rintro e w1 ⟨v1, rfl, hv1, hb1⟩; obtain ⟨A1, c1, rfl, hle1, hC1, hB1⟩ := hv1; have HI := Lib.hid (HBEL.out _ _ HI.out hb1); have HX := Lib.hid (below_far HX.out hb1); have HV := Lib.hid (HV.out.below hb1); have HV1 := Lib.hid (vi_of (base := w.heap.size) hle1 hC1 (fun ad e => Nat.le_trans HG.out.size (hB1 ad e))); have HG := Lib.hid (grown_belowM HG.out hb1); have hxc := HX0.out _ HX.out; clear hb1 hB1 hC1) | (go_at_fn ob; refine (HCB.out A1 c1 (ints (setL s)) A' c' (ints best) _ (vi_C HV1.out) hle1 (vi_C HV.out) hle).mono ?_; rintro e w3 ⟨he, hb3⟩; rw [HB.out] at he; subst he; have HI := Lib.hid (HBEL.out _ _ HI.out hb3); have HX := Lib.hid (below_far HX.out hb3); have HV := Lib.hid (HV.out.below hb3); have HV1 := Lib.hid (HV1.out.below hb3); have HG := Lib.hid (grown_belowM HG.out hb3); clear hb3) | (go_at_fn F; refine (HCF.out s hlt _ HI.out).mono ?_; rintro e w2 ⟨he, hi2, hg2⟩; rw [HR.out] at he; subst he; have HX := Lib.hid (blk_grownM HX.out (HIS.out _ HI.out) hg2); have hcc := grown_cells (HIS.out _ HI.out) hg2; have HV := Lib.hid (HV.out.cells hcc); have HV1 := Lib.hid (HV1.out.cells hcc); have HG := Lib.hid (grown_trans HG.out hg2); have HI := Lib.hid hi2; clear hi2 hg2 hcc))
            go_roundw
            case rel => exact ⟨s + 1, by omega, by go_num, by rw [HN.out], HX, by rw [HN.out]; exact HV, HI, HG⟩
            case measure => simp [intOf]; omega
    · obtain rfl : s = N := by omega
      obtain ⟨fnd, best, hz⟩ : ∃ fnd best, bestTo bt is s = (fnd, best) := ⟨_, _, rfl⟩
      rw [hz] at HV hle ⊢
      simp only at hle HV ⊢
      clear HC'
      have HZ := Lib.hid hz; clear hz
      have hlen : (ints best).length < 9223372036854775808 := by have := (vi_C HV.out).2.1; omega
      go_wp2_with fail
      refine bodyPost_ret (results_tmp2 rfl _ _ _) rfl ?_
      rw [HZ.out]
      refine ⟨_, rfl, ?_, HI.out, HG.out⟩
      obtain ⟨A2, c2, h1, h2, h3, h4⟩ := HV.out
      cases h1
      exact ⟨_, _, rfl, Nat.le_refl _, h3, h4⟩
theorem bk_cut {PA : Option Addr} {pc : Nat} {QA : Option Addr} {qc m : Nat} {P : List S48} {Q : List S50} (hok : Ok P Q) (t : Nat) (ht : t < 2 ^ P.length) (s : Nat) (hs : s < 2 ^ Q.length) (A : Option Addr) (c : Nat) (w : World) (hB : Bk PA QA m P Q w) (hC : Kd.C (Kd.int .i64) w A (ints (setL t)).length (ints (setL t))) (hc : (ints (setL t)).length ≤ c) :
    Calls Tryd.prog 84 #[.agg #[.slice PA P.length pc, .slice QA Q.length qc, .map (some m)], .int .i64 s, .slice A (ints (setL t)).length c] w fun e w' => e = .returned (.bool (cutB P Q (setL t) s)) ∧ Bk PA QA m P Q w' ∧ w.grownBy w' (some m) := by
  rw [ints_length] at hc ⊢
  exact calls_cut PA pc QA qc m P Q hok (setL t) (fun p hp => setL_lt ht hp) s hs A c w hB hC hc
def InvA (PA : Option Addr) (pc : Nat) (QA : Option Addr) (qc m : Nat) (P : List S48) (Q : List S50) (g : Nat) (W : World) : Prop :=
  Bk PA QA m P Q W ∧ W.heap[g]? = some (.cells #[.slice PA P.length pc, .slice QA Q.length qc, .map (some m)] 84 (0, 0))
theorem InvA.bk {PA : Option Addr} {pc : Nat} {QA : Option Addr} {qc m : Nat} {P : List S48} {Q : List S50} {g : Nat} {W : World} (h : InvA PA pc QA qc m P Q g W) : Bk PA QA m P Q W := h.1
theorem InvA.below {PA : Option Addr} {pc : Nat} {QA : Option Addr} {qc m : Nat} {P : List S48} {Q : List S50} {g : Nat} {W W1 : World} (h : InvA PA pc QA qc m P Q g W) (hb : Below W.heap.size W W1) : InvA PA pc QA qc m P Q g W1 :=
  ⟨h.1.below hb, below_far h.2 hb⟩
set_option maxRecDepth 100000 in
theorem calls_Fewest1 (PA : Option Addr) (pc : Nat) (QA : Option Addr) (qc m : Nat) (P : List S48) (Q : List S50) (hok : Ok P Q) (g : Nat) (s : Nat) (hs : s < 2 ^ P.length) (w : World) (hI : InvA PA pc QA qc m P Q g w) :
    Calls Tryd.prog 83 #[.int .i64 s, .pointer (some ⟨g, 0, none⟩)] w fun e w' => e = .returned (.bool (cutB P Q (setL s) (2 ^ Q.length - 1))) ∧ InvA PA pc QA qc m P Q g w' ∧ w.grownBy w' (some m) := by
  have hs32 : s < 32 := Nat.lt_of_lt_of_le hs (pow_small _ (by have := hok.p3; omega)).2
  have hcp := fun W => calls_parts PA P.length pc QA Q.length qc m hok.q5 W
  have hcc := fun A c W hB hC hc => bk_cut (pc := pc) (qc := qc) (PA := PA) (QA := QA) (m := m) hok s hs (2 ^ Q.length - 1) (by have := pow_small _ hok.q5; omega) A c W hB hC hc
  obtain ⟨q, hq⟩ : ∃ q : Nat, 2 ^ Q.length - 1 = q := ⟨_, rfl⟩
  rw [hq] at hcp hcc ⊢
  clear hq
  have HCP := Lib.hid hcp; have HCC := Lib.hid hcc; have HI := Lib.hid hI
  clear hcp hcc hI
  obtain ⟨b0, b1, b2⟩ : w.cell? ⟨g, 0, none⟩ = some (.slice PA P.length pc) ∧ w.cell? ⟨g, 1, none⟩ = some (.slice QA Q.length qc) ∧ w.cell? ⟨g, 2, none⟩ = some (.map (some m)) := ⟨blk_cell HI.out.2 0, blk_cell HI.out.2 1, blk_cell HI.out.2 2⟩
  go_enter Tryd.func83, Tryd.ntmps83
  go_wp2_with fail
  refine start_ (n := 7) (S := fun w' => w'.cell? ⟨g, 0, none⟩ = some (.slice PA P.length pc) ∧ w'.cell? ⟨g, 1, none⟩ = some (.slice QA Q.length qc) ∧ w'.cell? ⟨g, 2, none⟩ = some (.map (some m))) (ds := [5]) #[false, false, false, false, false, false, false] (by kernel_rfl) rfl rfl ⟨b0, b1, b2⟩ (fun hHeld => ?_)
  refine pu_ (i := 3) (N := some 7) (qa_ 7 8) ?_
  refine tk_ (i := 0) (N := some 4) (qa_ 7 9) hHeld ?_
  refine tk_ (i := 1) (N := some 5) (qa_ 7 11) hHeld ?_
  refine on_ (i := 2) (N := some 6) (qa_ 7 15) (fun K hK => ?_)
  refine goes_ Tryd.func85 (by kernel_rfl) rfl #[.agg #[.slice PA P.length pc, .slice QA Q.length qc, .map (some m)]] (by rfl) rfl rfl (by first | (simp; done) | (simp only [List.map_toArray, List.map_cons, List.map_nil]; rfl)) ?_
  with_reducible refine (HCP.out _).mono ?_
  rintro e w1 ⟨rfl, hb1⟩
  have hb2 : Below w.heap.size w w1 := undrew hb1
  refine ⟨_, rfl, ?_⟩
  refine hK.out _ _ ⟨pw_cell_below hb2 b0, pw_cell_below hb2 b1, pw_cell_below hb2 b2⟩ (fun hHeld => ?_)
  clear hK K
  refine nm_ (some 6) ?_
  refine on_ (i := 4) (N := some 8) (qa_ 7 31) (fun K hK => ?_)
  refine goes_ Tryd.func86 (by kernel_rfl) rfl #[.int .i64 s] (by rfl) rfl rfl (by first | (simp; done) | (simp only [List.map_toArray, List.map_cons, List.map_nil]; rfl)) ?_
  with_reducible refine (calls_listed s hs32 _).mono ?_
  rintro e w2 ⟨v2, rfl, hv2, hb3⟩
  have hb4 : Below w.heap.size w w2 := hb2.trans (hb3.mono (below_size hb2))
  obtain ⟨A2, c2, rfl, hl2, hC2, -⟩ := hv2
  refine ⟨_, rfl, ?_⟩
  refine hK.out _ _ ⟨pw_cell_below hb4 b0, pw_cell_below hb4 b1, pw_cell_below hb4 b2⟩ (fun hHeld => ?_)
  clear hK K
  refine nm_ (some 8) ?_
  refine last_ (i := 5) (N := some 9) (qa_ 7 63) rfl rfl (by kernel_rfl) (by decide) (fun K hK => ?_)
  refine goes_ Tryd.func84 (by kernel_rfl) rfl #[.agg #[.slice PA P.length pc, .slice QA Q.length qc, .map (some m)], .int .i64 q, .slice A2 (ints (setL s)).length c2] (by rfl) rfl rfl (by first | (simp; done) | (simp only [List.map_toArray, List.map_cons, List.map_nil]; rfl)) ?_
  with_reducible refine (HCC.out A2 c2 w2 (HI.out.bk.below hb4) hC2 hl2).mono ?_
  rintro e w3 ⟨rfl, hbk3, hg3⟩
  refine ⟨_, rfl, ?_⟩
  refine hK.out _ _ ?_
  clear hK K
  refine nm_ (some 9) ?_
  refine pu_ (i := 6) (N := some 3) (qa_ 7 127) ?_
  refine done_ (by kernel_rfl) ?_
  clear hHeld
  go_wp2_with fail
  go_ret
  have hbb := HI.out.below hb4
  exact ⟨rfl, ⟨hbk3, blk_grownM hbb.2 hbb.1.is hg3⟩, grown_trans (grown_of_below hb4 _) hg3⟩
theorem asks_Fewest1 {PA : Option Addr} {pc : Nat} {QA : Option Addr} {qc m : Nat} {P : List S48} {Q : List S50} (hok : Ok P Q) (g : Nat) :
    Asks 83 #[.pointer (some ⟨g, 0, none⟩)] m (2 ^ P.length) (fun s => cutB P Q (setL s) (2 ^ Q.length - 1)) (InvA PA pc QA qc m P Q g) :=
  ⟨fun s hs w hI => calls_Fewest1 PA pc QA qc m P Q hok g s hs w hI, ⟨_, Tryd.func83, by kernel_rfl, rfl⟩, fun W W' h hb => h.below hb, fun W h => h.1.is⟩
def InvB (PA : Option Addr) (pc : Nat) (QA : Option Addr) (qc m : Nat) (P : List S48) (Q : List S50) (g k : Nat) (W : World) : Prop :=
  Bk PA QA m P Q W ∧ W.heap[g]? = some (.cells #[.slice PA P.length pc, .slice QA Q.length qc, .map (some m)] 84 (0, 0)) ∧ W.heap[k]? = some (.cells #[.func (.func 84) #[.agg #[.slice PA P.length pc, .slice QA Q.length qc, .map (some m)]] #[]] 109 (0, 0))
theorem InvB.bk {PA : Option Addr} {pc : Nat} {QA : Option Addr} {qc m : Nat} {P : List S48} {Q : List S50} {g k : Nat} {W : World} (h : InvB PA pc QA qc m P Q g k W) : Bk PA QA m P Q W := h.1
theorem InvB.below {PA : Option Addr} {pc : Nat} {QA : Option Addr} {qc m : Nat} {P : List S48} {Q : List S50} {g k : Nat} {W W1 : World} (h : InvB PA pc QA qc m P Q g k W) (hb : Below W.heap.size W W1) : InvB PA pc QA qc m P Q g k W1 :=
  ⟨h.1.below hb, below_far h.2.1 hb, below_far h.2.2 hb⟩
set_option maxRecDepth 100000 in
theorem calls_most1 (PA : Option Addr) (pc : Nat) (QA : Option Addr) (qc m : Nat) (P : List S48) (Q : List S50) (hok : Ok P Q) (g k : Nat) (s : Nat) (hs : s < 2 ^ Q.length) (w : World) (hI : InvB PA pc QA qc m P Q g k w) :
    Calls Tryd.prog 108 #[.int .i64 s, .pointer (some ⟨k, 0, none⟩), .pointer (some ⟨g, 0, none⟩)] w fun e w' => e = .returned (.bool (cutB P Q (setL (2 ^ P.length - 1)) s)) ∧ InvB PA pc QA qc m P Q g k w' ∧ w.grownBy w' (some m) := by
  have hp5 : P.length ≤ 5 := by have := hok.p3; omega
  have hcp := fun W => calls_planks PA P.length pc QA Q.length qc m hp5 W
  have hcc := fun A c W hB hC hc => bk_cut (pc := pc) (qc := qc) (PA := PA) (QA := QA) (m := m) hok (2 ^ P.length - 1) (by have := pow_small _ hp5; omega) s hs A c W hB hC hc
  obtain ⟨q, hq⟩ : ∃ q : Nat, 2 ^ P.length - 1 = q := ⟨_, rfl⟩
  rw [hq] at hcp hcc ⊢
  clear hq
  have HCP := Lib.hid hcp; have HCC := Lib.hid hcc; have HI := Lib.hid hI
  clear hcp hcc hI
  obtain ⟨b0, b1, b2⟩ : w.cell? ⟨g, 0, none⟩ = some (.slice PA P.length pc) ∧ w.cell? ⟨g, 1, none⟩ = some (.slice QA Q.length qc) ∧ w.cell? ⟨g, 2, none⟩ = some (.map (some m)) := ⟨blk_cell HI.out.2.1 0, blk_cell HI.out.2.1 1, blk_cell HI.out.2.1 2⟩
  have b3 : w.cell? ⟨k, 0, none⟩ = some (.func (.func 84) #[.agg #[.slice PA P.length pc, .slice QA Q.length qc, .map (some m)]] #[]) := blk_cell HI.out.2.2 0
  have hfn0 := Tryd.func84
  go_enter Tryd.func108, Tryd.ntmps108
  go_wp2_with fail
  refine start_ (n := 6) (S := fun w' => w'.cell? ⟨g, 0, none⟩ = some (.slice PA P.length pc) ∧ w'.cell? ⟨g, 1, none⟩ = some (.slice QA Q.length qc) ∧ w'.cell? ⟨g, 2, none⟩ = some (.map (some m)) ∧ w'.cell? ⟨k, 0, none⟩ = some (.func (.func 84) #[.agg #[.slice PA P.length pc, .slice QA Q.length qc, .map (some m)]] #[])) (ds := [4]) #[false, false, false, false, false, false] (by kernel_rfl) rfl rfl ⟨b0, b1, b2, b3⟩ (fun hHeld => ?_)
  refine pu_ (i := 1) (N := some 6) (qa_ 6 2) ?_
  refine tk_ (i := 0) (N := some 5) (qa_ 6 3) hHeld ?_
  refine tk_ (i := 2) (N := some 7) (qa_ 6 7) hHeld ?_
  refine on_ (i := 3) (N := some 8) (qa_ 6 15) (fun K hK => ?_)
  refine goes_ Tryd.func90 (by kernel_rfl) rfl #[.agg #[.slice PA P.length pc, .slice QA Q.length qc, .map (some m)]] (by rfl) rfl rfl (by first | (simp; done) | (simp only [List.map_toArray, List.map_cons, List.map_nil]; rfl)) ?_
  with_reducible refine (HCP.out _).mono ?_
  rintro e w2 ⟨v2, rfl, hv2, hb3⟩
  have hb4 : Below w.heap.size w w2 := undrew hb3
  obtain ⟨A2, c2, rfl, hl2, hC2, -⟩ := hv2
  refine ⟨_, rfl, ?_⟩
  refine hK.out _ _ ⟨pw_cell_below hb4 b0, pw_cell_below hb4 b1, pw_cell_below hb4 b2, pw_cell_below hb4 b3⟩ (fun hHeld => ?_)
  clear hK K
  refine nm_ (some 8) ?_
  refine last_ (i := 4) (N := some 9) (qa_ 6 31) rfl rfl (by kernel_rfl) (by decide) (fun K hK => ?_)
  refine goesV_ hfn0 (by kernel_rfl) rfl #[.agg #[.slice PA P.length pc, .slice QA Q.length qc, .map (some m)], .int .i64 s, .slice A2 (ints (setL q)).length c2] (by rfl) rfl rfl rfl (by (try simp only [Array.empty_append, Array.append_empty, List.map_toArray, List.map_cons, List.map_nil, List.append_toArray, List.nil_append, List.append_nil, List.cons_append]); rfl) ?_
  with_reducible refine (HCC.out A2 c2 w2 (HI.out.bk.below hb4) hC2 hl2).mono ?_
  rintro e w3 ⟨rfl, hbk3, hg3⟩
  refine ⟨_, rfl, ?_⟩
  refine hK.out _ _ ?_
  clear hK K
  refine nm_ (some 9) ?_
  refine pu_ (i := 5) (N := some 4) (qa_ 6 63) ?_
  refine done_ (by kernel_rfl) ?_
  clear hHeld
  go_wp2_with fail
  go_ret
  have hbb := HI.out.below hb4
  exact ⟨rfl, ⟨hbk3, blk_grownM hbb.2.1 hbb.1.is hg3, blk_grownM hbb.2.2 hbb.1.is hg3⟩, grown_trans (grown_of_below hb4 _) hg3⟩
theorem asks_most1 {PA : Option Addr} {pc : Nat} {QA : Option Addr} {qc m : Nat} {P : List S48} {Q : List S50} (hok : Ok P Q) (g k : Nat) :
    Asks 108 #[.pointer (some ⟨k, 0, none⟩), .pointer (some ⟨g, 0, none⟩)] m (2 ^ Q.length) (fun s => cutB P Q (setL (2 ^ P.length - 1)) s) (InvB PA pc QA qc m P Q g k) :=
  ⟨fun s hs w hI => calls_most1 PA pc QA qc m P Q hok g k s hs w hI, ⟨_, Tryd.func108, by kernel_rfl, rfl⟩, fun W W' h hb => h.below hb, fun W h => h.1.is⟩
def mostN (P : List S48) (Q : List S50) : List Nat := (bestTo moreL (fun s => cutB P Q (setL (2 ^ P.length - 1)) s) (2 ^ Q.length)).2
set_option maxRecDepth 100000 in
theorem calls_most (PA : Option Addr) (pc : Nat) (QA : Option Addr) (qc m : Nat) (P : List S48) (Q : List S50) (hok : Ok P Q) (w : World) (hB : Bk PA QA m P Q w) :
    Calls Tryd.prog 79 #[.agg #[.slice PA P.length pc, .slice QA Q.length qc, .map (some m)]] w fun e w' => ∃ v, e = .returned v ∧ VI w.heap.size w' v (ints (mostN P Q)) ∧ Bk PA QA m P Q w' ∧ w.grownBy w' (some m) := by
  obtain ⟨n0, n1, n2, n3⟩ := new2 w (.cells #[.slice PA P.length pc, .slice QA Q.length qc, .map (some m)] 84) (.cells #[.func (.func 84) #[.agg #[.slice PA P.length pc, .slice QA Q.length qc, .map (some m)]] #[]] 109)
  have hmw := hB.lt
  have HI := Lib.hid (show InvB PA pc QA qc m P Q w.heap.size (w.heap.size + 1) ((w.alloc (.cells #[.slice PA P.length pc, .slice QA Q.length qc, .map (some m)] 84)).alloc (.cells #[.func (.func 84) #[.agg #[.slice PA P.length pc, .slice QA Q.length qc, .map (some m)]] #[]] 109)) from ⟨hB.below n2, n0, n1⟩)
  have HN := Lib.hid n2
  clear n0 n1 n2 n3 hB
  go_enter Tryd.func79, Tryd.ntmps79
  go_wp2_with fail
  generalize (w.alloc (.cells #[.slice PA P.length pc, .slice QA Q.length qc, .map (some m)] 84)).alloc (.cells #[.func (.func 84) #[.agg #[.slice PA P.length pc, .slice QA Q.length qc, .map (some m)]] #[]] 109) = W at HI HN ⊢
  have c0 : W.cell? ⟨w.heap.size, 1, none⟩ = some (.slice QA Q.length qc) := blk_cell HI.out.2.1 1
  have HCB := Lib.hid (fun W' hI hm => calls_best 113 moreL better_many 108 #[.pointer (some ⟨w.heap.size + 1, 0, none⟩), .pointer (some ⟨w.heap.size, 0, none⟩)] m Q.length hok.q5 _ _ (asks_most1 (PA := PA) (pc := pc) (QA := QA) (qc := qc) hok w.heap.size (w.heap.size + 1)) W' hI hm)
  refine start_ (n := 12) (S := fun w' => w'.cell? ⟨w.heap.size, 1, none⟩ = some (.slice QA Q.length qc)) (ds := [6]) #[false, false, false, false, false, false, false, false, false, false, false, false] (by kernel_rfl) rfl rfl (c0) (fun hHeld => ?_)
  refine pu_ (i := 1) (N := some 10) (qa_ 12 2) ?_
  refine pu_ (i := 2) (N := some 11) (qa_ 12 6) ?_
  refine pu_ (i := 5) (N := some 14) (qa_ 12 38) ?_
  refine tk_ (i := 3) (N := some 12) (qa_ 12 46) hHeld ?_
  refine pu_ (i := 4) (N := some 13) (qa_ 12 62) ?_
  refine on_ (i := 0) (N := some 9) (qa_ 12 63) (fun K hK => ?_)
  refine goes_ Tryd.func107 (by kernel_rfl) rfl #[] (by rfl) rfl rfl (by first | (simp; done) | (simp only [List.map_toArray, List.map_cons, List.map_nil]; rfl)) ?_
  with_reducible refine (calls_many _).mono ?_
  rintro e w1 ⟨rfl, hb1⟩
  have hb2 : Below W.heap.size W w1 := undrew hb1
  refine ⟨_, rfl, ?_⟩
  refine hK.out _ _ (pw_cell_below hb2 c0) (fun hHeld => ?_)
  clear hK K
  refine nm_ (some 9) ?_
  refine last_ (i := 6) (N := some 15) (qa_ 12 127) rfl rfl (by kernel_rfl) (by decide) (fun K hK => ?_)
  refine goes_ Tryd.func82 (by kernel_rfl) rfl #[.agg #[.func (.func 113) #[] #[]], .int .i64 Q.length, .func (.func 108) #[] #[.pointer (some ⟨w.heap.size + 1, 0, none⟩), .pointer (some ⟨w.heap.size, 0, none⟩)]] (by rfl) rfl rfl (by first | (simp; done) | (simp only [List.map_toArray, List.map_cons, List.map_nil]; rfl)) ?_
  with_reducible refine (HCB.out w1 (HI.out.below hb2) (Nat.lt_of_lt_of_le hmw (below_size (HN.out.trans (hb2.mono (below_size HN.out)))))).mono ?_
  rintro e w2 ⟨v2, rfl, hv2, hi2, hg2⟩
  refine ⟨_, rfl, ?_⟩
  refine hK.out _ _ ?_
  clear hK K
  refine nm_ (some 15) ?_
  refine pu_ (i := 7) (N := some 8) (qa_ 12 255) ?_
  refine pu_ (i := 8) (N := some 16) (qa_ 12 511) ?_
  refine pu_ (i := 9) (N := some 17) (qa_ 12 1023) ?_
  refine pu_ (i := 10) (N := some 4) (qa_ 12 2047) ?_
  refine pu_ (i := 11) (N := some 5) (qa_ 12 4095) ?_
  refine done_ (by kernel_rfl) ?_
  clear hHeld
  have hbb : Below w.heap.size w w1 := HN.out.trans (hb2.mono (below_size HN.out))
  have HV2 := Lib.hid hv2; have HI2 := Lib.hid hi2; have HG2 := Lib.hid hg2; have HBB := Lib.hid hbb
  clear hv2 hi2 hg2 hbb
  go_wp2_with fail
  go_ret
  obtain ⟨A, c, h5, h6, h7, h8⟩ := HV2.out
  exact ⟨_, rfl, ⟨A, c, h5, h6, h7, fun ad e => Nat.le_trans (below_size HBB.out) (h8 ad e)⟩, HI2.out.1, grown_trans (grown_of_below HBB.out _) HG2.out⟩
end Go.Proofs.YtekjlpldooihhaaDoorP
