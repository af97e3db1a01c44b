/- Printed by a program (prx.py). -/
import Derived.Test.YtekjlpldooihhaaDoorRw
import Derived.Test.YtekjlpldooihhaaDoorPr
import Derived.Test.YtekjlpldooihhaaDoorWWords
import Derived.Test.YtekjlpldooihhaaDoorProg
import Derived.Below
import Derived.Deep.Draws
import Derived.Deep.AppendLies
import Derived.Maps.AppendAt
import Derived.OwnWalk
import Derived.Laws.BytesArg
import Derived.Laws.MakeOwn
import Derived.Laws.OwnMore
import Derived.Deep.OwnRows
import Derived.Tactics
import Derived.Lib.ConvBytes
import Derived.Laws.Slices
import Derived.WalkKit
import Derived.KernelRfl
import Derived.RowKit3
import Derived.Deep.LoopGhost
import Derived.Deep.QuietTactic
import Derived.BigQuiet
import Derived.WideLaws
import Derived.Deep.DeepCutAuto
import Derived.Deep.CutBlock
import Derived.Deep.RegionHeld3
import Derived.Laws.Rows
import Derived.Lib.AppendStr
import Derived.ArgAppend
import Derived.Laws.IdiomCopy
import Derived.OrdersHeld
import Derived.Laws.BitsLemmas
import Derived.RowKit
import Derived.Test.YtekjlpldooihhaaDoorHb
namespace Go.Proofs.YtekjlpldooihhaaDoorK
open Go.Proofs.YtekjlpldooihhaaDoorSh
open Go.RowKit Go.Proofs.YtekjlpldooihhaaDoorW.PrintWords Go.Proofs.YtekjlpldooihhaaDoorW.PrintLast Go.Proofs.YtekjlpldooihhaaDoorW.PrintMore Go.Proofs.YtekjlpldooihhaaDoorH Go.Proofs.YtekjlpldooihhaaDoorP
open Go.Proofs.YtekjlpldooihhaaDoor.PA (S48 S50 S60 k48 k50 k60 z48 z50 z60 k48_open k60_open k60_mkM)
set_option linter.unusedVariables false
set_option linter.unusedSimpArgs false
theorem add_at0 (g k : Nat) : (⟨g, 0, none⟩ : Addr).add k = ⟨g, k, none⟩ := by unfold Addr.add; split <;> simp_all
theorem calls_One (n : Int) (w : World) : Calls Tryd.prog 55 #[.int .i64 n] w fun e w' => e = .returned (.agg #[.int .i64 n, .int .i64 n]) ∧ Below w.heap.size w w' := by
  go_enter Tryd.func55, Tryd.ntmps55
  have hu := Tryd.underlying60
  go_wp2_with fail
  refine bodyPost_ret (results_cell_row rfl _ _ w.heap.size 60 #[.int .i64 n, .int .i64 n] (0, 0) _ rfl (blk_new w _) Tryd.underlying60 rfl (by kernel_rfl)) rfl ⟨rfl, ?_⟩
  exact (new1 w _).2.1
def woodF (W : World) (ok : Nat → Prop) (cs : Nat → Option Value) (y : S48) (j : Nat) : Prop := ∃ A c, cs (j * 2) = some (.int .i64 y.f0) ∧ cs (j * 2 + 1) = some (.slice A y.f1.length c) ∧ y.f1.length ≤ c ∧ Kd.F k60 W ok A y.f1.length y.f1
theorem woods_F {W : World} {ok : Nat → Prop} {ad : Addr} {P : List S48} (h : Kd.F k48 W ok (some ad) P.length P) :
    (∀ j u, (cellsOf W ad P.length)[j]? = some u → W.cell? (ad.add j) = some u) ∧ (∀ u ∈ cellsOf W ad P.length, u.oneCell' = true) ∧ ∀ j, j < P.length → woodF W ok (fun i => (cellsOf W ad P.length)[i]?) (P.getD j z48) j := by
  obtain ⟨h1, h2, h3⟩ := woods_news (Kd.F_now h)
  refine ⟨h1, h2, fun j hj => ?_⟩
  obtain ⟨A, c, e1, e2, e3, _⟩ := h3 j hj
  refine ⟨A, c, e1, e2, e3, ?_⟩
  obtain ⟨_, _, hr⟩ := Kd.F_rows h
  obtain ⟨a, ea, h4⟩ := hr (by omega)
  obtain rfl := Option.some.inj ea
  have hx : P[j]? = some (P.getD j z48) := by simp [hj]
  obtain ⟨cs, hl, hfk, hc⟩ := h4 j _ hx
  generalize P.getD j z48 = y at e1 e2 e3 hfk ⊢
  obtain ⟨A1, c1, ecs, _, _⟩ := k48_open (Kd.FK_now hfk)
  have h5 := hc 1 (.slice A1 y.f1.length c1) (by rw [ecs]; rfl)
  have h6 := h1 (j * 2 + 1) _ e2
  rw [show k48.sz = 2 from rfl, h6] at h5
  have h7 := Option.some.inj h5
  simp only [Value.slice.injEq] at h7
  obtain ⟨rfl, _, rfl⟩ := h7
  intro W' hW
  obtain ⟨A2, c2, e7, _, h8⟩ := k48_open (hfk W' hW)
  rw [ecs] at e7
  simp only [List.cons.injEq, Value.slice.injEq, and_true, true_and] at e7
  rw [e7.1]
  exact h8
theorem set_spans2 {cur : Array Value} {l : List S60} (hnw : ∀ j, j < l.length → spanAt (fun i => cur[i]?) (l.getD j z60) j) {k : Nat} (hk : k < l.length) (v : Int) :
    ∀ j, j < (l.set k ⟨v, v⟩).length → spanAt (fun i => ((cur.setIfInBounds (k * 2) (.int .i64 v)).setIfInBounds (k * 2 + 1) (.int .i64 v))[i]?) ((l.set k ⟨v, v⟩).getD j z60) j := by
  intro j hj
  rw [List.length_set] at hj
  by_cases e : j = k
  · subst e
    obtain ⟨h1, h2⟩ := hnw j hj
    have hlt : j * 2 + 1 < cur.size := (Array.getElem?_eq_some_iff.1 h2).1
    rw [show (l.set j ⟨v, v⟩).getD j z60 = ⟨v, v⟩ from by simp [hj]]
    refine ⟨?_, ?_⟩
    · show _ = some (Value.int .i64 v)
      dsimp only
      rw [Array.getElem?_setIfInBounds_ne (show j * 2 + 1 ≠ j * 2 by omega), Array.getElem?_setIfInBounds_self_of_lt (by omega)]
    · show _ = some (Value.int .i64 v)
      dsimp only
      rw [Array.getElem?_setIfInBounds_self_of_lt (by simp; omega)]
  · obtain ⟨h1, h2⟩ := hnw j hj
    rw [show (l.set k ⟨v, v⟩).getD j z60 = l.getD j z60 from by simp [Ne.symm e]]
    refine ⟨?_, ?_⟩
    · refine Eq.trans ?_ h1
      dsimp only
      rw [Array.getElem?_setIfInBounds_ne (show k * 2 + 1 ≠ j * 2 by omega), Array.getElem?_setIfInBounds_ne (show k * 2 ≠ j * 2 by omega)]
    · refine Eq.trans ?_ h2
      dsimp only
      rw [Array.getElem?_setIfInBounds_ne (show k * 2 + 1 ≠ j * 2 + 1 by omega), Array.getElem?_setIfInBounds_ne (show k * 2 ≠ j * 2 + 1 by omega)]
theorem set_woodsF {Wr W2 : World} {ok : Nat → Prop} {cur : Array Value} {news : List Value} {P : List S48} (hcur : cur.toList.take (P.length * 2) = news) (hnl : news.length = P.length * 2) (hnw : ∀ j, j < P.length → woodF Wr ok (fun i => news[i]?) (P.getD j z48) j) (hm : ∀ k, ok k → k < Wr.heap.size → W2.heap[k]? = Wr.heap[k]?) {p : Nat} (hp : p < P.length)
    {l : List S60} {A : Option Addr} {c : Nat} (hlc : l.length ≤ c) (hC : Kd.C k60 W2 A l.length l) :
    ∀ j, j < (P.set p ⟨(P.getD p z48).f0, l⟩).length → woodAt W2 (fun i => (cur.setIfInBounds (p * 2 + 1) (.slice A l.length c))[i]?) ((P.set p ⟨(P.getD p z48).f0, l⟩).getD j z48) j :=
  set_woods hcur hnl (fun j hj => by obtain ⟨A, c, e1, e2, e3, e4⟩ := hnw j hj; exact ⟨A, c, e1, e2, e3, e4 W2 hm⟩) (Below.refl _ _) hp hlc hC
set_option maxRecDepth 100000 in
set_option maxHeartbeats 2000000 in
theorem calls_Known (P0 P1 : Nat → Prop) (PA : Option Addr) (pc : Nat) (P : List S48) (QA : Option Addr) (qc : Nat) (Q : List S50) (p k : Nat) (n : Int) (w : World) (hV0 : Kd.V k48 48 w w.heap.size P0 (.slice PA P.length pc) P) (hV1 : Kd.V k50 50 w w.heap.size P1 (.slice QA Q.length qc) Q)
    (hp : p < P.length) (hk : k < (P.getD p z48).f1.length) (h64 : P.length ≤ 64) (hk64 : (P.getD p z48).f1.length ≤ 64) :
    Calls Tryd.prog 94 #[.agg #[.slice PA P.length pc, .slice QA Q.length qc], .int .i64 p, .int .i64 k, .int .i64 n] w fun e w' =>
      ∃ v0_ v1_ : Value, e = .returned (.agg #[v0_, v1_]) ∧ Kd.V k48 48 w' w.heap.size (fun k_ => (P0 k_ ∨ P1 k_) ∨ w.heap.size ≤ k_) v0_ (setKnot P p k n) ∧ Kd.V k50 50 w' w.heap.size (fun k_ => (P0 k_ ∨ P1 k_) ∨ w.heap.size ≤ k_) v1_ Q ∧ Below w.heap.size w w' := by
  have hF := Kd.F_bound (Kd.V_at hV0).2.2
  have hF1 := Kd.F_bound (Kd.V_at hV1).2.2
  have hqc := (Kd.V_at hV1).2.1
  obtain ⟨ad, KA, kc, rfl, hc0, hc1, hkl, hKn⟩ := at_wood (Kd.F_now hF) p hp
  obtain ⟨y, hy⟩ : ∃ y, P.getD p z48 = y := ⟨_, rfl⟩
  rw [hy] at hc1 hkl hKn hk hk64
  obtain ⟨ka, rfl, _, _⟩ := at_span hKn k hk
  have HF := Lib.hid hF; have HF1 := Lib.hid hF1; have HQC := Lib.hid hqc; have HK := Lib.hid hKn; have HC1 := Lib.hid hc1; have HY := Lib.hid hy; have HKL := Lib.hid hkl
  clear hF hF1 hqc hc0 hc1 hKn hV0 hV1 hy hkl
  have hu := Tryd.underlying25
  go_enter Tryd.func94, Tryd.ntmps94
  go_upto_region 2 with (fail)
  generalize hW : ((w.alloc (.cells #[.slice (some ad) P.length pc, .slice QA Q.length qc] 25)).alloc (.cells #[.slice none 0 0, .slice none 0 0] 25)).alloc (.cells #[.slice (some ad) P.length pc, .slice QA Q.length qc] 25) = W
  have H1 := Lib.hid (show W.heap[w.heap.size]? = some (.cells #[.slice (some ad) P.length pc, .slice QA Q.length qc] 25 (0, 0)) by rw [← hW]; exact blk_alloc (blk_alloc (blk_new w _) _) _)
  have H2 := Lib.hid (show W.heap[w.heap.size + 1]? = some (.cells #[.slice none 0 0, .slice none 0 0] 25 (0, 0)) by rw [← hW]; exact blk_alloc (by have := blk_new (w.alloc (.cells #[.slice (some ad) P.length pc, .slice QA Q.length qc] 25)) (.cells #[.slice none 0 0, .slice none 0 0] 25); simpa using this) _)
  have H3 := Lib.hid (show W.heap[w.heap.size + 1 + 1]? = some (.cells #[.slice (some ad) P.length pc, .slice QA Q.length qc] 25 (0, 0)) by rw [← hW]; have := blk_new ((w.alloc (.cells #[.slice (some ad) P.length pc, .slice QA Q.length qc] 25)).alloc (.cells #[.slice none 0 0, .slice none 0 0] 25)) (.cells #[.slice (some ad) P.length pc, .slice QA Q.length qc] 25); simpa using this)
  have HB := Lib.hid (show Below w.heap.size w W by rw [← hW]; exact (((Below.refl _ _).alloc (Nat.le_refl _) _).alloc (by simp) _).alloc (by simp; omega) _)
  have hWs : w.heap.size + 1 + 1 < W.heap.size := blk_lt H3.out
  clear hW
  obtain ⟨i0, hinf, hz0, hz1, hz2⟩ := info_parts infoWood
  obtain ⟨news, hnl, hnc, hn1, hnw⟩ : ∃ news : List Value, news.length = P.length * 2 ∧ (∀ j u, news[j]? = some u → (W.alloc (.cells #[] 48)).cell? (ad.add j) = some u) ∧ (∀ u ∈ news, u.oneCell' = true) ∧ ∀ j, j < P.length → woodF w (fun k => P0 k ∧ k < w.heap.size) (fun i => news[i]?) (P.getD j z48) j := by
    obtain ⟨h1, h2, h3⟩ := woods_F HF.out
    exact ⟨cellsOf w ad P.length, cellsOf_len _ _ _, fun j u h => pw_cell_below (HB.out.trans ((new1 W _).2.1.mono (by omega))) (h1 j u h), h2, h3⟩
  have HNL := Lib.hid hnl; have HNC := Lib.hid hnc; have HN1 := Lib.hid hn1; have HNW := Lib.hid hnw
  clear hnl hnc hn1 hnw
  have c1a : (W.alloc (.cells #[] 48)).cell? ⟨w.heap.size, 0, none⟩ = some (.slice (some ad) P.length pc) := blk_cell (blk_alloc H1.out _) 0
  go_wp2_with ((with_reducible refine gate_builtin (b := .append) (xs := #[.tmp 11, .tmp 13]) rfl ?_); at_builtin; refine wpList_append_own _ rfl _ _ 22 rfl W.heap.size 48 i0 (.agg #[.int .i64 0, .slice none 0 0]) 2 32 Tryd.underlying22 hinf hz0 hz1 hz2 rfl (by decide) _ 0 [] rfl ⟨by simp, .inr ⟨W.heap.size, 0, #[], rfl, Nat.le_refl _, (new1 W _).1, Nat.le_refl _, (by decide), (by simp), (by simp)⟩⟩ ad P.length pc news rfl HNL.out HNC.out HN1.out (by simp [maxLen]; omega) (by omega) (by simp) ?_; intro v3 w3 hown hgrow _; obtain ⟨g, cap, cur, hv3, hgw, hgb, hcap, hcur⟩ : ∃ g cap cur, v3 = .slice (some ⟨g, 0, none⟩) P.length cap ∧ W.heap.size ≤ g ∧ w3.heap[g]? = some (.cells cur 48 (0, 0)) ∧ P.length ≤ cap ∧ cur.toList.take (P.length * 2) = news := (by rcases hown.2 with ⟨_, h0⟩ | ⟨g, cap, cur, h1, h2, h3, h4, _, _, h5⟩; (· omega); (· exact ⟨g, cap, cur, by simpa using h1, h2, h3, by omega, by simpa using h5⟩)); subst hv3; obtain ⟨adg, hadg⟩ : ∃ a : Addr, a = ⟨g, 0, none⟩ := ⟨_, rfl⟩; rw [← hadg]; have HADG := Lib.hid hadg; have HG3 := Lib.hid hgb; have HCUR := Lib.hid hcur; have H13 := Lib.hid (blk_grown (blk_alloc H1.out _) hgrow (show some w.heap.size ≠ some W.heap.size from fun e => (by have := Option.some.inj e; omega))); have H23 := Lib.hid (blk_grown (blk_alloc H2.out _) hgrow (show some (w.heap.size + 1) ≠ some W.heap.size from fun e => (by have := Option.some.inj e; omega))); have H33 := Lib.hid (blk_grown (blk_alloc H3.out _) hgrow (show some (w.heap.size + 1 + 1) ≠ some W.heap.size from fun e => (by have := Option.some.inj e; omega))); have HB3 := Lib.hid (grown_Below (HB.out.trans ((new1 W _).2.1.mono (by omega))) (show w.heap.size ≤ W.heap.size by omega) hgrow); have f33 : w3.frozen? ⟨w.heap.size + 1 + 1, 0, none⟩ = false := blk_frozen H33.out 0; have c33 : w3.cell? ⟨w.heap.size + 1 + 1, 0, none⟩ = some (.slice (some ad) P.length pc) := blk_cell H33.out 0; clear hadg hgb hcur hown hgrow)
  generalize hWb : w3.setCell ⟨w.heap.size + 1 + 1, 0, none⟩ (.slice (some adg) P.length cap) = Wb
  have HGb := Lib.hid (show Wb.heap[g]? = some (.cells cur 48 (0, 0)) by rw [← hWb]; exact blk_far HG3.out (by show g ≠ w.heap.size + 1 + 1; omega) _)
  have H1b := Lib.hid (show Wb.heap[w.heap.size]? = some (.cells #[.slice (some ad) P.length pc, .slice QA Q.length qc] 25 (0, 0)) by rw [← hWb]; exact blk_far H13.out (by show w.heap.size ≠ w.heap.size + 1 + 1; omega) _)
  have H2b := Lib.hid (show Wb.heap[w.heap.size + 1]? = some (.cells #[.slice none 0 0, .slice none 0 0] 25 (0, 0)) by rw [← hWb]; exact blk_far H23.out (by show w.heap.size + 1 ≠ w.heap.size + 1 + 1; omega) _)
  have H3b := Lib.hid (show Wb.heap[w.heap.size + 1 + 1]? = some (.cells #[.slice (some adg) P.length cap, .slice QA Q.length qc] 25 (0, 0)) by rw [← hWb]; exact blk_set H33.out 0 _)
  have HBb := Lib.hid (show Below w.heap.size w Wb by rw [← hWb]; exact HB3.out.setCell (by show _ ≤ w.heap.size + 1 + 1; omega) _)
  clear hWb c33 f33 c1a HG3 H13 H23 H33 HB3 H1 H2 H3 HB HNC HN1
  have hadg : ∀ i, adg.add i = ⟨g, i, none⟩ := fun i => by rw [HADG.out]; exact add_at0 g i
  have HADD := Lib.hid hadg; clear hadg
  obtain ⟨ch, hch⟩ : ∃ ch, cur[p * 2 + 1]? = some ch := by
    have h1 : (cur.toList.take (P.length * 2)).length = P.length * 2 := by rw [HCUR.out]; exact HNL.out
    rw [List.length_take] at h1
    have h2 : cur.toList.length = cur.size := Array.length_toList
    exact ⟨_, Array.getElem?_eq_getElem (by omega)⟩
  have HCH := Lib.hid hch; clear hch
  have hsz5 := below_size HBb.out
  have hgW : w.heap.size + 1 + 1 < g := by omega
  have hpl : (p : Int) < (P.length : Int) := by omega
  have hp0 : 0 ≤ (p : Int) := by omega
  have s0 : Wb.cell? ⟨w.heap.size + 1 + 1, 0, none⟩ = some (.slice (some adg) P.length cap) := blk_cell H3b.out 0
  have s1 : Wb.cell? ⟨w.heap.size, 0, none⟩ = some (.slice (some ad) P.length pc) := blk_cell H1b.out 0
  have s2 : Wb.cell? ⟨(ad.add (p * 2)).block, (ad.add (p * 2)).off + 1, none⟩ = some (.slice (some ka) y.f1.length kc) := pw_cell_below HBb.out HC1.out
  have s3 : Wb.cell? ⟨(adg.add (p * 2)).block, (adg.add (p * 2)).off + 1, none⟩ = some ch := by rw [HADD.out]; exact (blk_cell HGb.out _).trans HCH.out
  have s4 : Wb.frozen? ⟨(adg.add (p * 2)).block, (adg.add (p * 2)).off + 1, none⟩ = false := by rw [HADD.out]; exact blk_frozen HGb.out _
  refine start_ (n := 14) (S := fun w' => w'.cell? ⟨w.heap.size + 1 + 1, 0, none⟩ = some (.slice (some adg) P.length cap) ∧ w'.cell? ⟨w.heap.size, 0, none⟩ = some (.slice (some ad) P.length pc) ∧ w'.cell? ⟨(ad.add (p * 2)).block, (ad.add (p * 2)).off + 1, none⟩ = some (.slice (some ka) y.f1.length kc) ∧ w'.cell? ⟨(adg.add (p * 2)).block, (adg.add (p * 2)).off + 1, none⟩ = some ch ∧ w'.frozen? ⟨(adg.add (p * 2)).block, (adg.add (p * 2)).off + 1, none⟩ = false) (ds := [13]) #[false, false, false, false, false, false, false, false, false, false, false, false, false, false] (by kernel_rfl) rfl rfl ⟨s0, s1, s2, s3, s4⟩ (fun hHeld => ?_)
  refine pu_ (i := 0) (N := some 16) (qa_ 14 1) ?_
  refine pu_ (i := 2) (N := some 18) (qa_ 14 5) ?_
  refine pu_ (i := 4) (N := some 20) (qa_ 14 21) ?_
  refine pu_ (i := 6) (N := some 22) (qa_ 14 85) ?_
  refine tk_ (i := 1) (N := some 17) (qa_ 14 87) hHeld ?_
  refine tk_ (i := 5) (N := some 21) (qa_ 14 119) hHeld ?_
  refine pu_ (i := 7) (N := some 23) (qa_ 14 247) ?_
  refine pu_ (i := 8) (N := some 24) (qa_ 14 503) ?_
  refine tk_ (i := 9) (N := some 25) (qa_ 14 1015) hHeld ?_
  refine on_ (i := 3) (N := some 19) (qa_ 14 1023) (fun K hK => ?_)
  refine Kd.R_lit_step k60 (w0 := w) w.heap.size 60 (by rfl) (N := 19) (by rfl) (xs := ([] : List S60)) (inner := []) (ok := fun k => w.heap.size ≤ k) (okp := fun _ => False) (by first | (go_simp; done) | (go_simp; rfl)) (Reps.none _ _) (fun _ hk => hk.elim) hsz5 HBb.out.drew hsz5 (by simp) ?_
  intro v6 w6 ho6 hb6 hg6 hn6
  have HO6 := Lib.hid ho6
  have HB6 := Lib.hid hb6
  have HG6 := Lib.hid (show Wb.grownBy w6 none from ⟨hg6.os, hg6.tape, hg6.output, hg6.size, hg6.block⟩)
  have HN6 := Lib.hid hn6
  clear ho6 hb6 hg6 hn6
  refine hK.out _ _ ⟨blk_cell (blk_grown H3b.out HG6.out (by simp)) 0, blk_cell (blk_grown H1b.out HG6.out (by simp)) 0, pw_cell_below HB6.out HC1.out, (by rw [HADD.out]; exact (blk_cell (blk_grown HGb.out HG6.out (by simp)) _).trans HCH.out), (by rw [HADD.out]; exact blk_frozen (blk_grown HGb.out HG6.out (by simp)) _)⟩ (fun hHeld => ?_)
  clear hK K
  refine nm_ (some 19) ?_
  refine on_ (i := 10) (N := some 26) (qa_ 14 2047) (fun K hK => ?_)
  refine Kd.R_append_rows_step k60 (Rr := k60.K w6) (w0 := w) w.heap.size (by rfl) (.tmp 19) (.tmp 25) 46 60 (.agg #[.int .i64 0, .int .i64 0]) 16 (by rfl) Tryd.underlying46 infoSpan (by rfl) (by decide) (by decide) v6 ([] : List S60) y.f1 (some ka) y.f1.length kc (fun k => w.heap.size ≤ k) (fun _ => False) (by rfl) (by rfl) HO6.out (Kd.C_below HK.out HB6.out) (fun x cs hk => by rw [k60_open hk]; exact k60_mkM _ _ _ x) (fun _ hk => hk.elim) (fun k hk => Nat.le_trans (below_size HB6.out) hk) HB6.out (below_size HB6.out) (by simp; omega) ?_
  intro v7 w7 ho7 hb7 hg7 hat7
  rw [List.nil_append] at ho7
  obtain ⟨gk, capk, rfl, hgr, hgrl, cur2, hcur2⟩ := Kd.R_form ho7 (by omega)
  obtain ⟨adk, hadk⟩ : ∃ a : Addr, a = ⟨gk, 0, none⟩ := ⟨_, rfl⟩
  have HADK0 := Lib.hid hadk
  rw [← hadk] at ho7 ⊢
  have HCU2 := Lib.hid hcur2
  clear hadk hcur2
  have HO7 := Lib.hid ho7
  have HB7 := Lib.hid hb7
  have HG7 := Lib.hid hg7
  have HAT7 := Lib.hid hat7
  clear ho7 hb7 hg7 hat7
  have H17 := Lib.hid (blk_grown (blk_grown H1b.out HG6.out (by simp)) HG7.out (Kd.R_ne HO6.out (blk_grown H1b.out HG6.out (by simp)) (by decide)))
  have H37 := Lib.hid (blk_grown (blk_grown H3b.out HG6.out (by simp)) HG7.out (Kd.R_ne HO6.out (blk_grown H3b.out HG6.out (by simp)) (by decide)))
  have HG7g := Lib.hid (blk_grown (blk_grown HGb.out HG6.out (by simp)) HG7.out (Kd.R_ne HO6.out (blk_grown HGb.out HG6.out (by simp)) (by decide)))
  refine hK.out _ _ ⟨blk_cell H37.out 0, blk_cell H17.out 0, pw_cell_below HB7.out HC1.out, (by rw [HADD.out]; exact (blk_cell HG7g.out _).trans HCH.out), (by rw [HADD.out]; exact blk_frozen HG7g.out _)⟩ (fun hHeld => ?_)
  clear hK K
  refine nm_ (some 26) ?_
  refine pu_ (i := 11) (N := some 27) (qa_ 14 4095) ?_
  refine pu_ (i := 12) (N := some 28) (qa_ 14 8191) ?_
  refine last_ (i := 13) (N := none) (qa_ 14 16383) rfl rfl (by kernel_rfl) (by decide) (fun K hK => ?_)
  refine skip_ (w1 := ?_) (by rfl) rfl ?_ ?_
  rotate_left
  · go_simp
    rfl
  refine hK.out _ _ ?_
  clear hK K
  refine done_ (by kernel_rfl) ?_
  clear hHeld s0 s1 s2 s3 s4
  rw [HADD.out]
  have hgb : g < Wb.heap.size := blk_lt HGb.out
  have hgk : Wb.heap.size ≤ gk := by
    obtain ⟨b, hb1, hb2⟩ := HN6.out
    have hb2 : Wb.heap.size ≤ b := hb2
    rcases HAT7.out with h1 | ⟨b', h1, h2⟩
    · rw [hb1] at h1
      have : gk = b := by simpa [Value.ownBlock] using h1
      omega
    · have : gk = b' := by simpa [Value.ownBlock] using h1
      have := HG6.out.size
      omega
  have HGK := Lib.hid hgk
  have hne6 : some g ≠ v6.ownBlock := Kd.R_ne HO6.out (blk_grown HGb.out HG6.out (by simp)) (by decide)
  have HG7g := Lib.hid (blk_grown (blk_grown HGb.out HG6.out (by simp)) HG7.out hne6)
  have H27 := Lib.hid (blk_grown (blk_grown H2b.out HG6.out (by simp)) HG7.out (Kd.R_ne HO6.out (blk_grown H2b.out HG6.out (by simp)) (by decide)))
  generalize hWc : w7.setCell ⟨g, p * 2 + 1, none⟩ (.slice (some adk) y.f1.length capk) = Wc
  have HGc := Lib.hid (show Wc.heap[g]? = some (.cells (cur.setIfInBounds (p * 2 + 1) (.slice (some adk) y.f1.length capk)) 48 (0, 0)) by rw [← hWc]; exact blk_set HG7g.out _ _)
  have HKc := Lib.hid (show Wc.heap[gk]? = some (.cells cur2 60 (0, 0)) by rw [← hWc]; exact blk_far HCU2.out (by show gk ≠ g; omega) _)
  have H2c := Lib.hid (show Wc.heap[w.heap.size + 1]? = some (.cells #[.slice none 0 0, .slice none 0 0] 25 (0, 0)) by rw [← hWc]; exact blk_far H27.out (by show w.heap.size + 1 ≠ g; omega) _)
  have H3c := Lib.hid (show Wc.heap[w.heap.size + 1 + 1]? = some (.cells #[.slice (some adg) P.length cap, .slice QA Q.length qc] 25 (0, 0)) by rw [← hWc]; exact blk_far H37.out (by show w.heap.size + 1 + 1 ≠ g; omega) _)
  have HBc := Lib.hid (show Below w.heap.size w Wc by rw [← hWc]; exact HB7.out.setCell (by show _ ≤ g; omega) _)
  have HLK := Lib.hid (show ∀ j, j < y.f1.length → spanAt (fun i => cur2[i]?) (y.f1.getD j z60) j from fun j hj => by
    obtain ⟨a, ea, e1, e2⟩ := at_span (Kd.R_reads' HO7.out).2.2 j hj
    rw [HADK0.out] at ea
    obtain rfl := Option.some.inj ea
    rw [add_at0, blk_cell HCU2.out] at e1
    rw [add_at0, blk_cell HCU2.out] at e2
    exact ⟨e1, e2⟩)
  have HCK := Lib.hid (show y.f1.length ≤ capk from (Kd.R_reads' HO7.out).2.1)
  have hadk2 : ∀ i, adk.add i = ⟨gk, i, none⟩ := fun i => by rw [HADK0.out]; exact add_at0 gk i
  have HADK := Lib.hid hadk2; clear hadk2
  obtain ⟨c3, c4, hc3, hc4⟩ : ∃ c3 c4, cur2[k * 2]? = some c3 ∧ cur2[k * 2 + 1]? = some c4 := ⟨_, _, (HLK.out k hk).1, (HLK.out k hk).2⟩
  have hcp : p * 2 + 1 < cur.size := (Array.getElem?_eq_some_iff.1 HCH.out).1
  have s0 : Wc.cell? ⟨w.heap.size + 1 + 1, 0, none⟩ = some (.slice (some adg) P.length cap) := blk_cell H3c.out 0
  have s1 : Wc.cell? ⟨(adg.add (p * 2)).block, (adg.add (p * 2)).off + 1, none⟩ = some (.slice (some adk) y.f1.length capk) := by rw [HADD.out]; refine (blk_cell HGc.out _).trans ?_; simp [hcp]
  have s2 : Wc.cell? (adk.add (k * 2)) = some c3 := by rw [HADK.out]; exact (blk_cell HKc.out _).trans hc3
  have s3 : Wc.cell? ⟨(adk.add (k * 2)).block, (adk.add (k * 2)).off + 1, none⟩ = some c4 := by rw [HADK.out]; exact (blk_cell HKc.out _).trans hc4
  have s4 : Wc.frozen? (adk.add (k * 2)) = false := by rw [HADK.out]; exact blk_frozen HKc.out _
  have s5 : Wc.frozen? ⟨(adk.add (k * 2)).block, (adk.add (k * 2)).off + 1, none⟩ = false := by rw [HADK.out]; exact blk_frozen HKc.out _
  have HC3 := Lib.hid hc3; have HC4 := Lib.hid hc4
  have s6 : ∀ v, (Wc.setCell (adk.add (k * 2)) v).cell? ⟨(adk.add (k * 2)).block, (adk.add (k * 2)).off + 1, none⟩ = some c4 := fun v => by
    rw [HADK.out]
    refine (blk_cell (blk_set HKc.out _ _) _).trans ?_
    rw [Array.getElem?_setIfInBounds_ne (show k * 2 ≠ k * 2 + 1 by omega)]
    exact HC4.out
  have hkl' : (k : Int) < (y.f1.length : Int) := by omega
  have hk0 : 0 ≤ (k : Int) := by omega
  have HCP := Lib.hid hcp
  clear hc3 hc4 hcp HG6 HN6 HO6 HB6 H27 H37 H17 HG7 HAT7 HCU2 HB7 HG7g H1b H2b H3b HGb HBb
  go_wp2_with fail
  refine start_ (n := 11) (S := fun w' => w'.cell? ⟨w.heap.size + 1 + 1, 0, none⟩ = some (.slice (some adg) P.length cap) ∧ w'.cell? ⟨(adg.add (p * 2)).block, (adg.add (p * 2)).off + 1, none⟩ = some (.slice (some adk) y.f1.length capk) ∧ w'.cell? (adk.add (k * 2)) = some c3 ∧ w'.cell? ⟨(adk.add (k * 2)).block, (adk.add (k * 2)).off + 1, none⟩ = some c4 ∧ w'.frozen? (adk.add (k * 2)) = false ∧ w'.frozen? ⟨(adk.add (k * 2)).block, (adk.add (k * 2)).off + 1, none⟩ = false ∧ ∀ v, (w'.setCell (adk.add (k * 2)) v).cell? ⟨(adk.add (k * 2)).block, (adk.add (k * 2)).off + 1, none⟩ = some c4) (ds := [10]) #[false, false, false, false, false, false, false, false, false, false, false] (by kernel_rfl) rfl rfl ⟨s0, s1, s2, s3, s4, s5, s6⟩ (fun hHeld => ?_)
  refine pu_ (i := 0) (N := some 29) (qa_ 11 1) ?_
  refine pu_ (i := 2) (N := some 31) (qa_ 11 5) ?_
  refine pu_ (i := 6) (N := some 35) (qa_ 11 69) ?_
  refine pu_ (i := 7) (N := some 36) (qa_ 11 197) ?_
  refine tk_ (i := 1) (N := some 30) (qa_ 11 199) hHeld ?_
  refine pu_ (i := 3) (N := some 32) (qa_ 11 207) ?_
  refine pu_ (i := 4) (N := some 33) (qa_ 11 223) ?_
  refine tk_ (i := 5) (N := some 34) (qa_ 11 255) hHeld ?_
  refine on_ (i := 8) (N := some 37) (qa_ 11 511) (fun K hK => ?_)
  refine goes_ Tryd.func55 (by kernel_rfl) rfl #[.int .i64 n] (by rfl) rfl rfl (by first | (simp; done) | (simp only [List.map_toArray, List.map_cons, List.map_nil]; rfl)) ?_
  with_reducible refine (calls_One n Wc.drew).mono ?_
  rintro e w9 ⟨rfl, hb1⟩
  have hb2 : Below Wc.heap.size Wc w9 := undrew hb1
  have HK9 := Lib.hid (below_far HKc.out hb2)
  have HG9 := Lib.hid (below_far HGc.out hb2)
  have H29 := Lib.hid (below_far H2c.out hb2)
  have H39 := Lib.hid (below_far H3c.out hb2)
  have HB9 := Lib.hid (HBc.out.trans (hb2.mono (below_size HBc.out)))
  clear hb1 hb2
  refine ⟨_, rfl, ?_⟩
  refine hK.out _ _ ⟨blk_cell H39.out 0, (by rw [HADD.out]; refine (blk_cell HG9.out _).trans ?_; simp [HCP.out]), (by rw [HADK.out]; exact (blk_cell HK9.out _).trans HC3.out), (by rw [HADK.out]; exact (blk_cell HK9.out _).trans HC4.out), (by rw [HADK.out]; exact blk_frozen HK9.out _), (by rw [HADK.out]; exact blk_frozen HK9.out _), (fun v => by rw [HADK.out]; refine (blk_cell (blk_set HK9.out _ _) _).trans ?_; rw [Array.getElem?_setIfInBounds_ne (show k * 2 ≠ k * 2 + 1 by omega)]; exact HC4.out)⟩ (fun hHeld => ?_)
  clear hK K
  refine nm_ (some 37) ?_
  refine pu_ (i := 9) (N := some 38) (qa_ 11 1023) ?_
  refine last_ (i := 10) (N := none) (qa_ 11 2047) rfl rfl (by kernel_rfl) (by decide) (fun K hK => ?_)
  refine skip_ (w1 := ?_) (by rfl) rfl ?_ ?_
  rotate_left
  · go_simp
    rfl
  refine hK.out _ _ ?_
  clear hK K
  refine done_ (by kernel_rfl) ?_
  clear hHeld s0 s1 s2 s3 s4 s5 s6
  rw [HADK.out]
  have hgW9 : gk < w9.heap.size := blk_lt HK9.out
  generalize hWd : ((w9.setCell ⟨gk, k * 2, none⟩ (.int .i64 n)).setCell ⟨gk, k * 2 + 1, none⟩ (.int .i64 n)) = Wd
  have HKd := Lib.hid (show Wd.heap[gk]? = some (.cells ((cur2.setIfInBounds (k * 2) (.int .i64 n)).setIfInBounds (k * 2 + 1) (.int .i64 n)) 60 (0, 0)) by rw [← hWd]; exact blk_set (blk_set HK9.out _ _) _ _)
  have HGd := Lib.hid (show Wd.heap[g]? = some (.cells (cur.setIfInBounds (p * 2 + 1) (.slice (some adk) y.f1.length capk)) 48 (0, 0)) by rw [← hWd]; exact blk_far (blk_far HG9.out (by show g ≠ gk; omega) _) (by show g ≠ gk; omega) _)
  have H2d := Lib.hid (show Wd.heap[w.heap.size + 1]? = some (.cells #[.slice none 0 0, .slice none 0 0] 25 (0, 0)) by rw [← hWd]; exact blk_far (blk_far H29.out (by show w.heap.size + 1 ≠ gk; omega) _) (by show w.heap.size + 1 ≠ gk; omega) _)
  have H3d := Lib.hid (show Wd.heap[w.heap.size + 1 + 1]? = some (.cells #[.slice (some adg) P.length cap, .slice QA Q.length qc] 25 (0, 0)) by rw [← hWd]; exact blk_far (blk_far H39.out (by show w.heap.size + 1 + 1 ≠ gk; omega) _) (by show w.heap.size + 1 + 1 ≠ gk; omega) _)
  have HBd := Lib.hid (show Below w.heap.size w Wd by rw [← hWd]; exact ((HB9.out.setCell (by show _ ≤ gk; omega) _).setCell (by show _ ≤ gk; omega) _))
  clear hWd HK9 HG9 H29 H39 HB9
  obtain ⟨e0, e1, e2, e3⟩ : Wd.cell? ⟨w.heap.size + 1, 0, none⟩ = some (.slice none 0 0) ∧ Wd.cell? ⟨w.heap.size + 1, 1, none⟩ = some (.slice none 0 0) ∧ Wd.frozen? ⟨w.heap.size + 1, 0, none⟩ = false ∧ Wd.frozen? ⟨w.heap.size + 1, 1, none⟩ = false := ⟨blk_cell H2d.out 0, blk_cell H2d.out 1, blk_frozen H2d.out 0, blk_frozen H2d.out 1⟩
  obtain ⟨d0, d1⟩ : Wd.cell? ⟨w.heap.size + 1 + 1, 0, none⟩ = some (.slice (some adg) P.length cap) ∧ Wd.cell? ⟨w.heap.size + 1 + 1, 1, none⟩ = some (.slice QA Q.length qc) := ⟨blk_cell H3d.out 0, blk_cell H3d.out 1⟩
  go_wp2_with fail
  generalize hWe : (Wd.setCell ⟨w.heap.size + 1, 0, none⟩ (.slice (some adg) P.length cap)).setCell ⟨w.heap.size + 1, 1, none⟩ (.slice QA Q.length qc) = We
  have HRe := Lib.hid (show We.heap[w.heap.size + 1]? = some (.cells #[.slice (some adg) P.length cap, .slice QA Q.length qc] 25 (0, 0)) by rw [← hWe]; exact blk_set (blk_set H2d.out 0 _) 1 _)
  have HKe := Lib.hid (show We.heap[gk]? = some (.cells ((cur2.setIfInBounds (k * 2) (.int .i64 n)).setIfInBounds (k * 2 + 1) (.int .i64 n)) 60 (0, 0)) by rw [← hWe]; exact blk_far (blk_far HKd.out (by show gk ≠ w.heap.size + 1; omega) _) (by show gk ≠ w.heap.size + 1; omega) _)
  have HGe := Lib.hid (show We.heap[g]? = some (.cells (cur.setIfInBounds (p * 2 + 1) (.slice (some adk) y.f1.length capk)) 48 (0, 0)) by rw [← hWe]; exact blk_far (blk_far HGd.out (by show g ≠ w.heap.size + 1; omega) _) (by show g ≠ w.heap.size + 1; omega) _)
  have HBe := Lib.hid (show Below w.heap.size w We by rw [← hWe]; exact (HBd.out.setCell (by show _ ≤ w.heap.size + 1; omega) _).setCell (by show _ ≤ w.heap.size + 1; omega) _)
  refine bodyPost_ret (results_cell_row rfl _ _ (w.heap.size + 1) 25 #[.slice (some adg) P.length cap, .slice QA Q.length qc] (0, 0) _ rfl HRe.out Tryd.underlying25 rfl (by kernel_rfl)) rfl ⟨_, _, rfl, ?_, ?_, HBe.out⟩
  · have hset : setKnot P p k n = P.set p ⟨(P.getD p z48).f0, y.f1.set k ⟨n, n⟩⟩ := by unfold setKnot; rw [HY.out]
    rw [hset]
    refine ⟨some adg, cap, by rw [List.length_set], by rw [List.length_set]; exact hcap, fun W2 hW2 => ?_⟩
    have hg2 : W2.heap[g]? = _ := (hW2 g (.inr (by omega)) (blk_lt HGe.out)).trans HGe.out
    have hk2 : W2.heap[gk]? = _ := (hW2 gk (.inr (by omega)) (blk_lt HKe.out)).trans HKe.out
    have hkd : Kd.C k60 W2 (some adk) (y.f1.set k ⟨n, n⟩).length (y.f1.set k ⟨n, n⟩) := by
      have := spans_C hk2 (P := y.f1.set k ⟨n, n⟩) (by rw [List.length_set]; simp [maxLen]; omega) (set_spans2 HLK.out hk n)
      rwa [← HADK0.out] at this
    have hs := set_woodsF (W2 := W2) HCUR.out HNL.out HNW.out (fun q hq hlt => (hW2 q (.inl (.inl hq.1)) (Nat.lt_of_lt_of_le hlt (below_size HBe.out))).trans (HBe.out.block q hlt)) hp (A := some adk) (c := capk) (l := y.f1.set k ⟨n, n⟩) (by rw [List.length_set]; exact HCK.out) hkd
    rw [show (y.f1.set k ⟨n, n⟩).length = y.f1.length from by rw [List.length_set]] at hs
    have := woods_C hg2 (by rw [List.length_set]; simp [maxLen]; omega) hs
    rw [HADG.out]
    exact this
  · exact Kd.V_mk HQC.out (Kd.F_mono (Kd.F_below HF1.out HBe.out) (fun q hq => .inl (.inr hq.1)))
def skewbaldref01_Known.f (l0_0 : List S48) (l0_1 : List S50) (a1 a2 a3 : Int) : Option (List S48 × List S50) :=
  if 0 ≤ a1 ∧ a1 < l0_0.length ∧ 0 ≤ a2 ∧ a2 < (l0_0.getD a1.toNat z48).f1.length ∧ l0_0.length ≤ 64 ∧ (l0_0.getD a1.toNat z48).f1.length ≤ 64 then some (setKnot l0_0 a1.toNat a2.toNat a3, l0_1) else none
theorem skewbaldref01_Known.calls (P0_0_ : Nat → Prop) (A0_0 : Option Addr) (c0_0 : Nat) (l0_0 : List S48) (P0_1_ : Nat → Prop) (A0_1 : Option Addr) (c0_1 : Nat) (l0_1 : List S50) (a1 a2 a3 : Int) (r1 : List S48) (r2 : List S50) (w : World) (hs0_0 : Kd.V k48 48 w w.heap.size (fun k_ => P0_0_ k_) (.slice A0_0 l0_0.length c0_0) l0_0) (hs0_1 : Kd.V k50 50 w w.heap.size (fun k_ => P0_1_ k_) (.slice A0_1 l0_1.length c0_1) l0_1) (h : skewbaldref01_Known.f l0_0 l0_1 a1 a2 a3 = some (r1, r2)) :
    Calls Tryd.prog 94 #[.agg #[.slice A0_0 l0_0.length c0_0, .slice A0_1 l0_1.length c0_1], .int .i64 a1, .int .i64 a2, .int .i64 a3] w fun e w' => ∃ v0_ v1_ : Value, e = .returned (.agg #[v0_, v1_]) ∧ Kd.V k48 48 w' w.heap.size (fun k_ => ((P0_0_ k_ ∨ P0_1_ k_) ∨ w.heap.size ≤ k_)) v0_ r1 ∧ Kd.V k50 50 w' w.heap.size (fun k_ => ((P0_0_ k_ ∨ P0_1_ k_) ∨ w.heap.size ≤ k_)) v1_ r2 ∧ Below w.heap.size w w' := by
  unfold skewbaldref01_Known.f at h
  split at h
  · rename_i hc
    obtain ⟨h1, h2, h3, h4, h5, h6⟩ := hc
    obtain ⟨i, rfl⟩ : ∃ i : Nat, a1 = i := ⟨a1.toNat, by omega⟩
    obtain ⟨j, rfl⟩ : ∃ j : Nat, a2 = j := ⟨a2.toNat, by omega⟩
    simp only [Int.toNat_natCast, Option.some.injEq, Prod.mk.injEq] at h h4 h6
    obtain ⟨rfl, rfl⟩ := h
    exact calls_Known P0_0_ P0_1_ A0_0 c0_0 l0_0 A0_1 c0_1 l0_1 i j a3 w hs0_0 hs0_1 (by omega) (by omega) h5 h6
  · cases h
end Go.Proofs.YtekjlpldooihhaaDoorK
namespace Go.Proofs.YtekjlpldooihhaaDoorK
open Go.RowKit Go.Proofs.YtekjlpldooihhaaDoorW.PrintWords Go.Proofs.YtekjlpldooihhaaDoorW.PrintLast Go.Proofs.YtekjlpldooihhaaDoorW.PrintMore Go.Proofs.YtekjlpldooihhaaDoorH Go.Proofs.YtekjlpldooihhaaDoorP
open Go.Proofs.YtekjlpldooihhaaDoor.PA (S48 S50 S60 k48 k50 k60 z48 z50 z60 k50_mk)
set_option linter.unusedVariables false
set_option linter.unusedSimpArgs false
theorem ints_C {W : World} {g : Nat} {cur : Array Value} {t : Nat} {fr : Nat × Nat} {xs : List Int} (hg : W.heap[g]? = some (.cells cur t fr)) (hm : xs.length ≤ maxLen) (h : ∀ j, j < xs.length → cur[j]? = some (.int .i64 (xs.getD j 0))) : Kd.C (Kd.int .i64) W (some ⟨g, 0, none⟩) xs.length xs := by
  refine ⟨rfl, hm, fun _ => ⟨_, rfl, fun j x hx => ?_⟩⟩
  have hj : j < xs.length := (List.getElem?_eq_some_iff.1 hx).1
  have hxe : xs.getD j 0 = x := by rw [List.getD_eq_getElem?_getD, hx]; rfl
  refine ⟨[.int .i64 x], rfl, rfl, fun i u hi => ?_⟩
  rw [show (Kd.int .i64).sz = 1 from rfl, show (⟨g, 0, none⟩ : Addr).add (j * 1 + i) = ⟨g, j * 1 + i, none⟩ from add_at0 _ _]
  have hgc : W.cell? ⟨g, j * 1 + i, none⟩ = cur[j * 1 + i]? := by unfold World.cell?; rw [hg]; rfl
  rw [hgc]
  match i, hi with
  | 0, hi => simp at hi; rw [← hi, ← hxe, Nat.mul_one, Nat.add_zero]; exact h j hj
  | i + 1, hi => simp at hi
def shapeAt (W : World) (cs : Nat → Option Value) (y : S50) (j : Nat) : Prop := ∃ A c, cs (j * 3) = some (.int .i64 y.f0) ∧ cs (j * 3 + 1) = some (.slice A y.f1.length c) ∧ cs (j * 3 + 2) = some (.bool y.f2) ∧ y.f1.length ≤ c ∧ Kd.C (Kd.int .i64) W A y.f1.length y.f1
theorem shapes_C {W : World} {g : Nat} {cur : Array Value} {fr : Nat × Nat} {P : List S50} (hg : W.heap[g]? = some (.cells cur 50 fr)) (hm : P.length ≤ maxLen) (h : ∀ j, j < P.length → shapeAt W (fun i => cur[i]?) (P.getD j z50) j) : Kd.C k50 W (some ⟨g, 0, none⟩) P.length P := by
  refine ⟨rfl, hm, fun _ => ⟨_, rfl, fun j x hx => ?_⟩⟩
  have hj : j < P.length := (List.getElem?_eq_some_iff.1 hx).1
  obtain ⟨A, c, h1, h2, h3, h4, h5⟩ := h j hj
  have hxe : P.getD j z50 = x := by rw [List.getD_eq_getElem?_getD, hx]; rfl
  rw [hxe] at h1 h2 h3 h4 h5
  refine ⟨[.int .i64 x.f0, .slice A x.f1.length c, .bool x.f2], rfl, k50_mk W x h4 h5, fun i u hi => ?_⟩
  rw [show k50.sz = 3 from rfl, show (⟨g, 0, none⟩ : Addr).add (j * 3 + i) = ⟨g, j * 3 + i, none⟩ from add_at0 _ _]
  have hgc : W.cell? ⟨g, j * 3 + i, none⟩ = cur[j * 3 + i]? := by unfold World.cell?; rw [hg]; rfl
  rw [hgc]
  match i, hi with
  | 0, hi => simp at hi; rw [← hi]; exact h1
  | 1, hi => simp at hi; rw [← hi]; exact h2
  | 2, hi => simp at hi; rw [← hi]; exact h3
  | i + 3, hi => simp at hi
theorem calls_From (a b : Int) (w : World) : Calls Tryd.prog 56 #[.int .i64 a, .int .i64 b] w fun e w' => e = .returned (.agg #[.int .i64 a, .int .i64 b]) ∧ Below w.heap.size w w' := by
  go_enter Tryd.func56, Tryd.ntmps56
  have hu := Tryd.underlying60
  go_wp2_with fail
  refine bodyPost_ret (results_cell_row rfl _ _ w.heap.size 60 #[.int .i64 a, .int .i64 b] (0, 0) _ rfl (blk_new w _) Tryd.underlying60 rfl (by kernel_rfl)) rfl ⟨rfl, ?_⟩
  exact (new1 w _).2.1
theorem calls_wood (a : Int) (A : Option Addr) (n c : Nat) (w : World) : Calls Tryd.prog 59 #[.int .i64 a, .slice A n c] w fun e w' => e = .returned (.agg #[.int .i64 a, .slice A n c]) ∧ Below w.heap.size w w' := by
  go_enter Tryd.func59, Tryd.ntmps59
  have hu := Tryd.underlying48
  go_wp2_with fail
  refine bodyPost_ret (results_cell_row rfl _ _ w.heap.size 48 #[.int .i64 a, .slice A n c] (0, 0) _ rfl (blk_new w _) Tryd.underlying48 rfl (by kernel_rfl)) rfl ⟨rfl, ?_⟩
  exact (new1 w _).2.1
theorem calls_shape (a : Int) (A : Option Addr) (n c : Nat) (b : Bool) (w : World) : Calls Tryd.prog 97 #[.int .i64 a, .slice A n c, .bool b] w fun e w' => e = .returned (.agg #[.int .i64 a, .slice A n c, .bool b]) ∧ Below w.heap.size w w' := by
  go_enter Tryd.func97, Tryd.ntmps97
  have hu := Tryd.underlying50
  go_wp2_with fail
  refine bodyPost_ret (results_cell_row rfl _ _ w.heap.size 50 #[.int .i64 a, .slice A n c, .bool b] (0, 0) _ rfl (blk_new w _) Tryd.underlying50 rfl (by kernel_rfl)) rfl ⟨rfl, ?_⟩
  exact (new1 w _).2.1
def ownP : List S48 := [⟨12, [⟨3, 4⟩]⟩, ⟨8, [⟨6, 6⟩]⟩]
def ownQ : List S50 := [⟨5, [0, 4], false⟩, ⟨4, [1], true⟩, ⟨4, [0], true⟩]
def hidP : List S48 := [⟨9, [⟨2, 6⟩]⟩]
def hidQ : List S50 := [⟨5, [0, 4], false⟩, ⟨4, [0, 3], false⟩]
set_option maxRecDepth 100000 in
set_option maxHeartbeats 2000000 in
theorem calls_own (w : World) : Calls Tryd.prog 54 #[] w fun e w' => ∃ PA QA, e = .returned (.agg #[.slice (some PA) 2 2, .slice (some QA) 3 3]) ∧ (∀ W2 : World, (∀ k, w.heap.size ≤ k → k < w'.heap.size → W2.heap[k]? = w'.heap[k]?) → Kd.C k48 W2 (some PA) 2 ownP ∧ Kd.C k50 W2 (some QA) 3 ownQ) ∧ Below w.heap.size w w' := by
  have hu := Tryd.underlying25
  go_enter Tryd.func54, Tryd.ntmps54
  go_upto_region 1 with (fail)
  obtain ⟨n0, n1, n2⟩ := new1 w (.cells #[.slice none 0 0, .slice none 0 0] 25)
  generalize w.alloc (.cells #[.slice none 0 0, .slice none 0 0] 25) = w0 at n0 n1 n2 ⊢
  have FR := Lib.hid n0; have HB := Lib.hid n1
  have HL0 := Lib.hid (show w.heap.size < w0.heap.size from blk_lt n0)
  clear n0 n1 n2
  go_wp2_with (first | (go_at_call 56; (with_reducible refine (calls_From 3 4 _).mono ?_); rintro e w1 ⟨rfl, hb⟩; have FR := Lib.hid (blk_below (g := w.heap.size) (o := .cells #[.slice none 0 0, .slice none 0 0] 25 (0, 0)) (FR.out) hb); have HB := Lib.hid (below_step (by repeat (first | exact HB.out | apply below_alloc)) hb); have HL1 := Lib.hid (show w0.heap.size < w1.heap.size ∨ w0.heap.size = w1.heap.size from Nat.lt_or_eq_of_le (Nat.le_trans (by simp <;> omega) (below_size hb))); clear hb) | (go_at_call 59; (with_reducible refine (calls_wood 12 (some ⟨w1.heap.size, 0, none⟩) 1 1 _).mono ?_); rintro e w2 ⟨rfl, hb⟩; have FR := Lib.hid (blk_below (g := w.heap.size) (o := .cells #[.slice none 0 0, .slice none 0 0] 25 (0, 0)) (blk_alloc (FR.out) _) hb); have K1 := Lib.hid (blk_below (g := w1.heap.size) (o := .cells #[.int .i64 3, .int .i64 4] 60 (0, 0)) (blk_new w1 (.cells #[.int .i64 3, .int .i64 4] 60)) hb); have HB := Lib.hid (below_step (by repeat (first | exact HB.out | apply below_alloc)) hb); have HL2 := Lib.hid (show w1.heap.size < w2.heap.size ∨ w1.heap.size = w2.heap.size from Nat.lt_or_eq_of_le (Nat.le_trans (by simp <;> omega) (below_size hb))); clear hb) | (go_at_call 55; (with_reducible refine (calls_One 6 _).mono ?_); rintro e w3 ⟨rfl, hb⟩; have FR := Lib.hid (blk_below (g := w.heap.size) (o := .cells #[.slice none 0 0, .slice none 0 0] 25 (0, 0)) (FR.out) hb); have K1 := Lib.hid (blk_below (g := w1.heap.size) (o := .cells #[.int .i64 3, .int .i64 4] 60 (0, 0)) (K1.out) hb); have HB := Lib.hid (below_step (by repeat (first | exact HB.out | apply below_alloc)) hb); have HL3 := Lib.hid (show w2.heap.size < w3.heap.size ∨ w2.heap.size = w3.heap.size from Nat.lt_or_eq_of_le (Nat.le_trans (by simp <;> omega) (below_size hb))); clear hb) | (go_at_call 59; (with_reducible refine (calls_wood 8 (some ⟨w3.heap.size, 0, none⟩) 1 1 _).mono ?_); rintro e w4 ⟨rfl, hb⟩; have FR := Lib.hid (blk_below (g := w.heap.size) (o := .cells #[.slice none 0 0, .slice none 0 0] 25 (0, 0)) (blk_alloc (FR.out) _) hb); have K1 := Lib.hid (blk_below (g := w1.heap.size) (o := .cells #[.int .i64 3, .int .i64 4] 60 (0, 0)) (blk_alloc (K1.out) _) hb); have K2 := Lib.hid (blk_below (g := w3.heap.size) (o := .cells #[.int .i64 6, .int .i64 6] 60 (0, 0)) (blk_new w3 (.cells #[.int .i64 6, .int .i64 6] 60)) hb); have HB := Lib.hid (below_step (by repeat (first | exact HB.out | apply below_alloc)) hb); have HL4 := Lib.hid (show w3.heap.size < w4.heap.size ∨ w3.heap.size = w4.heap.size from Nat.lt_or_eq_of_le (Nat.le_trans (by simp <;> omega) (below_size hb))); clear hb) | (go_at_call 97; (with_reducible refine (calls_shape 5 (some ⟨w4.heap.size + 1, 0, none⟩) 2 2 false _).mono ?_); rintro e w5 ⟨rfl, hb⟩; have FR := Lib.hid (blk_below (g := w.heap.size) (o := .cells #[.slice none 0 0, .slice none 0 0] 25 (0, 0)) (blk_alloc (blk_alloc (FR.out) _) _) hb); have K1 := Lib.hid (blk_below (g := w1.heap.size) (o := .cells #[.int .i64 3, .int .i64 4] 60 (0, 0)) (blk_alloc (blk_alloc (K1.out) _) _) hb); have K2 := Lib.hid (blk_below (g := w3.heap.size) (o := .cells #[.int .i64 6, .int .i64 6] 60 (0, 0)) (blk_alloc (blk_alloc (K2.out) _) _) hb); have KP := Lib.hid (blk_below (g := w4.heap.size) (o := .cells #[.int .i64 12, .slice (some ⟨w1.heap.size, 0, none⟩) 1 1, .int .i64 8, .slice (some ⟨w3.heap.size, 0, none⟩) 1 1] 48 (0, 0)) (blk_alloc (blk_new w4 (.cells #[.int .i64 12, .slice (some ⟨w1.heap.size, 0, none⟩) 1 1, .int .i64 8, .slice (some ⟨w3.heap.size, 0, none⟩) 1 1] 48)) _) hb); have J1 := Lib.hid (blk_below (g := w4.heap.size + 1) (o := .cells #[.int .i64 0, .int .i64 4] 3 (0, 0)) (by have h_ := blk_new (w4.alloc (.cells #[.int .i64 12, .slice (some ⟨w1.heap.size, 0, none⟩) 1 1, .int .i64 8, .slice (some ⟨w3.heap.size, 0, none⟩) 1 1] 48)) (.cells #[.int .i64 0, .int .i64 4] 3); simpa using h_) hb); have HB := Lib.hid (below_step (by repeat (first | exact HB.out | apply below_alloc)) hb); have HL5 := Lib.hid (show w4.heap.size < w5.heap.size ∨ w4.heap.size = w5.heap.size from Nat.lt_or_eq_of_le (Nat.le_trans (by simp <;> omega) (below_size hb))); clear hb) | (go_at_call 97; (with_reducible refine (calls_shape 4 (some ⟨w5.heap.size, 0, none⟩) 1 1 true _).mono ?_); rintro e w6 ⟨rfl, hb⟩; have FR := Lib.hid (blk_below (g := w.heap.size) (o := .cells #[.slice none 0 0, .slice none 0 0] 25 (0, 0)) (blk_alloc (FR.out) _) hb); have K1 := Lib.hid (blk_below (g := w1.heap.size) (o := .cells #[.int .i64 3, .int .i64 4] 60 (0, 0)) (blk_alloc (K1.out) _) hb); have K2 := Lib.hid (blk_below (g := w3.heap.size) (o := .cells #[.int .i64 6, .int .i64 6] 60 (0, 0)) (blk_alloc (K2.out) _) hb); have KP := Lib.hid (blk_below (g := w4.heap.size) (o := .cells #[.int .i64 12, .slice (some ⟨w1.heap.size, 0, none⟩) 1 1, .int .i64 8, .slice (some ⟨w3.heap.size, 0, none⟩) 1 1] 48 (0, 0)) (blk_alloc (KP.out) _) hb); have J1 := Lib.hid (blk_below (g := w4.heap.size + 1) (o := .cells #[.int .i64 0, .int .i64 4] 3 (0, 0)) (blk_alloc (J1.out) _) hb); have J2 := Lib.hid (blk_below (g := w5.heap.size) (o := .cells #[.int .i64 1] 3 (0, 0)) (blk_new w5 (.cells #[.int .i64 1] 3)) hb); have HB := Lib.hid (below_step (by repeat (first | exact HB.out | apply below_alloc)) hb); have HL6 := Lib.hid (show w5.heap.size < w6.heap.size ∨ w5.heap.size = w6.heap.size from Nat.lt_or_eq_of_le (Nat.le_trans (by simp <;> omega) (below_size hb))); clear hb) | (go_at_call 97; (with_reducible refine (calls_shape 4 (some ⟨w6.heap.size, 0, none⟩) 1 1 true _).mono ?_); rintro e w7 ⟨rfl, hb⟩; have FR := Lib.hid (blk_below (g := w.heap.size) (o := .cells #[.slice none 0 0, .slice none 0 0] 25 (0, 0)) (blk_alloc (FR.out) _) hb); have K1 := Lib.hid (blk_below (g := w1.heap.size) (o := .cells #[.int .i64 3, .int .i64 4] 60 (0, 0)) (blk_alloc (K1.out) _) hb); have K2 := Lib.hid (blk_below (g := w3.heap.size) (o := .cells #[.int .i64 6, .int .i64 6] 60 (0, 0)) (blk_alloc (K2.out) _) hb); have KP := Lib.hid (blk_below (g := w4.heap.size) (o := .cells #[.int .i64 12, .slice (some ⟨w1.heap.size, 0, none⟩) 1 1, .int .i64 8, .slice (some ⟨w3.heap.size, 0, none⟩) 1 1] 48 (0, 0)) (blk_alloc (KP.out) _) hb); have J1 := Lib.hid (blk_below (g := w4.heap.size + 1) (o := .cells #[.int .i64 0, .int .i64 4] 3 (0, 0)) (blk_alloc (J1.out) _) hb); have J2 := Lib.hid (blk_below (g := w5.heap.size) (o := .cells #[.int .i64 1] 3 (0, 0)) (blk_alloc (J2.out) _) hb); have J3 := Lib.hid (blk_below (g := w6.heap.size) (o := .cells #[.int .i64 0] 3 (0, 0)) (blk_new w6 (.cells #[.int .i64 0] 3)) hb); have HB := Lib.hid (below_step (by repeat (first | exact HB.out | apply below_alloc)) hb); have HL7 := Lib.hid (show w6.heap.size < w7.heap.size ∨ w6.heap.size = w7.heap.size from Nat.lt_or_eq_of_le (Nat.le_trans (by simp <;> omega) (below_size hb))); have e0 : (w7.alloc (.cells #[.int .i64 5, .slice (some ⟨w4.heap.size + 1, 0, none⟩) 2 2, .bool false, .int .i64 4, .slice (some ⟨w5.heap.size, 0, none⟩) 1 1, .bool true, .int .i64 4, .slice (some ⟨w6.heap.size, 0, none⟩) 1 1, .bool true] 50)).cell? ⟨w.heap.size, 0, none⟩ = some (.slice none 0 0) := (blk_cell (blk_alloc FR.out _) 0); have e1 : (w7.alloc (.cells #[.int .i64 5, .slice (some ⟨w4.heap.size + 1, 0, none⟩) 2 2, .bool false, .int .i64 4, .slice (some ⟨w5.heap.size, 0, none⟩) 1 1, .bool true, .int .i64 4, .slice (some ⟨w6.heap.size, 0, none⟩) 1 1, .bool true] 50)).cell? ⟨w.heap.size, 1, none⟩ = some (.slice none 0 0) := (blk_cell (blk_alloc FR.out _) 1); have e2 : (w7.alloc (.cells #[.int .i64 5, .slice (some ⟨w4.heap.size + 1, 0, none⟩) 2 2, .bool false, .int .i64 4, .slice (some ⟨w5.heap.size, 0, none⟩) 1 1, .bool true, .int .i64 4, .slice (some ⟨w6.heap.size, 0, none⟩) 1 1, .bool true] 50)).frozen? ⟨w.heap.size, 0, none⟩ = false := (blk_frozen (blk_alloc FR.out _) 0); have e3 : (w7.alloc (.cells #[.int .i64 5, .slice (some ⟨w4.heap.size + 1, 0, none⟩) 2 2, .bool false, .int .i64 4, .slice (some ⟨w5.heap.size, 0, none⟩) 1 1, .bool true, .int .i64 4, .slice (some ⟨w6.heap.size, 0, none⟩) 1 1, .bool true] 50)).frozen? ⟨w.heap.size, 1, none⟩ = false := (blk_frozen (blk_alloc FR.out _) 1); clear hb))
  obtain ⟨m0, m1, m2⟩ := new1 w7 (.cells #[.int .i64 5, .slice (some ⟨w4.heap.size + 1, 0, none⟩) 2 2, .bool false, .int .i64 4, .slice (some ⟨w5.heap.size, 0, none⟩) 1 1, .bool true, .int .i64 4, .slice (some ⟨w6.heap.size, 0, none⟩) 1 1, .bool true] 50)
  have K1 := Lib.hid (show (((w7.alloc (.cells #[.int .i64 5, .slice (some ⟨w4.heap.size + 1, 0, none⟩) 2 2, .bool false, .int .i64 4, .slice (some ⟨w5.heap.size, 0, none⟩) 1 1, .bool true, .int .i64 4, .slice (some ⟨w6.heap.size, 0, none⟩) 1 1, .bool true] 50)).setCell ⟨w.heap.size, 0, none⟩ (.slice (some ⟨w4.heap.size, 0, none⟩) 2 2)).setCell ⟨w.heap.size, 1, none⟩ (.slice (some ⟨w7.heap.size, 0, none⟩) 3 3)).heap[w1.heap.size]? = some (.cells #[.int .i64 3, .int .i64 4] 60 (0, 0)) from blk_far (blk_far (blk_alloc K1.out _) (by show w1.heap.size ≠ w.heap.size; have := HL0.out; have := HL1.out; have := HL2.out; have := HL3.out; have := HL4.out; have := HL5.out; have := HL6.out; have := HL7.out; omega) _) (by show w1.heap.size ≠ w.heap.size; have := HL0.out; have := HL1.out; have := HL2.out; have := HL3.out; have := HL4.out; have := HL5.out; have := HL6.out; have := HL7.out; omega) _)
  have K2 := Lib.hid (show (((w7.alloc (.cells #[.int .i64 5, .slice (some ⟨w4.heap.size + 1, 0, none⟩) 2 2, .bool false, .int .i64 4, .slice (some ⟨w5.heap.size, 0, none⟩) 1 1, .bool true, .int .i64 4, .slice (some ⟨w6.heap.size, 0, none⟩) 1 1, .bool true] 50)).setCell ⟨w.heap.size, 0, none⟩ (.slice (some ⟨w4.heap.size, 0, none⟩) 2 2)).setCell ⟨w.heap.size, 1, none⟩ (.slice (some ⟨w7.heap.size, 0, none⟩) 3 3)).heap[w3.heap.size]? = some (.cells #[.int .i64 6, .int .i64 6] 60 (0, 0)) from blk_far (blk_far (blk_alloc K2.out _) (by show w3.heap.size ≠ w.heap.size; have := HL0.out; have := HL1.out; have := HL2.out; have := HL3.out; have := HL4.out; have := HL5.out; have := HL6.out; have := HL7.out; omega) _) (by show w3.heap.size ≠ w.heap.size; have := HL0.out; have := HL1.out; have := HL2.out; have := HL3.out; have := HL4.out; have := HL5.out; have := HL6.out; have := HL7.out; omega) _)
  have KP := Lib.hid (show (((w7.alloc (.cells #[.int .i64 5, .slice (some ⟨w4.heap.size + 1, 0, none⟩) 2 2, .bool false, .int .i64 4, .slice (some ⟨w5.heap.size, 0, none⟩) 1 1, .bool true, .int .i64 4, .slice (some ⟨w6.heap.size, 0, none⟩) 1 1, .bool true] 50)).setCell ⟨w.heap.size, 0, none⟩ (.slice (some ⟨w4.heap.size, 0, none⟩) 2 2)).setCell ⟨w.heap.size, 1, none⟩ (.slice (some ⟨w7.heap.size, 0, none⟩) 3 3)).heap[w4.heap.size]? = some (.cells #[.int .i64 12, .slice (some ⟨w1.heap.size, 0, none⟩) 1 1, .int .i64 8, .slice (some ⟨w3.heap.size, 0, none⟩) 1 1] 48 (0, 0)) from blk_far (blk_far (blk_alloc KP.out _) (by show w4.heap.size ≠ w.heap.size; have := HL0.out; have := HL1.out; have := HL2.out; have := HL3.out; have := HL4.out; have := HL5.out; have := HL6.out; have := HL7.out; omega) _) (by show w4.heap.size ≠ w.heap.size; have := HL0.out; have := HL1.out; have := HL2.out; have := HL3.out; have := HL4.out; have := HL5.out; have := HL6.out; have := HL7.out; omega) _)
  have J1 := Lib.hid (show (((w7.alloc (.cells #[.int .i64 5, .slice (some ⟨w4.heap.size + 1, 0, none⟩) 2 2, .bool false, .int .i64 4, .slice (some ⟨w5.heap.size, 0, none⟩) 1 1, .bool true, .int .i64 4, .slice (some ⟨w6.heap.size, 0, none⟩) 1 1, .bool true] 50)).setCell ⟨w.heap.size, 0, none⟩ (.slice (some ⟨w4.heap.size, 0, none⟩) 2 2)).setCell ⟨w.heap.size, 1, none⟩ (.slice (some ⟨w7.heap.size, 0, none⟩) 3 3)).heap[w4.heap.size + 1]? = some (.cells #[.int .i64 0, .int .i64 4] 3 (0, 0)) from blk_far (blk_far (blk_alloc J1.out _) (by show w4.heap.size + 1 ≠ w.heap.size; have := HL0.out; have := HL1.out; have := HL2.out; have := HL3.out; have := HL4.out; have := HL5.out; have := HL6.out; have := HL7.out; omega) _) (by show w4.heap.size + 1 ≠ w.heap.size; have := HL0.out; have := HL1.out; have := HL2.out; have := HL3.out; have := HL4.out; have := HL5.out; have := HL6.out; have := HL7.out; omega) _)
  have J2 := Lib.hid (show (((w7.alloc (.cells #[.int .i64 5, .slice (some ⟨w4.heap.size + 1, 0, none⟩) 2 2, .bool false, .int .i64 4, .slice (some ⟨w5.heap.size, 0, none⟩) 1 1, .bool true, .int .i64 4, .slice (some ⟨w6.heap.size, 0, none⟩) 1 1, .bool true] 50)).setCell ⟨w.heap.size, 0, none⟩ (.slice (some ⟨w4.heap.size, 0, none⟩) 2 2)).setCell ⟨w.heap.size, 1, none⟩ (.slice (some ⟨w7.heap.size, 0, none⟩) 3 3)).heap[w5.heap.size]? = some (.cells #[.int .i64 1] 3 (0, 0)) from blk_far (blk_far (blk_alloc J2.out _) (by show w5.heap.size ≠ w.heap.size; have := HL0.out; have := HL1.out; have := HL2.out; have := HL3.out; have := HL4.out; have := HL5.out; have := HL6.out; have := HL7.out; omega) _) (by show w5.heap.size ≠ w.heap.size; have := HL0.out; have := HL1.out; have := HL2.out; have := HL3.out; have := HL4.out; have := HL5.out; have := HL6.out; have := HL7.out; omega) _)
  have J3 := Lib.hid (show (((w7.alloc (.cells #[.int .i64 5, .slice (some ⟨w4.heap.size + 1, 0, none⟩) 2 2, .bool false, .int .i64 4, .slice (some ⟨w5.heap.size, 0, none⟩) 1 1, .bool true, .int .i64 4, .slice (some ⟨w6.heap.size, 0, none⟩) 1 1, .bool true] 50)).setCell ⟨w.heap.size, 0, none⟩ (.slice (some ⟨w4.heap.size, 0, none⟩) 2 2)).setCell ⟨w.heap.size, 1, none⟩ (.slice (some ⟨w7.heap.size, 0, none⟩) 3 3)).heap[w6.heap.size]? = some (.cells #[.int .i64 0] 3 (0, 0)) from blk_far (blk_far (blk_alloc J3.out _) (by show w6.heap.size ≠ w.heap.size; have := HL0.out; have := HL1.out; have := HL2.out; have := HL3.out; have := HL4.out; have := HL5.out; have := HL6.out; have := HL7.out; omega) _) (by show w6.heap.size ≠ w.heap.size; have := HL0.out; have := HL1.out; have := HL2.out; have := HL3.out; have := HL4.out; have := HL5.out; have := HL6.out; have := HL7.out; omega) _)
  have KQ := Lib.hid (show (((w7.alloc (.cells #[.int .i64 5, .slice (some ⟨w4.heap.size + 1, 0, none⟩) 2 2, .bool false, .int .i64 4, .slice (some ⟨w5.heap.size, 0, none⟩) 1 1, .bool true, .int .i64 4, .slice (some ⟨w6.heap.size, 0, none⟩) 1 1, .bool true] 50)).setCell ⟨w.heap.size, 0, none⟩ (.slice (some ⟨w4.heap.size, 0, none⟩) 2 2)).setCell ⟨w.heap.size, 1, none⟩ (.slice (some ⟨w7.heap.size, 0, none⟩) 3 3)).heap[w7.heap.size]? = some (.cells #[.int .i64 5, .slice (some ⟨w4.heap.size + 1, 0, none⟩) 2 2, .bool false, .int .i64 4, .slice (some ⟨w5.heap.size, 0, none⟩) 1 1, .bool true, .int .i64 4, .slice (some ⟨w6.heap.size, 0, none⟩) 1 1, .bool true] 50 (0, 0)) from blk_far (blk_far m0 (by show w7.heap.size ≠ w.heap.size; have := HL0.out; have := HL1.out; have := HL2.out; have := HL3.out; have := HL4.out; have := HL5.out; have := HL6.out; have := HL7.out; omega) _) (by show w7.heap.size ≠ w.heap.size; have := HL0.out; have := HL1.out; have := HL2.out; have := HL3.out; have := HL4.out; have := HL5.out; have := HL6.out; have := HL7.out; omega) _)
  have FR := Lib.hid (show (((w7.alloc (.cells #[.int .i64 5, .slice (some ⟨w4.heap.size + 1, 0, none⟩) 2 2, .bool false, .int .i64 4, .slice (some ⟨w5.heap.size, 0, none⟩) 1 1, .bool true, .int .i64 4, .slice (some ⟨w6.heap.size, 0, none⟩) 1 1, .bool true] 50)).setCell ⟨w.heap.size, 0, none⟩ (.slice (some ⟨w4.heap.size, 0, none⟩) 2 2)).setCell ⟨w.heap.size, 1, none⟩ (.slice (some ⟨w7.heap.size, 0, none⟩) 3 3)).heap[w.heap.size]? = some (.cells #[.slice (some ⟨w4.heap.size, 0, none⟩) 2 2, .slice (some ⟨w7.heap.size, 0, none⟩) 3 3] 25 (0, 0)) from blk_set (blk_set (blk_alloc FR.out _) 0 _) 1 _)
  have HBE := Lib.hid (show Below w.heap.size w (((w7.alloc (.cells #[.int .i64 5, .slice (some ⟨w4.heap.size + 1, 0, none⟩) 2 2, .bool false, .int .i64 4, .slice (some ⟨w5.heap.size, 0, none⟩) 1 1, .bool true, .int .i64 4, .slice (some ⟨w6.heap.size, 0, none⟩) 1 1, .bool true] 50)).setCell ⟨w.heap.size, 0, none⟩ (.slice (some ⟨w4.heap.size, 0, none⟩) 2 2)).setCell ⟨w.heap.size, 1, none⟩ (.slice (some ⟨w7.heap.size, 0, none⟩) 3 3)) from ((HB.out.trans (m1.mono (below_size HB.out))).setCell (Nat.le_refl _) _).setCell (Nat.le_refl _) _)
  clear m0 m1 m2 HB e0 e1 e2 e3
  generalize (((w7.alloc (.cells #[.int .i64 5, .slice (some ⟨w4.heap.size + 1, 0, none⟩) 2 2, .bool false, .int .i64 4, .slice (some ⟨w5.heap.size, 0, none⟩) 1 1, .bool true, .int .i64 4, .slice (some ⟨w6.heap.size, 0, none⟩) 1 1, .bool true] 50)).setCell ⟨w.heap.size, 0, none⟩ (.slice (some ⟨w4.heap.size, 0, none⟩) 2 2)).setCell ⟨w.heap.size, 1, none⟩ (.slice (some ⟨w7.heap.size, 0, none⟩) 3 3)) = W1 at *
  refine bodyPost_ret (results_cell_row rfl _ _ w.heap.size 25 #[.slice (some ⟨w4.heap.size, 0, none⟩) 2 2, .slice (some ⟨w7.heap.size, 0, none⟩) 3 3] (0, 0) _ rfl FR.out Tryd.underlying25 rfl (by kernel_rfl)) rfl ⟨⟨w4.heap.size, 0, none⟩, ⟨w7.heap.size, 0, none⟩, rfl, fun WE hW => ?_, HBE.out⟩
  have K1 := Lib.hid ((hW _ (by have := HL0.out; have := HL1.out; have := HL2.out; have := HL3.out; have := HL4.out; have := HL5.out; have := HL6.out; have := HL7.out; omega) (blk_lt K1.out)).trans K1.out)
  have K2 := Lib.hid ((hW _ (by have := HL0.out; have := HL1.out; have := HL2.out; have := HL3.out; have := HL4.out; have := HL5.out; have := HL6.out; have := HL7.out; omega) (blk_lt K2.out)).trans K2.out)
  have KP := Lib.hid ((hW _ (by have := HL0.out; have := HL1.out; have := HL2.out; have := HL3.out; have := HL4.out; have := HL5.out; have := HL6.out; have := HL7.out; omega) (blk_lt KP.out)).trans KP.out)
  have J1 := Lib.hid ((hW _ (by have := HL0.out; have := HL1.out; have := HL2.out; have := HL3.out; have := HL4.out; have := HL5.out; have := HL6.out; have := HL7.out; omega) (blk_lt J1.out)).trans J1.out)
  have J2 := Lib.hid ((hW _ (by have := HL0.out; have := HL1.out; have := HL2.out; have := HL3.out; have := HL4.out; have := HL5.out; have := HL6.out; have := HL7.out; omega) (blk_lt J2.out)).trans J2.out)
  have J3 := Lib.hid ((hW _ (by have := HL0.out; have := HL1.out; have := HL2.out; have := HL3.out; have := HL4.out; have := HL5.out; have := HL6.out; have := HL7.out; omega) (blk_lt J3.out)).trans J3.out)
  have KQ := Lib.hid ((hW _ (by have := HL0.out; have := HL1.out; have := HL2.out; have := HL3.out; have := HL4.out; have := HL5.out; have := HL6.out; have := HL7.out; omega) (blk_lt KQ.out)).trans KQ.out)
  have CK1 := Lib.hid (show Kd.C k60 WE (some ⟨w1.heap.size, 0, none⟩) 1 [⟨3, 4⟩] from spans_C K1.out (by decide) (fun j hj => by obtain rfl : j = 0 := (by simp at hj; omega); all_goals exact ⟨rfl, rfl⟩))
  have CK2 := Lib.hid (show Kd.C k60 WE (some ⟨w3.heap.size, 0, none⟩) 1 [⟨6, 6⟩] from spans_C K2.out (by decide) (fun j hj => by obtain rfl : j = 0 := (by simp at hj; omega); all_goals exact ⟨rfl, rfl⟩))
  have CJ1 := Lib.hid (show Kd.C (Kd.int .i64) WE (some ⟨w4.heap.size + 1, 0, none⟩) 2 [0, 4] from ints_C J1.out (by decide) (fun j hj => by obtain rfl | rfl : j = 0 ∨ j = 1 := (by simp at hj; omega); all_goals rfl))
  have CJ2 := Lib.hid (show Kd.C (Kd.int .i64) WE (some ⟨w5.heap.size, 0, none⟩) 1 [1] from ints_C J2.out (by decide) (fun j hj => by obtain rfl : j = 0 := (by simp at hj; omega); all_goals rfl))
  have CJ3 := Lib.hid (show Kd.C (Kd.int .i64) WE (some ⟨w6.heap.size, 0, none⟩) 1 [0] from ints_C J3.out (by decide) (fun j hj => by obtain rfl : j = 0 := (by simp at hj; omega); all_goals rfl))
  constructor
  · refine woods_C (P := ownP) KP.out (by decide) (fun j hj => ?_)
    obtain rfl | rfl : j = 0 ∨ j = 1 := by simp [ownP] at hj; omega
    · exact ⟨_, 1, rfl, rfl, by decide, CK1.out⟩
    · exact ⟨_, 1, rfl, rfl, by decide, CK2.out⟩
  · refine shapes_C (P := ownQ) KQ.out (by decide) (fun j hj => ?_)
    obtain rfl | rfl | rfl : j = 0 ∨ j = 1 ∨ j = 2 := by simp [ownQ] at hj; omega
    · exact ⟨_, 2, rfl, rfl, rfl, by decide, CJ1.out⟩
    · exact ⟨_, 1, rfl, rfl, rfl, by decide, CJ2.out⟩
    · exact ⟨_, 1, rfl, rfl, rfl, by decide, CJ3.out⟩
set_option maxRecDepth 100000 in
set_option maxHeartbeats 2000000 in
theorem calls_hidden (w : World) : Calls Tryd.prog 58 #[] w fun e w' => ∃ PA QA, e = .returned (.agg #[.slice (some PA) 1 1, .slice (some QA) 2 2]) ∧ (∀ W2 : World, (∀ k, w.heap.size ≤ k → k < w'.heap.size → W2.heap[k]? = w'.heap[k]?) → Kd.C k48 W2 (some PA) 1 hidP ∧ Kd.C k50 W2 (some QA) 2 hidQ) ∧ Below w.heap.size w w' := by
  have hu := Tryd.underlying25
  go_enter Tryd.func58, Tryd.ntmps58
  go_upto_region 1 with (fail)
  obtain ⟨n0, n1, n2⟩ := new1 w (.cells #[.slice none 0 0, .slice none 0 0] 25)
  generalize w.alloc (.cells #[.slice none 0 0, .slice none 0 0] 25) = w0 at n0 n1 n2 ⊢
  have FR := Lib.hid n0; have HB := Lib.hid n1
  have HL0 := Lib.hid (show w.heap.size < w0.heap.size from blk_lt n0)
  clear n0 n1 n2
  go_wp2_with (first | (go_at_call 56; (with_reducible refine (calls_From 2 6 _).mono ?_); rintro e w1 ⟨rfl, hb⟩; have FR := Lib.hid (blk_below (g := w.heap.size) (o := .cells #[.slice none 0 0, .slice none 0 0] 25 (0, 0)) (FR.out) hb); have HB := Lib.hid (below_step (by repeat (first | exact HB.out | apply below_alloc)) hb); have HL1 := Lib.hid (show w0.heap.size < w1.heap.size ∨ w0.heap.size = w1.heap.size from Nat.lt_or_eq_of_le (Nat.le_trans (by simp <;> omega) (below_size hb))); clear hb) | (go_at_call 59; (with_reducible refine (calls_wood 9 (some ⟨w1.heap.size, 0, none⟩) 1 1 _).mono ?_); rintro e w2 ⟨rfl, hb⟩; have FR := Lib.hid (blk_below (g := w.heap.size) (o := .cells #[.slice none 0 0, .slice none 0 0] 25 (0, 0)) (blk_alloc (FR.out) _) hb); have K1 := Lib.hid (blk_below (g := w1.heap.size) (o := .cells #[.int .i64 2, .int .i64 6] 60 (0, 0)) (blk_new w1 (.cells #[.int .i64 2, .int .i64 6] 60)) hb); have HB := Lib.hid (below_step (by repeat (first | exact HB.out | apply below_alloc)) hb); have HL2 := Lib.hid (show w1.heap.size < w2.heap.size ∨ w1.heap.size = w2.heap.size from Nat.lt_or_eq_of_le (Nat.le_trans (by simp <;> omega) (below_size hb))); clear hb) | (go_at_call 97; (with_reducible refine (calls_shape 5 (some ⟨w2.heap.size + 1, 0, none⟩) 2 2 false _).mono ?_); rintro e w3 ⟨rfl, hb⟩; have FR := Lib.hid (blk_below (g := w.heap.size) (o := .cells #[.slice none 0 0, .slice none 0 0] 25 (0, 0)) (blk_alloc (blk_alloc (FR.out) _) _) hb); have K1 := Lib.hid (blk_below (g := w1.heap.size) (o := .cells #[.int .i64 2, .int .i64 6] 60 (0, 0)) (blk_alloc (blk_alloc (K1.out) _) _) hb); have KP := Lib.hid (blk_below (g := w2.heap.size) (o := .cells #[.int .i64 9, .slice (some ⟨w1.heap.size, 0, none⟩) 1 1] 48 (0, 0)) (blk_alloc (blk_new w2 (.cells #[.int .i64 9, .slice (some ⟨w1.heap.size, 0, none⟩) 1 1] 48)) _) hb); have J1 := Lib.hid (blk_below (g := w2.heap.size + 1) (o := .cells #[.int .i64 0, .int .i64 4] 3 (0, 0)) (by have h_ := blk_new (w2.alloc (.cells #[.int .i64 9, .slice (some ⟨w1.heap.size, 0, none⟩) 1 1] 48)) (.cells #[.int .i64 0, .int .i64 4] 3); simpa using h_) hb); have HB := Lib.hid (below_step (by repeat (first | exact HB.out | apply below_alloc)) hb); have HL3 := Lib.hid (show w2.heap.size < w3.heap.size ∨ w2.heap.size = w3.heap.size from Nat.lt_or_eq_of_le (Nat.le_trans (by simp <;> omega) (below_size hb))); clear hb) | (go_at_call 97; (with_reducible refine (calls_shape 4 (some ⟨w3.heap.size, 0, none⟩) 2 2 false _).mono ?_); rintro e w4 ⟨rfl, hb⟩; have FR := Lib.hid (blk_below (g := w.heap.size) (o := .cells #[.slice none 0 0, .slice none 0 0] 25 (0, 0)) (blk_alloc (FR.out) _) hb); have K1 := Lib.hid (blk_below (g := w1.heap.size) (o := .cells #[.int .i64 2, .int .i64 6] 60 (0, 0)) (blk_alloc (K1.out) _) hb); have KP := Lib.hid (blk_below (g := w2.heap.size) (o := .cells #[.int .i64 9, .slice (some ⟨w1.heap.size, 0, none⟩) 1 1] 48 (0, 0)) (blk_alloc (KP.out) _) hb); have J1 := Lib.hid (blk_below (g := w2.heap.size + 1) (o := .cells #[.int .i64 0, .int .i64 4] 3 (0, 0)) (blk_alloc (J1.out) _) hb); have J2 := Lib.hid (blk_below (g := w3.heap.size) (o := .cells #[.int .i64 0, .int .i64 3] 3 (0, 0)) (blk_new w3 (.cells #[.int .i64 0, .int .i64 3] 3)) hb); have HB := Lib.hid (below_step (by repeat (first | exact HB.out | apply below_alloc)) hb); have HL4 := Lib.hid (show w3.heap.size < w4.heap.size ∨ w3.heap.size = w4.heap.size from Nat.lt_or_eq_of_le (Nat.le_trans (by simp <;> omega) (below_size hb))); have e0 : (w4.alloc (.cells #[.int .i64 5, .slice (some ⟨w2.heap.size + 1, 0, none⟩) 2 2, .bool false, .int .i64 4, .slice (some ⟨w3.heap.size, 0, none⟩) 2 2, .bool false] 50)).cell? ⟨w.heap.size, 0, none⟩ = some (.slice none 0 0) := (blk_cell (blk_alloc FR.out _) 0); have e1 : (w4.alloc (.cells #[.int .i64 5, .slice (some ⟨w2.heap.size + 1, 0, none⟩) 2 2, .bool false, .int .i64 4, .slice (some ⟨w3.heap.size, 0, none⟩) 2 2, .bool false] 50)).cell? ⟨w.heap.size, 1, none⟩ = some (.slice none 0 0) := (blk_cell (blk_alloc FR.out _) 1); have e2 : (w4.alloc (.cells #[.int .i64 5, .slice (some ⟨w2.heap.size + 1, 0, none⟩) 2 2, .bool false, .int .i64 4, .slice (some ⟨w3.heap.size, 0, none⟩) 2 2, .bool false] 50)).frozen? ⟨w.heap.size, 0, none⟩ = false := (blk_frozen (blk_alloc FR.out _) 0); have e3 : (w4.alloc (.cells #[.int .i64 5, .slice (some ⟨w2.heap.size + 1, 0, none⟩) 2 2, .bool false, .int .i64 4, .slice (some ⟨w3.heap.size, 0, none⟩) 2 2, .bool false] 50)).frozen? ⟨w.heap.size, 1, none⟩ = false := (blk_frozen (blk_alloc FR.out _) 1); clear hb))
  obtain ⟨m0, m1, m2⟩ := new1 w4 (.cells #[.int .i64 5, .slice (some ⟨w2.heap.size + 1, 0, none⟩) 2 2, .bool false, .int .i64 4, .slice (some ⟨w3.heap.size, 0, none⟩) 2 2, .bool false] 50)
  have K1 := Lib.hid (show (((w4.alloc (.cells #[.int .i64 5, .slice (some ⟨w2.heap.size + 1, 0, none⟩) 2 2, .bool false, .int .i64 4, .slice (some ⟨w3.heap.size, 0, none⟩) 2 2, .bool false] 50)).setCell ⟨w.heap.size, 0, none⟩ (.slice (some ⟨w2.heap.size, 0, none⟩) 1 1)).setCell ⟨w.heap.size, 1, none⟩ (.slice (some ⟨w4.heap.size, 0, none⟩) 2 2)).heap[w1.heap.size]? = some (.cells #[.int .i64 2, .int .i64 6] 60 (0, 0)) from blk_far (blk_far (blk_alloc K1.out _) (by show w1.heap.size ≠ w.heap.size; have := HL0.out; have := HL1.out; have := HL2.out; have := HL3.out; have := HL4.out; omega) _) (by show w1.heap.size ≠ w.heap.size; have := HL0.out; have := HL1.out; have := HL2.out; have := HL3.out; have := HL4.out; omega) _)
  have KP := Lib.hid (show (((w4.alloc (.cells #[.int .i64 5, .slice (some ⟨w2.heap.size + 1, 0, none⟩) 2 2, .bool false, .int .i64 4, .slice (some ⟨w3.heap.size, 0, none⟩) 2 2, .bool false] 50)).setCell ⟨w.heap.size, 0, none⟩ (.slice (some ⟨w2.heap.size, 0, none⟩) 1 1)).setCell ⟨w.heap.size, 1, none⟩ (.slice (some ⟨w4.heap.size, 0, none⟩) 2 2)).heap[w2.heap.size]? = some (.cells #[.int .i64 9, .slice (some ⟨w1.heap.size, 0, none⟩) 1 1] 48 (0, 0)) from blk_far (blk_far (blk_alloc KP.out _) (by show w2.heap.size ≠ w.heap.size; have := HL0.out; have := HL1.out; have := HL2.out; have := HL3.out; have := HL4.out; omega) _) (by show w2.heap.size ≠ w.heap.size; have := HL0.out; have := HL1.out; have := HL2.out; have := HL3.out; have := HL4.out; omega) _)
  have J1 := Lib.hid (show (((w4.alloc (.cells #[.int .i64 5, .slice (some ⟨w2.heap.size + 1, 0, none⟩) 2 2, .bool false, .int .i64 4, .slice (some ⟨w3.heap.size, 0, none⟩) 2 2, .bool false] 50)).setCell ⟨w.heap.size, 0, none⟩ (.slice (some ⟨w2.heap.size, 0, none⟩) 1 1)).setCell ⟨w.heap.size, 1, none⟩ (.slice (some ⟨w4.heap.size, 0, none⟩) 2 2)).heap[w2.heap.size + 1]? = some (.cells #[.int .i64 0, .int .i64 4] 3 (0, 0)) from blk_far (blk_far (blk_alloc J1.out _) (by show w2.heap.size + 1 ≠ w.heap.size; have := HL0.out; have := HL1.out; have := HL2.out; have := HL3.out; have := HL4.out; omega) _) (by show w2.heap.size + 1 ≠ w.heap.size; have := HL0.out; have := HL1.out; have := HL2.out; have := HL3.out; have := HL4.out; omega) _)
  have J2 := Lib.hid (show (((w4.alloc (.cells #[.int .i64 5, .slice (some ⟨w2.heap.size + 1, 0, none⟩) 2 2, .bool false, .int .i64 4, .slice (some ⟨w3.heap.size, 0, none⟩) 2 2, .bool false] 50)).setCell ⟨w.heap.size, 0, none⟩ (.slice (some ⟨w2.heap.size, 0, none⟩) 1 1)).setCell ⟨w.heap.size, 1, none⟩ (.slice (some ⟨w4.heap.size, 0, none⟩) 2 2)).heap[w3.heap.size]? = some (.cells #[.int .i64 0, .int .i64 3] 3 (0, 0)) from blk_far (blk_far (blk_alloc J2.out _) (by show w3.heap.size ≠ w.heap.size; have := HL0.out; have := HL1.out; have := HL2.out; have := HL3.out; have := HL4.out; omega) _) (by show w3.heap.size ≠ w.heap.size; have := HL0.out; have := HL1.out; have := HL2.out; have := HL3.out; have := HL4.out; omega) _)
  have KQ := Lib.hid (show (((w4.alloc (.cells #[.int .i64 5, .slice (some ⟨w2.heap.size + 1, 0, none⟩) 2 2, .bool false, .int .i64 4, .slice (some ⟨w3.heap.size, 0, none⟩) 2 2, .bool false] 50)).setCell ⟨w.heap.size, 0, none⟩ (.slice (some ⟨w2.heap.size, 0, none⟩) 1 1)).setCell ⟨w.heap.size, 1, none⟩ (.slice (some ⟨w4.heap.size, 0, none⟩) 2 2)).heap[w4.heap.size]? = some (.cells #[.int .i64 5, .slice (some ⟨w2.heap.size + 1, 0, none⟩) 2 2, .bool false, .int .i64 4, .slice (some ⟨w3.heap.size, 0, none⟩) 2 2, .bool false] 50 (0, 0)) from blk_far (blk_far m0 (by show w4.heap.size ≠ w.heap.size; have := HL0.out; have := HL1.out; have := HL2.out; have := HL3.out; have := HL4.out; omega) _) (by show w4.heap.size ≠ w.heap.size; have := HL0.out; have := HL1.out; have := HL2.out; have := HL3.out; have := HL4.out; omega) _)
  have FR := Lib.hid (show (((w4.alloc (.cells #[.int .i64 5, .slice (some ⟨w2.heap.size + 1, 0, none⟩) 2 2, .bool false, .int .i64 4, .slice (some ⟨w3.heap.size, 0, none⟩) 2 2, .bool false] 50)).setCell ⟨w.heap.size, 0, none⟩ (.slice (some ⟨w2.heap.size, 0, none⟩) 1 1)).setCell ⟨w.heap.size, 1, none⟩ (.slice (some ⟨w4.heap.size, 0, none⟩) 2 2)).heap[w.heap.size]? = some (.cells #[.slice (some ⟨w2.heap.size, 0, none⟩) 1 1, .slice (some ⟨w4.heap.size, 0, none⟩) 2 2] 25 (0, 0)) from blk_set (blk_set (blk_alloc FR.out _) 0 _) 1 _)
  have HBE := Lib.hid (show Below w.heap.size w (((w4.alloc (.cells #[.int .i64 5, .slice (some ⟨w2.heap.size + 1, 0, none⟩) 2 2, .bool false, .int .i64 4, .slice (some ⟨w3.heap.size, 0, none⟩) 2 2, .bool false] 50)).setCell ⟨w.heap.size, 0, none⟩ (.slice (some ⟨w2.heap.size, 0, none⟩) 1 1)).setCell ⟨w.heap.size, 1, none⟩ (.slice (some ⟨w4.heap.size, 0, none⟩) 2 2)) from ((HB.out.trans (m1.mono (below_size HB.out))).setCell (Nat.le_refl _) _).setCell (Nat.le_refl _) _)
  clear m0 m1 m2 HB e0 e1 e2 e3
  generalize (((w4.alloc (.cells #[.int .i64 5, .slice (some ⟨w2.heap.size + 1, 0, none⟩) 2 2, .bool false, .int .i64 4, .slice (some ⟨w3.heap.size, 0, none⟩) 2 2, .bool false] 50)).setCell ⟨w.heap.size, 0, none⟩ (.slice (some ⟨w2.heap.size, 0, none⟩) 1 1)).setCell ⟨w.heap.size, 1, none⟩ (.slice (some ⟨w4.heap.size, 0, none⟩) 2 2)) = W1 at *
  refine bodyPost_ret (results_cell_row rfl _ _ w.heap.size 25 #[.slice (some ⟨w2.heap.size, 0, none⟩) 1 1, .slice (some ⟨w4.heap.size, 0, none⟩) 2 2] (0, 0) _ rfl FR.out Tryd.underlying25 rfl (by kernel_rfl)) rfl ⟨⟨w2.heap.size, 0, none⟩, ⟨w4.heap.size, 0, none⟩, rfl, fun WE hW => ?_, HBE.out⟩
  have K1 := Lib.hid ((hW _ (by have := HL0.out; have := HL1.out; have := HL2.out; have := HL3.out; have := HL4.out; omega) (blk_lt K1.out)).trans K1.out)
  have KP := Lib.hid ((hW _ (by have := HL0.out; have := HL1.out; have := HL2.out; have := HL3.out; have := HL4.out; omega) (blk_lt KP.out)).trans KP.out)
  have J1 := Lib.hid ((hW _ (by have := HL0.out; have := HL1.out; have := HL2.out; have := HL3.out; have := HL4.out; omega) (blk_lt J1.out)).trans J1.out)
  have J2 := Lib.hid ((hW _ (by have := HL0.out; have := HL1.out; have := HL2.out; have := HL3.out; have := HL4.out; omega) (blk_lt J2.out)).trans J2.out)
  have KQ := Lib.hid ((hW _ (by have := HL0.out; have := HL1.out; have := HL2.out; have := HL3.out; have := HL4.out; omega) (blk_lt KQ.out)).trans KQ.out)
  have CK1 := Lib.hid (show Kd.C k60 WE (some ⟨w1.heap.size, 0, none⟩) 1 [⟨2, 6⟩] from spans_C K1.out (by decide) (fun j hj => by obtain rfl : j = 0 := (by simp at hj; omega); all_goals exact ⟨rfl, rfl⟩))
  have CJ1 := Lib.hid (show Kd.C (Kd.int .i64) WE (some ⟨w2.heap.size + 1, 0, none⟩) 2 [0, 4] from ints_C J1.out (by decide) (fun j hj => by obtain rfl | rfl : j = 0 ∨ j = 1 := (by simp at hj; omega); all_goals rfl))
  have CJ2 := Lib.hid (show Kd.C (Kd.int .i64) WE (some ⟨w3.heap.size, 0, none⟩) 2 [0, 3] from ints_C J2.out (by decide) (fun j hj => by obtain rfl | rfl : j = 0 ∨ j = 1 := (by simp at hj; omega); all_goals rfl))
  constructor
  · refine woods_C (P := hidP) KP.out (by decide) (fun j hj => ?_)
    obtain rfl : j = 0 := by simp [hidP] at hj; omega
    exact ⟨_, 1, rfl, rfl, by decide, CK1.out⟩
  · refine shapes_C (P := hidQ) KQ.out (by decide) (fun j hj => ?_)
    obtain rfl | rfl : j = 0 ∨ j = 1 := by simp [hidQ] at hj; omega
    · exact ⟨_, 2, rfl, rfl, rfl, by decide, CJ1.out⟩
    · exact ⟨_, 2, rfl, rfl, rfl, by decide, CJ2.out⟩
def aloP : List S48 := [⟨8, [⟨6, 6⟩]⟩]
set_option maxRecDepth 100000 in
theorem tail_own (ad : Addr) : (∀ W, (Instr.sliceAt 22 (.slice (some ad) 2 2) (some (.int .i64 1)) none none).run Tryd.prog W = .ok (.slice (some (ad.add (1 * 2))) 1 1) W) ∧
    (∀ W, Kd.C k48 W (some ad) 2 ownP → Kd.C k48 W (some (ad.add (1 * 2))) 1 aloP) := by
  have hu : Tryd.prog.underlying 22 = some (.slice (Tryd.prog.elem 22)) := by kernel_rfl
  have he : Tryd.prog.elem 22 = 48 := by kernel_rfl
  obtain ⟨i0, hi0⟩ : ∃ i, Tryd.prog.info? 48 = some i := ⟨_, rfl⟩
  have hs : ∀ W, (sizeOf 48).run Tryd.prog W = .ok 2 W := fun W => by rw [run_sizeOf W hi0, show Tryd.prog.cellsOf 48 = 2 from by kernel_rfl]
  refine ⟨fun W => ?_, fun W hC => ?_⟩
  · rw [run_sliceAt_slice W 22 _ _ _ _ hu, run_slice_l W 22 (some ad) 2 2 hu .i64 1 (by omega) (by omega), he, hs]
    simp only [Result.andThen_ok, sliced]
    rfl
  · exact Kd.C_drop (m := 1) (c := 2) hC (by decide) (by decide)
set_option maxRecDepth 100000 in
theorem calls_alone (w : World) : Calls Tryd.prog 57 #[] w fun e w' => ∃ PA QA, e = .returned (.agg #[.slice (some PA) 1 1, .slice (some QA) 3 3]) ∧ Kd.C k48 w' (some PA) 1 aloP ∧ Kd.C k50 w' (some QA) 3 ownQ ∧ Below w.heap.size w w' := by
  have hu := Tryd.underlying25
  obtain ⟨n0, n1, n2⟩ := new1 w (.cells #[.slice none 0 0, .slice none 0 0] 25)
  have FR := Lib.hid n0; have HB := Lib.hid n1
  clear n0 n1 n2
  go_enter Tryd.func57, Tryd.ntmps57
  go_upto_region 3 with (go_at_call 54; (with_reducible refine (calls_own _).mono ?_); rintro e w1 ⟨PA, QA, rfl, hPQ, hb⟩; have HPQ := Lib.hid hPQ; have FR := Lib.hid (below_far FR.out hb); have HB := Lib.hid (HB.out.trans (hb.mono (below_size HB.out))); have hsl := (tail_own PA).1; clear hPQ hb)
  obtain ⟨m0, m1, m2⟩ := new1 w1 (.cells #[.slice (some ⟨PA.block, PA.off + 2, none⟩) 1 1, .slice (some QA) 3 3] 25)
  have FR := Lib.hid (blk_alloc FR.out (.cells #[.slice (some ⟨PA.block, PA.off + 2, none⟩) 1 1, .slice (some QA) 3 3] 25))
  generalize w1.alloc (.cells #[.slice (some ⟨PA.block, PA.off + 2, none⟩) 1 1, .slice (some QA) 3 3] 25) = W at m0 m1 m2 FR ⊢
  have HB := Lib.hid (HB.out.trans (m1.mono (below_size HB.out)))
  have HPQ2 := Lib.hid (show Kd.C k48 ((W.setCell ⟨w.heap.size, 0, none⟩ (.slice (some ⟨PA.block, PA.off + 2, none⟩) 1 1)).setCell ⟨w.heap.size, 1, none⟩ (.slice (some QA) 3 3)) (some PA) 2 ownP ∧ Kd.C k50 ((W.setCell ⟨w.heap.size, 0, none⟩ (.slice (some ⟨PA.block, PA.off + 2, none⟩) 1 1)).setCell ⟨w.heap.size, 1, none⟩ (.slice (some QA) 3 3)) (some QA) 3 ownQ from HPQ.out _ (fun k hk hlt => by
    have hk : w.heap.size + 1 ≤ k := by simpa using hk
    rw [Below.heap_setCell _ ⟨w.heap.size, 1, none⟩ _ k (by show k ≠ w.heap.size; omega), Below.heap_setCell _ ⟨w.heap.size, 0, none⟩ _ k (by show k ≠ w.heap.size; omega)]
    exact m1.block k hlt))
  obtain ⟨e0, e1, e2, e3⟩ : W.cell? ⟨w.heap.size, 0, none⟩ = some (.slice none 0 0) ∧ W.cell? ⟨w.heap.size, 1, none⟩ = some (.slice none 0 0) ∧ W.frozen? ⟨w.heap.size, 0, none⟩ = false ∧ W.frozen? ⟨w.heap.size, 1, none⟩ = false := ⟨blk_cell FR.out 0, blk_cell FR.out 1, blk_frozen FR.out 0, blk_frozen FR.out 1⟩
  obtain ⟨d0, d1⟩ : W.cell? ⟨w1.heap.size, 0, none⟩ = some (.slice (some ⟨PA.block, PA.off + 2, none⟩) 1 1) ∧ W.cell? ⟨w1.heap.size, 1, none⟩ = some (.slice (some QA) 3 3) := ⟨blk_cell m0 0, blk_cell m0 1⟩
  go_wp2_with fail
  have HF := Lib.hid (show ((W.setCell ⟨w.heap.size, 0, none⟩ (.slice (some ⟨PA.block, PA.off + 2, none⟩) 1 1)).setCell ⟨w.heap.size, 1, none⟩ (.slice (some QA) 3 3)).heap[w.heap.size]? = some (.cells #[.slice (some ⟨PA.block, PA.off + 2, none⟩) 1 1, .slice (some QA) 3 3] 25 (0, 0)) from blk_set (blk_set FR.out 0 _) 1 _)
  refine bodyPost_ret (results_cell_row rfl _ _ w.heap.size 25 #[.slice (some ⟨PA.block, PA.off + 2, none⟩) 1 1, .slice (some QA) 3 3] (0, 0) _ rfl HF.out Tryd.underlying25 rfl (by kernel_rfl)) rfl ⟨_, QA, rfl, ?_, ?_, (HB.out.setCell (Nat.le_refl _) _).setCell (Nat.le_refl _) _⟩
  · exact (tail_own PA).2 _ HPQ2.out.1
  · exact HPQ2.out.2
end Go.Proofs.YtekjlpldooihhaaDoorK
namespace Go.Proofs.YtekjlpldooihhaaDoor.PS
open Go.Proofs.YtekjlpldooihhaaDoorSh
open Go.RowKit Go.Proofs.YtekjlpldooihhaaDoorW.PrintWords Go.Proofs.YtekjlpldooihhaaDoorW.PrintLast Go.Proofs.YtekjlpldooihhaaDoorW.PrintMore
attribute [local go_sem] max2_int min2_int max_two min_two max_three min_three max_four min_four
set_option linter.unusedVariables false
set_option linter.unusedSimpArgs false
def errW : Option Int → Value
 | none => .nilIface
 | some c => .iface 0 (.int .i64 c)
theorem errW_none : errW none = .nilIface := rfl
theorem errW_some (c : Int) : errW (some c) = .iface 0 (.int .i64 c) := rfl
def skewbaldref00_Equal.l0 : Nat → List Int → List Int → Bool → Int → Option (Bool)
 | 0, _, _, _, _ => none
 | k + 1, x0, x1, x5, x6 => if x5 = true then (if x6 < (x0.length : Int) then (if 0 ≤ x6 then (if x6 < (x1.length : Int) then (skewbaldref00_Equal.l0 k x0 x1 ((rd x0 x6) == (rd x1 x6)) (wrap64 (x6 + 1))) else (none)) else (none)) else (some x5)) else (some x5)
def skewbaldref00_Equal.f (k : Nat) (l0 : List Int) (l1 : List Int) : Option (Bool) := skewbaldref00_Equal.l0 k l0 l1 ((l0.length : Int) == (l1.length : Int)) 0
set_option maxHeartbeats 8000000 in
set_option maxRecDepth 100000 in
theorem skewbaldref00_Equal.calls (k : Nat) (A0 : Option Addr) (c0 : Nat) (l0 : List Int) (A1 : Option Addr) (c1 : Nat) (l1 : List Int) (r : Bool) (w : World) (hr0 : Kd.C (Kd.int .i64) w A0 l0.length l0) (hc0 : l0.length ≤ c0) (hr1 : Kd.C (Kd.int .i64) w A1 l1.length l1) (hc1 : l1.length ≤ c1) (h : skewbaldref00_Equal.f k l0 l1 = some r) :
  Calls Tryd.prog 22 #[.slice A0 l0.length c0, .slice A1 l1.length c1] w fun e w' => e = .returned (.bool r) ∧ Drawn0 w w' := by
 have HR0 := Aside0.mk hr0; have HC0 := Aside0.mk hc0; clear hr0 hc0; have HR1 := Aside0.mk hr1; have HC1 := Aside0.mk hc1; clear hr1 hc1
 have H : (skewbaldref00_Equal.l0 k l0 l1 ((l0.length : Int) == (l1.length : Int)) 0) = some r := h
 clear h; have H' := Aside0.mk H; clear H
 go_enter Tryd.func22, Tryd.ntmps22
 go_wp2
 repeat (go_quiet (fail); try go_wp2)
 go_loopg [5, 6] k (fun kq v5 v6 w' => ∃ (x5_1 : Bool) (x6_1 : Int), v5 = .bool x5_1 ∧ v6 = .int .i64 x6_1 ∧ Aside0 (skewbaldref00_Equal.l0 kq l0 l1 x5_1 x6_1 = some r) ∧ Aside0 (kq ≤ k) ∧ Drawn0 w w')
 case atStart => exact ⟨(((l0.length : Int) == (l1.length : Int))), (0), sm, sm, H', ⟨Nat.le_refl _⟩, by repeat (first | exact Drawn0.refl _ | apply Drawn0.step)⟩
 case round =>
  clear H'; (try clear c1); (try clear c2); (try clear p2); obtain ⟨x5_1, x6_1, rfl, rfl, HA, HK1, ⟨m1, rfl⟩⟩ := hrel
  cases gk with
  | zero => exact absurd HA.out (by simp [skewbaldref00_Equal.l0])
  | succ k1 =>
   have H := HA.out; clear HA
   simp only [skewbaldref00_Equal.l0] at H
   by_cases c3 : x5_1 = true
   ·subst c3; rw [if_pos rfl] at H
    by_cases c4 : x6_1 < (l0.length : Int)
    ·rw [if_pos c4] at H; have c4b0 := decide_eq_true c4; clear c4
     by_cases c5 : 0 ≤ x6_1
     ·rw [if_pos c5] at H; have c5b0 := decide_eq_true c5; clear c5
      by_cases c6 : x6_1 < (l1.length : Int)
      ·rw [if_pos c6] at H; have c6b0 := decide_eq_true c6; clear c6; have H' := Aside0.mk H; clear H
       have p101 : 0 ≤ (x6_1 : Int) := od
       have q101 : x6_1 < (l0.length : Int) := od
       obtain ⟨ad101, e101, hx101_0⟩ := Kd.at_int HR0.out x6_1 p101 q101
       cases e101
       replace p101 := eq_true p101; replace q101 := eq_true q101
       have p102 : 0 ≤ (x6_1 : Int) := od
       have q102 : x6_1 < (l1.length : Int) := od
       obtain ⟨ad102, e102, hx102_0⟩ := Kd.at_int HR1.out x6_1 p102 q102
       cases e102
       replace p102 := eq_true p102; replace q102 := eq_true q102
       go_wp2
       repeat (go_quiet (fail); try go_wp2)
       go_roundg k1
       case measure => have := HK1.out; omega
       case rel => exact ⟨(((rd l0 x6_1) == (rd l1 x6_1))), (wrap64 (x6_1 + 1)), sm, sm, H', ⟨lo HK1⟩, by repeat (first | exact Drawn0.refl _ | apply Drawn0.step)⟩
      ·rw [if_neg c6] at H
       exact absurd H (by simp)
     ·rw [if_neg c5] at H
      exact absurd H (by simp)
    ·rw [if_neg c4] at H
     have c4b0 : decide (x6_1 < (l0.length : Int)) = false := decide_eq_false c4
     clear c4; obtain rfl := Option.some.inj H
     go_wp2
     repeat (go_quiet (fail); try go_wp2)
     go_ret
     exact ⟨sm, by repeat (first | exact Drawn0.refl _ | apply Drawn0.step)⟩
   ·replace c3 := Bool.eq_false_iff.mpr c3; subst c3
    rw [if_neg (show ¬ (false = true) by decide)] at H
    obtain rfl := Option.some.inj H
    go_wp2
    repeat (go_quiet (fail); try go_wp2)
    go_ret
    exact ⟨sm, by repeat (first | exact Drawn0.refl _ | apply Drawn0.step)⟩
end Go.Proofs.YtekjlpldooihhaaDoor.PS
namespace Go.Proofs.YtekjlpldooihhaaDoorK
open Go.RowKit Go.Proofs.YtekjlpldooihhaaDoorW.PrintWords Go.Proofs.YtekjlpldooihhaaDoorW.PrintLast Go.Proofs.YtekjlpldooihhaaDoorW.PrintMore Go.Proofs.YtekjlpldooihhaaDoorH Go.Proofs.YtekjlpldooihhaaDoorEv Go.Proofs.YtekjlpldooihhaaDoorP
open Go.Proofs.YtekjlpldooihhaaDoor.PA (S48 S50 k48 k50)
open Go.Proofs.YtekjlpldooihhaaDoor.PS (skewbaldref00_Equal.l0 skewbaldref00_Equal.f skewbaldref00_Equal.calls)
set_option linter.unusedVariables false
set_option linter.unusedSimpArgs false
theorem Equal_l0 (x y : List Int) (hxy : x.length = y.length) (hs : x.length < 9223372036854775808) : ∀ (d j : Nat) (b : Bool), j + d = x.length →
    Evt (fun k => skewbaldref00_Equal.l0 k x y b (j : Int)) (b && decide (x.drop j = y.drop j))
  | d, j, false, hj => by
    refine Evt.succ ?_
    simp only [skewbaldref00_Equal.l0]
    exact Evt.neg (by simp) (by simpa using Evt.pure false)
  | 0, j, true, hj => by
    refine Evt.succ ?_
    simp only [skewbaldref00_Equal.l0]
    rw [List.drop_eq_nil_of_le (by omega), List.drop_eq_nil_of_le (by omega)]
    exact Evt.pos (by first | rfl | trivial) (Evt.neg (by omega) (by simpa using Evt.pure true))
  | d + 1, j, true, hj => by
    refine Evt.succ ?_
    simp only [skewbaldref00_Equal.l0]
    have h1 : x.drop j = x[j] :: x.drop (j + 1) := List.drop_eq_getElem_cons (by omega)
    have h2 : y.drop j = y[j] :: y.drop (j + 1) := List.drop_eq_getElem_cons (by omega)
    have g1 : rd x (j : Int) = x[j] := by simp [rd, show j < x.length by omega]
    have g2 : rd y (j : Int) = y[j] := by simp [rd, show j < y.length by omega]
    refine Evt.pos (by first | rfl | trivial) (Evt.pos (by omega) (Evt.pos (by omega) (Evt.pos (by omega) ?_)))
    rw [g1, g2, h1, h2, w64 j (by omega)]
    refine (Equal_l0 x y hxy hs d (j + 1) _ (by omega)).of_eq ?_
    rw [Bool.eq_iff_iff]
    simp only [Bool.and_eq_true, beq_iff_eq, decide_eq_true_eq, List.cons.injEq, Bool.true_and]
theorem Equal_f (x y : List Int) (hs : x.length < 9223372036854775808) : Evt (fun k => skewbaldref00_Equal.f k x y) (decide (x = y)) := by
  unfold skewbaldref00_Equal.f
  by_cases h : x.length = y.length
  · have hb : ((x.length : Int) == (y.length : Int)) = true := by simp [h]
    rw [hb]
    refine (Equal_l0 x y h hs x.length 0 true (by omega)).of_eq ?_
    simp
  · have hb : ((x.length : Int) == (y.length : Int)) = false := by simp; omega
    rw [hb]
    refine Evt.succ ?_
    simp only [skewbaldref00_Equal.l0]
    refine Evt.neg (by simp) ?_
    have : decide (x = y) = false := decide_eq_false (fun e => h (by rw [e]))
    rw [this]
    exact Evt.pure _
theorem calls_Equal (A : Option Addr) (n c : Nat) (l : List Int) (B : Option Addr) (n2 d : Nat) (m : List Int) (b : Bool) (hn : l.length = n) (hn2 : m.length = n2) (hb : decide (l = m) = b) (w : World) (hr : Kd.C (Kd.int .i64) w A n l) (hc : n ≤ c) (hr1 : Kd.C (Kd.int .i64) w B n2 m) (hc1 : n2 ≤ d) :
    Calls Tryd.prog 22 #[.slice A n c, .slice B n2 d] w fun e w' => e = .returned (.bool b) ∧ Below w.heap.size w w' := by
  subst hn hn2 hb
  obtain ⟨k, hk⟩ := (Equal_f l m (by have := hr.2.1; omega)).get
  exact (skewbaldref00_Equal.calls k A c l B d m _ w hr hc hr1 hc1 hk).mono fun e w' h => ⟨h.1, by first | exact h.2 | exact h.2.below⟩
theorem own_can : canP ownP ownQ 0 0 4 = (1, 0) := by decide +kernel
theorem own_spots : spotsP ownP ownQ 0 0 = ([1, 2, 5, 6, 7], 0) := by decide +kernel
theorem own_lay : layP ownP ownQ 0 [0, 1] = ([1, 6], 0) := by decide +kernel
theorem own_fewest : fewestP ownP ownQ = ([0, 1], 0) := by decide +kernel
theorem alo_most : mostP aloP ownQ = ([1, 2], 0) := by decide +kernel
theorem alo_lacks : lacksP aloP ownQ = (1, 0) := by decide +kernel
theorem hid_look : lookP hidP hidQ = (0, 0, 0) := by decide +kernel
theorem V_told {w w' : World} {ok : Nat → Prop} {v : Value} {xs : List Int} {n : Nat} (h : Kd.V (Kd.int .i64) 3 w' w.heap.size ok v xs) (hn : xs.length = n) : ∃ A c, v = .slice A n c ∧ n ≤ c ∧ Kd.C (Kd.int .i64) w' A n xs := by
  subst hn
  obtain ⟨A, c, h1, h2, h3⟩ := h
  exact ⟨A, c, h1, h2, Kd.F_now h3⟩
theorem at_Can (PA QA : Addr) (W : World) (hP : Kd.C k48 W (some PA) 2 ownP) (hQ : Kd.C k50 W (some QA) 3 ownQ) (hG : Glob W) :
    Calls Tryd.prog 16 #[.agg #[.slice (some PA) 2 2, .slice (some QA) 3 3], .int .i64 0, .int .i64 0, .int .i64 4] W fun e w' => e = .returned (.tuple #[.int .i64 1, .int .i64 0]) ∧ Below W.heap.size W w' := by
  have h := calls_Can (some PA) 2 ownP (some QA) 3 ownQ 0 0 4 W hP (by decide) hQ (by decide) hG
  rw [own_can] at h
  exact h
theorem at_Spots (PA QA : Addr) (W : World) (hP : Kd.C k48 W (some PA) 2 ownP) (hQ : Kd.C k50 W (some QA) 3 ownQ) (hG : Glob W) :
    Calls Tryd.prog 20 #[.agg #[.slice (some PA) 2 2, .slice (some QA) 3 3], .int .i64 0, .int .i64 0] W fun e w' => ∃ A c, e = .returned (.tuple #[.slice A 5 c, .int .i64 0]) ∧ 5 ≤ c ∧ Kd.C (Kd.int .i64) w' A 5 [1, 2, 5, 6, 7] ∧ Below W.heap.size W w' := by
  have h := calls_Spots (some PA) 2 ownP (some QA) 3 ownQ 0 0 W hP (by decide) hQ (by decide) hG
  rw [own_spots] at h
  refine h.mono fun e w' h => ?_
  obtain ⟨v, rfl, h1, h2⟩ := h
  obtain ⟨A, c, rfl, h3, h4⟩ := V_told (n := 5) h1 rfl
  exact ⟨A, c, rfl, h3, h4, h2⟩
theorem at_Lay (PA QA : Addr) (B : Addr) (W : World) (hP : Kd.C k48 W (some PA) 2 ownP) (hQ : Kd.C k50 W (some QA) 3 ownQ) (hL : Kd.C (Kd.int .i64) W (some B) 2 [0, 1]) (hG : Glob W) :
    Calls Tryd.prog 24 #[.agg #[.slice (some PA) 2 2, .slice (some QA) 3 3], .int .i64 0, .slice (some B) 2 2] W fun e w' => ∃ A c, e = .returned (.tuple #[.slice A 2 c, .int .i64 0]) ∧ 2 ≤ c ∧ Kd.C (Kd.int .i64) w' A 2 [1, 6] ∧ Below W.heap.size W w' := by
  have h := calls_Lay (some PA) 2 ownP (some QA) 3 ownQ 0 (some B) 2 [0, 1] W hP (by decide) hQ (by decide) hL (by decide) hG
  rw [own_lay] at h
  refine h.mono fun e w' h => ?_
  obtain ⟨v, rfl, h1, h2⟩ := h
  obtain ⟨A, c, rfl, h3, h4⟩ := V_told (n := 2) h1 rfl
  exact ⟨A, c, rfl, h3, h4, h2⟩
theorem at_Fewest (PA QA : Addr) (W : World) (hP : Kd.C k48 W (some PA) 2 ownP) (hQ : Kd.C k50 W (some QA) 3 ownQ) (hG : Glob W) :
    Calls Tryd.prog 28 #[.agg #[.slice (some PA) 2 2, .slice (some QA) 3 3]] W fun e w' => ∃ A c, e = .returned (.tuple #[.slice A 2 c, .int .i64 0]) ∧ 2 ≤ c ∧ Kd.C (Kd.int .i64) w' A 2 [0, 1] ∧ Below W.heap.size W w' := by
  have h := calls_Fewest (some PA) 2 ownP (some QA) 3 ownQ  W hP (by decide) hQ (by decide) hG
  rw [own_fewest] at h
  refine h.mono fun e w' h => ?_
  obtain ⟨v, rfl, h1, h2⟩ := h
  obtain ⟨A, c, rfl, h3, h4⟩ := V_told (n := 2) h1 rfl
  exact ⟨A, c, rfl, h3, h4, h2⟩
theorem at_Most (PA QA : Addr) (W : World) (hP : Kd.C k48 W (some PA) 1 aloP) (hQ : Kd.C k50 W (some QA) 3 ownQ) (hG : Glob W) :
    Calls Tryd.prog 26 #[.agg #[.slice (some PA) 1 1, .slice (some QA) 3 3]] W fun e w' => ∃ A c, e = .returned (.tuple #[.slice A 2 c, .int .i64 0]) ∧ 2 ≤ c ∧ Kd.C (Kd.int .i64) w' A 2 [1, 2] ∧ Below W.heap.size W w' := by
  have h := calls_Most (some PA) 1 aloP (some QA) 3 ownQ  W hP (by decide) hQ (by decide) hG
  rw [alo_most] at h
  refine h.mono fun e w' h => ?_
  obtain ⟨v, rfl, h1, h2⟩ := h
  obtain ⟨A, c, rfl, h3, h4⟩ := V_told (n := 2) h1 rfl
  exact ⟨A, c, rfl, h3, h4, h2⟩
theorem at_Lacks (PA QA : Addr) (W : World) (hP : Kd.C k48 W (some PA) 1 aloP) (hQ : Kd.C k50 W (some QA) 3 ownQ) (hG : Glob W) :
    Calls Tryd.prog 30 #[.agg #[.slice (some PA) 1 1, .slice (some QA) 3 3]] W fun e w' => e = .returned (.tuple #[.int .i64 1, .int .i64 0]) ∧ Below W.heap.size W w' := by
  have h := calls_Lacks (some PA) 1 aloP (some QA) 3 ownQ  W hP (by decide) hQ (by decide) hG
  rw [alo_lacks] at h
  exact h
theorem at_Look (PA QA : Addr) (W : World) (hP : Kd.C k48 W (some PA) 1 hidP) (hQ : Kd.C k50 W (some QA) 2 hidQ) (hG : Glob W) :
    Calls Tryd.prog 32 #[.agg #[.slice (some PA) 1 1, .slice (some QA) 2 2]] W fun e w' => e = .returned (.tuple #[.int .i64 0, .int .i64 0, .int .i64 0]) ∧ Below W.heap.size W w' := by
  have h := calls_Look (some PA) 1 hidP (some QA) 2 hidQ  W hP (by decide) hQ (by decide) hG
  rw [hid_look] at h
  exact h
theorem lit2 (W : World) (a b : Int) : Kd.C (Kd.int .i64) (W.alloc (.cells #[.int .i64 a, .int .i64 b] 3)) (some ⟨W.heap.size, 0, none⟩) 2 [a, b] :=
  ints_C (xs := [a, b]) (blk_new W _) (by simp [maxLen]) (fun j hj => by obtain rfl | rfl : j = 0 ∨ j = 1 := (by simp at hj; omega); all_goals rfl)
theorem lit5 (W : World) (a b c d e : Int) : Kd.C (Kd.int .i64) (W.alloc (.cells #[.int .i64 a, .int .i64 b, .int .i64 c, .int .i64 d, .int .i64 e] 3)) (some ⟨W.heap.size, 0, none⟩) 5 [a, b, c, d, e] :=
  ints_C (xs := [a, b, c, d, e]) (blk_new W _) (by simp [maxLen]) (fun j hj => by obtain rfl | rfl | rfl | rfl | rfl : j = 0 ∨ j = 1 ∨ j = 2 ∨ j = 3 ∨ j = 4 := (by simp at hj; omega); all_goals rfl)
theorem eq5 (A : Option Addr) (c : Nat) (W : World) (hr : Kd.C (Kd.int .i64) W A 5 [1, 2, 5, 6, 7]) (hc : 5 ≤ c) :
    Calls Tryd.prog 22 #[.slice A 5 c, .slice (some ⟨W.heap.size, 0, none⟩) 5 5] (W.alloc (.cells #[.int .i64 1, .int .i64 2, .int .i64 5, .int .i64 6, .int .i64 7] 3)) fun e w' => e = .returned (.bool true) ∧ Below (W.alloc (.cells #[.int .i64 1, .int .i64 2, .int .i64 5, .int .i64 6, .int .i64 7] 3)).heap.size (W.alloc (.cells #[.int .i64 1, .int .i64 2, .int .i64 5, .int .i64 6, .int .i64 7] 3)) w' :=
  calls_Equal A 5 c [1, 2, 5, 6, 7] _ 5 5 [1, 2, 5, 6, 7] true rfl rfl (by decide) _ (Kd.C_alloc hr _) hc (lit5 W 1 2 5 6 7) (Nat.le_refl _)
theorem eq2 (A : Option Addr) (c : Nat) (W : World) (a b : Int) (hr : Kd.C (Kd.int .i64) W A 2 [a, b]) (hc : 2 ≤ c) :
    Calls Tryd.prog 22 #[.slice A 2 c, .slice (some ⟨W.heap.size, 0, none⟩) 2 2] (W.alloc (.cells #[.int .i64 a, .int .i64 b] 3)) fun e w' => e = .returned (.bool true) ∧ Below (W.alloc (.cells #[.int .i64 a, .int .i64 b] 3)).heap.size (W.alloc (.cells #[.int .i64 a, .int .i64 b] 3)) w' :=
  calls_Equal A 2 c [a, b] _ 2 2 [a, b] true rfl rfl (by simp) _ (Kd.C_alloc hr _) hc (lit2 W a b) (Nat.le_refl _)
set_option maxRecDepth 100000 in
set_option maxHeartbeats 2000000 in
theorem calls_sawn (w : World) (hG : Glob w) : Calls Tryd.prog 23 #[] w fun e w' => e = .returned (.bool true) ∧ Below w.heap.size w w' := by
  have HG := Lib.hid hG; have HB := Lib.hid (Below.refl w.heap.size w)
  clear hG
  go_enter Tryd.func23, Tryd.ntmps23
  go_wp2_with (first | (go_at_call 54; (with_reducible refine (calls_own _).mono ?_); rintro e w1 ⟨PA, QA, rfl, hPQ, hb⟩; have HP := Lib.hid ((hPQ w1 (fun _ _ _ => rfl)).1); have HQ := Lib.hid ((hPQ w1 (fun _ _ _ => rfl)).2); have HB := Lib.hid (below_step (by repeat (first | exact HB.out | apply below_alloc)) hb); (first | (have HL1 := Lib.hid (Kd.C_below HL1.out hb)) | (have HL1 := Lib.hid (Kd.C_below (Kd.C_alloc HL1.out _) hb)) | skip); (first | (have HL2 := Lib.hid (Kd.C_below HL2.out hb)) | (have HL2 := Lib.hid (Kd.C_below (Kd.C_alloc HL2.out _) hb)) | skip); (first | (have HL3 := Lib.hid (Kd.C_below HL3.out hb)) | (have HL3 := Lib.hid (Kd.C_below (Kd.C_alloc HL3.out _) hb)) | skip); (first | (have HL4 := Lib.hid (Kd.C_below HL4.out hb)) | (have HL4 := Lib.hid (Kd.C_below (Kd.C_alloc HL4.out _) hb)) | skip); clear hPQ hb) | (go_at_call 57; (with_reducible refine (calls_alone _).mono ?_); rintro e w1 ⟨PA, QA, rfl, hP, hQ, hb⟩; have HP := Lib.hid (hP); have HQ := Lib.hid (hQ); have HB := Lib.hid (below_step (by repeat (first | exact HB.out | apply below_alloc)) hb); (first | (have HL1 := Lib.hid (Kd.C_below HL1.out hb)) | (have HL1 := Lib.hid (Kd.C_below (Kd.C_alloc HL1.out _) hb)) | skip); (first | (have HL2 := Lib.hid (Kd.C_below HL2.out hb)) | (have HL2 := Lib.hid (Kd.C_below (Kd.C_alloc HL2.out _) hb)) | skip); (first | (have HL3 := Lib.hid (Kd.C_below HL3.out hb)) | (have HL3 := Lib.hid (Kd.C_below (Kd.C_alloc HL3.out _) hb)) | skip); (first | (have HL4 := Lib.hid (Kd.C_below HL4.out hb)) | (have HL4 := Lib.hid (Kd.C_below (Kd.C_alloc HL4.out _) hb)) | skip); clear hP hQ hb) | (go_at_call 58; (with_reducible refine (calls_hidden _).mono ?_); rintro e w1 ⟨PA, QA, rfl, hPQ, hb⟩; have HP := Lib.hid ((hPQ w1 (fun _ _ _ => rfl)).1); have HQ := Lib.hid ((hPQ w1 (fun _ _ _ => rfl)).2); have HB := Lib.hid (below_step (by repeat (first | exact HB.out | apply below_alloc)) hb); (first | (have HL1 := Lib.hid (Kd.C_below HL1.out hb)) | (have HL1 := Lib.hid (Kd.C_below (Kd.C_alloc HL1.out _) hb)) | skip); (first | (have HL2 := Lib.hid (Kd.C_below HL2.out hb)) | (have HL2 := Lib.hid (Kd.C_below (Kd.C_alloc HL2.out _) hb)) | skip); (first | (have HL3 := Lib.hid (Kd.C_below HL3.out hb)) | (have HL3 := Lib.hid (Kd.C_below (Kd.C_alloc HL3.out _) hb)) | skip); (first | (have HL4 := Lib.hid (Kd.C_below HL4.out hb)) | (have HL4 := Lib.hid (Kd.C_below (Kd.C_alloc HL4.out _) hb)) | skip); clear hPQ hb) | (go_at_call 16; (with_reducible refine (at_Can PA QA _ HP.out HQ.out (HG.out.below HB.out)).mono ?_); rintro e w2 ⟨rfl, hb⟩; have HB := Lib.hid (below_step (by repeat (first | exact HB.out | apply below_alloc)) hb); (first | (have HL1 := Lib.hid (Kd.C_below HL1.out hb)) | (have HL1 := Lib.hid (Kd.C_below (Kd.C_alloc HL1.out _) hb)) | skip); (first | (have HL2 := Lib.hid (Kd.C_below HL2.out hb)) | (have HL2 := Lib.hid (Kd.C_below (Kd.C_alloc HL2.out _) hb)) | skip); (first | (have HL3 := Lib.hid (Kd.C_below HL3.out hb)) | (have HL3 := Lib.hid (Kd.C_below (Kd.C_alloc HL3.out _) hb)) | skip); (first | (have HL4 := Lib.hid (Kd.C_below HL4.out hb)) | (have HL4 := Lib.hid (Kd.C_below (Kd.C_alloc HL4.out _) hb)) | skip); clear hb) | (go_at_call 20; (with_reducible refine (at_Spots PA QA _ HP.out HQ.out (HG.out.below HB.out)).mono ?_); rintro e w2 ⟨A1, c1, rfl, hc1, hC, hb⟩; have HB := Lib.hid (below_step (by repeat (first | exact HB.out | apply below_alloc)) hb); (first | (have HL1 := Lib.hid (Kd.C_below HL1.out hb)) | (have HL1 := Lib.hid (Kd.C_below (Kd.C_alloc HL1.out _) hb)) | skip); (first | (have HL2 := Lib.hid (Kd.C_below HL2.out hb)) | (have HL2 := Lib.hid (Kd.C_below (Kd.C_alloc HL2.out _) hb)) | skip); (first | (have HL3 := Lib.hid (Kd.C_below HL3.out hb)) | (have HL3 := Lib.hid (Kd.C_below (Kd.C_alloc HL3.out _) hb)) | skip); (first | (have HL4 := Lib.hid (Kd.C_below HL4.out hb)) | (have HL4 := Lib.hid (Kd.C_below (Kd.C_alloc HL4.out _) hb)) | skip); have HL1 := Lib.hid hC; clear hC hb) | (go_at_call 24; (with_reducible refine (at_Lay PA QA ⟨w1.heap.size, 0, none⟩ _ (Kd.C_alloc HP.out _) (Kd.C_alloc HQ.out _) (lit2 w1 0 1) (HG.out.below (below_alloc HB.out _))).mono ?_); rintro e w2 ⟨A2, c2, rfl, hc2, hC, hb⟩; have HB := Lib.hid (below_step (by repeat (first | exact HB.out | apply below_alloc)) hb); (first | (have HL1 := Lib.hid (Kd.C_below HL1.out hb)) | (have HL1 := Lib.hid (Kd.C_below (Kd.C_alloc HL1.out _) hb)) | skip); (first | (have HL2 := Lib.hid (Kd.C_below HL2.out hb)) | (have HL2 := Lib.hid (Kd.C_below (Kd.C_alloc HL2.out _) hb)) | skip); (first | (have HL3 := Lib.hid (Kd.C_below HL3.out hb)) | (have HL3 := Lib.hid (Kd.C_below (Kd.C_alloc HL3.out _) hb)) | skip); (first | (have HL4 := Lib.hid (Kd.C_below HL4.out hb)) | (have HL4 := Lib.hid (Kd.C_below (Kd.C_alloc HL4.out _) hb)) | skip); have HL2 := Lib.hid hC; clear hC hb) | (go_at_call 28; (with_reducible refine (at_Fewest PA QA _ HP.out HQ.out (HG.out.below HB.out)).mono ?_); rintro e w2 ⟨A3, c3, rfl, hc3, hC, hb⟩; have HB := Lib.hid (below_step (by repeat (first | exact HB.out | apply below_alloc)) hb); (first | (have HL1 := Lib.hid (Kd.C_below HL1.out hb)) | (have HL1 := Lib.hid (Kd.C_below (Kd.C_alloc HL1.out _) hb)) | skip); (first | (have HL2 := Lib.hid (Kd.C_below HL2.out hb)) | (have HL2 := Lib.hid (Kd.C_below (Kd.C_alloc HL2.out _) hb)) | skip); (first | (have HL3 := Lib.hid (Kd.C_below HL3.out hb)) | (have HL3 := Lib.hid (Kd.C_below (Kd.C_alloc HL3.out _) hb)) | skip); (first | (have HL4 := Lib.hid (Kd.C_below HL4.out hb)) | (have HL4 := Lib.hid (Kd.C_below (Kd.C_alloc HL4.out _) hb)) | skip); have HL3 := Lib.hid hC; clear hC hb) | (go_at_call 26; (with_reducible refine (at_Most PA QA _ HP.out HQ.out (HG.out.below HB.out)).mono ?_); rintro e w2 ⟨A4, c4, rfl, hc4, hC, hb⟩; have HB := Lib.hid (below_step (by repeat (first | exact HB.out | apply below_alloc)) hb); (first | (have HL1 := Lib.hid (Kd.C_below HL1.out hb)) | (have HL1 := Lib.hid (Kd.C_below (Kd.C_alloc HL1.out _) hb)) | skip); (first | (have HL2 := Lib.hid (Kd.C_below HL2.out hb)) | (have HL2 := Lib.hid (Kd.C_below (Kd.C_alloc HL2.out _) hb)) | skip); (first | (have HL3 := Lib.hid (Kd.C_below HL3.out hb)) | (have HL3 := Lib.hid (Kd.C_below (Kd.C_alloc HL3.out _) hb)) | skip); (first | (have HL4 := Lib.hid (Kd.C_below HL4.out hb)) | (have HL4 := Lib.hid (Kd.C_below (Kd.C_alloc HL4.out _) hb)) | skip); have HL4 := Lib.hid hC; clear hC hb) | (go_at_call 30; (with_reducible refine (at_Lacks PA QA _ HP.out HQ.out (HG.out.below HB.out)).mono ?_); rintro e w2 ⟨rfl, hb⟩; have HB := Lib.hid (below_step (by repeat (first | exact HB.out | apply below_alloc)) hb); (first | (have HL1 := Lib.hid (Kd.C_below HL1.out hb)) | (have HL1 := Lib.hid (Kd.C_below (Kd.C_alloc HL1.out _) hb)) | skip); (first | (have HL2 := Lib.hid (Kd.C_below HL2.out hb)) | (have HL2 := Lib.hid (Kd.C_below (Kd.C_alloc HL2.out _) hb)) | skip); (first | (have HL3 := Lib.hid (Kd.C_below HL3.out hb)) | (have HL3 := Lib.hid (Kd.C_below (Kd.C_alloc HL3.out _) hb)) | skip); (first | (have HL4 := Lib.hid (Kd.C_below HL4.out hb)) | (have HL4 := Lib.hid (Kd.C_below (Kd.C_alloc HL4.out _) hb)) | skip); clear hb) | (go_at_call 32; (with_reducible refine (at_Look PA QA _ HP.out HQ.out (HG.out.below HB.out)).mono ?_); rintro e w2 ⟨rfl, hb⟩; have HB := Lib.hid (below_step (by repeat (first | exact HB.out | apply below_alloc)) hb); (first | (have HL1 := Lib.hid (Kd.C_below HL1.out hb)) | (have HL1 := Lib.hid (Kd.C_below (Kd.C_alloc HL1.out _) hb)) | skip); (first | (have HL2 := Lib.hid (Kd.C_below HL2.out hb)) | (have HL2 := Lib.hid (Kd.C_below (Kd.C_alloc HL2.out _) hb)) | skip); (first | (have HL3 := Lib.hid (Kd.C_below HL3.out hb)) | (have HL3 := Lib.hid (Kd.C_below (Kd.C_alloc HL3.out _) hb)) | skip); (first | (have HL4 := Lib.hid (Kd.C_below HL4.out hb)) | (have HL4 := Lib.hid (Kd.C_below (Kd.C_alloc HL4.out _) hb)) | skip); clear hb) | (go_at_call 22; (with_reducible refine (eq5 A1 c1 _ HL1.out hc1).mono ?_); rintro e w3 ⟨rfl, hb⟩; have HB := Lib.hid (below_step (by repeat (first | exact HB.out | apply below_alloc)) hb); (first | (have HL1 := Lib.hid (Kd.C_below HL1.out hb)) | (have HL1 := Lib.hid (Kd.C_below (Kd.C_alloc HL1.out _) hb)) | skip); (first | (have HL2 := Lib.hid (Kd.C_below HL2.out hb)) | (have HL2 := Lib.hid (Kd.C_below (Kd.C_alloc HL2.out _) hb)) | skip); (first | (have HL3 := Lib.hid (Kd.C_below HL3.out hb)) | (have HL3 := Lib.hid (Kd.C_below (Kd.C_alloc HL3.out _) hb)) | skip); (first | (have HL4 := Lib.hid (Kd.C_below HL4.out hb)) | (have HL4 := Lib.hid (Kd.C_below (Kd.C_alloc HL4.out _) hb)) | skip); clear hb) | (go_at_call 22; (with_reducible refine (eq2 A2 c2 _ 1 6 HL2.out hc2).mono ?_); rintro e w3 ⟨rfl, hb⟩; have HB := Lib.hid (below_step (by repeat (first | exact HB.out | apply below_alloc)) hb); (first | (have HL1 := Lib.hid (Kd.C_below HL1.out hb)) | (have HL1 := Lib.hid (Kd.C_below (Kd.C_alloc HL1.out _) hb)) | skip); (first | (have HL2 := Lib.hid (Kd.C_below HL2.out hb)) | (have HL2 := Lib.hid (Kd.C_below (Kd.C_alloc HL2.out _) hb)) | skip); (first | (have HL3 := Lib.hid (Kd.C_below HL3.out hb)) | (have HL3 := Lib.hid (Kd.C_below (Kd.C_alloc HL3.out _) hb)) | skip); (first | (have HL4 := Lib.hid (Kd.C_below HL4.out hb)) | (have HL4 := Lib.hid (Kd.C_below (Kd.C_alloc HL4.out _) hb)) | skip); clear hb) | (go_at_call 22; (with_reducible refine (eq2 A3 c3 _ 0 1 HL3.out hc3).mono ?_); rintro e w3 ⟨rfl, hb⟩; have HB := Lib.hid (below_step (by repeat (first | exact HB.out | apply below_alloc)) hb); (first | (have HL1 := Lib.hid (Kd.C_below HL1.out hb)) | (have HL1 := Lib.hid (Kd.C_below (Kd.C_alloc HL1.out _) hb)) | skip); (first | (have HL2 := Lib.hid (Kd.C_below HL2.out hb)) | (have HL2 := Lib.hid (Kd.C_below (Kd.C_alloc HL2.out _) hb)) | skip); (first | (have HL3 := Lib.hid (Kd.C_below HL3.out hb)) | (have HL3 := Lib.hid (Kd.C_below (Kd.C_alloc HL3.out _) hb)) | skip); (first | (have HL4 := Lib.hid (Kd.C_below HL4.out hb)) | (have HL4 := Lib.hid (Kd.C_below (Kd.C_alloc HL4.out _) hb)) | skip); clear hb) | (go_at_call 22; (with_reducible refine (eq2 A4 c4 _ 1 2 HL4.out hc4).mono ?_); rintro e w3 ⟨rfl, hb⟩; have HB := Lib.hid (below_step (by repeat (first | exact HB.out | apply below_alloc)) hb); (first | (have HL1 := Lib.hid (Kd.C_below HL1.out hb)) | (have HL1 := Lib.hid (Kd.C_below (Kd.C_alloc HL1.out _) hb)) | skip); (first | (have HL2 := Lib.hid (Kd.C_below HL2.out hb)) | (have HL2 := Lib.hid (Kd.C_below (Kd.C_alloc HL2.out _) hb)) | skip); (first | (have HL3 := Lib.hid (Kd.C_below HL3.out hb)) | (have HL3 := Lib.hid (Kd.C_below (Kd.C_alloc HL3.out _) hb)) | skip); (first | (have HL4 := Lib.hid (Kd.C_below HL4.out hb)) | (have HL4 := Lib.hid (Kd.C_below (Kd.C_alloc HL4.out _) hb)) | skip); clear hb))
  exact bodyPost_ret (results_tmp rfl _ _ _) rfl ⟨rfl, HB.out⟩
def skewbaldlaw01_sawn.f : Option Bool := some true
theorem skewbaldlaw01_sawn.calls (r : Bool) (w : World) (hG : Glob w) (h : skewbaldlaw01_sawn.f = some r) : Calls Tryd.prog 23 #[] w fun e w' => e = .returned (.bool r) ∧ Below w.heap.size w w' := by
  obtain rfl := Option.some.inj h
  exact calls_sawn w hG
end Go.Proofs.YtekjlpldooihhaaDoorK
namespace Go.Proofs.YtekjlpldooihhaaDoor.PT
open Go.Proofs.YtekjlpldooihhaaDoorSh
open Go.Proofs.YtekjlpldooihhaaDoor.PA (S48 S50 S60 at_L2 at_L4 at_T48 at_T50 at_T60 errW errW_none errW_some k48 k48_mk k48_mkM k48_open k48_openM k50 k50_mk k50_mkM k50_open k50_openM k60 k60_mk k60_mkM k60_open k60_openM rd_L2 rd_L4 rd_T48 rd_T50 rd_T60 z48 z50 z60)
open Go.Proofs.YtekjlpldooihhaaDoorP Go.Proofs.YtekjlpldooihhaaDoorK
open Go.RowKit Go.Proofs.YtekjlpldooihhaaDoorW.PrintWords Go.Proofs.YtekjlpldooihhaaDoorW.PrintLast Go.Proofs.YtekjlpldooihhaaDoorW.PrintMore
attribute [local go_sem] max2_int min2_int max_two min_two max_three min_three max_four min_four
set_option linter.unusedVariables false
set_option linter.unusedSimpArgs false
theorem info3 : (Tryd.prog.info? 3).map (fun i => (i.zero, i.size, i.bytes)) = some (some (.int .i64 0), 1, 8) := by kernel_rfl
theorem info31 : (Tryd.prog.info? 31).map (fun i => (i.zero, i.size, i.bytes)) = some (some (.slice none 0 0), 1, 24) := by kernel_rfl
theorem k60_heap : Kd.Heap k60 := Kd.heap_iso _ (Kd.heap_pair (Kd.heap_int .i64) (Kd.heap_int .i64))
theorem k48_heap : Kd.Heap k48 := Kd.heap_iso _ (Kd.heap_pair (Kd.heap_int .i64) (Kd.heap_slice 60 k60_heap))
theorem k50_heap : Kd.Heap k50 := Kd.heap_iso _ (Kd.heap_pair (Kd.heap_int .i64) (Kd.heap_pair (Kd.heap_slice 3 (Kd.heap_int .i64)) Kd.heap_bool))
def skewbaldref00_In.f (a0 : Int) (a1 : Int) (a2 : Int) : Option (Bool) := if a1 ≤ a0 then (some (decide (a0 ≤ a2))) else (some false)
set_option maxHeartbeats 8000000 in
set_option maxRecDepth 100000 in
theorem skewbaldref00_In.calls (a0 : Int) (a1 : Int) (a2 : Int) (r : Bool) (w : World) (h : skewbaldref00_In.f a0 a1 a2 = some r) :
  Calls Tryd.prog 38 #[.int .i64 a0, .int .i64 a1, .int .i64 a2] w fun e w' => e = .returned (.bool r) ∧ Drawn0 w w' := by
 have H : (if a1 ≤ a0 then (some (decide (a0 ≤ a2))) else (some false)) = some r := h
 clear h
 by_cases c4 : a1 ≤ a0
 ·rw [if_pos c4] at H; have c4b0 := decide_eq_true c4; clear c4; obtain rfl := Option.some.inj H
  go_enter Tryd.func38, Tryd.ntmps38
  go_wp2
  go_ret
  exact ⟨sm, by repeat (first | exact Drawn0.refl _ | apply Drawn0.step)⟩
 ·rw [if_neg c4] at H
  have c4b0 : decide (a1 ≤ a0) = false := decide_eq_false c4
  clear c4; obtain rfl := Option.some.inj H
  go_enter Tryd.func38, Tryd.ntmps38
  go_wp2
  go_ret
  exact ⟨sm, by repeat (first | exact Drawn0.refl _ | apply Drawn0.step)⟩
def skewbaldref00_Grows.l0 : Nat → List Int → Int → Int → Int → Option (Bool)
 | 0, _, _, _, _ => none
 | k + 1, x0, x1, x5, x6 => if x6 < (x0.length : Int) then (if 0 ≤ x6 then (if (rd x0 x6) ≤ x5 then (some false) else (if (rd x0 x6) ≥ x1 then (some false) else (skewbaldref00_Grows.l0 k x0 x1 (rd x0 x6) (wrap64 (x6 + 1))))) else (none)) else (some true)
def skewbaldref00_Grows.f (k : Nat) (l0 : List Int) (a1 : Int) : Option (Bool) := skewbaldref00_Grows.l0 k l0 a1 (-1) 0
set_option maxHeartbeats 8000000 in
set_option maxRecDepth 100000 in
theorem skewbaldref00_Grows.calls (k : Nat) (A0 : Option Addr) (c0 : Nat) (l0 : List Int) (a1 : Int) (r : Bool) (w : World) (hr0 : Kd.C (Kd.int .i64) w A0 l0.length l0) (hc0 : l0.length ≤ c0) (h : skewbaldref00_Grows.f k l0 a1 = some r) :
  Calls Tryd.prog 39 #[.slice A0 l0.length c0, .int .i64 a1] w fun e w' => e = .returned (.bool r) ∧ Drawn0 w w' := by
 have HR0 := Aside0.mk hr0; have HC0 := Aside0.mk hc0; clear hr0 hc0
 have H : (skewbaldref00_Grows.l0 k l0 a1 (-1) 0) = some r := h
 clear h; have H' := Aside0.mk H; clear H
 go_enter Tryd.func39, Tryd.ntmps39
 go_wp2
 go_loopg [5, 6] k (fun kq v5 v6 w' => ∃ (x5_1 : Int) (x6_1 : Int), v5 = .int .i64 x5_1 ∧ v6 = .int .i64 x6_1 ∧ Aside0 (skewbaldref00_Grows.l0 kq l0 a1 x5_1 x6_1 = some r) ∧ Aside0 (kq ≤ k) ∧ Drawn0 w w')
 case atStart => exact ⟨((-1)), (0), sm, sm, H', ⟨Nat.le_refl _⟩, by repeat (first | exact Drawn0.refl _ | apply Drawn0.step)⟩
 case round =>
  clear H'; (try clear p2); obtain ⟨x5_1, x6_1, rfl, rfl, HA, HK1, ⟨m1, rfl⟩⟩ := hrel
  cases gk with
  | zero => exact absurd HA.out (by simp [skewbaldref00_Grows.l0])
  | succ k1 =>
   have H := HA.out; clear HA
   simp only [skewbaldref00_Grows.l0] at H
   by_cases c3 : x6_1 < (l0.length : Int)
   ·rw [if_pos c3] at H; have c3b0 := decide_eq_true c3; clear c3
    by_cases c4 : 0 ≤ x6_1
    ·rw [if_pos c4] at H; have c4b0 := decide_eq_true c4; clear c4
     by_cases c5 : (rd l0 x6_1) ≤ x5_1
     ·rw [if_pos c5] at H; have c5b0 := decide_eq_true c5; clear c5; obtain rfl := Option.some.inj H
      have p101 : 0 ≤ (x6_1 : Int) := od
      have q101 : x6_1 < (l0.length : Int) := od
      obtain ⟨ad101, e101, hx101_0⟩ := Kd.at_int HR0.out x6_1 p101 q101
      cases e101
      replace p101 := eq_true p101; replace q101 := eq_true q101
      go_wp2
      go_ret
      exact ⟨sm, by repeat (first | exact Drawn0.refl _ | apply Drawn0.step)⟩
     ·rw [if_neg c5] at H
      have c5b0 : decide ((rd l0 x6_1) ≤ x5_1) = false := decide_eq_false c5
      clear c5
      by_cases c6 : (rd l0 x6_1) ≥ a1
      ·rw [if_pos c6] at H; have c6b0 := decide_eq_true c6; clear c6; obtain rfl := Option.some.inj H
       have p101 : 0 ≤ (x6_1 : Int) := od
       have q101 : x6_1 < (l0.length : Int) := od
       obtain ⟨ad101, e101, hx101_0⟩ := Kd.at_int HR0.out x6_1 p101 q101
       cases e101
       replace p101 := eq_true p101; replace q101 := eq_true q101
       have p102 : 0 ≤ (x6_1 : Int) := od
       have q102 : x6_1 < (l0.length : Int) := od
       obtain ⟨ad102, e102, hx102_0⟩ := Kd.at_int HR0.out x6_1 p102 q102
       obtain rfl : ad101 = ad102 := (by injection e102)
       replace p102 := eq_true p102; replace q102 := eq_true q102
       go_wp2
       go_ret
       exact ⟨sm, by repeat (first | exact Drawn0.refl _ | apply Drawn0.step)⟩
      ·rw [if_neg c6] at H
       have c6b0 : decide (a1 ≤ (rd l0 x6_1)) = false := decide_eq_false c6
       clear c6; have H' := Aside0.mk H; clear H
       have p101 : 0 ≤ (x6_1 : Int) := od
       have q101 : x6_1 < (l0.length : Int) := od
       obtain ⟨ad101, e101, hx101_0⟩ := Kd.at_int HR0.out x6_1 p101 q101
       cases e101
       replace p101 := eq_true p101; replace q101 := eq_true q101
       have p102 : 0 ≤ (x6_1 : Int) := od
       have q102 : x6_1 < (l0.length : Int) := od
       obtain ⟨ad102, e102, hx102_0⟩ := Kd.at_int HR0.out x6_1 p102 q102
       obtain rfl : ad101 = ad102 := (by injection e102)
       replace p102 := eq_true p102; replace q102 := eq_true q102
       have p103 : 0 ≤ (x6_1 : Int) := od
       have q103 : x6_1 < (l0.length : Int) := od
       obtain ⟨ad103, e103, hx103_0⟩ := Kd.at_int HR0.out x6_1 p103 q103
       obtain rfl : ad101 = ad103 := (by injection e103)
       replace p103 := eq_true p103; replace q103 := eq_true q103
       go_wp2
       go_roundg k1
       case measure => have := HK1.out; omega
       case rel => exact ⟨(rd l0 x6_1), (wrap64 (x6_1 + 1)), sm, sm, H', ⟨lo HK1⟩, by repeat (first | exact Drawn0.refl _ | apply Drawn0.step)⟩
    ·rw [if_neg c4] at H
     exact absurd H (by simp)
   ·rw [if_neg c3] at H
    have c3b0 : decide (x6_1 < (l0.length : Int)) = false := decide_eq_false c3
    clear c3; obtain rfl := Option.some.inj H
    go_wp2
    go_ret
    exact ⟨sm, by repeat (first | exact Drawn0.refl _ | apply Drawn0.step)⟩
def skewbaldref00_Ordered.f (a0_0 : Int) (a0_1 : Int) (a1 : Int) (a2 : Int) : Option (Bool) := if a1 ≤ a0_0 then (if a0_0 ≤ a0_1 then (some (decide (a0_1 ≤ a2))) else (some false)) else (some false)
set_option maxHeartbeats 8000000 in
set_option maxRecDepth 100000 in
theorem skewbaldref00_Ordered.calls (a0_0 : Int) (a0_1 : Int) (a1 : Int) (a2 : Int) (r : Bool) (w : World) (h : skewbaldref00_Ordered.f a0_0 a0_1 a1 a2 = some r) :
  Calls Tryd.prog 73 #[.agg #[.int .i64 a0_0, .int .i64 a0_1], .int .i64 a1, .int .i64 a2] w fun e w' => e = .returned (.bool r) ∧ Below w.heap.size w w' := by
 have hu60 := Tryd.underlying60; have HB := Aside0.mk (Below.refl w.heap.size w)
 have H : (if a1 ≤ a0_0 then (if a0_0 ≤ a0_1 then (some (decide (a0_1 ≤ a2))) else (some false)) else (some false)) = some r := h
 clear h
 by_cases c4 : a1 ≤ a0_0
 ·rw [if_pos c4] at H; have c4b0 := decide_eq_true c4; clear c4
  by_cases c5 : a0_0 ≤ a0_1
  ·rw [if_pos c5] at H; have c5b0 := decide_eq_true c5; clear c5; obtain rfl := Option.some.inj H
   go_enter Tryd.func73, Tryd.ntmps73
   go_wp2_with (first | (refine bx 3 #[.int .i64 a0_0, .int .i64 a0_1] 60 ?_; intro gb104 hg w6 hbox hb; have BK104 := Aside0.mk hbox; have GW104 := gw hg HB; have GE104 := gw hg HB; replace HB := hs HB hb; clear hb hbox hg; obtain ⟨hcz7_0, hcz7_1, hfz7_0, hfz7_1⟩ := b2 (w := w6) BK104))
   go_ret
   exact ⟨by first | rfl | (simp [errW_none, errW_some] <;> rfl) | (simp [*, errW_none, errW_some] <;> rfl), bl⟩
  ·rw [if_neg c5] at H
   have c5b0 : decide (a0_0 ≤ a0_1) = false := decide_eq_false c5
   clear c5; obtain rfl := Option.some.inj H
   go_enter Tryd.func73, Tryd.ntmps73
   go_wp2_with (first | (refine bx 3 #[.int .i64 a0_0, .int .i64 a0_1] 60 ?_; intro gb104 hg w8 hbox hb; have BK104 := Aside0.mk hbox; have GW104 := gw hg HB; have GE104 := gw hg HB; replace HB := hs HB hb; clear hb hbox hg; obtain ⟨hcz9_0, hcz9_1, hfz9_0, hfz9_1⟩ := b2 (w := w8) BK104))
   go_ret
   exact ⟨by first | rfl | (simp [errW_none, errW_some] <;> rfl) | (simp [*, errW_none, errW_some] <;> rfl), bl⟩
 ·rw [if_neg c4] at H
  have c4b0 : decide (a1 ≤ a0_0) = false := decide_eq_false c4
  clear c4; obtain rfl := Option.some.inj H
  go_enter Tryd.func73, Tryd.ntmps73
  go_wp2_with (first | (refine bx 3 #[.int .i64 a0_0, .int .i64 a0_1] 60 ?_; intro gb104 hg w10 hbox hb; have BK104 := Aside0.mk hbox; have GW104 := gw hg HB; have GE104 := gw hg HB; replace HB := hs HB hb; clear hb hbox hg; obtain ⟨hcz11_0, hcz11_1, hfz11_0, hfz11_1⟩ := b2 (w := w10) BK104))
  go_ret
  exact ⟨by first | rfl | (simp [errW_none, errW_some] <;> rfl) | (simp [*, errW_none, errW_some] <;> rfl), bl⟩
end Go.Proofs.YtekjlpldooihhaaDoor.PT
