/- Printed by a program (prx.py). -/
import Derived.Test.YtekjlpldooihhaaDoorWNEv
import Derived.Test.YtekjlpldooihhaaDoorPq
import Derived.Test.YtekjlpldooihhaaDoorHa
import Derived.Test.YtekjlpldooihhaaDoorWWords
import Derived.Test.YtekjlpldooihhaaDoorProg
import Derived.Below
import Derived.Deep.Draws
import Derived.Deep.AppendLies
import Derived.Maps.AppendAt
import Derived.OwnWalk
import Derived.Laws.BytesArg
import Derived.Laws.MakeOwn
import Derived.Laws.OwnMore
import Derived.Deep.OwnRows
import Derived.Tactics
import Derived.Lib.ConvBytes
import Derived.Laws.Slices
import Derived.WalkKit
import Derived.KernelRfl
import Derived.RowKit3
import Derived.Deep.LoopGhost
import Derived.Deep.QuietTactic
import Derived.BigQuiet
import Derived.WideLaws
import Derived.Deep.DeepCutAuto
import Derived.Deep.CutBlock
import Derived.Deep.RegionHeld3
import Derived.Laws.Rows
import Derived.Lib.AppendStr
import Derived.ArgAppend
import Derived.Laws.IdiomCopy
import Derived.OrdersHeld
import Derived.Laws.BitsLemmas
import Derived.RowKit
namespace Go.Proofs.YtekjlpldooihhaaDoorP
open Go.Proofs.YtekjlpldooihhaaDoorSh
open Go.RowKit Go.Proofs.YtekjlpldooihhaaDoorW.PrintWords Go.Proofs.YtekjlpldooihhaaDoorW.PrintLast Go.Proofs.YtekjlpldooihhaaDoorW.PrintMore Go.Proofs.YtekjlpldooihhaaDoorH Go.Proofs.YtekjlpldooihhaaDoorEv Go.Proofs.YtekjlpldooihhaaDoor.PA
set_option linter.unusedVariables false
set_option linter.unusedSimpArgs false
def setKnot (P : List S48) (p k : Nat) (n : Int) : List S48 := P.set p ⟨(P.getD p z48).f0, (P.getD p z48).f1.set k ⟨n, n⟩⟩
def knotLen (P : List S48) (Q : List S50) (p k : Nat) (n : Int) : Int := ((mostN (setKnot P p k n) Q).length : Nat)
def worstTo (P : List S48) (Q : List S50) (p k : Nat) (j : Nat) : List Int := (List.range j).map fun n : Nat => knotLen P Q p k (((P.getD p z48).f1.getD k z60).f0 + (n : Int))
def worstB (P : List S48) (Q : List S50) (p k : Nat) : Int :=
  let l := worstTo P Q p k ((((P.getD p z48).f1.getD k z60).f1 - ((P.getD p z48).f1.getD k z60).f0 + 1).toNat)
  l.foldl mn (l.getD 0 0)
def lookStep (P : List S48) (Q : List S50) (p k : Nat) (z : Int × Int × Int) : Int × Int × Int := if z.2.2 < worstB P Q p k then ((p : Int), (k : Int), worstB P Q p k) else z
def lookIn (P : List S48) (Q : List S50) (p : Nat) (z : Int × Int × Int) : Nat → Int × Int × Int
  | 0 => z
  | k + 1 => lookStep P Q p k (lookIn P Q p z k)
def lookTo (P : List S48) (Q : List S50) : Nat → Int × Int × Int
  | 0 => (0, 0, -1)
  | p + 1 => lookIn P Q p (lookTo P Q p) (P.getD p z48).f1.length
def lookP (P : List S48) (Q : List S50) : Int × Int × Int :=
  if validB P Q then (if (lookTo P Q P.length).2.2 < 0 then (0, 0, 4) else ((lookTo P Q P.length).1, (lookTo P Q P.length).2.1, 0)) else (0, 0, 10)
theorem least_l0 (l : List Int) (hl : l.length < 9223372036854775808) : ∀ (d j : Nat) (a : Int), j + d = l.length →
    Evt (fun k => plank_least_int.l0 k a l (l.length : Int) (j : Int)) ((l.drop j).foldl mn a)
  | 0, j, a, hj => by
    refine Evt.succ ?_
    simp only [plank_least_int.l0]
    rw [List.drop_eq_nil_of_le (by omega)]
    exact Evt.neg (by omega) (Evt.pure _)
  | d + 1, j, a, hj => by
    have h1 : l.drop j = l[j] :: l.drop (j + 1) := List.drop_eq_getElem_cons (by omega)
    have hg : rd l (j : Int) = l[j] := by simp [rd, show j < l.length by omega]
    refine Evt.succ ?_
    simp only [plank_least_int.l0]
    rw [h1, List.foldl_cons]
    refine Evt.pos (by omega) (Evt.pos (by omega) (Evt.pos (by omega) ?_))
    rw [hg, w64 j (by omega)]
    exact least_l0 l hl d (j + 1) _ (by omega)
theorem calls_least (a : Int) (A : Option Addr) (c : Nat) (l : List Int) (w : World) (hr : Kd.C (Kd.int .i64) w A l.length l) (hc : l.length ≤ c) :
    Calls Tryd.prog 93 #[.int .i64 a, .slice A l.length c] w fun e w' => e = .returned (.int .i64 (l.foldl mn a)) ∧ Below w.heap.size w w' := by
  obtain ⟨k, hk⟩ := (least_l0 l (by have := hr.2.1; omega) l.length 0 a (by omega)).get
  exact (plank_least_int.calls k a A c l _ w hr hc hk).mono fun e w' h => ⟨h.1, by first | exact h.2 | exact h.2.below⟩
theorem set_length (P : List S48) (p k : Nat) (n : Int) : (setKnot P p k n).length = P.length := by simp [setKnot]
theorem ok_set {P : List S48} {Q : List S50} (hok : Ok P Q) {p k : Nat} (hp : p < P.length) {n : Int} (h0 : 0 ≤ n) (h16 : n < 16) : Ok (setKnot P p k n) Q := by
  refine ⟨by rw [set_length]; exact hok.p3, hok.q5, fun y hy => ?_, hok.shape⟩
  unfold setKnot at hy
  rcases List.mem_or_eq_of_mem_set hy with h | rfl
  · exact hok.wood y h
  · obtain ⟨h1, h2, h3⟩ := hok.wood (P.getD p z48) (by rw [show P.getD p z48 = P[p] from by simp [hp]]; exact List.getElem_mem hp)
    refine ⟨h1, h2, ⟨by simpa using h3.few, fun s hs => ?_⟩⟩
    rcases List.mem_or_eq_of_mem_set hs with h | rfl
    · exact h3.knot s h
    · exact ⟨h0, Int.le_refl _, h16⟩
theorem take_get {cur : Array Value} {news : List Value} {m i : Nat} (h : cur.toList.take m = news) (hi : i < m) : cur[i]? = news[i]? := by
  rw [← h, List.getElem?_take_of_lt hi, Array.getElem?_toList]
theorem set_spans {cur : Array Value} {news : List Value} {l : List S60} (hcur : cur.toList.take (l.length * 2) = news) (hnl : news.length = l.length * 2) (hnw : ∀ j, j < l.length → spanAt (fun i => news[i]?) (l.getD j z60) j) {k : Nat} (hk : k < l.length) (v : Int) :
    ∀ j, j < (l.set k ⟨v, v⟩).length → spanAt (fun i => ((cur.setIfInBounds (k * 2) (.int .i64 v)).setIfInBounds (k * 2 + 1) (.int .i64 v))[i]?) ((l.set k ⟨v, v⟩).getD j z60) j := by
  intro j hj
  rw [List.length_set] at hj
  have hsz : l.length * 2 ≤ cur.size := by
    have h1 : (cur.toList.take (l.length * 2)).length = l.length * 2 := by rw [hcur]; exact hnl
    rw [List.length_take] at h1
    have h2 : cur.toList.length = cur.size := Array.length_toList
    omega
  by_cases e : j = k
  · subst e
    rw [show (l.set j ⟨v, v⟩).getD j z60 = ⟨v, v⟩ from by simp [hj]]
    refine ⟨?_, ?_⟩
    · show _ = some (Value.int .i64 v)
      try dsimp only
      rw [Array.getElem?_setIfInBounds_ne (show j * 2 + 1 ≠ j * 2 by omega), Array.getElem?_setIfInBounds_self_of_lt (by omega)]
    · show _ = some (Value.int .i64 v)
      try dsimp only
      rw [Array.getElem?_setIfInBounds_self_of_lt (by simp; omega)]
  · obtain ⟨h1, h2⟩ := hnw j hj
    rw [show (l.set k ⟨v, v⟩).getD j z60 = l.getD j z60 from by simp [Ne.symm e]]
    refine ⟨?_, ?_⟩
    · refine Eq.trans ?_ h1
      show _ = news[j * 2]?
      try dsimp only
      rw [← take_get hcur (by omega), Array.getElem?_setIfInBounds_ne (show k * 2 + 1 ≠ j * 2 by omega), Array.getElem?_setIfInBounds_ne (show k * 2 ≠ j * 2 by omega)]
    · refine Eq.trans ?_ h2
      show _ = news[j * 2 + 1]?
      try dsimp only
      rw [← take_get hcur (by omega), Array.getElem?_setIfInBounds_ne (show k * 2 + 1 ≠ j * 2 + 1 by omega), Array.getElem?_setIfInBounds_ne (show k * 2 ≠ j * 2 + 1 by omega)]
theorem set_woods {Wr Wd : World} {cur : Array Value} {news : List Value} {P : List S48} (hcur : cur.toList.take (P.length * 2) = news) (hnl : news.length = P.length * 2) (hnw : ∀ j, j < P.length → woodAt Wr (fun i => news[i]?) (P.getD j z48) j) (hb : Below Wr.heap.size Wr Wd) {p : Nat} (hp : p < P.length)
    {l : List S60} {A : Option Addr} {c : Nat} (hlc : l.length ≤ c) (hC : Kd.C k60 Wd A l.length l) :
    ∀ j, j < (P.set p ⟨(P.getD p z48).f0, l⟩).length → woodAt Wd (fun i => (cur.setIfInBounds (p * 2 + 1) (.slice A l.length c))[i]?) ((P.set p ⟨(P.getD p z48).f0, l⟩).getD j z48) j := by
  intro j hj
  rw [List.length_set] at hj
  have hsz : P.length * 2 ≤ cur.size := by
    have h1 : (cur.toList.take (P.length * 2)).length = P.length * 2 := by rw [hcur]; exact hnl
    rw [List.length_take] at h1
    have h2 : cur.toList.length = cur.size := Array.length_toList
    omega
  have hat := hnw j hj
  by_cases e : j = p
  · subst e
    rw [show (P.set j ⟨(P.getD j z48).f0, l⟩).getD j z48 = ⟨(P.getD j z48).f0, l⟩ from by simp [hj]]
    obtain ⟨A', c', h1, h2, h3, h4⟩ := hat
    refine ⟨A, c, ?_, ?_, hlc, hC⟩
    · refine Eq.trans ?_ h1
      show _ = news[j * 2]?
      try dsimp only
      rw [← take_get hcur (by omega), Array.getElem?_setIfInBounds_ne (show j * 2 + 1 ≠ j * 2 by omega)]
    · show _ = some (Value.slice A l.length c)
      try dsimp only
      rw [Array.getElem?_setIfInBounds_self_of_lt (by omega)]
  · rw [show (P.set p ⟨(P.getD p z48).f0, l⟩).getD j z48 = P.getD j z48 from by simp [Ne.symm e]]
    refine woodAt_keep hat ?_ ?_ hb
    · show _ = news[j * 2]?
      try dsimp only
      rw [← take_get hcur (by omega), Array.getElem?_setIfInBounds_ne (show p * 2 + 1 ≠ j * 2 by omega)]
    · show _ = news[j * 2 + 1]?
      try dsimp only
      rw [← take_get hcur (by omega), Array.getElem?_setIfInBounds_ne (show p * 2 + 1 ≠ j * 2 + 1 by omega)]
theorem worst_next (P : List S48) (Q : List S50) (p k j : Nat) : worstTo P Q p k (j + 1) = worstTo P Q p k j ++ [knotLen P Q p k (((P.getD p z48).f1.getD k z60).f0 + (j : Int))] := by
  unfold worstTo; rw [List.range_succ, List.map_append]; rfl
theorem worst_len (P : List S48) (Q : List S50) (p k j : Nat) : (worstTo P Q p k j).length = j := by simp [worstTo]
theorem valid_knots {P : List S48} {Q : List S50} (hv : validB P Q = true) {p : Nat} (hp : p < P.length) : (P.getD p z48).f1.length ≤ 3 ∧ ∀ k, k < (P.getD p z48).f1.length → ∃ lo hi : Nat, ((P.getD p z48).f1.getD k z60).f0 = lo ∧ ((P.getD p z48).f1.getD k z60).f1 = hi ∧ lo ≤ hi ∧ hi - lo ≤ 6 ∧ hi < 16 := by
  unfold validB at hv
  simp only [Bool.and_eq_true, List.all_eq_true] at hv
  have hm : P.getD p z48 ∈ P := by rw [show P.getD p z48 = P[p] from by simp [hp]]; exact List.getElem_mem hp
  have hw := hv.2.1 _ hm
  generalize P.getD p z48 = y at hw ⊢
  unfold woodB at hw
  simp only [Bool.and_eq_true, List.all_eq_true, decide_eq_true_eq] at hw
  obtain ⟨⟨h1, h2⟩, h3, h4⟩ := hw
  refine ⟨h3, fun k hk => ?_⟩
  have hm : y.f1.getD k z60 ∈ y.f1 := by rw [show y.f1.getD k z60 = y.f1[k] from by simp [hk]]; exact List.getElem_mem hk
  have hq := h4 _ hm
  generalize y.f1.getD k z60 = s at hq ⊢
  unfold knotB at hq
  simp only [Bool.and_eq_true, decide_eq_true_eq] at hq
  exact ⟨s.f0.toNat, s.f1.toNat, by omega, by omega, by omega, by omega, by omega⟩
theorem worst_is (P : List S48) (Q : List S50) (p k lo hi : Nat) (h0 : ((P.getD p z48).f1.getD k z60).f0 = lo) (h1 : ((P.getD p z48).f1.getD k z60).f1 = hi) (hle : lo ≤ hi) :
    worstB P Q p k = (worstTo P Q p k (hi - lo + 1)).foldl mn ((worstTo P Q p k (hi - lo + 1)).getD 0 0) := by
  unfold worstB
  rw [h0, h1, show ((hi : Int) - (lo : Int) + 1).toNat = hi - lo + 1 by omega]
set_option maxRecDepth 100000 in
set_option maxHeartbeats 2000000 in
theorem calls_Look (PA : Option Addr) (pc : Nat) (P : List S48) (QA : Option Addr) (qc : Nat) (Q : List S50) (w : World) (hP : Kd.C k48 w PA P.length P) (hpc : P.length ≤ pc) (hQ : Kd.C k50 w QA Q.length Q) (hqc : Q.length ≤ qc) (hG : Glob w) :
    Calls Tryd.prog 32 #[.agg #[.slice PA P.length pc, .slice QA Q.length qc]] w fun e w' => e = .returned (.tuple #[.int .i64 (lookP P Q).1, .int .i64 (lookP P Q).2.1, .int .i64 (lookP P Q).2.2]) ∧ Below w.heap.size w w' := by
  have HP0 := Lib.hid hP; have HQ0 := Lib.hid hQ; have HG0 := Lib.hid hG
  obtain ⟨n0, n1, n2⟩ := new1 w (.cells #[.slice PA P.length pc, .slice QA Q.length qc] 25)
  have HX := Lib.hid n0; have HB := Lib.hid n1
  clear n0 n1 n2 hP hQ hG
  cases hv : validB P Q with
  | false =>
    have hck := checkP_no hv
    rw [show lookP P Q = (0, 0, 10) from by unfold lookP; rw [hv]; rfl]
    go_enter Tryd.func32, Tryd.ntmps32
    go_wp2_with (go_at_call 18; (with_reducible refine (calls_Check PA pc P QA qc Q _ (Kd.C_below HP0.out HB.out) hpc (Kd.C_below HQ0.out HB.out) hqc).mono ?_); rintro e w1 ⟨he, hb⟩; rw [hck] at he; subst he; have HB := Lib.hid (HB.out.trans (hb.mono (below_size HB.out))))
    exact bodyPost_ret (results_tmp3 rfl _ _ _) rfl ⟨rfl, HB.out⟩
  | true =>
    have hck := checkP_yes hv
    have hok := valid_ok hv
    have hdd : lookP P Q = (if (lookTo P Q P.length).2.2 < 0 then (0, 0, 4) else ((lookTo P Q P.length).1, (lookTo P Q P.length).2.1, (0 : Int))) := by unfold lookP; rw [hv]; rfl
    have HDD := Lib.hid hdd; clear hdd
    go_enter Tryd.func32, Tryd.ntmps32
    go_wp2_with (go_at_call 18; (with_reducible refine (calls_Check PA pc P QA qc Q _ (Kd.C_below HP0.out HB.out) hpc (Kd.C_below HQ0.out HB.out) hqc).mono ?_); rintro e w1 ⟨he, hb⟩; rw [hck] at he; subst he; have HX := Lib.hid (below_far HX.out hb); have HB := Lib.hid (HB.out.trans (hb.mono (below_size HB.out))); clear hb; have c0 : w1.cell? ⟨w.heap.size, 0, none⟩ = some (.slice PA P.length pc) := blk_cell HX.out 0)
    go_loopw [2, 3, 6, 23] (fun v2 v3 v6 v wr => ∃ p : Nat, p ≤ P.length ∧ v = .int .i64 p ∧ v2 = .int .i64 (lookTo P Q p).1 ∧ v3 = .int .i64 (lookTo P Q p).2.1 ∧ v6 = .int .i64 (lookTo P Q p).2.2 ∧ Hid (wr.heap[w.heap.size]? = some (.cells #[.slice PA P.length pc, .slice QA Q.length qc] 25 (0, 0))) ∧ Hid (Below w.heap.size w wr)) (fun _ _ _ v _ => P.length - (intOf v).toNat)
    case atStart => exact ⟨0, Nat.zero_le _, rfl, rfl, rfl, rfl, HX, HB⟩
    case round =>
      clear HX HB c0
      clear HX HB
      obtain ⟨p, hp, rfl, rfl, rfl, rfl, HX, HB⟩ := hrel
      obtain ⟨z0, hz0⟩ : ∃ z0, lookTo P Q p = z0 := ⟨_, rfl⟩
      by_cases hlt : p < P.length
      · obtain ⟨wo, rfl⟩ : ∃ wo : World, wo = wr := ⟨_, rfl⟩
        obtain ⟨ad, KA, kc, hPA, hc0, hc1, hkl, hKn⟩ := at_wood (Kd.C_below HP0.out HB.out) p hlt
        obtain ⟨y, hy⟩ : ∃ y, P.getD p z48 = y := ⟨_, rfl⟩
        rw [hy] at hc0 hc1 hkl hKn
        subst hPA
        have hyf := valid_knots hv hlt
        rw [hy] at hyf
        have hnext : lookTo P Q (p + 1) = lookIn P Q p z0 y.f1.length := by rw [← hz0, ← hy]; rfl
        have HN := Lib.hid hnext; have HY := Lib.hid hy; have HK := Lib.hid hKn; have HYF := Lib.hid hyf
        have hpl3 := hok.p3
        rw [hz0]
        clear hnext hy hKn hz0 hyf
        go_wp2_with fail
        obtain ⟨n0, n1, n2⟩ := new1 wo (.cells #[.int .i64 y.f0, .slice KA y.f1.length kc] 48)
        generalize wo.alloc (.cells #[.int .i64 y.f0, .slice KA y.f1.length kc] 48) = W1 at n0 n1 n2 ⊢
        have H8 := Lib.hid n0; have HB1 := Lib.hid n1
        clear n0 n1 n2 hc0 hc1
        go_loopw [2, 3, 6, 31] (fun v2 v3 v6 v wi => ∃ k : Nat, k ≤ y.f1.length ∧ v = .int .i64 k ∧ v2 = .int .i64 (lookIn P Q p z0 k).1 ∧ v3 = .int .i64 (lookIn P Q p z0 k).2.1 ∧ v6 = .int .i64 (lookIn P Q p z0 k).2.2 ∧ Hid (Below W1.heap.size W1 wi)) (fun _ _ _ v _ => y.f1.length - (intOf v).toNat)
        case atStart => exact ⟨0, Nat.zero_le _, rfl, rfl, rfl, rfl, Lib.hid (Below.refl _ _)⟩
        case round =>
          obtain ⟨k, hk, rfl, rfl, rfl, rfl, HI⟩ := hrel
          obtain ⟨z, hz⟩ : ∃ z, lookIn P Q p z0 k = z := ⟨_, rfl⟩
          by_cases hltk : k < y.f1.length
          · obtain ⟨wm, rfl⟩ : ∃ wm : World, wm = wr := ⟨_, rfl⟩
            obtain ⟨ka, hKA, hk0, hk1⟩ := at_span (Kd.C_below HK.out (HB1.out.trans (HI.out.mono (below_size HB1.out)))) k hltk
            subst hKA
            obtain ⟨lo, hi, hlo, hhi, hle, hw6, h16⟩ := HYF.out.2 k hltk
            have hkn3 := HYF.out.1
            rw [hlo] at hk0
            rw [hhi] at hk1
            have hnext : lookIn P Q p z0 (k + 1) = lookStep P Q p k z := by rw [← hz]; rfl
            have HN2 := Lib.hid hnext
            have hwb := worst_is P Q p k lo hi (by rw [HY.out]; exact hlo) (by rw [HY.out]; exact hhi) hle
            have HWB := Lib.hid hwb
            obtain ⟨N, hN⟩ : ∃ N : Nat, hi - lo + 1 = N := ⟨_, rfl⟩
            rw [hN] at HWB
            have hN2 : wrap64 (wrap64 ((hi : Int) - (lo : Int)) + 1) = (N : Int) := by unfold wrap64; omega
            have HS := Lib.hid (show (y.f1.getD k z60).f0 = lo from hlo)
            rw [hz]
            clear hnext hz hwb hlo hhi
            go_wp2_with fail
            rw [show (hi : Int) - (lo : Int) + 1 = (N : Int) by omega]
            obtain ⟨n0, n1, n2⟩ := new1 wm (.cells #[.int .i64 lo, .int .i64 hi] 60)
            generalize wm.alloc (.cells #[.int .i64 lo, .int .i64 hi] 60) = W2 at n0 n1 n2 ⊢
            have H10 := Lib.hid n0; have HB2 := Lib.hid n1
            have HS2 := Lib.hid (show wm.heap.size < W2.heap.size from blk_lt n0)
            have hN7 : N ≤ 7 := by omega
            have HBM := Lib.hid (HI.out.trans (n1.mono (below_size HI.out)))
            clear n0 n1 n2 hk0 hk1 hN2
            go_loopw [11, 42] (fun v11 v wi => ∃ j : Nat, j ≤ N ∧ v = .int .i64 j ∧ Hid (Kd.R (Kd.int .i64) 3 wi W2.heap.size (fun _ => True) v11 (worstTo P Q p k j)) ∧ Hid (Below W2.heap.size W2 wi)) (fun _ v _ => N - (intOf v).toNat)
            case atStart => exact ⟨0, by omega, rfl, Lib.hid (Kd.R_nil _ _ _ _ _), Lib.hid (Below.refl _ _)⟩
            case round =>
              obtain ⟨j, hj, rfl, HL, HJ⟩ := hrel
              by_cases hltj : j < N
              · have HXr := Lib.hid (below_far (below_far (below_far HX.out HB1.out) HBM.out) HJ.out)
                have H8r := Lib.hid (below_far (below_far H8.out HBM.out) HJ.out)
                have H10r := Lib.hid (below_far H10.out HJ.out)
                have HBr := Lib.hid (((HB.out.trans (HB1.out.mono (below_size HB.out))).trans (HBM.out.mono (Nat.le_trans (below_size HB.out) (below_size HB1.out)))).trans (HJ.out.mono (Nat.le_trans (Nat.le_trans (below_size HB.out) (below_size HB1.out)) (below_size HBM.out))))
                have HKr := Lib.hid (Kd.C_below (Kd.C_below (Kd.C_below HK.out HB1.out) HBM.out) HJ.out)
                obtain ⟨c0, c1⟩ : wr.cell? ⟨w.heap.size, 0, none⟩ = some (.slice (some ad) P.length pc) ∧ wr.cell? ⟨w.heap.size, 1, none⟩ = some (.slice QA Q.length qc) := ⟨blk_cell HXr.out 0, blk_cell HXr.out 1⟩
                go_upto_region 16 with (fail)
                obtain ⟨n0, n1, n2⟩ := new1 wr (.cells #[.slice (some ad) P.length pc, .slice QA Q.length qc] 25)
                generalize wr.alloc (.cells #[.slice (some ad) P.length pc, .slice QA Q.length qc] 25) = Wa at n0 n1 n2 ⊢
                have H13 := Lib.hid n0; have HBa := Lib.hid n1
                have hsa : wr.heap.size < Wa.heap.size := blk_lt n0
                have hwr : w.heap.size ≤ wr.heap.size := below_size HBr.out
                have HPa := Lib.hid (Kd.C_below HP0.out (HBr.out.trans (n1.mono hwr)))
                have c0 : Wa.cell? ⟨w.heap.size, 0, none⟩ = some (.slice (some ad) P.length pc) := blk_cell (below_far HXr.out n1) 0
                clear n0 n1 n2 c1
                obtain ⟨news, hnl, hnc, hn1, hnw⟩ : ∃ news : List Value, news.length = P.length * 2 ∧ (∀ j u, news[j]? = some u → Wa.cell? (ad.add j) = some u) ∧ (∀ u ∈ news, u.oneCell' = true) ∧ ∀ j, j < P.length → woodAt wr (fun i => news[i]?) (P.getD j z48) j := by
                  obtain ⟨h1, h2, h3⟩ := woods_news (Kd.C_below HP0.out HBr.out)
                  exact ⟨cellsOf wr ad P.length, cellsOf_len _ _ _, fun j u h => pw_cell_below HBa.out (h1 j u h), h2, h3⟩
                have HNL := Lib.hid hnl; have HNC := Lib.hid hnc; have HN1 := Lib.hid hn1; have HNW := Lib.hid hnw
                clear hnl hnc hn1 hnw
                have hP1 : 1 ≤ P.length := by omega
                have hP64 : P.length ≤ 64 := by omega
                go_wp2_with (go_at_call 91; (with_reducible refine (calls_ClonePl ad P.length pc hP1 hP64 news Wa HNL.out HNC.out HN1.out).mono ?_); rintro e w1 ⟨g, cap, cur, rfl, hg, hgw, hcap, hcur, hb⟩; have HG1 := Lib.hid hg; have HCUR := Lib.hid hcur; have HB1a := Lib.hid hb; obtain ⟨adg, hadg⟩ : ∃ a : Addr, a = ⟨g, 0, none⟩ := ⟨_, rfl⟩; rw [← hadg]; have HADG := Lib.hid hadg; have H131 := Lib.hid (below_far H13.out hb); have c130 : w1.cell? ⟨wr.heap.size, 0, none⟩ = some (.slice (some ad) P.length pc) := (blk_cell H131.out 0); have f130 : w1.frozen? ⟨wr.heap.size, 0, none⟩ = false := (blk_frozen H131.out 0); clear hg hcur hb hadg)
                generalize hWb : w1.setCell ⟨wr.heap.size, 0, none⟩ (.slice (some adg) P.length cap) = Wb
                have hgne : g ≠ wr.heap.size := by omega
                have HGb := Lib.hid (show Wb.heap[g]? = some (.cells cur 48 (0, 0)) by rw [← hWb]; exact blk_far HG1.out (by show g ≠ wr.heap.size; omega) _)
                have H13b := Lib.hid (show Wb.heap[wr.heap.size]? = some (.cells #[.slice (some adg) P.length cap, .slice QA Q.length qc] 25 (0, 0)) by rw [← hWb]; exact blk_set H131.out 0 _)
                have hba : Below wr.heap.size wr w1 := HBa.out.trans (HB1a.out.mono (Nat.le_of_lt hsa))
                have HBb := Lib.hid (show Below wr.heap.size wr Wb by rw [← hWb]; exact hba.setCell (Nat.le_refl _) _)
                have HBab := Lib.hid (show ∀ k, k < wr.heap.size → Wb.heap[k]? = wr.heap[k]? from fun k hk => (HBb.out.block k hk))
                clear hWb c130 f130 c0 hba H131 HG1 HB1a
                obtain ⟨news2, hnl, hnc, hn1, hnw⟩ : ∃ news : List Value, news.length = y.f1.length * 2 ∧ (∀ j u, news[j]? = some u → Wb.cell? (ka.add j) = some u) ∧ (∀ u ∈ news, u.oneCell' = true) ∧ ∀ j, j < y.f1.length → spanAt (fun i => news[i]?) (y.f1.getD j z60) j := by
                  obtain ⟨h1, h2, h3⟩ := spans_news (Kd.C_below HKr.out HBb.out)
                  exact ⟨cellsOf Wb ka y.f1.length, cellsOf_len _ _ _, h1, h2, h3⟩
                have HNL2 := Lib.hid hnl; have HNC2 := Lib.hid hnc; have HN12 := Lib.hid hn1; have HNW2 := Lib.hid hnw
                clear hnl hnc hn1 hnw
                have HNC2d := Lib.hid (show ∀ j u, news2[j]? = some u → Wb.drew.cell? (ka.add j) = some u from HNC2.out)
                have hk1 : 1 ≤ y.f1.length := by omega
                have hk64 : y.f1.length ≤ 64 := by omega
                have hadg : ∀ i, adg.add i = ⟨g, i, none⟩ := fun i => by rw [HADG.out]; unfold Addr.add; split <;> simp_all
                have HADD := Lib.hid hadg; clear hadg
                obtain ⟨ch, hch⟩ : ∃ ch, cur[p * 2 + 1]? = some ch := by
                  have h1 : (cur.toList.take (P.length * 2)).length = P.length * 2 := by rw [HCUR.out]; exact HNL.out
                  rw [List.length_take] at h1
                  have h2 : cur.toList.length = cur.size := Array.length_toList
                  exact ⟨_, Array.getElem?_eq_getElem (by omega)⟩
                have HCH := Lib.hid hch; clear hch
                have s0 : Wb.cell? ⟨wr.heap.size, 0, none⟩ = some (.slice (some adg) P.length cap) := blk_cell H13b.out 0
                have s1 : Wb.cell? ⟨wo.heap.size, 1, none⟩ = some (.slice (some ka) y.f1.length kc) := blk_cell (below_far H8r.out HBb.out) 1
                have s2 : Wb.cell? ⟨(adg.add (p * 2)).block, (adg.add (p * 2)).off + 1, none⟩ = some ch := by rw [HADD.out]; exact (blk_cell HGb.out _).trans HCH.out
                have s3 : Wb.frozen? ⟨(adg.add (p * 2)).block, (adg.add (p * 2)).off + 1, none⟩ = false := by rw [HADD.out]; exact blk_frozen HGb.out _
                have hpl : (p : Int) < (P.length : Int) := by omega
                have hp0 : 0 ≤ (p : Int) := by omega
                clear HNC HN1 HX
                refine start_ (n := 9) (S := fun w' => w'.cell? ⟨wr.heap.size, 0, none⟩ = some (.slice (some adg) P.length cap) ∧ w'.cell? ⟨wo.heap.size, 1, none⟩ = some (.slice (some ka) y.f1.length kc) ∧ w'.cell? ⟨(adg.add (p * 2)).block, (adg.add (p * 2)).off + 1, none⟩ = some ch ∧ w'.frozen? ⟨(adg.add (p * 2)).block, (adg.add (p * 2)).off + 1, none⟩ = false) (ds := [8]) #[false, false, false, false, false, false, false, false, false] (by kernel_rfl) rfl rfl ⟨s0, s1, s2, s3⟩ (fun hHeld => ?_)
                refine pu_ (i := 0) (N := some 50) (qa_ 9 1) ?_
                refine pu_ (i := 2) (N := some 52) (qa_ 9 5) ?_
                refine pu_ (i := 3) (N := some 53) (qa_ 9 13) ?_
                refine tk_ (i := 1) (N := some 51) (qa_ 9 15) hHeld ?_
                refine tk_ (i := 4) (N := some 54) (qa_ 9 31) hHeld ?_
                refine on_ (i := 5) (N := some 55) (qa_ 9 63) (fun K hK => ?_)
                refine goes_ Tryd.func92 (by kernel_rfl) rfl #[.slice (some ka) y.f1.length kc] (by rfl) rfl rfl (by first | (simp; done) | (simp only [List.map_toArray, List.map_cons, List.map_nil]; rfl)) ?_
                with_reducible refine (calls_CloneKn ka y.f1.length kc hk1 hk64 news2 Wb.drew HNL2.out HNC2d.out HN12.out).mono ?_
                rintro e w2 ⟨gk, capk, cur2, rfl, hgk, hgkw, hcapk, hcur2, hb1⟩
                have hb2 : Below Wb.heap.size Wb w2 := undrew hb1
                obtain ⟨adk, hadk⟩ : ∃ a : Addr, a = ⟨gk, 0, none⟩ := ⟨_, rfl⟩
                rw [← hadk]
                refine ⟨_, rfl, ?_⟩
                refine hK.out _ _ ⟨pw_cell_below hb2 s0, pw_cell_below hb2 s1, pw_cell_below hb2 s2, (by rw [HADD.out]; exact blk_frozen (below_far HGb.out hb2) _)⟩ (fun hHeld => ?_)
                clear hK K
                refine nm_ (some 55) ?_
                refine pu_ (i := 6) (N := some 56) (qa_ 9 127) ?_
                refine pu_ (i := 7) (N := some 57) (qa_ 9 255) ?_
                refine last_ (i := 8) (N := none) (qa_ 9 511) rfl rfl (by kernel_rfl) (by decide) (fun K hK => ?_)
                refine skip_ (w1 := ?_) (by rfl) rfl ?_ ?_
                rotate_left
                · go_simp
                  rfl
                refine hK.out _ _ ?_
                clear hK K
                refine done_ (by kernel_rfl) ?_
                clear hHeld s0 s1 s2 s3
                have hgkb : Wb.heap.size ≤ gk := hgkw
                have hgb : g < Wb.heap.size := blk_lt HGb.out
                have hsb : wr.heap.size < Wb.heap.size := blk_lt H13b.out
                rw [show ({ block := gk, off := 0 } : Addr) = adk from hadk.symm, HADD.out]
                have hadk2 : ∀ i, adk.add i = ⟨gk, i, none⟩ := fun i => by rw [hadk]; unfold Addr.add; split <;> simp_all
                have HADK := Lib.hid hadk2; clear hadk2
                generalize hWc : w2.setCell ⟨g, p * 2 + 1, none⟩ (.slice (some adk) y.f1.length capk) = Wc
                have HGc := Lib.hid (show Wc.heap[g]? = some (.cells (cur.setIfInBounds (p * 2 + 1) (.slice (some adk) y.f1.length capk)) 48 (0, 0)) by rw [← hWc]; exact blk_set (below_far HGb.out hb2) _ _)
                have HKc := Lib.hid (show Wc.heap[gk]? = some (.cells cur2 60 (0, 0)) by rw [← hWc]; exact blk_far hgk (by show gk ≠ g; omega) _)
                have H13c := Lib.hid (show Wc.heap[wr.heap.size]? = some (.cells #[.slice (some adg) P.length cap, .slice QA Q.length qc] 25 (0, 0)) by rw [← hWc]; exact blk_far (below_far H13b.out hb2) (by show wr.heap.size ≠ g; omega) _)
                have hbr2 : Below wr.heap.size wr w2 := HBb.out.trans (hb2.mono (Nat.le_of_lt hsb))
                have HBc := Lib.hid (show Below wr.heap.size wr Wc by rw [← hWc]; exact hbr2.setCell (by show _ ≤ g; omega) _)
                clear hWc hbr2 hb1 hb2 HGb H13b HNC2 HNC2d HN12
                obtain ⟨c3, c4, hc3, hc4⟩ : ∃ c3 c4, cur2[k * 2]? = some c3 ∧ cur2[k * 2 + 1]? = some c4 := by
                  have h1 : (cur2.toList.take (y.f1.length * 2)).length = y.f1.length * 2 := by rw [hcur2]; exact HNL2.out
                  rw [List.length_take] at h1
                  have h2 : cur2.toList.length = cur2.size := Array.length_toList
                  exact ⟨_, _, Array.getElem?_eq_getElem (by omega), Array.getElem?_eq_getElem (by omega)⟩
                have hcp : p * 2 + 1 < cur.size := by have := HCH.out; exact (Array.getElem?_eq_some_iff.1 this).1
                have s0 : Wc.cell? ⟨wr.heap.size, 0, none⟩ = some (.slice (some adg) P.length cap) := blk_cell H13c.out 0
                have s1 : Wc.cell? ⟨(adg.add (p * 2)).block, (adg.add (p * 2)).off + 1, none⟩ = some (.slice (some adk) y.f1.length capk) := by rw [HADD.out]; refine (blk_cell HGc.out _).trans ?_; simp [hcp]
                have s2 : Wc.cell? ⟨wm.heap.size, 0, none⟩ = some (.int .i64 lo) := blk_cell (below_far H10r.out HBc.out) 0
                have s3 : Wc.cell? (adk.add (k * 2)) = some c3 := by rw [HADK.out]; exact (blk_cell HKc.out _).trans hc3
                have s4 : Wc.cell? ⟨(adk.add (k * 2)).block, (adk.add (k * 2)).off + 1, none⟩ = some c4 := by rw [HADK.out]; exact (blk_cell HKc.out _).trans hc4
                have s5 : Wc.frozen? (adk.add (k * 2)) = false := by rw [HADK.out]; exact blk_frozen HKc.out _
                have s6 : Wc.frozen? ⟨(adk.add (k * 2)).block, (adk.add (k * 2)).off + 1, none⟩ = false := by rw [HADK.out]; exact blk_frozen HKc.out _
                have s7 : ∀ v, (Wc.setCell (adk.add (k * 2)) v).cell? ⟨(adk.add (k * 2)).block, (adk.add (k * 2)).off + 1, none⟩ = some c4 := fun v => by
                  rw [HADK.out]
                  refine (blk_cell (blk_set HKc.out _ _) _).trans ?_
                  rw [Array.getElem?_setIfInBounds_ne (show k * 2 ≠ k * 2 + 1 by omega)]
                  exact hc4
                have hkl' : (k : Int) < (y.f1.length : Int) := by omega
                have hk0 : 0 ≤ (k : Int) := by omega
                have hwl : wrap64 ((lo : Int) + (j : Int)) = (lo : Int) + (j : Int) := by unfold wrap64; omega
                have HCU2 := Lib.hid hcur2; have HC3 := Lib.hid hc3; have HC4 := Lib.hid hc4; have HCP := Lib.hid hcp; have HADK0 := Lib.hid hadk
                clear hcur2 hc3 hc4 hcp hadk hgk
                go_wp2_with fail
                refine start_ (n := 18) (S := fun w' => w'.cell? ⟨wr.heap.size, 0, none⟩ = some (.slice (some adg) P.length cap) ∧ w'.cell? ⟨(adg.add (p * 2)).block, (adg.add (p * 2)).off + 1, none⟩ = some (.slice (some adk) y.f1.length capk) ∧ w'.cell? ⟨wm.heap.size, 0, none⟩ = some (.int .i64 lo) ∧ w'.cell? (adk.add (k * 2)) = some c3 ∧ w'.cell? ⟨(adk.add (k * 2)).block, (adk.add (k * 2)).off + 1, none⟩ = some c4 ∧ w'.frozen? (adk.add (k * 2)) = false ∧ w'.frozen? ⟨(adk.add (k * 2)).block, (adk.add (k * 2)).off + 1, none⟩ = false ∧ ∀ v, (w'.setCell (adk.add (k * 2)) v).cell? ⟨(adk.add (k * 2)).block, (adk.add (k * 2)).off + 1, none⟩ = some c4) (ds := [17]) #[false, false, false, false, false, false, false, false, false, false, false, false, false, false, false, false, false, false] (by kernel_rfl) rfl rfl ⟨s0, s1, s2, s3, s4, s5, s6, s7⟩ (fun hHeld => ?_)
                refine pu_ (i := 0) (N := some 58) (qa_ 18 1) ?_
                refine pu_ (i := 2) (N := some 60) (qa_ 18 5) ?_
                refine pu_ (i := 6) (N := some 64) (qa_ 18 69) ?_
                refine pu_ (i := 7) (N := some 65) (qa_ 18 197) ?_
                refine pu_ (i := 9) (N := some 67) (qa_ 18 709) ?_
                refine pu_ (i := 11) (N := some 69) (qa_ 18 2757) ?_
                refine pu_ (i := 13) (N := some 71) (qa_ 18 10949) ?_
                refine tk_ (i := 1) (N := some 59) (qa_ 18 10951) hHeld ?_
                refine pu_ (i := 3) (N := some 61) (qa_ 18 10959) ?_
                refine pu_ (i := 4) (N := some 62) (qa_ 18 10975) ?_
                refine tk_ (i := 5) (N := some 63) (qa_ 18 11007) hHeld ?_
                refine tk_ (i := 8) (N := some 66) (qa_ 18 11263) hHeld ?_
                refine pu_ (i := 10) (N := some 68) (qa_ 18 12287) ?_
                refine tk_ (i := 12) (N := some 70) (qa_ 18 16383) hHeld ?_
                refine pu_ (i := 14) (N := some 72) (qa_ 18 32767) ?_
                refine pu_ (i := 15) (N := some 73) (qa_ 18 65535) ?_
                refine pu_ (i := 16) (N := some 74) (qa_ 18 131071) ?_
                refine last_ (i := 17) (N := none) (qa_ 18 262143) rfl rfl (by kernel_rfl) (by decide) (fun K hK => ?_)
                refine skip_ (w1 := ?_) (by rfl) rfl ?_ ?_
                rotate_left
                · go_simp
                  rfl
                refine hK.out _ _ ?_
                clear hK K
                refine done_ (by kernel_rfl) ?_
                clear hHeld s0 s1 s2 s3 s4 s5 s6 s7 hwl
                rw [HADK.out]
                have hgkg : gk ≠ g := by omega
                generalize hWd : ((Wc.setCell ⟨gk, k * 2, none⟩ (.int .i64 ((lo : Int) + (j : Int)))).setCell ⟨gk, k * 2 + 1, none⟩ (.int .i64 ((lo : Int) + (j : Int)))).drew = Wd
                have HKd := Lib.hid (show Wd.heap[gk]? = some (.cells ((cur2.setIfInBounds (k * 2) (.int .i64 ((lo : Int) + (j : Int)))).setIfInBounds (k * 2 + 1) (.int .i64 ((lo : Int) + (j : Int)))) 60 (0, 0)) by rw [← hWd]; exact blk_drew (blk_set (blk_set HKc.out _ _) _ _))
                have HGd := Lib.hid (show Wd.heap[g]? = some (.cells (cur.setIfInBounds (p * 2 + 1) (.slice (some adk) y.f1.length capk)) 48 (0, 0)) by rw [← hWd]; exact blk_drew (blk_far (blk_far HGc.out (by show g ≠ gk; omega) _) (by show g ≠ gk; omega) _))
                have H13d := Lib.hid (show Wd.heap[wr.heap.size]? = some (.cells #[.slice (some adg) P.length cap, .slice QA Q.length qc] 25 (0, 0)) by rw [← hWd]; exact blk_drew (blk_far (blk_far H13c.out (by show wr.heap.size ≠ gk; omega) _) (by show wr.heap.size ≠ gk; omega) _))
                have HBd := Lib.hid (show Below wr.heap.size wr Wd by rw [← hWd]; exact ((HBc.out.setCell (by show _ ≤ gk; omega) _).setCell (by show _ ≤ gk; omega) _).drew)
                clear hWd HKc HGc H13c HBc HC3 HC4 HCP
                have HY2 := Lib.hid (show setKnot P p k ((lo : Int) + (j : Int)) = P.set p ⟨(P.getD p z48).f0, y.f1.set k ⟨(lo : Int) + (j : Int), (lo : Int) + (j : Int)⟩⟩ by unfold setKnot; rw [HY.out])
                have hkd : Kd.C k60 Wd (some adk) y.f1.length (y.f1.set k ⟨(lo : Int) + (j : Int), (lo : Int) + (j : Int)⟩) := by
                  have := spans_C HKd.out (P := y.f1.set k ⟨(lo : Int) + (j : Int), (lo : Int) + (j : Int)⟩) (by rw [List.length_set]; simp [maxLen]; omega) (set_spans HCU2.out HNL2.out HNW2.out hltk _)
                  rwa [List.length_set, ← HADK0.out] at this
                have hpd : Kd.C k48 Wd (some adg) P.length (setKnot P p k ((lo : Int) + (j : Int))) := by
                  rw [HY2.out]
                  have hs := set_woods HCUR.out HNL.out HNW.out HBd.out hlt (A := some adk) (c := capk) (l := y.f1.set k ⟨(lo : Int) + (j : Int), (lo : Int) + (j : Int)⟩) (by rw [List.length_set]; exact hcapk) (by rw [List.length_set]; exact hkd)
                  rw [show (y.f1.set k ⟨(lo : Int) + (j : Int), (lo : Int) + (j : Int)⟩).length = y.f1.length from by rw [List.length_set]] at hs
                  have := woods_C HGd.out (by rw [List.length_set]; simp [maxLen]; omega) hs
                  rwa [List.length_set, ← HADG.out] at this
                have HPD := Lib.hid hpd
                clear hkd hpd HKd HGd
                obtain ⟨P', hP'⟩ : ∃ P', setKnot P p k ((lo : Int) + (j : Int)) = P' := ⟨_, rfl⟩
                have hokP : Ok P' Q := by rw [← hP']; exact ok_set hok hlt (by omega) (by omega)
                have hlP : P.length = P'.length := by rw [← hP', set_length]
                have hkn : knotLen P Q p k (((P.getD p z48).f1.getD k z60).f0 + (j : Int)) = ((mostN P' Q).length : Nat) := by unfold knotLen; rw [HY.out, HS.out, hP']
                rw [hP'] at HPD
                have HKN := Lib.hid hkn; have HLP := Lib.hid hlP; have HOKP := Lib.hid hokP
                clear hkn hlP hokP hP' HY2
                rw [HLP.out] at HPD H13d
                obtain ⟨d0, d1⟩ : Wd.cell? ⟨wr.heap.size, 0, none⟩ = some (.slice (some adg) P'.length cap) ∧ Wd.cell? ⟨wr.heap.size, 1, none⟩ = some (.slice QA Q.length qc) := ⟨blk_cell H13d.out 0, blk_cell H13d.out 1⟩
                have HBw := Lib.hid (HBr.out.trans (HBd.out.mono (below_size HBr.out)))
                have HJd := Lib.hid (HJ.out.trans (HBd.out.mono (below_size HJ.out)))
                have HLd := Lib.hid (Kd.R_below HL.out HBd.out)
                have HWS := Lib.hid (below_size HJd.out)
                go_wp2_with (first | (go_at_call 60; (with_reducible refine (calls_opened (some adg) cap QA qc P' Q Wd (HG0.out.below HBw.out) HPD.out (Kd.C_below HQ0.out HBw.out)).mono ?_); rintro e w5 ⟨m, rfl, hbk, hm, hb⟩; have HBK := Lib.hid hbk; have HM := Lib.hid (show W2.heap.size ≤ m from Nat.le_trans HWS.out hm); have HL5 := Lib.hid (Kd.R_below HLd.out hb); have HJ5 := Lib.hid (HJd.out.trans (hb.mono HWS.out)); clear hbk hm hb d0 d1) | (go_at_call 79; (with_reducible refine (calls_most (some adg) cap QA qc m P' Q HOKP.out w5 HBK.out).mono ?_); rintro e w6 ⟨v6, rfl, hv6, hbk6, hg6⟩; obtain ⟨A6, c6, rfl, _, _, _⟩ := hv6; rw [ints_length]; have HL6 := Lib.hid (turn_R (b := 0) HL5.out hg6 (fun r e => by cases e; obtain ⟨arr, clock, hq⟩ := HBK.out.is; exact ⟨Nat.zero_le _, _, hq, rfl⟩)); have HJ6 := Lib.hid (grown_Below HJ5.out HM.out hg6); clear hbk6 hg6) | ((with_reducible refine gate_builtin (b := .append) (xs := #[.tmp 75, .tmp 80]) rfl ?_); at_builtin; refine Kd.R_append (Kd.int .i64) (w0 := W2) W2.heap.size rfl (.tmp 75) (.tmp 80) 31 3 (.int .i64 0) 8 rfl Tryd.underlying31 infoInt rfl (by decide) (by omega) _ (worstTo P Q p k j) ((mostN P' Q).length : Int) [.int .i64 (mostN P' Q).length] (fun _ => True) (fun _ => False) rfl rfl ?aP (fun _ hk => hk.elim) ?aF ?aO ?aB ?aS ?aL ?_; (case aP => exact rfl); (case aF => exact (fun _ _ => trivial)); (case aO => exact HL6.out); (case aB => exact HJ6.out); (case aS => exact below_size HJ6.out); (case aL => rw [worst_len]; omega); intro v2 w7 ho hb7 hg7 hat))
                obtain ⟨A2, c2, rfl, _, _⟩ := Kd.R_reads ho
                go_roundw
                case rel => exact ⟨j + 1, by omega, by go_num, by rw [worst_next, HKN.out]; exact Lib.hid ho, Lib.hid hb7⟩
                case measure => simp [intOf]; omega
              · obtain rfl : j = N := by omega
                obtain ⟨l, hl⟩ : ∃ l, worstTo P Q p k j = l := ⟨_, rfl⟩
                have hll : l.length = j := by rw [← hl, worst_len]
                rw [hl] at HL HWB
                obtain ⟨A2, c2, rfl, hle2, hC2⟩ := Kd.R_reads HL.out
                obtain ⟨a2, rfl, hcell⟩ := at_nat hC2 0 (by omega)
                have hcell0 : wr.cell? a2 = some (.int .i64 (rd l 0)) := hcell
                have HC2 := Lib.hid hC2; have HLL := Lib.hid hll
                have hl0 : (0 : Int) < (l.length : Int) := by omega
                obtain ⟨b, hb0⟩ : ∃ b, worstB P Q p k = b := ⟨_, rfl⟩
                have HW := Lib.hid (show b = l.foldl mn (rd l 0) by rw [← hb0, HWB.out]; rfl)
                have HN3 := Lib.hid (HN2.out.trans (show lookStep P Q p k z = if z.2.2 < b then ((p : Int), (k : Int), b) else z by unfold lookStep; rw [hb0]))
                clear HWB HN2 HL hC2 hll hl hb0
                by_cases hgt : z.2.2 < b
                · have HN3 := Lib.hid (HN3.out.trans (if_pos hgt))
                  go_wp2_with (go_at_call 93; (with_reducible refine (calls_least (rd l 0) (some a2) c2 l _ HC2.out hle2).mono ?_); rintro e w5 ⟨he, hb⟩; rw [← HW.out] at he; subst he; have HJ5 := Lib.hid (HJ.out.trans (hb.mono (below_size HJ.out))); clear hb)
                  go_roundw
                  case rel => exact ⟨k + 1, by omega, by go_num, by rw [HN3.out], by rw [HN3.out], by rw [HN3.out], Lib.hid (HBM.out.trans (HJ5.out.mono (below_size HBM.out)))⟩
                  case measure => simp [intOf]; omega
                · have HN3 := Lib.hid (HN3.out.trans (if_neg hgt))
                  go_wp2_with (go_at_call 93; (with_reducible refine (calls_least (rd l 0) (some a2) c2 l _ HC2.out hle2).mono ?_); rintro e w5 ⟨he, hb⟩; rw [← HW.out] at he; subst he; have HJ5 := Lib.hid (HJ.out.trans (hb.mono (below_size HJ.out))); clear hb)
                  go_roundw
                  case rel => exact ⟨k + 1, by omega, by go_num, by rw [HN3.out], by rw [HN3.out], by rw [HN3.out], Lib.hid (HBM.out.trans (HJ5.out.mono (below_size HBM.out)))⟩
                  case measure => simp [intOf]; omega
          · obtain rfl : k = y.f1.length := by omega
            go_wp2_with fail
            go_roundw
            case rel => exact ⟨p + 1, by omega, by go_num, by rw [HN.out, hz], by rw [HN.out, hz], by rw [HN.out, hz], below_far (below_far HX.out HB1.out) HI.out, HB.out.trans ((HB1.out.trans (HI.out.mono (below_size HB1.out))).mono (below_size HB.out))⟩
            case measure => simp [intOf]; omega
      · obtain rfl : p = P.length := by omega
        rw [hz0] at HDD ⊢
        by_cases hneg : z0.2.2 < 0
        · go_wp2_with fail
          rw [HDD.out, if_pos hneg]
          exact bodyPost_ret (results_tmp3 rfl _ _ _) rfl ⟨rfl, HB.out⟩
        · go_wp2_with fail
          rw [HDD.out, if_neg (by omega)]
          exact bodyPost_ret (results_tmp3 rfl _ _ _) rfl ⟨rfl, HB.out⟩
end Go.Proofs.YtekjlpldooihhaaDoorP
namespace Go.Proofs.YtekjlpldooihhaaDoorP
open Go.RowKit Go.Proofs.YtekjlpldooihhaaDoorW.PrintWords Go.Proofs.YtekjlpldooihhaaDoorW.PrintLast Go.Proofs.YtekjlpldooihhaaDoorW.PrintMore Go.Proofs.YtekjlpldooihhaaDoorH
open Go.Proofs.YtekjlpldooihhaaDoor.PA (S48 S50 k48 k50)
set_option linter.unusedVariables false
def plank_Check.f (l0_0 : List (S48)) (l0_1 : List (S50)) : Option Int := some (checkP l0_0 l0_1)
theorem plank_Check.calls (A0_0 : Option Addr) (c0_0 : Nat) (l0_0 : List (S48)) (A0_1 : Option Addr) (c0_1 : Nat) (l0_1 : List (S50)) (r : Int) (w : World) (hr0_0 : Kd.C k48 w A0_0 l0_0.length l0_0) (hc0_0 : l0_0.length ≤ c0_0) (hr0_1 : Kd.C k50 w A0_1 l0_1.length l0_1) (hc0_1 : l0_1.length ≤ c0_1) (h : plank_Check.f l0_0 l0_1 = some r) :
    Calls Tryd.prog 18 #[.agg #[.slice A0_0 l0_0.length c0_0, .slice A0_1 l0_1.length c0_1]] w fun e w' => e = .returned (.int .i64 r) ∧ Below w.heap.size w w' := by
  obtain rfl := Option.some.inj h
  exact calls_Check A0_0 c0_0 l0_0 A0_1 c0_1 l0_1 w hr0_0 hc0_0 hr0_1 hc0_1
def plank_Spots.f (l0_0 : List (S48)) (l0_1 : List (S50)) (a1 : Int) (a2 : Int) : Option (List Int × Int) := some (spotsP l0_0 l0_1 a1 a2)
theorem plank_Spots.calls (A0_0 : Option Addr) (c0_0 : Nat) (l0_0 : List (S48)) (A0_1 : Option Addr) (c0_1 : Nat) (l0_1 : List (S50)) (a1 : Int) (a2 : Int) (r1 : List Int) (r2 : Int) (w : World) (hr0_0 : Kd.C k48 w A0_0 l0_0.length l0_0) (hc0_0 : l0_0.length ≤ c0_0) (hr0_1 : Kd.C k50 w A0_1 l0_1.length l0_1) (hc0_1 : l0_1.length ≤ c0_1)  (hG : Glob w) (h : plank_Spots.f l0_0 l0_1 a1 a2 = some (r1, r2)) :
    Calls Tryd.prog 20 #[.agg #[.slice A0_0 l0_0.length c0_0, .slice A0_1 l0_1.length c0_1], .int .i64 a1, .int .i64 a2] w fun e w' => ∃ v0_ : Value, e = .returned (.tuple #[v0_, .int .i64 r2]) ∧ Kd.V (Kd.int .i64) 3 w' w.heap.size (fun k_ => (w.heap.size ≤ k_)) v0_ r1 ∧ Below w.heap.size w w' := by
  have h' := Option.some.inj h
  obtain rfl : (spotsP l0_0 l0_1 a1 a2).1 = r1 := by rw [h']
  obtain rfl : (spotsP l0_0 l0_1 a1 a2).2 = r2 := by rw [h']
  exact calls_Spots A0_0 c0_0 l0_0 A0_1 c0_1 l0_1 a1 a2 w hr0_0 hc0_0 hr0_1 hc0_1  hG
def plank_Lay.f (l0_0 : List (S48)) (l0_1 : List (S50)) (a1 : Int) (l2 : List Int) : Option (List Int × Int) := some (layP l0_0 l0_1 a1 l2)
def plank_Fewest.f (l0_0 : List (S48)) (l0_1 : List (S50))  : Option (List Int × Int) := some (fewestP l0_0 l0_1 )
theorem plank_Fewest.calls (A0_0 : Option Addr) (c0_0 : Nat) (l0_0 : List (S48)) (A0_1 : Option Addr) (c0_1 : Nat) (l0_1 : List (S50))  (r1 : List Int) (r2 : Int) (w : World) (hr0_0 : Kd.C k48 w A0_0 l0_0.length l0_0) (hc0_0 : l0_0.length ≤ c0_0) (hr0_1 : Kd.C k50 w A0_1 l0_1.length l0_1) (hc0_1 : l0_1.length ≤ c0_1)  (hG : Glob w) (h : plank_Fewest.f l0_0 l0_1  = some (r1, r2)) :
    Calls Tryd.prog 28 #[.agg #[.slice A0_0 l0_0.length c0_0, .slice A0_1 l0_1.length c0_1]] w fun e w' => ∃ v0_ : Value, e = .returned (.tuple #[v0_, .int .i64 r2]) ∧ Kd.V (Kd.int .i64) 3 w' w.heap.size (fun k_ => (w.heap.size ≤ k_)) v0_ r1 ∧ Below w.heap.size w w' := by
  have h' := Option.some.inj h
  obtain rfl : (fewestP l0_0 l0_1 ).1 = r1 := by rw [h']
  obtain rfl : (fewestP l0_0 l0_1 ).2 = r2 := by rw [h']
  exact calls_Fewest A0_0 c0_0 l0_0 A0_1 c0_1 l0_1  w hr0_0 hc0_0 hr0_1 hc0_1  hG
def plank_Most.f (l0_0 : List (S48)) (l0_1 : List (S50))  : Option (List Int × Int) := some (mostP l0_0 l0_1 )
theorem plank_Most.calls (A0_0 : Option Addr) (c0_0 : Nat) (l0_0 : List (S48)) (A0_1 : Option Addr) (c0_1 : Nat) (l0_1 : List (S50))  (r1 : List Int) (r2 : Int) (w : World) (hr0_0 : Kd.C k48 w A0_0 l0_0.length l0_0) (hc0_0 : l0_0.length ≤ c0_0) (hr0_1 : Kd.C k50 w A0_1 l0_1.length l0_1) (hc0_1 : l0_1.length ≤ c0_1)  (hG : Glob w) (h : plank_Most.f l0_0 l0_1  = some (r1, r2)) :
    Calls Tryd.prog 26 #[.agg #[.slice A0_0 l0_0.length c0_0, .slice A0_1 l0_1.length c0_1]] w fun e w' => ∃ v0_ : Value, e = .returned (.tuple #[v0_, .int .i64 r2]) ∧ Kd.V (Kd.int .i64) 3 w' w.heap.size (fun k_ => (w.heap.size ≤ k_)) v0_ r1 ∧ Below w.heap.size w w' := by
  have h' := Option.some.inj h
  obtain rfl : (mostP l0_0 l0_1 ).1 = r1 := by rw [h']
  obtain rfl : (mostP l0_0 l0_1 ).2 = r2 := by rw [h']
  exact calls_Most A0_0 c0_0 l0_0 A0_1 c0_1 l0_1  w hr0_0 hc0_0 hr0_1 hc0_1  hG
def plank_Lacks.f (l0_0 : List (S48)) (l0_1 : List (S50))  : Option (Int × Int) := some (lacksP l0_0 l0_1 )
def plank_Look.f (l0_0 : List (S48)) (l0_1 : List (S50))  : Option (Int × Int × Int) := some (lookP l0_0 l0_1 )
end Go.Proofs.YtekjlpldooihhaaDoorP
namespace Go.Proofs.YtekjlpldooihhaaDoorA
open Go.RowKit Go.Proofs.YtekjlpldooihhaaDoorW.PrintWords Go.Proofs.YtekjlpldooihhaaDoorW.PrintLast Go.Proofs.YtekjlpldooihhaaDoorW.PrintMore Go.Proofs.YtekjlpldooihhaaDoorH
set_option linter.unusedVariables false
set_option linter.unusedSimpArgs false
def skewbaldref00_Add.f (l0 : List Int) (a1 : Int) : Option (List Int) := if l0.length < 17592186044400 then some (l0 ++ [a1]) else none
end Go.Proofs.YtekjlpldooihhaaDoorA
namespace Go.Proofs.YtekjlpldooihhaaDoorK
open Go.Proofs.YtekjlpldooihhaaDoorSh
open Go.RowKit Go.Proofs.YtekjlpldooihhaaDoorW.PrintWords Go.Proofs.YtekjlpldooihhaaDoorW.PrintLast Go.Proofs.YtekjlpldooihhaaDoorW.PrintMore Go.Proofs.YtekjlpldooihhaaDoorH Go.Proofs.YtekjlpldooihhaaDoorP
open Go.Proofs.YtekjlpldooihhaaDoor.PA (S48 S50 S60 k48 k50 k60 z48 z50 z60 k48_open k60_open k60_mkM)
set_option linter.unusedVariables false
set_option linter.unusedSimpArgs false
theorem add_at0 (g k : Nat) : (⟨g, 0, none⟩ : Addr).add k = ⟨g, k, none⟩ := by unfold Addr.add; split <;> simp_all
theorem calls_One (n : Int) (w : World) : Calls Tryd.prog 55 #[.int .i64 n] w fun e w' => e = .returned (.agg #[.int .i64 n, .int .i64 n]) ∧ Below w.heap.size w w' := by
  go_enter Tryd.func55, Tryd.ntmps55
  have hu := Tryd.underlying60
  go_wp2_with fail
  refine bodyPost_ret (results_cell_row rfl _ _ w.heap.size 60 #[.int .i64 n, .int .i64 n] (0, 0) _ rfl (blk_new w _) Tryd.underlying60 rfl (by kernel_rfl)) rfl ⟨rfl, ?_⟩
  exact (new1 w _).2.1
def skewbaldref01_Known.f (l0_0 : List S48) (l0_1 : List S50) (a1 a2 a3 : Int) : Option (List S48 × List S50) :=
  if 0 ≤ a1 ∧ a1 < l0_0.length ∧ 0 ≤ a2 ∧ a2 < (l0_0.getD a1.toNat z48).f1.length ∧ l0_0.length ≤ 64 ∧ (l0_0.getD a1.toNat z48).f1.length ≤ 64 then some (setKnot l0_0 a1.toNat a2.toNat a3, l0_1) else none
end Go.Proofs.YtekjlpldooihhaaDoorK
namespace Go.Proofs.YtekjlpldooihhaaDoorK
open Go.RowKit Go.Proofs.YtekjlpldooihhaaDoorW.PrintWords Go.Proofs.YtekjlpldooihhaaDoorW.PrintLast Go.Proofs.YtekjlpldooihhaaDoorW.PrintMore Go.Proofs.YtekjlpldooihhaaDoorH Go.Proofs.YtekjlpldooihhaaDoorP
open Go.Proofs.YtekjlpldooihhaaDoor.PA (S48 S50 S60 k48 k50 k60 z48 z50 z60 k50_mk)
set_option linter.unusedVariables false
set_option linter.unusedSimpArgs false
theorem ints_C {W : World} {g : Nat} {cur : Array Value} {t : Nat} {fr : Nat × Nat} {xs : List Int} (hg : W.heap[g]? = some (.cells cur t fr)) (hm : xs.length ≤ maxLen) (h : ∀ j, j < xs.length → cur[j]? = some (.int .i64 (xs.getD j 0))) : Kd.C (Kd.int .i64) W (some ⟨g, 0, none⟩) xs.length xs := by
  refine ⟨rfl, hm, fun _ => ⟨_, rfl, fun j x hx => ?_⟩⟩
  have hj : j < xs.length := (List.getElem?_eq_some_iff.1 hx).1
  have hxe : xs.getD j 0 = x := by rw [List.getD_eq_getElem?_getD, hx]; rfl
  refine ⟨[.int .i64 x], rfl, rfl, fun i u hi => ?_⟩
  rw [show (Kd.int .i64).sz = 1 from rfl, show (⟨g, 0, none⟩ : Addr).add (j * 1 + i) = ⟨g, j * 1 + i, none⟩ from add_at0 _ _]
  have hgc : W.cell? ⟨g, j * 1 + i, none⟩ = cur[j * 1 + i]? := by unfold World.cell?; rw [hg]; rfl
  rw [hgc]
  match i, hi with
  | 0, hi => simp at hi; rw [← hi, ← hxe, Nat.mul_one, Nat.add_zero]; exact h j hj
  | i + 1, hi => simp at hi
def shapeAt (W : World) (cs : Nat → Option Value) (y : S50) (j : Nat) : Prop := ∃ A c, cs (j * 3) = some (.int .i64 y.f0) ∧ cs (j * 3 + 1) = some (.slice A y.f1.length c) ∧ cs (j * 3 + 2) = some (.bool y.f2) ∧ y.f1.length ≤ c ∧ Kd.C (Kd.int .i64) W A y.f1.length y.f1
theorem shapes_C {W : World} {g : Nat} {cur : Array Value} {fr : Nat × Nat} {P : List S50} (hg : W.heap[g]? = some (.cells cur 50 fr)) (hm : P.length ≤ maxLen) (h : ∀ j, j < P.length → shapeAt W (fun i => cur[i]?) (P.getD j z50) j) : Kd.C k50 W (some ⟨g, 0, none⟩) P.length P := by
  refine ⟨rfl, hm, fun _ => ⟨_, rfl, fun j x hx => ?_⟩⟩
  have hj : j < P.length := (List.getElem?_eq_some_iff.1 hx).1
  obtain ⟨A, c, h1, h2, h3, h4, h5⟩ := h j hj
  have hxe : P.getD j z50 = x := by rw [List.getD_eq_getElem?_getD, hx]; rfl
  rw [hxe] at h1 h2 h3 h4 h5
  refine ⟨[.int .i64 x.f0, .slice A x.f1.length c, .bool x.f2], rfl, k50_mk W x h4 h5, fun i u hi => ?_⟩
  rw [show k50.sz = 3 from rfl, show (⟨g, 0, none⟩ : Addr).add (j * 3 + i) = ⟨g, j * 3 + i, none⟩ from add_at0 _ _]
  have hgc : W.cell? ⟨g, j * 3 + i, none⟩ = cur[j * 3 + i]? := by unfold World.cell?; rw [hg]; rfl
  rw [hgc]
  match i, hi with
  | 0, hi => simp at hi; rw [← hi]; exact h1
  | 1, hi => simp at hi; rw [← hi]; exact h2
  | 2, hi => simp at hi; rw [← hi]; exact h3
  | i + 3, hi => simp at hi
theorem calls_From (a b : Int) (w : World) : Calls Tryd.prog 56 #[.int .i64 a, .int .i64 b] w fun e w' => e = .returned (.agg #[.int .i64 a, .int .i64 b]) ∧ Below w.heap.size w w' := by
  go_enter Tryd.func56, Tryd.ntmps56
  have hu := Tryd.underlying60
  go_wp2_with fail
  refine bodyPost_ret (results_cell_row rfl _ _ w.heap.size 60 #[.int .i64 a, .int .i64 b] (0, 0) _ rfl (blk_new w _) Tryd.underlying60 rfl (by kernel_rfl)) rfl ⟨rfl, ?_⟩
  exact (new1 w _).2.1
theorem calls_wood (a : Int) (A : Option Addr) (n c : Nat) (w : World) : Calls Tryd.prog 59 #[.int .i64 a, .slice A n c] w fun e w' => e = .returned (.agg #[.int .i64 a, .slice A n c]) ∧ Below w.heap.size w w' := by
  go_enter Tryd.func59, Tryd.ntmps59
  have hu := Tryd.underlying48
  go_wp2_with fail
  refine bodyPost_ret (results_cell_row rfl _ _ w.heap.size 48 #[.int .i64 a, .slice A n c] (0, 0) _ rfl (blk_new w _) Tryd.underlying48 rfl (by kernel_rfl)) rfl ⟨rfl, ?_⟩
  exact (new1 w _).2.1
theorem calls_shape (a : Int) (A : Option Addr) (n c : Nat) (b : Bool) (w : World) : Calls Tryd.prog 97 #[.int .i64 a, .slice A n c, .bool b] w fun e w' => e = .returned (.agg #[.int .i64 a, .slice A n c, .bool b]) ∧ Below w.heap.size w w' := by
  go_enter Tryd.func97, Tryd.ntmps97
  have hu := Tryd.underlying50
  go_wp2_with fail
  refine bodyPost_ret (results_cell_row rfl _ _ w.heap.size 50 #[.int .i64 a, .slice A n c, .bool b] (0, 0) _ rfl (blk_new w _) Tryd.underlying50 rfl (by kernel_rfl)) rfl ⟨rfl, ?_⟩
  exact (new1 w _).2.1
def ownP : List S48 := [⟨12, [⟨3, 4⟩]⟩, ⟨8, [⟨6, 6⟩]⟩]
def ownQ : List S50 := [⟨5, [0, 4], false⟩, ⟨4, [1], true⟩, ⟨4, [0], true⟩]
def hidP : List S48 := [⟨9, [⟨2, 6⟩]⟩]
def hidQ : List S50 := [⟨5, [0, 4], false⟩, ⟨4, [0, 3], false⟩]
set_option maxRecDepth 100000 in
set_option maxHeartbeats 2000000 in
theorem calls_own (w : World) : Calls Tryd.prog 54 #[] w fun e w' => ∃ PA QA, e = .returned (.agg #[.slice (some PA) 2 2, .slice (some QA) 3 3]) ∧ (∀ W2 : World, (∀ k, w.heap.size ≤ k → k < w'.heap.size → W2.heap[k]? = w'.heap[k]?) → Kd.C k48 W2 (some PA) 2 ownP ∧ Kd.C k50 W2 (some QA) 3 ownQ) ∧ Below w.heap.size w w' := by
  have hu := Tryd.underlying25
  go_enter Tryd.func54, Tryd.ntmps54
  go_upto_region 1 with (fail)
  obtain ⟨n0, n1, n2⟩ := new1 w (.cells #[.slice none 0 0, .slice none 0 0] 25)
  generalize w.alloc (.cells #[.slice none 0 0, .slice none 0 0] 25) = w0 at n0 n1 n2 ⊢
  have FR := Lib.hid n0; have HB := Lib.hid n1
  have HL0 := Lib.hid (show w.heap.size < w0.heap.size from blk_lt n0)
  clear n0 n1 n2
  go_wp2_with (first | (go_at_call 56; (with_reducible refine (calls_From 3 4 _).mono ?_); rintro e w1 ⟨rfl, hb⟩; have FR := Lib.hid (blk_below (g := w.heap.size) (o := .cells #[.slice none 0 0, .slice none 0 0] 25 (0, 0)) (FR.out) hb); have HB := Lib.hid (below_step (by repeat (first | exact HB.out | apply below_alloc)) hb); have HL1 := Lib.hid (show w0.heap.size < w1.heap.size ∨ w0.heap.size = w1.heap.size from Nat.lt_or_eq_of_le (Nat.le_trans (by simp <;> omega) (below_size hb))); clear hb) | (go_at_call 59; (with_reducible refine (calls_wood 12 (some ⟨w1.heap.size, 0, none⟩) 1 1 _).mono ?_); rintro e w2 ⟨rfl, hb⟩; have FR := Lib.hid (blk_below (g := w.heap.size) (o := .cells #[.slice none 0 0, .slice none 0 0] 25 (0, 0)) (blk_alloc (FR.out) _) hb); have K1 := Lib.hid (blk_below (g := w1.heap.size) (o := .cells #[.int .i64 3, .int .i64 4] 60 (0, 0)) (blk_new w1 (.cells #[.int .i64 3, .int .i64 4] 60)) hb); have HB := Lib.hid (below_step (by repeat (first | exact HB.out | apply below_alloc)) hb); have HL2 := Lib.hid (show w1.heap.size < w2.heap.size ∨ w1.heap.size = w2.heap.size from Nat.lt_or_eq_of_le (Nat.le_trans (by simp <;> omega) (below_size hb))); clear hb) | (go_at_call 55; (with_reducible refine (calls_One 6 _).mono ?_); rintro e w3 ⟨rfl, hb⟩; have FR := Lib.hid (blk_below (g := w.heap.size) (o := .cells #[.slice none 0 0, .slice none 0 0] 25 (0, 0)) (FR.out) hb); have K1 := Lib.hid (blk_below (g := w1.heap.size) (o := .cells #[.int .i64 3, .int .i64 4] 60 (0, 0)) (K1.out) hb); have HB := Lib.hid (below_step (by repeat (first | exact HB.out | apply below_alloc)) hb); have HL3 := Lib.hid (show w2.heap.size < w3.heap.size ∨ w2.heap.size = w3.heap.size from Nat.lt_or_eq_of_le (Nat.le_trans (by simp <;> omega) (below_size hb))); clear hb) | (go_at_call 59; (with_reducible refine (calls_wood 8 (some ⟨w3.heap.size, 0, none⟩) 1 1 _).mono ?_); rintro e w4 ⟨rfl, hb⟩; have FR := Lib.hid (blk_below (g := w.heap.size) (o := .cells #[.slice none 0 0, .slice none 0 0] 25 (0, 0)) (blk_alloc (FR.out) _) hb); have K1 := Lib.hid (blk_below (g := w1.heap.size) (o := .cells #[.int .i64 3, .int .i64 4] 60 (0, 0)) (blk_alloc (K1.out) _) hb); have K2 := Lib.hid (blk_below (g := w3.heap.size) (o := .cells #[.int .i64 6, .int .i64 6] 60 (0, 0)) (blk_new w3 (.cells #[.int .i64 6, .int .i64 6] 60)) hb); have HB := Lib.hid (below_step (by repeat (first | exact HB.out | apply below_alloc)) hb); have HL4 := Lib.hid (show w3.heap.size < w4.heap.size ∨ w3.heap.size = w4.heap.size from Nat.lt_or_eq_of_le (Nat.le_trans (by simp <;> omega) (below_size hb))); clear hb) | (go_at_call 97; (with_reducible refine (calls_shape 5 (some ⟨w4.heap.size + 1, 0, none⟩) 2 2 false _).mono ?_); rintro e w5 ⟨rfl, hb⟩; have FR := Lib.hid (blk_below (g := w.heap.size) (o := .cells #[.slice none 0 0, .slice none 0 0] 25 (0, 0)) (blk_alloc (blk_alloc (FR.out) _) _) hb); have K1 := Lib.hid (blk_below (g := w1.heap.size) (o := .cells #[.int .i64 3, .int .i64 4] 60 (0, 0)) (blk_alloc (blk_alloc (K1.out) _) _) hb); have K2 := Lib.hid (blk_below (g := w3.heap.size) (o := .cells #[.int .i64 6, .int .i64 6] 60 (0, 0)) (blk_alloc (blk_alloc (K2.out) _) _) hb); have KP := Lib.hid (blk_below (g := w4.heap.size) (o := .cells #[.int .i64 12, .slice (some ⟨w1.heap.size, 0, none⟩) 1 1, .int .i64 8, .slice (some ⟨w3.heap.size, 0, none⟩) 1 1] 48 (0, 0)) (blk_alloc (blk_new w4 (.cells #[.int .i64 12, .slice (some ⟨w1.heap.size, 0, none⟩) 1 1, .int .i64 8, .slice (some ⟨w3.heap.size, 0, none⟩) 1 1] 48)) _) hb); have J1 := Lib.hid (blk_below (g := w4.heap.size + 1) (o := .cells #[.int .i64 0, .int .i64 4] 3 (0, 0)) (by have h_ := blk_new (w4.alloc (.cells #[.int .i64 12, .slice (some ⟨w1.heap.size, 0, none⟩) 1 1, .int .i64 8, .slice (some ⟨w3.heap.size, 0, none⟩) 1 1] 48)) (.cells #[.int .i64 0, .int .i64 4] 3); simpa using h_) hb); have HB := Lib.hid (below_step (by repeat (first | exact HB.out | apply below_alloc)) hb); have HL5 := Lib.hid (show w4.heap.size < w5.heap.size ∨ w4.heap.size = w5.heap.size from Nat.lt_or_eq_of_le (Nat.le_trans (by simp <;> omega) (below_size hb))); clear hb) | (go_at_call 97; (with_reducible refine (calls_shape 4 (some ⟨w5.heap.size, 0, none⟩) 1 1 true _).mono ?_); rintro e w6 ⟨rfl, hb⟩; have FR := Lib.hid (blk_below (g := w.heap.size) (o := .cells #[.slice none 0 0, .slice none 0 0] 25 (0, 0)) (blk_alloc (FR.out) _) hb); have K1 := Lib.hid (blk_below (g := w1.heap.size) (o := .cells #[.int .i64 3, .int .i64 4] 60 (0, 0)) (blk_alloc (K1.out) _) hb); have K2 := Lib.hid (blk_below (g := w3.heap.size) (o := .cells #[.int .i64 6, .int .i64 6] 60 (0, 0)) (blk_alloc (K2.out) _) hb); have KP := Lib.hid (blk_below (g := w4.heap.size) (o := .cells #[.int .i64 12, .slice (some ⟨w1.heap.size, 0, none⟩) 1 1, .int .i64 8, .slice (some ⟨w3.heap.size, 0, none⟩) 1 1] 48 (0, 0)) (blk_alloc (KP.out) _) hb); have J1 := Lib.hid (blk_below (g := w4.heap.size + 1) (o := .cells #[.int .i64 0, .int .i64 4] 3 (0, 0)) (blk_alloc (J1.out) _) hb); have J2 := Lib.hid (blk_below (g := w5.heap.size) (o := .cells #[.int .i64 1] 3 (0, 0)) (blk_new w5 (.cells #[.int .i64 1] 3)) hb); have HB := Lib.hid (below_step (by repeat (first | exact HB.out | apply below_alloc)) hb); have HL6 := Lib.hid (show w5.heap.size < w6.heap.size ∨ w5.heap.size = w6.heap.size from Nat.lt_or_eq_of_le (Nat.le_trans (by simp <;> omega) (below_size hb))); clear hb) | (go_at_call 97; (with_reducible refine (calls_shape 4 (some ⟨w6.heap.size, 0, none⟩) 1 1 true _).mono ?_); rintro e w7 ⟨rfl, hb⟩; have FR := Lib.hid (blk_below (g := w.heap.size) (o := .cells #[.slice none 0 0, .slice none 0 0] 25 (0, 0)) (blk_alloc (FR.out) _) hb); have K1 := Lib.hid (blk_below (g := w1.heap.size) (o := .cells #[.int .i64 3, .int .i64 4] 60 (0, 0)) (blk_alloc (K1.out) _) hb); have K2 := Lib.hid (blk_below (g := w3.heap.size) (o := .cells #[.int .i64 6, .int .i64 6] 60 (0, 0)) (blk_alloc (K2.out) _) hb); have KP := Lib.hid (blk_below (g := w4.heap.size) (o := .cells #[.int .i64 12, .slice (some ⟨w1.heap.size, 0, none⟩) 1 1, .int .i64 8, .slice (some ⟨w3.heap.size, 0, none⟩) 1 1] 48 (0, 0)) (blk_alloc (KP.out) _) hb); have J1 := Lib.hid (blk_below (g := w4.heap.size + 1) (o := .cells #[.int .i64 0, .int .i64 4] 3 (0, 0)) (blk_alloc (J1.out) _) hb); have J2 := Lib.hid (blk_below (g := w5.heap.size) (o := .cells #[.int .i64 1] 3 (0, 0)) (blk_alloc (J2.out) _) hb); have J3 := Lib.hid (blk_below (g := w6.heap.size) (o := .cells #[.int .i64 0] 3 (0, 0)) (blk_new w6 (.cells #[.int .i64 0] 3)) hb); have HB := Lib.hid (below_step (by repeat (first | exact HB.out | apply below_alloc)) hb); have HL7 := Lib.hid (show w6.heap.size < w7.heap.size ∨ w6.heap.size = w7.heap.size from Nat.lt_or_eq_of_le (Nat.le_trans (by simp <;> omega) (below_size hb))); have e0 : (w7.alloc (.cells #[.int .i64 5, .slice (some ⟨w4.heap.size + 1, 0, none⟩) 2 2, .bool false, .int .i64 4, .slice (some ⟨w5.heap.size, 0, none⟩) 1 1, .bool true, .int .i64 4, .slice (some ⟨w6.heap.size, 0, none⟩) 1 1, .bool true] 50)).cell? ⟨w.heap.size, 0, none⟩ = some (.slice none 0 0) := (blk_cell (blk_alloc FR.out _) 0); have e1 : (w7.alloc (.cells #[.int .i64 5, .slice (some ⟨w4.heap.size + 1, 0, none⟩) 2 2, .bool false, .int .i64 4, .slice (some ⟨w5.heap.size, 0, none⟩) 1 1, .bool true, .int .i64 4, .slice (some ⟨w6.heap.size, 0, none⟩) 1 1, .bool true] 50)).cell? ⟨w.heap.size, 1, none⟩ = some (.slice none 0 0) := (blk_cell (blk_alloc FR.out _) 1); have e2 : (w7.alloc (.cells #[.int .i64 5, .slice (some ⟨w4.heap.size + 1, 0, none⟩) 2 2, .bool false, .int .i64 4, .slice (some ⟨w5.heap.size, 0, none⟩) 1 1, .bool true, .int .i64 4, .slice (some ⟨w6.heap.size, 0, none⟩) 1 1, .bool true] 50)).frozen? ⟨w.heap.size, 0, none⟩ = false := (blk_frozen (blk_alloc FR.out _) 0); have e3 : (w7.alloc (.cells #[.int .i64 5, .slice (some ⟨w4.heap.size + 1, 0, none⟩) 2 2, .bool false, .int .i64 4, .slice (some ⟨w5.heap.size, 0, none⟩) 1 1, .bool true, .int .i64 4, .slice (some ⟨w6.heap.size, 0, none⟩) 1 1, .bool true] 50)).frozen? ⟨w.heap.size, 1, none⟩ = false := (blk_frozen (blk_alloc FR.out _) 1); clear hb))
  obtain ⟨m0, m1, m2⟩ := new1 w7 (.cells #[.int .i64 5, .slice (some ⟨w4.heap.size + 1, 0, none⟩) 2 2, .bool false, .int .i64 4, .slice (some ⟨w5.heap.size, 0, none⟩) 1 1, .bool true, .int .i64 4, .slice (some ⟨w6.heap.size, 0, none⟩) 1 1, .bool true] 50)
  have K1 := Lib.hid (show (((w7.alloc (.cells #[.int .i64 5, .slice (some ⟨w4.heap.size + 1, 0, none⟩) 2 2, .bool false, .int .i64 4, .slice (some ⟨w5.heap.size, 0, none⟩) 1 1, .bool true, .int .i64 4, .slice (some ⟨w6.heap.size, 0, none⟩) 1 1, .bool true] 50)).setCell ⟨w.heap.size, 0, none⟩ (.slice (some ⟨w4.heap.size, 0, none⟩) 2 2)).setCell ⟨w.heap.size, 1, none⟩ (.slice (some ⟨w7.heap.size, 0, none⟩) 3 3)).heap[w1.heap.size]? = some (.cells #[.int .i64 3, .int .i64 4] 60 (0, 0)) from blk_far (blk_far (blk_alloc K1.out _) (by show w1.heap.size ≠ w.heap.size; have := HL0.out; have := HL1.out; have := HL2.out; have := HL3.out; have := HL4.out; have := HL5.out; have := HL6.out; have := HL7.out; omega) _) (by show w1.heap.size ≠ w.heap.size; have := HL0.out; have := HL1.out; have := HL2.out; have := HL3.out; have := HL4.out; have := HL5.out; have := HL6.out; have := HL7.out; omega) _)
  have K2 := Lib.hid (show (((w7.alloc (.cells #[.int .i64 5, .slice (some ⟨w4.heap.size + 1, 0, none⟩) 2 2, .bool false, .int .i64 4, .slice (some ⟨w5.heap.size, 0, none⟩) 1 1, .bool true, .int .i64 4, .slice (some ⟨w6.heap.size, 0, none⟩) 1 1, .bool true] 50)).setCell ⟨w.heap.size, 0, none⟩ (.slice (some ⟨w4.heap.size, 0, none⟩) 2 2)).setCell ⟨w.heap.size, 1, none⟩ (.slice (some ⟨w7.heap.size, 0, none⟩) 3 3)).heap[w3.heap.size]? = some (.cells #[.int .i64 6, .int .i64 6] 60 (0, 0)) from blk_far (blk_far (blk_alloc K2.out _) (by show w3.heap.size ≠ w.heap.size; have := HL0.out; have := HL1.out; have := HL2.out; have := HL3.out; have := HL4.out; have := HL5.out; have := HL6.out; have := HL7.out; omega) _) (by show w3.heap.size ≠ w.heap.size; have := HL0.out; have := HL1.out; have := HL2.out; have := HL3.out; have := HL4.out; have := HL5.out; have := HL6.out; have := HL7.out; omega) _)
  have KP := Lib.hid (show (((w7.alloc (.cells #[.int .i64 5, .slice (some ⟨w4.heap.size + 1, 0, none⟩) 2 2, .bool false, .int .i64 4, .slice (some ⟨w5.heap.size, 0, none⟩) 1 1, .bool true, .int .i64 4, .slice (some ⟨w6.heap.size, 0, none⟩) 1 1, .bool true] 50)).setCell ⟨w.heap.size, 0, none⟩ (.slice (some ⟨w4.heap.size, 0, none⟩) 2 2)).setCell ⟨w.heap.size, 1, none⟩ (.slice (some ⟨w7.heap.size, 0, none⟩) 3 3)).heap[w4.heap.size]? = some (.cells #[.int .i64 12, .slice (some ⟨w1.heap.size, 0, none⟩) 1 1, .int .i64 8, .slice (some ⟨w3.heap.size, 0, none⟩) 1 1] 48 (0, 0)) from blk_far (blk_far (blk_alloc KP.out _) (by show w4.heap.size ≠ w.heap.size; have := HL0.out; have := HL1.out; have := HL2.out; have := HL3.out; have := HL4.out; have := HL5.out; have := HL6.out; have := HL7.out; omega) _) (by show w4.heap.size ≠ w.heap.size; have := HL0.out; have := HL1.out; have := HL2.out; have := HL3.out; have := HL4.out; have := HL5.out; have := HL6.out; have := HL7.out; omega) _)
  have J1 := Lib.hid (show (((w7.alloc (.cells #[.int .i64 5, .slice (some ⟨w4.heap.size + 1, 0, none⟩) 2 2, .bool false, .int .i64 4, .slice (some ⟨w5.heap.size, 0, none⟩) 1 1, .bool true, .int .i64 4, .slice (some ⟨w6.heap.size, 0, none⟩) 1 1, .bool true] 50)).setCell ⟨w.heap.size, 0, none⟩ (.slice (some ⟨w4.heap.size, 0, none⟩) 2 2)).setCell ⟨w.heap.size, 1, none⟩ (.slice (some ⟨w7.heap.size, 0, none⟩) 3 3)).heap[w4.heap.size + 1]? = some (.cells #[.int .i64 0, .int .i64 4] 3 (0, 0)) from blk_far (blk_far (blk_alloc J1.out _) (by show w4.heap.size + 1 ≠ w.heap.size; have := HL0.out; have := HL1.out; have := HL2.out; have := HL3.out; have := HL4.out; have := HL5.out; have := HL6.out; have := HL7.out; omega) _) (by show w4.heap.size + 1 ≠ w.heap.size; have := HL0.out; have := HL1.out; have := HL2.out; have := HL3.out; have := HL4.out; have := HL5.out; have := HL6.out; have := HL7.out; omega) _)
  have J2 := Lib.hid (show (((w7.alloc (.cells #[.int .i64 5, .slice (some ⟨w4.heap.size + 1, 0, none⟩) 2 2, .bool false, .int .i64 4, .slice (some ⟨w5.heap.size, 0, none⟩) 1 1, .bool true, .int .i64 4, .slice (some ⟨w6.heap.size, 0, none⟩) 1 1, .bool true] 50)).setCell ⟨w.heap.size, 0, none⟩ (.slice (some ⟨w4.heap.size, 0, none⟩) 2 2)).setCell ⟨w.heap.size, 1, none⟩ (.slice (some ⟨w7.heap.size, 0, none⟩) 3 3)).heap[w5.heap.size]? = some (.cells #[.int .i64 1] 3 (0, 0)) from blk_far (blk_far (blk_alloc J2.out _) (by show w5.heap.size ≠ w.heap.size; have := HL0.out; have := HL1.out; have := HL2.out; have := HL3.out; have := HL4.out; have := HL5.out; have := HL6.out; have := HL7.out; omega) _) (by show w5.heap.size ≠ w.heap.size; have := HL0.out; have := HL1.out; have := HL2.out; have := HL3.out; have := HL4.out; have := HL5.out; have := HL6.out; have := HL7.out; omega) _)
  have J3 := Lib.hid (show (((w7.alloc (.cells #[.int .i64 5, .slice (some ⟨w4.heap.size + 1, 0, none⟩) 2 2, .bool false, .int .i64 4, .slice (some ⟨w5.heap.size, 0, none⟩) 1 1, .bool true, .int .i64 4, .slice (some ⟨w6.heap.size, 0, none⟩) 1 1, .bool true] 50)).setCell ⟨w.heap.size, 0, none⟩ (.slice (some ⟨w4.heap.size, 0, none⟩) 2 2)).setCell ⟨w.heap.size, 1, none⟩ (.slice (some ⟨w7.heap.size, 0, none⟩) 3 3)).heap[w6.heap.size]? = some (.cells #[.int .i64 0] 3 (0, 0)) from blk_far (blk_far (blk_alloc J3.out _) (by show w6.heap.size ≠ w.heap.size; have := HL0.out; have := HL1.out; have := HL2.out; have := HL3.out; have := HL4.out; have := HL5.out; have := HL6.out; have := HL7.out; omega) _) (by show w6.heap.size ≠ w.heap.size; have := HL0.out; have := HL1.out; have := HL2.out; have := HL3.out; have := HL4.out; have := HL5.out; have := HL6.out; have := HL7.out; omega) _)
  have KQ := Lib.hid (show (((w7.alloc (.cells #[.int .i64 5, .slice (some ⟨w4.heap.size + 1, 0, none⟩) 2 2, .bool false, .int .i64 4, .slice (some ⟨w5.heap.size, 0, none⟩) 1 1, .bool true, .int .i64 4, .slice (some ⟨w6.heap.size, 0, none⟩) 1 1, .bool true] 50)).setCell ⟨w.heap.size, 0, none⟩ (.slice (some ⟨w4.heap.size, 0, none⟩) 2 2)).setCell ⟨w.heap.size, 1, none⟩ (.slice (some ⟨w7.heap.size, 0, none⟩) 3 3)).heap[w7.heap.size]? = some (.cells #[.int .i64 5, .slice (some ⟨w4.heap.size + 1, 0, none⟩) 2 2, .bool false, .int .i64 4, .slice (some ⟨w5.heap.size, 0, none⟩) 1 1, .bool true, .int .i64 4, .slice (some ⟨w6.heap.size, 0, none⟩) 1 1, .bool true] 50 (0, 0)) from blk_far (blk_far m0 (by show w7.heap.size ≠ w.heap.size; have := HL0.out; have := HL1.out; have := HL2.out; have := HL3.out; have := HL4.out; have := HL5.out; have := HL6.out; have := HL7.out; omega) _) (by show w7.heap.size ≠ w.heap.size; have := HL0.out; have := HL1.out; have := HL2.out; have := HL3.out; have := HL4.out; have := HL5.out; have := HL6.out; have := HL7.out; omega) _)
  have FR := Lib.hid (show (((w7.alloc (.cells #[.int .i64 5, .slice (some ⟨w4.heap.size + 1, 0, none⟩) 2 2, .bool false, .int .i64 4, .slice (some ⟨w5.heap.size, 0, none⟩) 1 1, .bool true, .int .i64 4, .slice (some ⟨w6.heap.size, 0, none⟩) 1 1, .bool true] 50)).setCell ⟨w.heap.size, 0, none⟩ (.slice (some ⟨w4.heap.size, 0, none⟩) 2 2)).setCell ⟨w.heap.size, 1, none⟩ (.slice (some ⟨w7.heap.size, 0, none⟩) 3 3)).heap[w.heap.size]? = some (.cells #[.slice (some ⟨w4.heap.size, 0, none⟩) 2 2, .slice (some ⟨w7.heap.size, 0, none⟩) 3 3] 25 (0, 0)) from blk_set (blk_set (blk_alloc FR.out _) 0 _) 1 _)
  have HBE := Lib.hid (show Below w.heap.size w (((w7.alloc (.cells #[.int .i64 5, .slice (some ⟨w4.heap.size + 1, 0, none⟩) 2 2, .bool false, .int .i64 4, .slice (some ⟨w5.heap.size, 0, none⟩) 1 1, .bool true, .int .i64 4, .slice (some ⟨w6.heap.size, 0, none⟩) 1 1, .bool true] 50)).setCell ⟨w.heap.size, 0, none⟩ (.slice (some ⟨w4.heap.size, 0, none⟩) 2 2)).setCell ⟨w.heap.size, 1, none⟩ (.slice (some ⟨w7.heap.size, 0, none⟩) 3 3)) from ((HB.out.trans (m1.mono (below_size HB.out))).setCell (Nat.le_refl _) _).setCell (Nat.le_refl _) _)
  clear m0 m1 m2 HB e0 e1 e2 e3
  generalize (((w7.alloc (.cells #[.int .i64 5, .slice (some ⟨w4.heap.size + 1, 0, none⟩) 2 2, .bool false, .int .i64 4, .slice (some ⟨w5.heap.size, 0, none⟩) 1 1, .bool true, .int .i64 4, .slice (some ⟨w6.heap.size, 0, none⟩) 1 1, .bool true] 50)).setCell ⟨w.heap.size, 0, none⟩ (.slice (some ⟨w4.heap.size, 0, none⟩) 2 2)).setCell ⟨w.heap.size, 1, none⟩ (.slice (some ⟨w7.heap.size, 0, none⟩) 3 3)) = W1 at *
  refine bodyPost_ret (results_cell_row rfl _ _ w.heap.size 25 #[.slice (some ⟨w4.heap.size, 0, none⟩) 2 2, .slice (some ⟨w7.heap.size, 0, none⟩) 3 3] (0, 0) _ rfl FR.out Tryd.underlying25 rfl (by kernel_rfl)) rfl ⟨⟨w4.heap.size, 0, none⟩, ⟨w7.heap.size, 0, none⟩, rfl, fun WE hW => ?_, HBE.out⟩
  have K1 := Lib.hid ((hW _ (by have := HL0.out; have := HL1.out; have := HL2.out; have := HL3.out; have := HL4.out; have := HL5.out; have := HL6.out; have := HL7.out; omega) (blk_lt K1.out)).trans K1.out)
  have K2 := Lib.hid ((hW _ (by have := HL0.out; have := HL1.out; have := HL2.out; have := HL3.out; have := HL4.out; have := HL5.out; have := HL6.out; have := HL7.out; omega) (blk_lt K2.out)).trans K2.out)
  have KP := Lib.hid ((hW _ (by have := HL0.out; have := HL1.out; have := HL2.out; have := HL3.out; have := HL4.out; have := HL5.out; have := HL6.out; have := HL7.out; omega) (blk_lt KP.out)).trans KP.out)
  have J1 := Lib.hid ((hW _ (by have := HL0.out; have := HL1.out; have := HL2.out; have := HL3.out; have := HL4.out; have := HL5.out; have := HL6.out; have := HL7.out; omega) (blk_lt J1.out)).trans J1.out)
  have J2 := Lib.hid ((hW _ (by have := HL0.out; have := HL1.out; have := HL2.out; have := HL3.out; have := HL4.out; have := HL5.out; have := HL6.out; have := HL7.out; omega) (blk_lt J2.out)).trans J2.out)
  have J3 := Lib.hid ((hW _ (by have := HL0.out; have := HL1.out; have := HL2.out; have := HL3.out; have := HL4.out; have := HL5.out; have := HL6.out; have := HL7.out; omega) (blk_lt J3.out)).trans J3.out)
  have KQ := Lib.hid ((hW _ (by have := HL0.out; have := HL1.out; have := HL2.out; have := HL3.out; have := HL4.out; have := HL5.out; have := HL6.out; have := HL7.out; omega) (blk_lt KQ.out)).trans KQ.out)
  have CK1 := Lib.hid (show Kd.C k60 WE (some ⟨w1.heap.size, 0, none⟩) 1 [⟨3, 4⟩] from spans_C K1.out (by decide) (fun j hj => by obtain rfl : j = 0 := (by simp at hj; omega); all_goals exact ⟨rfl, rfl⟩))
  have CK2 := Lib.hid (show Kd.C k60 WE (some ⟨w3.heap.size, 0, none⟩) 1 [⟨6, 6⟩] from spans_C K2.out (by decide) (fun j hj => by obtain rfl : j = 0 := (by simp at hj; omega); all_goals exact ⟨rfl, rfl⟩))
  have CJ1 := Lib.hid (show Kd.C (Kd.int .i64) WE (some ⟨w4.heap.size + 1, 0, none⟩) 2 [0, 4] from ints_C J1.out (by decide) (fun j hj => by obtain rfl | rfl : j = 0 ∨ j = 1 := (by simp at hj; omega); all_goals rfl))
  have CJ2 := Lib.hid (show Kd.C (Kd.int .i64) WE (some ⟨w5.heap.size, 0, none⟩) 1 [1] from ints_C J2.out (by decide) (fun j hj => by obtain rfl : j = 0 := (by simp at hj; omega); all_goals rfl))
  have CJ3 := Lib.hid (show Kd.C (Kd.int .i64) WE (some ⟨w6.heap.size, 0, none⟩) 1 [0] from ints_C J3.out (by decide) (fun j hj => by obtain rfl : j = 0 := (by simp at hj; omega); all_goals rfl))
  constructor
  · refine woods_C (P := ownP) KP.out (by decide) (fun j hj => ?_)
    obtain rfl | rfl : j = 0 ∨ j = 1 := by simp [ownP] at hj; omega
    · exact ⟨_, 1, rfl, rfl, by decide, CK1.out⟩
    · exact ⟨_, 1, rfl, rfl, by decide, CK2.out⟩
  · refine shapes_C (P := ownQ) KQ.out (by decide) (fun j hj => ?_)
    obtain rfl | rfl | rfl : j = 0 ∨ j = 1 ∨ j = 2 := by simp [ownQ] at hj; omega
    · exact ⟨_, 2, rfl, rfl, rfl, by decide, CJ1.out⟩
    · exact ⟨_, 1, rfl, rfl, rfl, by decide, CJ2.out⟩
    · exact ⟨_, 1, rfl, rfl, rfl, by decide, CJ3.out⟩
set_option maxRecDepth 100000 in
set_option maxHeartbeats 2000000 in
theorem calls_hidden (w : World) : Calls Tryd.prog 58 #[] w fun e w' => ∃ PA QA, e = .returned (.agg #[.slice (some PA) 1 1, .slice (some QA) 2 2]) ∧ (∀ W2 : World, (∀ k, w.heap.size ≤ k → k < w'.heap.size → W2.heap[k]? = w'.heap[k]?) → Kd.C k48 W2 (some PA) 1 hidP ∧ Kd.C k50 W2 (some QA) 2 hidQ) ∧ Below w.heap.size w w' := by
  have hu := Tryd.underlying25
  go_enter Tryd.func58, Tryd.ntmps58
  go_upto_region 1 with (fail)
  obtain ⟨n0, n1, n2⟩ := new1 w (.cells #[.slice none 0 0, .slice none 0 0] 25)
  generalize w.alloc (.cells #[.slice none 0 0, .slice none 0 0] 25) = w0 at n0 n1 n2 ⊢
  have FR := Lib.hid n0; have HB := Lib.hid n1
  have HL0 := Lib.hid (show w.heap.size < w0.heap.size from blk_lt n0)
  clear n0 n1 n2
  go_wp2_with (first | (go_at_call 56; (with_reducible refine (calls_From 2 6 _).mono ?_); rintro e w1 ⟨rfl, hb⟩; have FR := Lib.hid (blk_below (g := w.heap.size) (o := .cells #[.slice none 0 0, .slice none 0 0] 25 (0, 0)) (FR.out) hb); have HB := Lib.hid (below_step (by repeat (first | exact HB.out | apply below_alloc)) hb); have HL1 := Lib.hid (show w0.heap.size < w1.heap.size ∨ w0.heap.size = w1.heap.size from Nat.lt_or_eq_of_le (Nat.le_trans (by simp <;> omega) (below_size hb))); clear hb) | (go_at_call 59; (with_reducible refine (calls_wood 9 (some ⟨w1.heap.size, 0, none⟩) 1 1 _).mono ?_); rintro e w2 ⟨rfl, hb⟩; have FR := Lib.hid (blk_below (g := w.heap.size) (o := .cells #[.slice none 0 0, .slice none 0 0] 25 (0, 0)) (blk_alloc (FR.out) _) hb); have K1 := Lib.hid (blk_below (g := w1.heap.size) (o := .cells #[.int .i64 2, .int .i64 6] 60 (0, 0)) (blk_new w1 (.cells #[.int .i64 2, .int .i64 6] 60)) hb); have HB := Lib.hid (below_step (by repeat (first | exact HB.out | apply below_alloc)) hb); have HL2 := Lib.hid (show w1.heap.size < w2.heap.size ∨ w1.heap.size = w2.heap.size from Nat.lt_or_eq_of_le (Nat.le_trans (by simp <;> omega) (below_size hb))); clear hb) | (go_at_call 97; (with_reducible refine (calls_shape 5 (some ⟨w2.heap.size + 1, 0, none⟩) 2 2 false _).mono ?_); rintro e w3 ⟨rfl, hb⟩; have FR := Lib.hid (blk_below (g := w.heap.size) (o := .cells #[.slice none 0 0, .slice none 0 0] 25 (0, 0)) (blk_alloc (blk_alloc (FR.out) _) _) hb); have K1 := Lib.hid (blk_below (g := w1.heap.size) (o := .cells #[.int .i64 2, .int .i64 6] 60 (0, 0)) (blk_alloc (blk_alloc (K1.out) _) _) hb); have KP := Lib.hid (blk_below (g := w2.heap.size) (o := .cells #[.int .i64 9, .slice (some ⟨w1.heap.size, 0, none⟩) 1 1] 48 (0, 0)) (blk_alloc (blk_new w2 (.cells #[.int .i64 9, .slice (some ⟨w1.heap.size, 0, none⟩) 1 1] 48)) _) hb); have J1 := Lib.hid (blk_below (g := w2.heap.size + 1) (o := .cells #[.int .i64 0, .int .i64 4] 3 (0, 0)) (by have h_ := blk_new (w2.alloc (.cells #[.int .i64 9, .slice (some ⟨w1.heap.size, 0, none⟩) 1 1] 48)) (.cells #[.int .i64 0, .int .i64 4] 3); simpa using h_) hb); have HB := Lib.hid (below_step (by repeat (first | exact HB.out | apply below_alloc)) hb); have HL3 := Lib.hid (show w2.heap.size < w3.heap.size ∨ w2.heap.size = w3.heap.size from Nat.lt_or_eq_of_le (Nat.le_trans (by simp <;> omega) (below_size hb))); clear hb) | (go_at_call 97; (with_reducible refine (calls_shape 4 (some ⟨w3.heap.size, 0, none⟩) 2 2 false _).mono ?_); rintro e w4 ⟨rfl, hb⟩; have FR := Lib.hid (blk_below (g := w.heap.size) (o := .cells #[.slice none 0 0, .slice none 0 0] 25 (0, 0)) (blk_alloc (FR.out) _) hb); have K1 := Lib.hid (blk_below (g := w1.heap.size) (o := .cells #[.int .i64 2, .int .i64 6] 60 (0, 0)) (blk_alloc (K1.out) _) hb); have KP := Lib.hid (blk_below (g := w2.heap.size) (o := .cells #[.int .i64 9, .slice (some ⟨w1.heap.size, 0, none⟩) 1 1] 48 (0, 0)) (blk_alloc (KP.out) _) hb); have J1 := Lib.hid (blk_below (g := w2.heap.size + 1) (o := .cells #[.int .i64 0, .int .i64 4] 3 (0, 0)) (blk_alloc (J1.out) _) hb); have J2 := Lib.hid (blk_below (g := w3.heap.size) (o := .cells #[.int .i64 0, .int .i64 3] 3 (0, 0)) (blk_new w3 (.cells #[.int .i64 0, .int .i64 3] 3)) hb); have HB := Lib.hid (below_step (by repeat (first | exact HB.out | apply below_alloc)) hb); have HL4 := Lib.hid (show w3.heap.size < w4.heap.size ∨ w3.heap.size = w4.heap.size from Nat.lt_or_eq_of_le (Nat.le_trans (by simp <;> omega) (below_size hb))); have e0 : (w4.alloc (.cells #[.int .i64 5, .slice (some ⟨w2.heap.size + 1, 0, none⟩) 2 2, .bool false, .int .i64 4, .slice (some ⟨w3.heap.size, 0, none⟩) 2 2, .bool false] 50)).cell? ⟨w.heap.size, 0, none⟩ = some (.slice none 0 0) := (blk_cell (blk_alloc FR.out _) 0); have e1 : (w4.alloc (.cells #[.int .i64 5, .slice (some ⟨w2.heap.size + 1, 0, none⟩) 2 2, .bool false, .int .i64 4, .slice (some ⟨w3.heap.size, 0, none⟩) 2 2, .bool false] 50)).cell? ⟨w.heap.size, 1, none⟩ = some (.slice none 0 0) := (blk_cell (blk_alloc FR.out _) 1); have e2 : (w4.alloc (.cells #[.int .i64 5, .slice (some ⟨w2.heap.size + 1, 0, none⟩) 2 2, .bool false, .int .i64 4, .slice (some ⟨w3.heap.size, 0, none⟩) 2 2, .bool false] 50)).frozen? ⟨w.heap.size, 0, none⟩ = false := (blk_frozen (blk_alloc FR.out _) 0); have e3 : (w4.alloc (.cells #[.int .i64 5, .slice (some ⟨w2.heap.size + 1, 0, none⟩) 2 2, .bool false, .int .i64 4, .slice (some ⟨w3.heap.size, 0, none⟩) 2 2, .bool false] 50)).frozen? ⟨w.heap.size, 1, none⟩ = false := (blk_frozen (blk_alloc FR.out _) 1); clear hb))
  obtain ⟨m0, m1, m2⟩ := new1 w4 (.cells #[.int .i64 5, .slice (some ⟨w2.heap.size + 1, 0, none⟩) 2 2, .bool false, .int .i64 4, .slice (some ⟨w3.heap.size, 0, none⟩) 2 2, .bool false] 50)
  have K1 := Lib.hid (show (((w4.alloc (.cells #[.int .i64 5, .slice (some ⟨w2.heap.size + 1, 0, none⟩) 2 2, .bool false, .int .i64 4, .slice (some ⟨w3.heap.size, 0, none⟩) 2 2, .bool false] 50)).setCell ⟨w.heap.size, 0, none⟩ (.slice (some ⟨w2.heap.size, 0, none⟩) 1 1)).setCell ⟨w.heap.size, 1, none⟩ (.slice (some ⟨w4.heap.size, 0, none⟩) 2 2)).heap[w1.heap.size]? = some (.cells #[.int .i64 2, .int .i64 6] 60 (0, 0)) from blk_far (blk_far (blk_alloc K1.out _) (by show w1.heap.size ≠ w.heap.size; have := HL0.out; have := HL1.out; have := HL2.out; have := HL3.out; have := HL4.out; omega) _) (by show w1.heap.size ≠ w.heap.size; have := HL0.out; have := HL1.out; have := HL2.out; have := HL3.out; have := HL4.out; omega) _)
  have KP := Lib.hid (show (((w4.alloc (.cells #[.int .i64 5, .slice (some ⟨w2.heap.size + 1, 0, none⟩) 2 2, .bool false, .int .i64 4, .slice (some ⟨w3.heap.size, 0, none⟩) 2 2, .bool false] 50)).setCell ⟨w.heap.size, 0, none⟩ (.slice (some ⟨w2.heap.size, 0, none⟩) 1 1)).setCell ⟨w.heap.size, 1, none⟩ (.slice (some ⟨w4.heap.size, 0, none⟩) 2 2)).heap[w2.heap.size]? = some (.cells #[.int .i64 9, .slice (some ⟨w1.heap.size, 0, none⟩) 1 1] 48 (0, 0)) from blk_far (blk_far (blk_alloc KP.out _) (by show w2.heap.size ≠ w.heap.size; have := HL0.out; have := HL1.out; have := HL2.out; have := HL3.out; have := HL4.out; omega) _) (by show w2.heap.size ≠ w.heap.size; have := HL0.out; have := HL1.out; have := HL2.out; have := HL3.out; have := HL4.out; omega) _)
  have J1 := Lib.hid (show (((w4.alloc (.cells #[.int .i64 5, .slice (some ⟨w2.heap.size + 1, 0, none⟩) 2 2, .bool false, .int .i64 4, .slice (some ⟨w3.heap.size, 0, none⟩) 2 2, .bool false] 50)).setCell ⟨w.heap.size, 0, none⟩ (.slice (some ⟨w2.heap.size, 0, none⟩) 1 1)).setCell ⟨w.heap.size, 1, none⟩ (.slice (some ⟨w4.heap.size, 0, none⟩) 2 2)).heap[w2.heap.size + 1]? = some (.cells #[.int .i64 0, .int .i64 4] 3 (0, 0)) from blk_far (blk_far (blk_alloc J1.out _) (by show w2.heap.size + 1 ≠ w.heap.size; have := HL0.out; have := HL1.out; have := HL2.out; have := HL3.out; have := HL4.out; omega) _) (by show w2.heap.size + 1 ≠ w.heap.size; have := HL0.out; have := HL1.out; have := HL2.out; have := HL3.out; have := HL4.out; omega) _)
  have J2 := Lib.hid (show (((w4.alloc (.cells #[.int .i64 5, .slice (some ⟨w2.heap.size + 1, 0, none⟩) 2 2, .bool false, .int .i64 4, .slice (some ⟨w3.heap.size, 0, none⟩) 2 2, .bool false] 50)).setCell ⟨w.heap.size, 0, none⟩ (.slice (some ⟨w2.heap.size, 0, none⟩) 1 1)).setCell ⟨w.heap.size, 1, none⟩ (.slice (some ⟨w4.heap.size, 0, none⟩) 2 2)).heap[w3.heap.size]? = some (.cells #[.int .i64 0, .int .i64 3] 3 (0, 0)) from blk_far (blk_far (blk_alloc J2.out _) (by show w3.heap.size ≠ w.heap.size; have := HL0.out; have := HL1.out; have := HL2.out; have := HL3.out; have := HL4.out; omega) _) (by show w3.heap.size ≠ w.heap.size; have := HL0.out; have := HL1.out; have := HL2.out; have := HL3.out; have := HL4.out; omega) _)
  have KQ := Lib.hid (show (((w4.alloc (.cells #[.int .i64 5, .slice (some ⟨w2.heap.size + 1, 0, none⟩) 2 2, .bool false, .int .i64 4, .slice (some ⟨w3.heap.size, 0, none⟩) 2 2, .bool false] 50)).setCell ⟨w.heap.size, 0, none⟩ (.slice (some ⟨w2.heap.size, 0, none⟩) 1 1)).setCell ⟨w.heap.size, 1, none⟩ (.slice (some ⟨w4.heap.size, 0, none⟩) 2 2)).heap[w4.heap.size]? = some (.cells #[.int .i64 5, .slice (some ⟨w2.heap.size + 1, 0, none⟩) 2 2, .bool false, .int .i64 4, .slice (some ⟨w3.heap.size, 0, none⟩) 2 2, .bool false] 50 (0, 0)) from blk_far (blk_far m0 (by show w4.heap.size ≠ w.heap.size; have := HL0.out; have := HL1.out; have := HL2.out; have := HL3.out; have := HL4.out; omega) _) (by show w4.heap.size ≠ w.heap.size; have := HL0.out; have := HL1.out; have := HL2.out; have := HL3.out; have := HL4.out; omega) _)
  have FR := Lib.hid (show (((w4.alloc (.cells #[.int .i64 5, .slice (some ⟨w2.heap.size + 1, 0, none⟩) 2 2, .bool false, .int .i64 4, .slice (some ⟨w3.heap.size, 0, none⟩) 2 2, .bool false] 50)).setCell ⟨w.heap.size, 0, none⟩ (.slice (some ⟨w2.heap.size, 0, none⟩) 1 1)).setCell ⟨w.heap.size, 1, none⟩ (.slice (some ⟨w4.heap.size, 0, none⟩) 2 2)).heap[w.heap.size]? = some (.cells #[.slice (some ⟨w2.heap.size, 0, none⟩) 1 1, .slice (some ⟨w4.heap.size, 0, none⟩) 2 2] 25 (0, 0)) from blk_set (blk_set (blk_alloc FR.out _) 0 _) 1 _)
  have HBE := Lib.hid (show Below w.heap.size w (((w4.alloc (.cells #[.int .i64 5, .slice (some ⟨w2.heap.size + 1, 0, none⟩) 2 2, .bool false, .int .i64 4, .slice (some ⟨w3.heap.size, 0, none⟩) 2 2, .bool false] 50)).setCell ⟨w.heap.size, 0, none⟩ (.slice (some ⟨w2.heap.size, 0, none⟩) 1 1)).setCell ⟨w.heap.size, 1, none⟩ (.slice (some ⟨w4.heap.size, 0, none⟩) 2 2)) from ((HB.out.trans (m1.mono (below_size HB.out))).setCell (Nat.le_refl _) _).setCell (Nat.le_refl _) _)
  clear m0 m1 m2 HB e0 e1 e2 e3
  generalize (((w4.alloc (.cells #[.int .i64 5, .slice (some ⟨w2.heap.size + 1, 0, none⟩) 2 2, .bool false, .int .i64 4, .slice (some ⟨w3.heap.size, 0, none⟩) 2 2, .bool false] 50)).setCell ⟨w.heap.size, 0, none⟩ (.slice (some ⟨w2.heap.size, 0, none⟩) 1 1)).setCell ⟨w.heap.size, 1, none⟩ (.slice (some ⟨w4.heap.size, 0, none⟩) 2 2)) = W1 at *
  refine bodyPost_ret (results_cell_row rfl _ _ w.heap.size 25 #[.slice (some ⟨w2.heap.size, 0, none⟩) 1 1, .slice (some ⟨w4.heap.size, 0, none⟩) 2 2] (0, 0) _ rfl FR.out Tryd.underlying25 rfl (by kernel_rfl)) rfl ⟨⟨w2.heap.size, 0, none⟩, ⟨w4.heap.size, 0, none⟩, rfl, fun WE hW => ?_, HBE.out⟩
  have K1 := Lib.hid ((hW _ (by have := HL0.out; have := HL1.out; have := HL2.out; have := HL3.out; have := HL4.out; omega) (blk_lt K1.out)).trans K1.out)
  have KP := Lib.hid ((hW _ (by have := HL0.out; have := HL1.out; have := HL2.out; have := HL3.out; have := HL4.out; omega) (blk_lt KP.out)).trans KP.out)
  have J1 := Lib.hid ((hW _ (by have := HL0.out; have := HL1.out; have := HL2.out; have := HL3.out; have := HL4.out; omega) (blk_lt J1.out)).trans J1.out)
  have J2 := Lib.hid ((hW _ (by have := HL0.out; have := HL1.out; have := HL2.out; have := HL3.out; have := HL4.out; omega) (blk_lt J2.out)).trans J2.out)
  have KQ := Lib.hid ((hW _ (by have := HL0.out; have := HL1.out; have := HL2.out; have := HL3.out; have := HL4.out; omega) (blk_lt KQ.out)).trans KQ.out)
  have CK1 := Lib.hid (show Kd.C k60 WE (some ⟨w1.heap.size, 0, none⟩) 1 [⟨2, 6⟩] from spans_C K1.out (by decide) (fun j hj => by obtain rfl : j = 0 := (by simp at hj; omega); all_goals exact ⟨rfl, rfl⟩))
  have CJ1 := Lib.hid (show Kd.C (Kd.int .i64) WE (some ⟨w2.heap.size + 1, 0, none⟩) 2 [0, 4] from ints_C J1.out (by decide) (fun j hj => by obtain rfl | rfl : j = 0 ∨ j = 1 := (by simp at hj; omega); all_goals rfl))
  have CJ2 := Lib.hid (show Kd.C (Kd.int .i64) WE (some ⟨w3.heap.size, 0, none⟩) 2 [0, 3] from ints_C J2.out (by decide) (fun j hj => by obtain rfl | rfl : j = 0 ∨ j = 1 := (by simp at hj; omega); all_goals rfl))
  constructor
  · refine woods_C (P := hidP) KP.out (by decide) (fun j hj => ?_)
    obtain rfl : j = 0 := by simp [hidP] at hj; omega
    exact ⟨_, 1, rfl, rfl, by decide, CK1.out⟩
  · refine shapes_C (P := hidQ) KQ.out (by decide) (fun j hj => ?_)
    obtain rfl | rfl : j = 0 ∨ j = 1 := by simp [hidQ] at hj; omega
    · exact ⟨_, 2, rfl, rfl, rfl, by decide, CJ1.out⟩
    · exact ⟨_, 2, rfl, rfl, rfl, by decide, CJ2.out⟩
def aloP : List S48 := [⟨8, [⟨6, 6⟩]⟩]
set_option maxRecDepth 100000 in
theorem tail_own (ad : Addr) : (∀ W, (Instr.sliceAt 22 (.slice (some ad) 2 2) (some (.int .i64 1)) none none).run Tryd.prog W = .ok (.slice (some (ad.add (1 * 2))) 1 1) W) ∧
    (∀ W, Kd.C k48 W (some ad) 2 ownP → Kd.C k48 W (some (ad.add (1 * 2))) 1 aloP) := by
  have hu : Tryd.prog.underlying 22 = some (.slice (Tryd.prog.elem 22)) := by kernel_rfl
  have he : Tryd.prog.elem 22 = 48 := by kernel_rfl
  obtain ⟨i0, hi0⟩ : ∃ i, Tryd.prog.info? 48 = some i := ⟨_, rfl⟩
  have hs : ∀ W, (sizeOf 48).run Tryd.prog W = .ok 2 W := fun W => by rw [run_sizeOf W hi0, show Tryd.prog.cellsOf 48 = 2 from by kernel_rfl]
  refine ⟨fun W => ?_, fun W hC => ?_⟩
  · rw [run_sliceAt_slice W 22 _ _ _ _ hu, run_slice_l W 22 (some ad) 2 2 hu .i64 1 (by omega) (by omega), he, hs]
    simp only [Result.andThen_ok, sliced]
    rfl
  · exact Kd.C_drop (m := 1) (c := 2) hC (by decide) (by decide)
set_option maxRecDepth 100000 in
theorem calls_alone (w : World) : Calls Tryd.prog 57 #[] w fun e w' => ∃ PA QA, e = .returned (.agg #[.slice (some PA) 1 1, .slice (some QA) 3 3]) ∧ Kd.C k48 w' (some PA) 1 aloP ∧ Kd.C k50 w' (some QA) 3 ownQ ∧ Below w.heap.size w w' := by
  have hu := Tryd.underlying25
  obtain ⟨n0, n1, n2⟩ := new1 w (.cells #[.slice none 0 0, .slice none 0 0] 25)
  have FR := Lib.hid n0; have HB := Lib.hid n1
  clear n0 n1 n2
  go_enter Tryd.func57, Tryd.ntmps57
  go_upto_region 3 with (go_at_call 54; (with_reducible refine (calls_own _).mono ?_); rintro e w1 ⟨PA, QA, rfl, hPQ, hb⟩; have HPQ := Lib.hid hPQ; have FR := Lib.hid (below_far FR.out hb); have HB := Lib.hid (HB.out.trans (hb.mono (below_size HB.out))); have hsl := (tail_own PA).1; clear hPQ hb)
  obtain ⟨m0, m1, m2⟩ := new1 w1 (.cells #[.slice (some ⟨PA.block, PA.off + 2, none⟩) 1 1, .slice (some QA) 3 3] 25)
  have FR := Lib.hid (blk_alloc FR.out (.cells #[.slice (some ⟨PA.block, PA.off + 2, none⟩) 1 1, .slice (some QA) 3 3] 25))
  generalize w1.alloc (.cells #[.slice (some ⟨PA.block, PA.off + 2, none⟩) 1 1, .slice (some QA) 3 3] 25) = W at m0 m1 m2 FR ⊢
  have HB := Lib.hid (HB.out.trans (m1.mono (below_size HB.out)))
  have HPQ2 := Lib.hid (show Kd.C k48 ((W.setCell ⟨w.heap.size, 0, none⟩ (.slice (some ⟨PA.block, PA.off + 2, none⟩) 1 1)).setCell ⟨w.heap.size, 1, none⟩ (.slice (some QA) 3 3)) (some PA) 2 ownP ∧ Kd.C k50 ((W.setCell ⟨w.heap.size, 0, none⟩ (.slice (some ⟨PA.block, PA.off + 2, none⟩) 1 1)).setCell ⟨w.heap.size, 1, none⟩ (.slice (some QA) 3 3)) (some QA) 3 ownQ from HPQ.out _ (fun k hk hlt => by
    have hk : w.heap.size + 1 ≤ k := by simpa using hk
    rw [Below.heap_setCell _ ⟨w.heap.size, 1, none⟩ _ k (by show k ≠ w.heap.size; omega), Below.heap_setCell _ ⟨w.heap.size, 0, none⟩ _ k (by show k ≠ w.heap.size; omega)]
    exact m1.block k hlt))
  obtain ⟨e0, e1, e2, e3⟩ : W.cell? ⟨w.heap.size, 0, none⟩ = some (.slice none 0 0) ∧ W.cell? ⟨w.heap.size, 1, none⟩ = some (.slice none 0 0) ∧ W.frozen? ⟨w.heap.size, 0, none⟩ = false ∧ W.frozen? ⟨w.heap.size, 1, none⟩ = false := ⟨blk_cell FR.out 0, blk_cell FR.out 1, blk_frozen FR.out 0, blk_frozen FR.out 1⟩
  obtain ⟨d0, d1⟩ : W.cell? ⟨w1.heap.size, 0, none⟩ = some (.slice (some ⟨PA.block, PA.off + 2, none⟩) 1 1) ∧ W.cell? ⟨w1.heap.size, 1, none⟩ = some (.slice (some QA) 3 3) := ⟨blk_cell m0 0, blk_cell m0 1⟩
  go_wp2_with fail
  have HF := Lib.hid (show ((W.setCell ⟨w.heap.size, 0, none⟩ (.slice (some ⟨PA.block, PA.off + 2, none⟩) 1 1)).setCell ⟨w.heap.size, 1, none⟩ (.slice (some QA) 3 3)).heap[w.heap.size]? = some (.cells #[.slice (some ⟨PA.block, PA.off + 2, none⟩) 1 1, .slice (some QA) 3 3] 25 (0, 0)) from blk_set (blk_set FR.out 0 _) 1 _)
  refine bodyPost_ret (results_cell_row rfl _ _ w.heap.size 25 #[.slice (some ⟨PA.block, PA.off + 2, none⟩) 1 1, .slice (some QA) 3 3] (0, 0) _ rfl HF.out Tryd.underlying25 rfl (by kernel_rfl)) rfl ⟨_, QA, rfl, ?_, ?_, (HB.out.setCell (Nat.le_refl _) _).setCell (Nat.le_refl _) _⟩
  · exact (tail_own PA).2 _ HPQ2.out.1
  · exact HPQ2.out.2
end Go.Proofs.YtekjlpldooihhaaDoorK
namespace Go.Proofs.YtekjlpldooihhaaDoor.PS
open Go.Proofs.YtekjlpldooihhaaDoorSh
open Go.RowKit Go.Proofs.YtekjlpldooihhaaDoorW.PrintWords Go.Proofs.YtekjlpldooihhaaDoorW.PrintLast Go.Proofs.YtekjlpldooihhaaDoorW.PrintMore
attribute [local go_sem] max2_int min2_int max_two min_two max_three min_three max_four min_four
set_option linter.unusedVariables false
set_option linter.unusedSimpArgs false
def errW : Option Int → Value
 | none => .nilIface
 | some c => .iface 0 (.int .i64 c)
theorem errW_none : errW none = .nilIface := rfl
theorem errW_some (c : Int) : errW (some c) = .iface 0 (.int .i64 c) := rfl
def skewbaldref00_Equal.l0 : Nat → List Int → List Int → Bool → Int → Option (Bool)
 | 0, _, _, _, _ => none
 | k + 1, x0, x1, x5, x6 => if x5 = true then (if x6 < (x0.length : Int) then (if 0 ≤ x6 then (if x6 < (x1.length : Int) then (skewbaldref00_Equal.l0 k x0 x1 ((rd x0 x6) == (rd x1 x6)) (wrap64 (x6 + 1))) else (none)) else (none)) else (some x5)) else (some x5)
def skewbaldref00_Equal.f (k : Nat) (l0 : List Int) (l1 : List Int) : Option (Bool) := skewbaldref00_Equal.l0 k l0 l1 ((l0.length : Int) == (l1.length : Int)) 0
set_option maxHeartbeats 8000000 in
set_option maxRecDepth 100000 in
theorem skewbaldref00_Equal.calls (k : Nat) (A0 : Option Addr) (c0 : Nat) (l0 : List Int) (A1 : Option Addr) (c1 : Nat) (l1 : List Int) (r : Bool) (w : World) (hr0 : Kd.C (Kd.int .i64) w A0 l0.length l0) (hc0 : l0.length ≤ c0) (hr1 : Kd.C (Kd.int .i64) w A1 l1.length l1) (hc1 : l1.length ≤ c1) (h : skewbaldref00_Equal.f k l0 l1 = some r) :
  Calls Tryd.prog 22 #[.slice A0 l0.length c0, .slice A1 l1.length c1] w fun e w' => e = .returned (.bool r) ∧ Drawn0 w w' := by
 have HR0 := Aside0.mk hr0; have HC0 := Aside0.mk hc0; clear hr0 hc0; have HR1 := Aside0.mk hr1; have HC1 := Aside0.mk hc1; clear hr1 hc1
 have H : (skewbaldref00_Equal.l0 k l0 l1 ((l0.length : Int) == (l1.length : Int)) 0) = some r := h
 clear h; have H' := Aside0.mk H; clear H
 go_enter Tryd.func22, Tryd.ntmps22
 go_wp2
 repeat (go_quiet (fail); try go_wp2)
 go_loopg [5, 6] k (fun kq v5 v6 w' => ∃ (x5_1 : Bool) (x6_1 : Int), v5 = .bool x5_1 ∧ v6 = .int .i64 x6_1 ∧ Aside0 (skewbaldref00_Equal.l0 kq l0 l1 x5_1 x6_1 = some r) ∧ Aside0 (kq ≤ k) ∧ Drawn0 w w')
 case atStart => exact ⟨(((l0.length : Int) == (l1.length : Int))), (0), sm, sm, H', ⟨Nat.le_refl _⟩, by repeat (first | exact Drawn0.refl _ | apply Drawn0.step)⟩
 case round =>
  clear H'; (try clear c1); (try clear c2); (try clear p2); obtain ⟨x5_1, x6_1, rfl, rfl, HA, HK1, ⟨m1, rfl⟩⟩ := hrel
  cases gk with
  | zero => exact absurd HA.out (by simp [skewbaldref00_Equal.l0])
  | succ k1 =>
   have H := HA.out; clear HA
   simp only [skewbaldref00_Equal.l0] at H
   by_cases c3 : x5_1 = true
   ·subst c3; rw [if_pos rfl] at H
    by_cases c4 : x6_1 < (l0.length : Int)
    ·rw [if_pos c4] at H; have c4b0 := decide_eq_true c4; clear c4
     by_cases c5 : 0 ≤ x6_1
     ·rw [if_pos c5] at H; have c5b0 := decide_eq_true c5; clear c5
      by_cases c6 : x6_1 < (l1.length : Int)
      ·rw [if_pos c6] at H; have c6b0 := decide_eq_true c6; clear c6; have H' := Aside0.mk H; clear H
       have p101 : 0 ≤ (x6_1 : Int) := od
       have q101 : x6_1 < (l0.length : Int) := od
       obtain ⟨ad101, e101, hx101_0⟩ := Kd.at_int HR0.out x6_1 p101 q101
       cases e101
       replace p101 := eq_true p101; replace q101 := eq_true q101
       have p102 : 0 ≤ (x6_1 : Int) := od
       have q102 : x6_1 < (l1.length : Int) := od
       obtain ⟨ad102, e102, hx102_0⟩ := Kd.at_int HR1.out x6_1 p102 q102
       cases e102
       replace p102 := eq_true p102; replace q102 := eq_true q102
       go_wp2
       repeat (go_quiet (fail); try go_wp2)
       go_roundg k1
       case measure => have := HK1.out; omega
       case rel => exact ⟨(((rd l0 x6_1) == (rd l1 x6_1))), (wrap64 (x6_1 + 1)), sm, sm, H', ⟨lo HK1⟩, by repeat (first | exact Drawn0.refl _ | apply Drawn0.step)⟩
      ·rw [if_neg c6] at H
       exact absurd H (by simp)
     ·rw [if_neg c5] at H
      exact absurd H (by simp)
    ·rw [if_neg c4] at H
     have c4b0 : decide (x6_1 < (l0.length : Int)) = false := decide_eq_false c4
     clear c4; obtain rfl := Option.some.inj H
     go_wp2
     repeat (go_quiet (fail); try go_wp2)
     go_ret
     exact ⟨sm, by repeat (first | exact Drawn0.refl _ | apply Drawn0.step)⟩
   ·replace c3 := Bool.eq_false_iff.mpr c3; subst c3
    rw [if_neg (show ¬ (false = true) by decide)] at H
    obtain rfl := Option.some.inj H
    go_wp2
    repeat (go_quiet (fail); try go_wp2)
    go_ret
    exact ⟨sm, by repeat (first | exact Drawn0.refl _ | apply Drawn0.step)⟩
end Go.Proofs.YtekjlpldooihhaaDoor.PS
namespace Go.Proofs.YtekjlpldooihhaaDoorK
open Go.RowKit Go.Proofs.YtekjlpldooihhaaDoorW.PrintWords Go.Proofs.YtekjlpldooihhaaDoorW.PrintLast Go.Proofs.YtekjlpldooihhaaDoorW.PrintMore Go.Proofs.YtekjlpldooihhaaDoorH Go.Proofs.YtekjlpldooihhaaDoorEv Go.Proofs.YtekjlpldooihhaaDoorP
open Go.Proofs.YtekjlpldooihhaaDoor.PA (S48 S50 k48 k50)
open Go.Proofs.YtekjlpldooihhaaDoor.PS (skewbaldref00_Equal.l0 skewbaldref00_Equal.f skewbaldref00_Equal.calls)
set_option linter.unusedVariables false
set_option linter.unusedSimpArgs false
theorem Equal_l0 (x y : List Int) (hxy : x.length = y.length) (hs : x.length < 9223372036854775808) : ∀ (d j : Nat) (b : Bool), j + d = x.length →
    Evt (fun k => skewbaldref00_Equal.l0 k x y b (j : Int)) (b && decide (x.drop j = y.drop j))
  | d, j, false, hj => by
    refine Evt.succ ?_
    simp only [skewbaldref00_Equal.l0]
    exact Evt.neg (by simp) (by simpa using Evt.pure false)
  | 0, j, true, hj => by
    refine Evt.succ ?_
    simp only [skewbaldref00_Equal.l0]
    rw [List.drop_eq_nil_of_le (by omega), List.drop_eq_nil_of_le (by omega)]
    exact Evt.pos (by first | rfl | trivial) (Evt.neg (by omega) (by simpa using Evt.pure true))
  | d + 1, j, true, hj => by
    refine Evt.succ ?_
    simp only [skewbaldref00_Equal.l0]
    have h1 : x.drop j = x[j] :: x.drop (j + 1) := List.drop_eq_getElem_cons (by omega)
    have h2 : y.drop j = y[j] :: y.drop (j + 1) := List.drop_eq_getElem_cons (by omega)
    have g1 : rd x (j : Int) = x[j] := by simp [rd, show j < x.length by omega]
    have g2 : rd y (j : Int) = y[j] := by simp [rd, show j < y.length by omega]
    refine Evt.pos (by first | rfl | trivial) (Evt.pos (by omega) (Evt.pos (by omega) (Evt.pos (by omega) ?_)))
    rw [g1, g2, h1, h2, w64 j (by omega)]
    refine (Equal_l0 x y hxy hs d (j + 1) _ (by omega)).of_eq ?_
    rw [Bool.eq_iff_iff]
    simp only [Bool.and_eq_true, beq_iff_eq, decide_eq_true_eq, List.cons.injEq, Bool.true_and]
theorem Equal_f (x y : List Int) (hs : x.length < 9223372036854775808) : Evt (fun k => skewbaldref00_Equal.f k x y) (decide (x = y)) := by
  unfold skewbaldref00_Equal.f
  by_cases h : x.length = y.length
  · have hb : ((x.length : Int) == (y.length : Int)) = true := by simp [h]
    rw [hb]
    refine (Equal_l0 x y h hs x.length 0 true (by omega)).of_eq ?_
    simp
  · have hb : ((x.length : Int) == (y.length : Int)) = false := by simp; omega
    rw [hb]
    refine Evt.succ ?_
    simp only [skewbaldref00_Equal.l0]
    refine Evt.neg (by simp) ?_
    have : decide (x = y) = false := decide_eq_false (fun e => h (by rw [e]))
    rw [this]
    exact Evt.pure _
theorem calls_Equal (A : Option Addr) (n c : Nat) (l : List Int) (B : Option Addr) (n2 d : Nat) (m : List Int) (b : Bool) (hn : l.length = n) (hn2 : m.length = n2) (hb : decide (l = m) = b) (w : World) (hr : Kd.C (Kd.int .i64) w A n l) (hc : n ≤ c) (hr1 : Kd.C (Kd.int .i64) w B n2 m) (hc1 : n2 ≤ d) :
    Calls Tryd.prog 22 #[.slice A n c, .slice B n2 d] w fun e w' => e = .returned (.bool b) ∧ Below w.heap.size w w' := by
  subst hn hn2 hb
  obtain ⟨k, hk⟩ := (Equal_f l m (by have := hr.2.1; omega)).get
  exact (skewbaldref00_Equal.calls k A c l B d m _ w hr hc hr1 hc1 hk).mono fun e w' h => ⟨h.1, by first | exact h.2 | exact h.2.below⟩
theorem own_can : canP ownP ownQ 0 0 4 = (1, 0) := by decide +kernel
theorem own_spots : spotsP ownP ownQ 0 0 = ([1, 2, 5, 6, 7], 0) := by decide +kernel
theorem own_lay : layP ownP ownQ 0 [0, 1] = ([1, 6], 0) := by decide +kernel
theorem own_fewest : fewestP ownP ownQ = ([0, 1], 0) := by decide +kernel
theorem alo_most : mostP aloP ownQ = ([1, 2], 0) := by decide +kernel
theorem alo_lacks : lacksP aloP ownQ = (1, 0) := by decide +kernel
theorem hid_look : lookP hidP hidQ = (0, 0, 0) := by decide +kernel
theorem V_told {w w' : World} {ok : Nat → Prop} {v : Value} {xs : List Int} {n : Nat} (h : Kd.V (Kd.int .i64) 3 w' w.heap.size ok v xs) (hn : xs.length = n) : ∃ A c, v = .slice A n c ∧ n ≤ c ∧ Kd.C (Kd.int .i64) w' A n xs := by
  subst hn
  obtain ⟨A, c, h1, h2, h3⟩ := h
  exact ⟨A, c, h1, h2, Kd.F_now h3⟩
theorem at_Can (PA QA : Addr) (W : World) (hP : Kd.C k48 W (some PA) 2 ownP) (hQ : Kd.C k50 W (some QA) 3 ownQ) (hG : Glob W) :
    Calls Tryd.prog 16 #[.agg #[.slice (some PA) 2 2, .slice (some QA) 3 3], .int .i64 0, .int .i64 0, .int .i64 4] W fun e w' => e = .returned (.tuple #[.int .i64 1, .int .i64 0]) ∧ Below W.heap.size W w' := by
  have h := calls_Can (some PA) 2 ownP (some QA) 3 ownQ 0 0 4 W hP (by decide) hQ (by decide) hG
  rw [own_can] at h
  exact h
theorem at_Spots (PA QA : Addr) (W : World) (hP : Kd.C k48 W (some PA) 2 ownP) (hQ : Kd.C k50 W (some QA) 3 ownQ) (hG : Glob W) :
    Calls Tryd.prog 20 #[.agg #[.slice (some PA) 2 2, .slice (some QA) 3 3], .int .i64 0, .int .i64 0] W fun e w' => ∃ A c, e = .returned (.tuple #[.slice A 5 c, .int .i64 0]) ∧ 5 ≤ c ∧ Kd.C (Kd.int .i64) w' A 5 [1, 2, 5, 6, 7] ∧ Below W.heap.size W w' := by
  have h := calls_Spots (some PA) 2 ownP (some QA) 3 ownQ 0 0 W hP (by decide) hQ (by decide) hG
  rw [own_spots] at h
  refine h.mono fun e w' h => ?_
  obtain ⟨v, rfl, h1, h2⟩ := h
  obtain ⟨A, c, rfl, h3, h4⟩ := V_told (n := 5) h1 rfl
  exact ⟨A, c, rfl, h3, h4, h2⟩
theorem at_Lay (PA QA : Addr) (B : Addr) (W : World) (hP : Kd.C k48 W (some PA) 2 ownP) (hQ : Kd.C k50 W (some QA) 3 ownQ) (hL : Kd.C (Kd.int .i64) W (some B) 2 [0, 1]) (hG : Glob W) :
    Calls Tryd.prog 24 #[.agg #[.slice (some PA) 2 2, .slice (some QA) 3 3], .int .i64 0, .slice (some B) 2 2] W fun e w' => ∃ A c, e = .returned (.tuple #[.slice A 2 c, .int .i64 0]) ∧ 2 ≤ c ∧ Kd.C (Kd.int .i64) w' A 2 [1, 6] ∧ Below W.heap.size W w' := by
  have h := calls_Lay (some PA) 2 ownP (some QA) 3 ownQ 0 (some B) 2 [0, 1] W hP (by decide) hQ (by decide) hL (by decide) hG
  rw [own_lay] at h
  refine h.mono fun e w' h => ?_
  obtain ⟨v, rfl, h1, h2⟩ := h
  obtain ⟨A, c, rfl, h3, h4⟩ := V_told (n := 2) h1 rfl
  exact ⟨A, c, rfl, h3, h4, h2⟩
theorem at_Fewest (PA QA : Addr) (W : World) (hP : Kd.C k48 W (some PA) 2 ownP) (hQ : Kd.C k50 W (some QA) 3 ownQ) (hG : Glob W) :
    Calls Tryd.prog 28 #[.agg #[.slice (some PA) 2 2, .slice (some QA) 3 3]] W fun e w' => ∃ A c, e = .returned (.tuple #[.slice A 2 c, .int .i64 0]) ∧ 2 ≤ c ∧ Kd.C (Kd.int .i64) w' A 2 [0, 1] ∧ Below W.heap.size W w' := by
  have h := calls_Fewest (some PA) 2 ownP (some QA) 3 ownQ  W hP (by decide) hQ (by decide) hG
  rw [own_fewest] at h
  refine h.mono fun e w' h => ?_
  obtain ⟨v, rfl, h1, h2⟩ := h
  obtain ⟨A, c, rfl, h3, h4⟩ := V_told (n := 2) h1 rfl
  exact ⟨A, c, rfl, h3, h4, h2⟩
theorem at_Most (PA QA : Addr) (W : World) (hP : Kd.C k48 W (some PA) 1 aloP) (hQ : Kd.C k50 W (some QA) 3 ownQ) (hG : Glob W) :
    Calls Tryd.prog 26 #[.agg #[.slice (some PA) 1 1, .slice (some QA) 3 3]] W fun e w' => ∃ A c, e = .returned (.tuple #[.slice A 2 c, .int .i64 0]) ∧ 2 ≤ c ∧ Kd.C (Kd.int .i64) w' A 2 [1, 2] ∧ Below W.heap.size W w' := by
  have h := calls_Most (some PA) 1 aloP (some QA) 3 ownQ  W hP (by decide) hQ (by decide) hG
  rw [alo_most] at h
  refine h.mono fun e w' h => ?_
  obtain ⟨v, rfl, h1, h2⟩ := h
  obtain ⟨A, c, rfl, h3, h4⟩ := V_told (n := 2) h1 rfl
  exact ⟨A, c, rfl, h3, h4, h2⟩
theorem at_Lacks (PA QA : Addr) (W : World) (hP : Kd.C k48 W (some PA) 1 aloP) (hQ : Kd.C k50 W (some QA) 3 ownQ) (hG : Glob W) :
    Calls Tryd.prog 30 #[.agg #[.slice (some PA) 1 1, .slice (some QA) 3 3]] W fun e w' => e = .returned (.tuple #[.int .i64 1, .int .i64 0]) ∧ Below W.heap.size W w' := by
  have h := calls_Lacks (some PA) 1 aloP (some QA) 3 ownQ  W hP (by decide) hQ (by decide) hG
  rw [alo_lacks] at h
  exact h
theorem at_Look (PA QA : Addr) (W : World) (hP : Kd.C k48 W (some PA) 1 hidP) (hQ : Kd.C k50 W (some QA) 2 hidQ) (hG : Glob W) :
    Calls Tryd.prog 32 #[.agg #[.slice (some PA) 1 1, .slice (some QA) 2 2]] W fun e w' => e = .returned (.tuple #[.int .i64 0, .int .i64 0, .int .i64 0]) ∧ Below W.heap.size W w' := by
  have h := calls_Look (some PA) 1 hidP (some QA) 2 hidQ  W hP (by decide) hQ (by decide) hG
  rw [hid_look] at h
  exact h
theorem lit2 (W : World) (a b : Int) : Kd.C (Kd.int .i64) (W.alloc (.cells #[.int .i64 a, .int .i64 b] 3)) (some ⟨W.heap.size, 0, none⟩) 2 [a, b] :=
  ints_C (xs := [a, b]) (blk_new W _) (by simp [maxLen]) (fun j hj => by obtain rfl | rfl : j = 0 ∨ j = 1 := (by simp at hj; omega); all_goals rfl)
theorem lit5 (W : World) (a b c d e : Int) : Kd.C (Kd.int .i64) (W.alloc (.cells #[.int .i64 a, .int .i64 b, .int .i64 c, .int .i64 d, .int .i64 e] 3)) (some ⟨W.heap.size, 0, none⟩) 5 [a, b, c, d, e] :=
  ints_C (xs := [a, b, c, d, e]) (blk_new W _) (by simp [maxLen]) (fun j hj => by obtain rfl | rfl | rfl | rfl | rfl : j = 0 ∨ j = 1 ∨ j = 2 ∨ j = 3 ∨ j = 4 := (by simp at hj; omega); all_goals rfl)
theorem eq5 (A : Option Addr) (c : Nat) (W : World) (hr : Kd.C (Kd.int .i64) W A 5 [1, 2, 5, 6, 7]) (hc : 5 ≤ c) :
    Calls Tryd.prog 22 #[.slice A 5 c, .slice (some ⟨W.heap.size, 0, none⟩) 5 5] (W.alloc (.cells #[.int .i64 1, .int .i64 2, .int .i64 5, .int .i64 6, .int .i64 7] 3)) fun e w' => e = .returned (.bool true) ∧ Below (W.alloc (.cells #[.int .i64 1, .int .i64 2, .int .i64 5, .int .i64 6, .int .i64 7] 3)).heap.size (W.alloc (.cells #[.int .i64 1, .int .i64 2, .int .i64 5, .int .i64 6, .int .i64 7] 3)) w' :=
  calls_Equal A 5 c [1, 2, 5, 6, 7] _ 5 5 [1, 2, 5, 6, 7] true rfl rfl (by decide) _ (Kd.C_alloc hr _) hc (lit5 W 1 2 5 6 7) (Nat.le_refl _)
theorem eq2 (A : Option Addr) (c : Nat) (W : World) (a b : Int) (hr : Kd.C (Kd.int .i64) W A 2 [a, b]) (hc : 2 ≤ c) :
    Calls Tryd.prog 22 #[.slice A 2 c, .slice (some ⟨W.heap.size, 0, none⟩) 2 2] (W.alloc (.cells #[.int .i64 a, .int .i64 b] 3)) fun e w' => e = .returned (.bool true) ∧ Below (W.alloc (.cells #[.int .i64 a, .int .i64 b] 3)).heap.size (W.alloc (.cells #[.int .i64 a, .int .i64 b] 3)) w' :=
  calls_Equal A 2 c [a, b] _ 2 2 [a, b] true rfl rfl (by simp) _ (Kd.C_alloc hr _) hc (lit2 W a b) (Nat.le_refl _)
set_option maxRecDepth 100000 in
set_option maxHeartbeats 2000000 in
theorem calls_sawn (w : World) (hG : Glob w) : Calls Tryd.prog 23 #[] w fun e w' => e = .returned (.bool true) ∧ Below w.heap.size w w' := by
  have HG := Lib.hid hG; have HB := Lib.hid (Below.refl w.heap.size w)
  clear hG
  go_enter Tryd.func23, Tryd.ntmps23
  go_wp2_with (first | (go_at_call 54; (with_reducible refine (calls_own _).mono ?_); rintro e w1 ⟨PA, QA, rfl, hPQ, hb⟩; have HP := Lib.hid ((hPQ w1 (fun _ _ _ => rfl)).1); have HQ := Lib.hid ((hPQ w1 (fun _ _ _ => rfl)).2); have HB := Lib.hid (below_step (by repeat (first | exact HB.out | apply below_alloc)) hb); (first | (have HL1 := Lib.hid (Kd.C_below HL1.out hb)) | (have HL1 := Lib.hid (Kd.C_below (Kd.C_alloc HL1.out _) hb)) | skip); (first | (have HL2 := Lib.hid (Kd.C_below HL2.out hb)) | (have HL2 := Lib.hid (Kd.C_below (Kd.C_alloc HL2.out _) hb)) | skip); (first | (have HL3 := Lib.hid (Kd.C_below HL3.out hb)) | (have HL3 := Lib.hid (Kd.C_below (Kd.C_alloc HL3.out _) hb)) | skip); (first | (have HL4 := Lib.hid (Kd.C_below HL4.out hb)) | (have HL4 := Lib.hid (Kd.C_below (Kd.C_alloc HL4.out _) hb)) | skip); clear hPQ hb) | (go_at_call 57; (with_reducible refine (calls_alone _).mono ?_); rintro e w1 ⟨PA, QA, rfl, hP, hQ, hb⟩; have HP := Lib.hid (hP); have HQ := Lib.hid (hQ); have HB := Lib.hid (below_step (by repeat (first | exact HB.out | apply below_alloc)) hb); (first | (have HL1 := Lib.hid (Kd.C_below HL1.out hb)) | (have HL1 := Lib.hid (Kd.C_below (Kd.C_alloc HL1.out _) hb)) | skip); (first | (have HL2 := Lib.hid (Kd.C_below HL2.out hb)) | (have HL2 := Lib.hid (Kd.C_below (Kd.C_alloc HL2.out _) hb)) | skip); (first | (have HL3 := Lib.hid (Kd.C_below HL3.out hb)) | (have HL3 := Lib.hid (Kd.C_below (Kd.C_alloc HL3.out _) hb)) | skip); (first | (have HL4 := Lib.hid (Kd.C_below HL4.out hb)) | (have HL4 := Lib.hid (Kd.C_below (Kd.C_alloc HL4.out _) hb)) | skip); clear hP hQ hb) | (go_at_call 58; (with_reducible refine (calls_hidden _).mono ?_); rintro e w1 ⟨PA, QA, rfl, hPQ, hb⟩; have HP := Lib.hid ((hPQ w1 (fun _ _ _ => rfl)).1); have HQ := Lib.hid ((hPQ w1 (fun _ _ _ => rfl)).2); have HB := Lib.hid (below_step (by repeat (first | exact HB.out | apply below_alloc)) hb); (first | (have HL1 := Lib.hid (Kd.C_below HL1.out hb)) | (have HL1 := Lib.hid (Kd.C_below (Kd.C_alloc HL1.out _) hb)) | skip); (first | (have HL2 := Lib.hid (Kd.C_below HL2.out hb)) | (have HL2 := Lib.hid (Kd.C_below (Kd.C_alloc HL2.out _) hb)) | skip); (first | (have HL3 := Lib.hid (Kd.C_below HL3.out hb)) | (have HL3 := Lib.hid (Kd.C_below (Kd.C_alloc HL3.out _) hb)) | skip); (first | (have HL4 := Lib.hid (Kd.C_below HL4.out hb)) | (have HL4 := Lib.hid (Kd.C_below (Kd.C_alloc HL4.out _) hb)) | skip); clear hPQ hb) | (go_at_call 16; (with_reducible refine (at_Can PA QA _ HP.out HQ.out (HG.out.below HB.out)).mono ?_); rintro e w2 ⟨rfl, hb⟩; have HB := Lib.hid (below_step (by repeat (first | exact HB.out | apply below_alloc)) hb); (first | (have HL1 := Lib.hid (Kd.C_below HL1.out hb)) | (have HL1 := Lib.hid (Kd.C_below (Kd.C_alloc HL1.out _) hb)) | skip); (first | (have HL2 := Lib.hid (Kd.C_below HL2.out hb)) | (have HL2 := Lib.hid (Kd.C_below (Kd.C_alloc HL2.out _) hb)) | skip); (first | (have HL3 := Lib.hid (Kd.C_below HL3.out hb)) | (have HL3 := Lib.hid (Kd.C_below (Kd.C_alloc HL3.out _) hb)) | skip); (first | (have HL4 := Lib.hid (Kd.C_below HL4.out hb)) | (have HL4 := Lib.hid (Kd.C_below (Kd.C_alloc HL4.out _) hb)) | skip); clear hb) | (go_at_call 20; (with_reducible refine (at_Spots PA QA _ HP.out HQ.out (HG.out.below HB.out)).mono ?_); rintro e w2 ⟨A1, c1, rfl, hc1, hC, hb⟩; have HB := Lib.hid (below_step (by repeat (first | exact HB.out | apply below_alloc)) hb); (first | (have HL1 := Lib.hid (Kd.C_below HL1.out hb)) | (have HL1 := Lib.hid (Kd.C_below (Kd.C_alloc HL1.out _) hb)) | skip); (first | (have HL2 := Lib.hid (Kd.C_below HL2.out hb)) | (have HL2 := Lib.hid (Kd.C_below (Kd.C_alloc HL2.out _) hb)) | skip); (first | (have HL3 := Lib.hid (Kd.C_below HL3.out hb)) | (have HL3 := Lib.hid (Kd.C_below (Kd.C_alloc HL3.out _) hb)) | skip); (first | (have HL4 := Lib.hid (Kd.C_below HL4.out hb)) | (have HL4 := Lib.hid (Kd.C_below (Kd.C_alloc HL4.out _) hb)) | skip); have HL1 := Lib.hid hC; clear hC hb) | (go_at_call 24; (with_reducible refine (at_Lay PA QA ⟨w1.heap.size, 0, none⟩ _ (Kd.C_alloc HP.out _) (Kd.C_alloc HQ.out _) (lit2 w1 0 1) (HG.out.below (below_alloc HB.out _))).mono ?_); rintro e w2 ⟨A2, c2, rfl, hc2, hC, hb⟩; have HB := Lib.hid (below_step (by repeat (first | exact HB.out | apply below_alloc)) hb); (first | (have HL1 := Lib.hid (Kd.C_below HL1.out hb)) | (have HL1 := Lib.hid (Kd.C_below (Kd.C_alloc HL1.out _) hb)) | skip); (first | (have HL2 := Lib.hid (Kd.C_below HL2.out hb)) | (have HL2 := Lib.hid (Kd.C_below (Kd.C_alloc HL2.out _) hb)) | skip); (first | (have HL3 := Lib.hid (Kd.C_below HL3.out hb)) | (have HL3 := Lib.hid (Kd.C_below (Kd.C_alloc HL3.out _) hb)) | skip); (first | (have HL4 := Lib.hid (Kd.C_below HL4.out hb)) | (have HL4 := Lib.hid (Kd.C_below (Kd.C_alloc HL4.out _) hb)) | skip); have HL2 := Lib.hid hC; clear hC hb) | (go_at_call 28; (with_reducible refine (at_Fewest PA QA _ HP.out HQ.out (HG.out.below HB.out)).mono ?_); rintro e w2 ⟨A3, c3, rfl, hc3, hC, hb⟩; have HB := Lib.hid (below_step (by repeat (first | exact HB.out | apply below_alloc)) hb); (first | (have HL1 := Lib.hid (Kd.C_below HL1.out hb)) | (have HL1 := Lib.hid (Kd.C_below (Kd.C_alloc HL1.out _) hb)) | skip); (first | (have HL2 := Lib.hid (Kd.C_below HL2.out hb)) | (have HL2 := Lib.hid (Kd.C_below (Kd.C_alloc HL2.out _) hb)) | skip); (first | (have HL3 := Lib.hid (Kd.C_below HL3.out hb)) | (have HL3 := Lib.hid (Kd.C_below (Kd.C_alloc HL3.out _) hb)) | skip); (first | (have HL4 := Lib.hid (Kd.C_below HL4.out hb)) | (have HL4 := Lib.hid (Kd.C_below (Kd.C_alloc HL4.out _) hb)) | skip); have HL3 := Lib.hid hC; clear hC hb) | (go_at_call 26; (with_reducible refine (at_Most PA QA _ HP.out HQ.out (HG.out.below HB.out)).mono ?_); rintro e w2 ⟨A4, c4, rfl, hc4, hC, hb⟩; have HB := Lib.hid (below_step (by repeat (first | exact HB.out | apply below_alloc)) hb); (first | (have HL1 := Lib.hid (Kd.C_below HL1.out hb)) | (have HL1 := Lib.hid (Kd.C_below (Kd.C_alloc HL1.out _) hb)) | skip); (first | (have HL2 := Lib.hid (Kd.C_below HL2.out hb)) | (have HL2 := Lib.hid (Kd.C_below (Kd.C_alloc HL2.out _) hb)) | skip); (first | (have HL3 := Lib.hid (Kd.C_below HL3.out hb)) | (have HL3 := Lib.hid (Kd.C_below (Kd.C_alloc HL3.out _) hb)) | skip); (first | (have HL4 := Lib.hid (Kd.C_below HL4.out hb)) | (have HL4 := Lib.hid (Kd.C_below (Kd.C_alloc HL4.out _) hb)) | skip); have HL4 := Lib.hid hC; clear hC hb) | (go_at_call 30; (with_reducible refine (at_Lacks PA QA _ HP.out HQ.out (HG.out.below HB.out)).mono ?_); rintro e w2 ⟨rfl, hb⟩; have HB := Lib.hid (below_step (by repeat (first | exact HB.out | apply below_alloc)) hb); (first | (have HL1 := Lib.hid (Kd.C_below HL1.out hb)) | (have HL1 := Lib.hid (Kd.C_below (Kd.C_alloc HL1.out _) hb)) | skip); (first | (have HL2 := Lib.hid (Kd.C_below HL2.out hb)) | (have HL2 := Lib.hid (Kd.C_below (Kd.C_alloc HL2.out _) hb)) | skip); (first | (have HL3 := Lib.hid (Kd.C_below HL3.out hb)) | (have HL3 := Lib.hid (Kd.C_below (Kd.C_alloc HL3.out _) hb)) | skip); (first | (have HL4 := Lib.hid (Kd.C_below HL4.out hb)) | (have HL4 := Lib.hid (Kd.C_below (Kd.C_alloc HL4.out _) hb)) | skip); clear hb) | (go_at_call 32; (with_reducible refine (at_Look PA QA _ HP.out HQ.out (HG.out.below HB.out)).mono ?_); rintro e w2 ⟨rfl, hb⟩; have HB := Lib.hid (below_step (by repeat (first | exact HB.out | apply below_alloc)) hb); (first | (have HL1 := Lib.hid (Kd.C_below HL1.out hb)) | (have HL1 := Lib.hid (Kd.C_below (Kd.C_alloc HL1.out _) hb)) | skip); (first | (have HL2 := Lib.hid (Kd.C_below HL2.out hb)) | (have HL2 := Lib.hid (Kd.C_below (Kd.C_alloc HL2.out _) hb)) | skip); (first | (have HL3 := Lib.hid (Kd.C_below HL3.out hb)) | (have HL3 := Lib.hid (Kd.C_below (Kd.C_alloc HL3.out _) hb)) | skip); (first | (have HL4 := Lib.hid (Kd.C_below HL4.out hb)) | (have HL4 := Lib.hid (Kd.C_below (Kd.C_alloc HL4.out _) hb)) | skip); clear hb) | (go_at_call 22; (with_reducible refine (eq5 A1 c1 _ HL1.out hc1).mono ?_); rintro e w3 ⟨rfl, hb⟩; have HB := Lib.hid (below_step (by repeat (first | exact HB.out | apply below_alloc)) hb); (first | (have HL1 := Lib.hid (Kd.C_below HL1.out hb)) | (have HL1 := Lib.hid (Kd.C_below (Kd.C_alloc HL1.out _) hb)) | skip); (first | (have HL2 := Lib.hid (Kd.C_below HL2.out hb)) | (have HL2 := Lib.hid (Kd.C_below (Kd.C_alloc HL2.out _) hb)) | skip); (first | (have HL3 := Lib.hid (Kd.C_below HL3.out hb)) | (have HL3 := Lib.hid (Kd.C_below (Kd.C_alloc HL3.out _) hb)) | skip); (first | (have HL4 := Lib.hid (Kd.C_below HL4.out hb)) | (have HL4 := Lib.hid (Kd.C_below (Kd.C_alloc HL4.out _) hb)) | skip); clear hb) | (go_at_call 22; (with_reducible refine (eq2 A2 c2 _ 1 6 HL2.out hc2).mono ?_); rintro e w3 ⟨rfl, hb⟩; have HB := Lib.hid (below_step (by repeat (first | exact HB.out | apply below_alloc)) hb); (first | (have HL1 := Lib.hid (Kd.C_below HL1.out hb)) | (have HL1 := Lib.hid (Kd.C_below (Kd.C_alloc HL1.out _) hb)) | skip); (first | (have HL2 := Lib.hid (Kd.C_below HL2.out hb)) | (have HL2 := Lib.hid (Kd.C_below (Kd.C_alloc HL2.out _) hb)) | skip); (first | (have HL3 := Lib.hid (Kd.C_below HL3.out hb)) | (have HL3 := Lib.hid (Kd.C_below (Kd.C_alloc HL3.out _) hb)) | skip); (first | (have HL4 := Lib.hid (Kd.C_below HL4.out hb)) | (have HL4 := Lib.hid (Kd.C_below (Kd.C_alloc HL4.out _) hb)) | skip); clear hb) | (go_at_call 22; (with_reducible refine (eq2 A3 c3 _ 0 1 HL3.out hc3).mono ?_); rintro e w3 ⟨rfl, hb⟩; have HB := Lib.hid (below_step (by repeat (first | exact HB.out | apply below_alloc)) hb); (first | (have HL1 := Lib.hid (Kd.C_below HL1.out hb)) | (have HL1 := Lib.hid (Kd.C_below (Kd.C_alloc HL1.out _) hb)) | skip); (first | (have HL2 := Lib.hid (Kd.C_below HL2.out hb)) | (have HL2 := Lib.hid (Kd.C_below (Kd.C_alloc HL2.out _) hb)) | skip); (first | (have HL3 := Lib.hid (Kd.C_below HL3.out hb)) | (have HL3 := Lib.hid (Kd.C_below (Kd.C_alloc HL3.out _) hb)) | skip); (first | (have HL4 := Lib.hid (Kd.C_below HL4.out hb)) | (have HL4 := Lib.hid (Kd.C_below (Kd.C_alloc HL4.out _) hb)) | skip); clear hb) | (go_at_call 22; (with_reducible refine (eq2 A4 c4 _ 1 2 HL4.out hc4).mono ?_); rintro e w3 ⟨rfl, hb⟩; have HB := Lib.hid (below_step (by repeat (first | exact HB.out | apply below_alloc)) hb); (first | (have HL1 := Lib.hid (Kd.C_below HL1.out hb)) | (have HL1 := Lib.hid (Kd.C_below (Kd.C_alloc HL1.out _) hb)) | skip); (first | (have HL2 := Lib.hid (Kd.C_below HL2.out hb)) | (have HL2 := Lib.hid (Kd.C_below (Kd.C_alloc HL2.out _) hb)) | skip); (first | (have HL3 := Lib.hid (Kd.C_below HL3.out hb)) | (have HL3 := Lib.hid (Kd.C_below (Kd.C_alloc HL3.out _) hb)) | skip); (first | (have HL4 := Lib.hid (Kd.C_below HL4.out hb)) | (have HL4 := Lib.hid (Kd.C_below (Kd.C_alloc HL4.out _) hb)) | skip); clear hb))
  exact bodyPost_ret (results_tmp rfl _ _ _) rfl ⟨rfl, HB.out⟩
def skewbaldlaw01_sawn.f : Option Bool := some true
theorem skewbaldlaw01_sawn.calls (r : Bool) (w : World) (hG : Glob w) (h : skewbaldlaw01_sawn.f = some r) : Calls Tryd.prog 23 #[] w fun e w' => e = .returned (.bool r) ∧ Below w.heap.size w w' := by
  obtain rfl := Option.some.inj h
  exact calls_sawn w hG
end Go.Proofs.YtekjlpldooihhaaDoorK
namespace Go.Proofs.YtekjlpldooihhaaDoor.PT
open Go.Proofs.YtekjlpldooihhaaDoorSh
open Go.Proofs.YtekjlpldooihhaaDoor.PA (S48 S50 S60 at_L2 at_L4 at_T48 at_T50 at_T60 errW errW_none errW_some k48 k48_mk k48_mkM k48_open k48_openM k50 k50_mk k50_mkM k50_open k50_openM k60 k60_mk k60_mkM k60_open k60_openM rd_L2 rd_L4 rd_T48 rd_T50 rd_T60 z48 z50 z60)
open Go.Proofs.YtekjlpldooihhaaDoorP Go.Proofs.YtekjlpldooihhaaDoorA Go.Proofs.YtekjlpldooihhaaDoorK
open Go.RowKit Go.Proofs.YtekjlpldooihhaaDoorW.PrintWords Go.Proofs.YtekjlpldooihhaaDoorW.PrintLast Go.Proofs.YtekjlpldooihhaaDoorW.PrintMore
attribute [local go_sem] max2_int min2_int max_two min_two max_three min_three max_four min_four
set_option linter.unusedVariables false
set_option linter.unusedSimpArgs false
theorem info48 : (Tryd.prog.info? 48).map (fun i => (i.zero, i.size, i.bytes)) = some (some (.agg #[(.int .i64 0), (.slice none 0 0)]), 2, 32) := by kernel_rfl
theorem info50 : (Tryd.prog.info? 50).map (fun i => (i.zero, i.size, i.bytes)) = some (some (.agg #[(.int .i64 0), (.slice none 0 0), (.bool false)]), 3, 40) := by kernel_rfl
theorem info60 : (Tryd.prog.info? 60).map (fun i => (i.zero, i.size, i.bytes)) = some (some (.agg #[(.int .i64 0), (.int .i64 0)]), 2, 16) := by kernel_rfl
theorem k50_heap : Kd.Heap k50 := Kd.heap_iso _ (Kd.heap_pair (Kd.heap_int .i64) (Kd.heap_pair (Kd.heap_slice 3 (Kd.heap_int .i64)) Kd.heap_bool))
theorem k50_openF {W : World} {ok : Nat → Prop} {x : S50} {cs : List Value} (h : Kd.FK k50 W ok x cs) : ∃ A1 c1, cs = [.int .i64 x.f0, .slice A1 x.f1.length c1, .bool x.f2] ∧ x.f1.length ≤ c1 ∧ Kd.F (Kd.int .i64) W ok A1 x.f1.length x.f1 := by
 obtain ⟨A1, c1, rfl, l1, _⟩ := k50_open (Kd.FK_now h)
 exact ⟨A1, c1, rfl, l1, (fun W' hW => by obtain ⟨A1_, c1_, he, l1_, g1_⟩ := k50_open (h W' hW); injection (Option.some.inj (show some (Value.slice A1 x.f1.length c1) = some (Value.slice A1_ x.f1.length c1_) from congrArg (fun l => l[1]?) he)) with ha_ _ _; rw [ha_]; exact g1_)⟩
theorem k50_mkF (W : World) (ok : Nat → Prop) (x : S50) {A1 : Option Addr} {c1 : Nat} (l1 : x.f1.length ≤ c1) (g1 : Kd.F (Kd.int .i64) W ok A1 x.f1.length x.f1) : Kd.FK k50 W ok x [.int .i64 x.f0, .slice A1 x.f1.length c1, .bool x.f2] := fun W2 hW => k50_mk W2 x l1 (g1 W2 hW)
def skewbaldref00_Equal.l0 : Nat → List Int → List Int → Bool → Int → Option (Bool)
 | 0, _, _, _, _ => none
 | k + 1, x0, x1, x5, x6 => if x5 = true then (if x6 < (x0.length : Int) then (if 0 ≤ x6 then (if x6 < (x1.length : Int) then (skewbaldref00_Equal.l0 k x0 x1 ((rd x0 x6) == (rd x1 x6)) (wrap64 (x6 + 1))) else (none)) else (none)) else (some x5)) else (some x5)
def skewbaldref00_Equal.f (k : Nat) (l0 : List Int) (l1 : List Int) : Option (Bool) := skewbaldref00_Equal.l0 k l0 l1 ((l0.length : Int) == (l1.length : Int)) 0
set_option maxHeartbeats 8000000 in
set_option maxRecDepth 100000 in
theorem skewbaldref00_Equal.calls (k : Nat) (A0 : Option Addr) (c0 : Nat) (l0 : List Int) (A1 : Option Addr) (c1 : Nat) (l1 : List Int) (r : Bool) (w : World) (hr0 : Kd.C (Kd.int .i64) w A0 l0.length l0) (hc0 : l0.length ≤ c0) (hr1 : Kd.C (Kd.int .i64) w A1 l1.length l1) (hc1 : l1.length ≤ c1) (h : skewbaldref00_Equal.f k l0 l1 = some r) :
  Calls Tryd.prog 22 #[.slice A0 l0.length c0, .slice A1 l1.length c1] w fun e w' => e = .returned (.bool r) ∧ Drawn0 w w' := by
 have HR0 := Aside0.mk hr0; have HC0 := Aside0.mk hc0; clear hr0 hc0; have HR1 := Aside0.mk hr1; have HC1 := Aside0.mk hc1; clear hr1 hc1
 have H : (skewbaldref00_Equal.l0 k l0 l1 ((l0.length : Int) == (l1.length : Int)) 0) = some r := h
 clear h; have H' := Aside0.mk H; clear H
 go_enter Tryd.func22, Tryd.ntmps22
 go_wp2
 repeat (go_quiet (fail); try go_wp2)
 go_loopg [5, 6] k (fun kq v5 v6 w' => ∃ (x5_1 : Bool) (x6_1 : Int), v5 = .bool x5_1 ∧ v6 = .int .i64 x6_1 ∧ Aside0 (skewbaldref00_Equal.l0 kq l0 l1 x5_1 x6_1 = some r) ∧ Aside0 (kq ≤ k) ∧ Drawn0 w w')
 case atStart => exact ⟨(((l0.length : Int) == (l1.length : Int))), (0), sm, sm, H', ⟨Nat.le_refl _⟩, by repeat (first | exact Drawn0.refl _ | apply Drawn0.step)⟩
 case round =>
  clear H'; (try clear c1); (try clear c2); (try clear p2); obtain ⟨x5_1, x6_1, rfl, rfl, HA, HK1, ⟨m1, rfl⟩⟩ := hrel
  cases gk with
  | zero => exact absurd HA.out (by simp [skewbaldref00_Equal.l0])
  | succ k1 =>
   have H := HA.out; clear HA
   simp only [skewbaldref00_Equal.l0] at H
   by_cases c3 : x5_1 = true
   ·subst c3; rw [if_pos rfl] at H
    by_cases c4 : x6_1 < (l0.length : Int)
    ·rw [if_pos c4] at H; have c4b0 := decide_eq_true c4; clear c4
     by_cases c5 : 0 ≤ x6_1
     ·rw [if_pos c5] at H; have c5b0 := decide_eq_true c5; clear c5
      by_cases c6 : x6_1 < (l1.length : Int)
      ·rw [if_pos c6] at H; have c6b0 := decide_eq_true c6; clear c6; have H' := Aside0.mk H; clear H
       have p194 : 0 ≤ (x6_1 : Int) := od
       have q194 : x6_1 < (l0.length : Int) := od
       obtain ⟨ad194, e194, hx194_0⟩ := Kd.at_int HR0.out x6_1 p194 q194
       cases e194
       replace p194 := eq_true p194; replace q194 := eq_true q194
       have p195 : 0 ≤ (x6_1 : Int) := od
       have q195 : x6_1 < (l1.length : Int) := od
       obtain ⟨ad195, e195, hx195_0⟩ := Kd.at_int HR1.out x6_1 p195 q195
       cases e195
       replace p195 := eq_true p195; replace q195 := eq_true q195
       go_wp2
       repeat (go_quiet (fail); try go_wp2)
       go_roundg k1
       case measure => have := HK1.out; omega
       case rel => exact ⟨(((rd l0 x6_1) == (rd l1 x6_1))), (wrap64 (x6_1 + 1)), sm, sm, H', ⟨lo HK1⟩, by repeat (first | exact Drawn0.refl _ | apply Drawn0.step)⟩
      ·rw [if_neg c6] at H
       exact absurd H (by simp)
     ·rw [if_neg c5] at H
      exact absurd H (by simp)
    ·rw [if_neg c4] at H
     have c4b0 : decide (x6_1 < (l0.length : Int)) = false := decide_eq_false c4
     clear c4; obtain rfl := Option.some.inj H
     go_wp2
     repeat (go_quiet (fail); try go_wp2)
     go_ret
     exact ⟨sm, by repeat (first | exact Drawn0.refl _ | apply Drawn0.step)⟩
   ·replace c3 := Bool.eq_false_iff.mpr c3; subst c3
    rw [if_neg (show ¬ (false = true) by decide)] at H
    obtain rfl := Option.some.inj H
    go_wp2
    repeat (go_quiet (fail); try go_wp2)
    go_ret
    exact ⟨sm, by repeat (first | exact Drawn0.refl _ | apply Drawn0.step)⟩
def skewbaldref00_In.f (a0 : Int) (a1 : Int) (a2 : Int) : Option (Bool) := if a1 ≤ a0 then (some (decide (a0 ≤ a2))) else (some false)
set_option maxHeartbeats 8000000 in
set_option maxRecDepth 100000 in
theorem skewbaldref00_In.calls (a0 : Int) (a1 : Int) (a2 : Int) (r : Bool) (w : World) (h : skewbaldref00_In.f a0 a1 a2 = some r) :
  Calls Tryd.prog 38 #[.int .i64 a0, .int .i64 a1, .int .i64 a2] w fun e w' => e = .returned (.bool r) ∧ Drawn0 w w' := by
 have H : (if a1 ≤ a0 then (some (decide (a0 ≤ a2))) else (some false)) = some r := h
 clear h
 by_cases c4 : a1 ≤ a0
 ·rw [if_pos c4] at H; have c4b0 := decide_eq_true c4; clear c4; obtain rfl := Option.some.inj H
  go_enter Tryd.func38, Tryd.ntmps38
  go_wp2
  go_ret
  exact ⟨sm, by repeat (first | exact Drawn0.refl _ | apply Drawn0.step)⟩
 ·rw [if_neg c4] at H
  have c4b0 : decide (a1 ≤ a0) = false := decide_eq_false c4
  clear c4; obtain rfl := Option.some.inj H
  go_enter Tryd.func38, Tryd.ntmps38
  go_wp2
  go_ret
  exact ⟨sm, by repeat (first | exact Drawn0.refl _ | apply Drawn0.step)⟩
def skewbaldref00_Grows.l0 : Nat → List Int → Int → Int → Int → Option (Bool)
 | 0, _, _, _, _ => none
 | k + 1, x0, x1, x5, x6 => if x6 < (x0.length : Int) then (if 0 ≤ x6 then (if (rd x0 x6) ≤ x5 then (some false) else (if (rd x0 x6) ≥ x1 then (some false) else (skewbaldref00_Grows.l0 k x0 x1 (rd x0 x6) (wrap64 (x6 + 1))))) else (none)) else (some true)
def skewbaldref00_Grows.f (k : Nat) (l0 : List Int) (a1 : Int) : Option (Bool) := skewbaldref00_Grows.l0 k l0 a1 (-1) 0
set_option maxHeartbeats 8000000 in
set_option maxRecDepth 100000 in
theorem skewbaldref00_Grows.calls (k : Nat) (A0 : Option Addr) (c0 : Nat) (l0 : List Int) (a1 : Int) (r : Bool) (w : World) (hr0 : Kd.C (Kd.int .i64) w A0 l0.length l0) (hc0 : l0.length ≤ c0) (h : skewbaldref00_Grows.f k l0 a1 = some r) :
  Calls Tryd.prog 39 #[.slice A0 l0.length c0, .int .i64 a1] w fun e w' => e = .returned (.bool r) ∧ Drawn0 w w' := by
 have HR0 := Aside0.mk hr0; have HC0 := Aside0.mk hc0; clear hr0 hc0
 have H : (skewbaldref00_Grows.l0 k l0 a1 (-1) 0) = some r := h
 clear h; have H' := Aside0.mk H; clear H
 go_enter Tryd.func39, Tryd.ntmps39
 go_wp2
 go_loopg [5, 6] k (fun kq v5 v6 w' => ∃ (x5_1 : Int) (x6_1 : Int), v5 = .int .i64 x5_1 ∧ v6 = .int .i64 x6_1 ∧ Aside0 (skewbaldref00_Grows.l0 kq l0 a1 x5_1 x6_1 = some r) ∧ Aside0 (kq ≤ k) ∧ Drawn0 w w')
 case atStart => exact ⟨((-1)), (0), sm, sm, H', ⟨Nat.le_refl _⟩, by repeat (first | exact Drawn0.refl _ | apply Drawn0.step)⟩
 case round =>
  clear H'; (try clear p2); obtain ⟨x5_1, x6_1, rfl, rfl, HA, HK1, ⟨m1, rfl⟩⟩ := hrel
  cases gk with
  | zero => exact absurd HA.out (by simp [skewbaldref00_Grows.l0])
  | succ k1 =>
   have H := HA.out; clear HA
   simp only [skewbaldref00_Grows.l0] at H
   by_cases c3 : x6_1 < (l0.length : Int)
   ·rw [if_pos c3] at H; have c3b0 := decide_eq_true c3; clear c3
    by_cases c4 : 0 ≤ x6_1
    ·rw [if_pos c4] at H; have c4b0 := decide_eq_true c4; clear c4
     by_cases c5 : (rd l0 x6_1) ≤ x5_1
     ·rw [if_pos c5] at H; have c5b0 := decide_eq_true c5; clear c5; obtain rfl := Option.some.inj H
      have p101 : 0 ≤ (x6_1 : Int) := od
      have q101 : x6_1 < (l0.length : Int) := od
      obtain ⟨ad101, e101, hx101_0⟩ := Kd.at_int HR0.out x6_1 p101 q101
      cases e101
      replace p101 := eq_true p101; replace q101 := eq_true q101
      go_wp2
      go_ret
      exact ⟨sm, by repeat (first | exact Drawn0.refl _ | apply Drawn0.step)⟩
     ·rw [if_neg c5] at H
      have c5b0 : decide ((rd l0 x6_1) ≤ x5_1) = false := decide_eq_false c5
      clear c5
      by_cases c6 : (rd l0 x6_1) ≥ a1
      ·rw [if_pos c6] at H; have c6b0 := decide_eq_true c6; clear c6; obtain rfl := Option.some.inj H
       have p101 : 0 ≤ (x6_1 : Int) := od
       have q101 : x6_1 < (l0.length : Int) := od
       obtain ⟨ad101, e101, hx101_0⟩ := Kd.at_int HR0.out x6_1 p101 q101
       cases e101
       replace p101 := eq_true p101; replace q101 := eq_true q101
       have p102 : 0 ≤ (x6_1 : Int) := od
       have q102 : x6_1 < (l0.length : Int) := od
       obtain ⟨ad102, e102, hx102_0⟩ := Kd.at_int HR0.out x6_1 p102 q102
       obtain rfl : ad101 = ad102 := (by injection e102)
       replace p102 := eq_true p102; replace q102 := eq_true q102
       go_wp2
       go_ret
       exact ⟨sm, by repeat (first | exact Drawn0.refl _ | apply Drawn0.step)⟩
      ·rw [if_neg c6] at H
       have c6b0 : decide (a1 ≤ (rd l0 x6_1)) = false := decide_eq_false c6
       clear c6; have H' := Aside0.mk H; clear H
       have p101 : 0 ≤ (x6_1 : Int) := od
       have q101 : x6_1 < (l0.length : Int) := od
       obtain ⟨ad101, e101, hx101_0⟩ := Kd.at_int HR0.out x6_1 p101 q101
       cases e101
       replace p101 := eq_true p101; replace q101 := eq_true q101
       have p102 : 0 ≤ (x6_1 : Int) := od
       have q102 : x6_1 < (l0.length : Int) := od
       obtain ⟨ad102, e102, hx102_0⟩ := Kd.at_int HR0.out x6_1 p102 q102
       obtain rfl : ad101 = ad102 := (by injection e102)
       replace p102 := eq_true p102; replace q102 := eq_true q102
       have p103 : 0 ≤ (x6_1 : Int) := od
       have q103 : x6_1 < (l0.length : Int) := od
       obtain ⟨ad103, e103, hx103_0⟩ := Kd.at_int HR0.out x6_1 p103 q103
       obtain rfl : ad101 = ad103 := (by injection e103)
       replace p103 := eq_true p103; replace q103 := eq_true q103
       go_wp2
       go_roundg k1
       case measure => have := HK1.out; omega
       case rel => exact ⟨(rd l0 x6_1), (wrap64 (x6_1 + 1)), sm, sm, H', ⟨lo HK1⟩, by repeat (first | exact Drawn0.refl _ | apply Drawn0.step)⟩
    ·rw [if_neg c4] at H
     exact absurd H (by simp)
   ·rw [if_neg c3] at H
    have c3b0 : decide (x6_1 < (l0.length : Int)) = false := decide_eq_false c3
    clear c3; obtain rfl := Option.some.inj H
    go_wp2
    go_ret
    exact ⟨sm, by repeat (first | exact Drawn0.refl _ | apply Drawn0.step)⟩
def skewbaldref00_Ordered.f (a0_0 : Int) (a0_1 : Int) (a1 : Int) (a2 : Int) : Option (Bool) := if a1 ≤ a0_0 then (if a0_0 ≤ a0_1 then (some (decide (a0_1 ≤ a2))) else (some false)) else (some false)
set_option maxHeartbeats 8000000 in
set_option maxRecDepth 100000 in
theorem skewbaldref00_Ordered.calls (a0_0 : Int) (a0_1 : Int) (a1 : Int) (a2 : Int) (r : Bool) (w : World) (h : skewbaldref00_Ordered.f a0_0 a0_1 a1 a2 = some r) :
  Calls Tryd.prog 73 #[.agg #[.int .i64 a0_0, .int .i64 a0_1], .int .i64 a1, .int .i64 a2] w fun e w' => e = .returned (.bool r) ∧ Below w.heap.size w w' := by
 have hu60 := Tryd.underlying60; have HB := Aside0.mk (Below.refl w.heap.size w)
 have H : (if a1 ≤ a0_0 then (if a0_0 ≤ a0_1 then (some (decide (a0_1 ≤ a2))) else (some false)) else (some false)) = some r := h
 clear h
 by_cases c4 : a1 ≤ a0_0
 ·rw [if_pos c4] at H; have c4b0 := decide_eq_true c4; clear c4
  by_cases c5 : a0_0 ≤ a0_1
  ·rw [if_pos c5] at H; have c5b0 := decide_eq_true c5; clear c5; obtain rfl := Option.some.inj H
   go_enter Tryd.func73, Tryd.ntmps73
   go_wp2_with (first | (refine bx 3 #[.int .i64 a0_0, .int .i64 a0_1] 60 ?_; intro gb104 hg w6 hbox hb; have BK104 := Aside0.mk hbox; have GW104 := gw hg HB; have GE104 := gw hg HB; replace HB := hs HB hb; clear hb hbox hg; obtain ⟨hcz7_0, hcz7_1, hfz7_0, hfz7_1⟩ := b2 (w := w6) BK104))
   go_ret
   exact ⟨by first | rfl | (simp [errW_none, errW_some] <;> rfl) | (simp [*, errW_none, errW_some] <;> rfl), bl⟩
  ·rw [if_neg c5] at H
   have c5b0 : decide (a0_0 ≤ a0_1) = false := decide_eq_false c5
   clear c5; obtain rfl := Option.some.inj H
   go_enter Tryd.func73, Tryd.ntmps73
   go_wp2_with (first | (refine bx 3 #[.int .i64 a0_0, .int .i64 a0_1] 60 ?_; intro gb104 hg w8 hbox hb; have BK104 := Aside0.mk hbox; have GW104 := gw hg HB; have GE104 := gw hg HB; replace HB := hs HB hb; clear hb hbox hg; obtain ⟨hcz9_0, hcz9_1, hfz9_0, hfz9_1⟩ := b2 (w := w8) BK104))
   go_ret
   exact ⟨by first | rfl | (simp [errW_none, errW_some] <;> rfl) | (simp [*, errW_none, errW_some] <;> rfl), bl⟩
 ·rw [if_neg c4] at H
  have c4b0 : decide (a1 ≤ a0_0) = false := decide_eq_false c4
  clear c4; obtain rfl := Option.some.inj H
  go_enter Tryd.func73, Tryd.ntmps73
  go_wp2_with (first | (refine bx 3 #[.int .i64 a0_0, .int .i64 a0_1] 60 ?_; intro gb104 hg w10 hbox hb; have BK104 := Aside0.mk hbox; have GW104 := gw hg HB; have GE104 := gw hg HB; replace HB := hs HB hb; clear hb hbox hg; obtain ⟨hcz11_0, hcz11_1, hfz11_0, hfz11_1⟩ := b2 (w := w10) BK104))
  go_ret
  exact ⟨by first | rfl | (simp [errW_none, errW_some] <;> rfl) | (simp [*, errW_none, errW_some] <;> rfl), bl⟩
end Go.Proofs.YtekjlpldooihhaaDoor.PT
