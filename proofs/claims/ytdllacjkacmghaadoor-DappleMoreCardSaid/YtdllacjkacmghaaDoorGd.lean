/- Valid books of package dapple. The walks of package dapple: the first pair; a book that was asked for. The walks of package dapple: a book that was asked for. The walks of package dapple: whether two horses are the same. -/
import Derived.Test.YtdllacjkacmghaaDoorDPx1
import Derived.Test.YtdllacjkacmghaaDoorDPx2
import Derived.Test.YtdllacjkacmghaaDoorEv
import Derived.Test.YtdllacjkacmghaaDoorGc
import Derived.Laws.ResultCell
namespace Go.Proofs.YtdllacjkacmghaaDoorD
open Go.RowKit Go.Proofs.YtdllacjkacmghaaDoorW.PrintWords Go.Proofs.YtdllacjkacmghaaDoorW.PrintLast Go.Proofs.YtdllacjkacmghaaDoorW.PrintMore Go.Proofs.YtdllacjkacmghaaDoorEv Go.Proofs.YtdllacjkacmghaaDoor.DP
set_option linter.unusedVariables false
set_option linter.unusedSimpArgs false

/-- lengths that a machine can tell -/
def Small (l : List (List Int)) : Prop := l.length < 9223372036854775808 ∧ ∀ r ∈ l, r.length < 9223372036854775808
def rowB (R : Int) (r : List Int) : Bool := ((r.length : Int) == R) && r.all fun s => decide (1 ≤ s) && decide (s ≤ 15)
def validB (R : Int) (l : List (List Int)) : Bool := (decide (1 ≤ R) && decide (R ≤ 8)) && (decide (1 ≤ l.length) && decide (l.length ≤ 6)) && l.all (rowB R)
def checkD (R : Int) (l : List (List Int)) : Int := if validB R l then 0 else 70

theorem on_f (a b c : Int) : dapple_on.f a b c = some (decide (b ≤ a) && decide (a ≤ c)) := by
  unfold dapple_on.f
  by_cases h : b ≤ a <;> simp [h]

theorem rd_at (l : List Int) (j : Nat) : rd l (j : Int) = l.getD j 0 := rfl
theorem w64 (j : Nat) (h : j < 9223372036854775807) : wrap64 ((j : Int) + 1) = ((j + 1 : Nat) : Int) := by unfold wrap64; omega

theorem Check_l1 (R : Int) (l : List (List Int)) (x18 : List (List Int)) (x19 x20 : Int) (row : List Int) (hs : row.length < 9223372036854775808) (v : Int) : ∀ (d j : Nat) (x3 : Bool), j + d = row.length →
    Evt (fun k => dapple_Check.l0 k (x3 && (row.drop j).all fun s => decide (1 ≤ s) && decide (s ≤ 15)) x18 x19 (wrap64 (x20 + 1)) R l) v →
    Evt (fun k => dapple_Check.l1 k x3 x18 x19 x20 row (row.length : Int) (j : Int) R l) v
  | 0, j, x3, hj, h => by
    refine Evt.succ ?_
    simp only [dapple_Check.l1]
    repeat (first | (refine Evt.pos (by omega) ?_) | (refine Evt.neg (by omega) ?_))
    have : row.drop j = [] := List.drop_eq_nil_of_le (by omega)
    rw [this] at h
    simpa using h
  | d + 1, j, x3, hj, h => by
    refine Evt.succ ?_
    simp only [dapple_Check.l1]
    repeat (first | (refine Evt.pos (by omega) ?_) | (refine Evt.neg (by omega) ?_))
    rw [w64 j (by omega)]
    have hd : row.drop j = row[j] :: row.drop (j + 1) := List.drop_eq_getElem_cons (by omega)
    rw [hd, List.all_cons] at h
    cases x3 with
    | true =>
      simp only [if_true, on_f, Option.bind_some]
      refine Check_l1 R l x18 x19 x20 row hs v d (j + 1) _ (by omega) ?_
      have hg : rd row (j : Int) = row[j] := by rw [rd_at]; simp [show j < row.length by omega]
      rw [hg]
      simpa using h
    | false =>
      simp only [Bool.false_eq_true, if_false]
      refine Check_l1 R l x18 x19 x20 row hs v d (j + 1) _ (by omega) ?_
      simpa using h

theorem Check_l0 (R : Int) (l : List (List Int)) (hs : Small l) : ∀ (d j : Nat) (x3 : Bool), j + d = l.length →
    Evt (fun k => dapple_Check.l0 k x3 l (l.length : Int) (j : Int) R l) (if x3 && (l.drop j).all (rowB R) then 0 else 70)
  | 0, j, x3, hj => by
    refine Evt.succ ?_
    simp only [dapple_Check.l0]
    repeat (first | (refine Evt.pos (by omega) ?_) | (refine Evt.neg (by omega) ?_))
    have : l.drop j = [] := List.drop_eq_nil_of_le (by omega)
    rw [this]
    cases x3 <;> exact Evt.pure _
  | d + 1, j, x3, hj => by
    refine Evt.succ ?_
    simp only [dapple_Check.l0]
    repeat (first | (refine Evt.pos (by omega) ?_) | (refine Evt.neg (by omega) ?_))
    have hd : l.drop j = l[j] :: l.drop (j + 1) := List.drop_eq_getElem_cons (by omega)
    have hg : rd_L1 l (j : Int) = l[j] := by simp [rd_L1, show j < l.length by omega]
    have hm : l[j] ∈ l := List.getElem_mem _
    have := hs.1
    rw [hd, List.all_cons, hg]
    have hb : ∀ b : Bool, Evt (fun k => dapple_Check.j2 k b l[j] l (l.length : Int) (j : Int) R l) (if (b && l[j].all fun s => decide (1 ≤ s) && decide (s ≤ 15)) && (l.drop (j + 1)).all (rowB R) then 0 else 70) := fun b => by
      refine Evt.succ ?_
      simp only [dapple_Check.j2]
      refine Check_l1 R l l (l.length : Int) (j : Int) l[j] (hs.2 _ hm) _ l[j].length 0 b (by omega) ?_
      rw [w64 j (by omega)]
      exact Check_l0 R l hs d (j + 1) _ (by omega)
    cases x3 with
    | true => simpa [rowB] using hb (((l[j].length : Int)) == R)
    | false => simpa [rowB] using hb false

theorem Check_f (R : Int) (l : List (List Int)) (hs : Small l) : Evt (fun k => dapple_Check.f k R l) (checkD R l) := by
  unfold dapple_Check.f
  simp only [on_f, Option.bind_some]
  have h0 := fun x3 => Check_l0 R l hs l.length 0 x3 (by omega)
  have h1 : ∀ b : Bool, Evt (fun k => dapple_Check.j0 k b R l) (if b && l.all (rowB R) then 0 else 70) := fun b => by
    refine Evt.succ ?_
    simp only [dapple_Check.j0]
    simpa using h0 b
  refine Evt.ite (fun h => ?_) (fun h => ?_)
  · refine (h1 _).of_eq ?_
    unfold checkD validB
    rw [h, Bool.true_and]
    congr 1
    have e1 : decide ((1 : Int) ≤ (l.length : Int)) = decide (1 ≤ l.length) := by congr 1; simp only [eq_iff_iff]; omega
    have e2 : decide ((l.length : Int) ≤ 6) = decide (l.length ≤ 6) := by congr 1; simp only [eq_iff_iff]; omega
    rw [e1, e2]
  · refine (h1 _).of_eq ?_
    unfold checkD validB
    have h' : (decide (1 ≤ R) && decide (R ≤ 8)) = false := by simpa using h
    rw [h', Bool.false_and, Bool.false_and, Bool.false_and]

/-- what a valid book is -/
structure Valid (R : Int) (l : List (List Int)) : Prop where
  r1 : 1 ≤ R
  r8 : R ≤ 8
  h1 : 1 ≤ l.length
  h6 : l.length ≤ 6
  len : ∀ r ∈ l, (r.length : Int) = R
  set : ∀ r ∈ l, ∀ s ∈ r, 1 ≤ s ∧ s ≤ 15
theorem valid_iff (R : Int) (l : List (List Int)) : validB R l = true ↔ Valid R l := by
  unfold validB rowB
  simp only [Bool.and_eq_true, decide_eq_true_eq, List.all_eq_true, beq_iff_eq]
  constructor
  · rintro ⟨⟨⟨h1, h2⟩, h3, h4⟩, h5⟩
    exact ⟨h1, h2, h3, h4, fun r hr => (h5 r hr).1, fun r hr s hs => (h5 r hr).2 s hs⟩
  · rintro ⟨h1, h2, h3, h4, h5, h6⟩
    exact ⟨⟨⟨h1, h2⟩, h3, h4⟩, fun r hr => ⟨h5 r hr, h6 r hr⟩⟩

theorem small_of {w : World} {A : Option Addr} {n : Nat} {l : List (List Int)} (h : Kd.C (Kd.slice 3 (Kd.int .i64)) w A n l) : Small l := by
  obtain ⟨h1, h2, h3⟩ := h
  refine ⟨by omega, fun r hr => ?_⟩
  obtain ⟨j, hj, rfl⟩ := List.getElem_of_mem hr
  obtain ⟨ad, _, h4⟩ := h3 (by omega)
  obtain ⟨c, _, hK, _⟩ := h4 j _ (List.getElem?_eq_getElem hj)
  obtain ⟨A0, c0, rfl, hl, hC⟩ : ∃ A0 c0, c = [.slice A0 (l[j]).length c0] ∧ (l[j]).length ≤ c0 ∧ Kd.C (Kd.int .i64) w A0 (l[j]).length l[j] := hK
  have := hC.2.1
  omega

theorem calls_Check (R : Int) (A : Option Addr) (c : Nat) (l : List (List Int)) (w : World) (hr : Kd.C (Kd.slice 3 (Kd.int .i64)) w A l.length l) (hc : l.length ≤ c) :
    Calls Tryd.prog 20 #[.agg #[.int .i64 R, .slice A l.length c]] w fun e w' => e = .returned (.int .i64 (checkD R l)) ∧ Below w.heap.size w w' := by
  obtain ⟨k, hk⟩ := (Check_f R l (small_of hr)).get
  exact dapple_Check.calls k R A c l _ w hr hc hk

def horseB (l : List (List Int)) (n : Int) : Bool := decide (0 ≤ n) && decide (n < l.length)
theorem calls_isHorse (R : Int) (A : Option Addr) (c : Nat) (l : List (List Int)) (n : Int) (w : World) (hr : Kd.C (Kd.slice 3 (Kd.int .i64)) w A l.length l) (hc : l.length ≤ c) :
    Calls Tryd.prog 81 #[.agg #[.int .i64 R, .slice A l.length c], .int .i64 n] w fun e w' => e = .returned (.bool (horseB l n)) ∧ Below w.heap.size w w' := by
  refine dapple_isHorse.calls R A c l n _ w hr hc ?_
  unfold dapple_isHorse.f
  rw [on_f]
  have := (small_of hr).1
  have hw : wrap64 ((l.length : Int) - 1) = (l.length : Int) - 1 := by unfold wrap64; omega
  rw [hw]
  simp only [Option.bind_some, horseB]
  congr 2
  simp only [decide_eq_decide]; omega
end Go.Proofs.YtdllacjkacmghaaDoorD

namespace Go.Proofs.YtdllacjkacmghaaDoorD
open Go.RowKit Go.Proofs.YtdllacjkacmghaaDoorW.PrintWords Go.Proofs.YtdllacjkacmghaaDoorW.PrintLast Go.Proofs.YtdllacjkacmghaaDoorW.PrintMore Go.Proofs.YtdllacjkacmghaaDoorH
set_option linter.unusedVariables false
set_option linter.unusedSimpArgs false

theorem Valid.rows8 {R : Int} {l : List (List Int)} (h : Valid R l) : Rows8 l := fun r hr => by
  have h1 := h.len r hr
  have h2 := h.r1
  have h3 : 0 < r.length := by omega
  have h4 := (h.set r hr r[0] (List.getElem_mem h3)).1
  have : el r 0 = r[0] := by simp [el, h3]
  omega
theorem Valid.nat {R : Int} {l : List (List Int)} (h : Valid R l) : ∃ n : Nat, R = n ∧ n ≤ 8 ∧ 1 ≤ n := ⟨R.toNat, by have := h.r1; omega, by have := h.r8; omega, by have := h.r1; omega⟩

theorem calls_opened' (R : Nat) (A : Option Addr) (c : Nat) (l : List (List Int)) (hV : Valid R l) (w : World) (hr : Kd.C (Kd.slice 3 (Kd.int .i64)) w A l.length l) (hc : l.length ≤ c) (hG : Glob w) :
    Calls Tryd.prog 66 #[.agg #[.int .i64 R, .slice A l.length c]] w fun e w' => ∃ RA rc m, e = .returned (.agg #[.int .i64 R, .slice A l.length c, .slice RA l.length rc, .map (some m)]) ∧ Bk R RA m l w' ∧ l.length ≤ rc ∧ w.heap.size ≤ m ∧ (∀ ad, RA = some ad → w.heap.size ≤ ad.block) ∧ Below w.heap.size w w' := by
  refine (calls_opened R A c l w hr hc (fun r hr => by have := hV.len r hr; have := hV.r8; omega) hV.h6 hG).mono ?_
  rintro e w' ⟨v, m, rfl, hR, hM, hm, hb⟩
  obtain ⟨A', c', rfl, hc', hC⟩ := Kd.R_reads hR
  refine ⟨A', c', m, rfl, ⟨hG.below hb, hC, _, hM, ?_⟩, hc', hm, fun ad he => Kd.R_base hR ad.block (by rw [he]; rfl), hb⟩
  intro i j k v hv
  simp only at hv
  split at hv
  · rename_i he
    simp only [List.cons.injEq] at he
    omega
  · cases hv

/-- the first pair of which something is so -/
def firstAt (R : Nat) (rows : List (List Int)) (what i k : Nat) : Option (Nat × Nat) := ((List.range' k (rows.length - k)).find? fun k => sameB R rows i k what).map fun k => (i, k)
def firstFrom (R : Nat) (rows : List (List Int)) (what i : Nat) : Option (Nat × Nat) := (List.range' i (rows.length - i)).findSome? fun i => firstAt R rows what i (i + 1)
theorem firstAt_stop {R : Nat} {rows : List (List Int)} {what i k : Nat} (h : ¬ k < rows.length) : firstAt R rows what i k = none := by
  unfold firstAt; rw [show rows.length - k = 0 by omega]; rfl
theorem firstAt_step {R : Nat} {rows : List (List Int)} {what i k : Nat} (h : k < rows.length) : firstAt R rows what i k = if sameB R rows i k what then some (i, k) else firstAt R rows what i (k + 1) := by
  unfold firstAt
  rw [show rows.length - k = (rows.length - (k + 1)) + 1 by omega, List.range'_succ, List.find?_cons]
  cases sameB R rows i k what <;> simp
theorem firstFrom_stop {R : Nat} {rows : List (List Int)} {what i : Nat} (h : ¬ i < rows.length) : firstFrom R rows what i = none := by
  unfold firstFrom; rw [show rows.length - i = 0 by omega]; rfl
theorem firstFrom_step {R : Nat} {rows : List (List Int)} {what i : Nat} (h : i < rows.length) : firstFrom R rows what i = (firstAt R rows what i (i + 1)).or (firstFrom R rows what (i + 1)) := by
  unfold firstFrom
  rw [show rows.length - i = (rows.length - (i + 1)) + 1 by omega, List.range'_succ, List.findSome?_cons]
  cases firstAt R rows what i (i + 1) <;> simp

def firstD (R : Int) (l : List (List Int)) (what : Nat) : Int × Int × Int :=
  if validB R l then (match firstFrom R.toNat l what 0 with | some (i, k) => ((i : Int), (k : Int), 0) | none => (0, 0, 4)) else (0, 0, 70)

theorem grown_Below {w w1 w2 : World} {m : Nat} (hb : Below w.heap.size w w1) (hm : w.heap.size ≤ m) (hg : w1.grownBy w2 (some m)) : Below w.heap.size w w2 :=
  hb.grown hg (below_size hb) (fun k e => by cases e; exact hm)

set_option maxRecDepth 100000 in
set_option maxHeartbeats 1000000 in
theorem calls_first (R : Int) (A : Option Addr) (c : Nat) (l : List (List Int)) (what : Nat) (h2 : what < 2) (w : World) (hr : Kd.C (Kd.slice 3 (Kd.int .i64)) w A l.length l) (hc : l.length ≤ c) (hG : Glob w) :
    Calls Tryd.prog 75 #[.agg #[.int .i64 R, .slice A l.length c], .int .i64 what] w fun e w' =>
      e = .returned (.tuple #[.int .i64 (firstD R l what).1, .int .i64 (firstD R l what).2.1, .int .i64 (firstD R l what).2.2]) ∧ Below w.heap.size w w' := by
  have hv := valid_iff R l
  have HR := Lib.hid hr; clear hr
  have HG := Lib.hid hG; clear hG
  have hX0 := blk_new w (.cells #[.int .i64 R, .slice A l.length c] 24)
  by_cases hval : validB R l = true
  · have hck : checkD R l = 0 := by simp [checkD, hval]
    have hV := hv.1 hval
    obtain ⟨n, rfl, hn8, hn1⟩ := hV.nat
    have hn0 : ((n : Int)).toNat = n := by simp
    have hfd : firstD (n : Int) l what = (match firstFrom n l what 0 with | some (i, k) => ((i : Int), (k : Int), 0) | none => (0, 0, 4)) := by simp [firstD, hval]
    have HFD := Lib.hid hfd; clear hfd
    have HV := Lib.hid hV; clear hV hv
    go_enter Tryd.func75, Tryd.ntmps75
    go_wp2_with (first | (go_at_call 20; refine (calls_Check n A c l _ (Kd.C_below HR.out (below_alloc (Below.refl _ _) _)) hc).mono ?_; rintro e w1 ⟨he, hb1⟩; rw [hck] at he; subst he; have HX1 := Lib.hid (blk_below hX0 hb1); have HB1 := Lib.hid ((below_alloc (Below.refl _ _) _ : Below w.heap.size w _).trans (hb1.mono (by simp))); clear hb1 hX0; have c0 : w1.cell? ⟨w.heap.size, 0, none⟩ = some (.int .i64 n) := blk_cell HX1.out 0; have c1 : w1.cell? ⟨w.heap.size, 1, none⟩ = some (.slice A l.length c) := blk_cell HX1.out 1) | (go_at_call 66; refine (calls_opened' n A c l HV.out _ (Kd.C_below HR.out HB1.out) hc (HG.out.below HB1.out)).mono ?_; rintro e w2 ⟨RA, rc, m, rfl, hBk, hrc, hm, _, hb2⟩))
    have hmw : w.heap.size ≤ m := Nat.le_trans (below_size HB1.out) hm
    have hB2 : Below w.heap.size w w2 := HB1.out.trans (hb2.mono (below_size HB1.out))
    have hsz : w.heap.size ≤ w2.heap.size := below_size hB2
    have HX := Lib.hid (blk_new w2 (.cells #[.int .i64 n, .slice A l.length c, .slice RA l.length rc, .map (some m)] 72))
    have HB := Lib.hid (hBk.alloc (.cells #[.int .i64 n, .slice A l.length c, .slice RA l.length rc, .map (some m)] 72))
    have HW := Lib.hid (hB2.alloc hsz (.cells #[.int .i64 n, .slice A l.length c, .slice RA l.length rc, .map (some m)] 72))
    have HMW := Lib.hid hmw
    have HSZ := Lib.hid hsz
    clear hBk hB2 hb2 hsz hmw c0 c1 HX1 HB1 HR HG hm
    have h8 := HV.out.rows8
    have h6 := HV.out.h6
    have H8 := Lib.hid h8; clear h8
    go_loopw [21] (fun v wr => ∃ i : Nat, i ≤ l.length ∧ v = .int .i64 i ∧ Hid (firstFrom n l what 0 = firstFrom n l what i) ∧ Hid (wr.heap[w2.heap.size]? = some (.cells #[.int .i64 n, .slice A l.length c, .slice RA l.length rc, .map (some m)] 72 (0, 0))) ∧ Hid (Bk n RA m l wr) ∧ Hid (Below w.heap.size w wr)) (fun v _ => l.length - (intOf v).toNat)
    case atStart => exact ⟨0, Nat.zero_le _, rfl, Lib.hid rfl, HX, HB, HW⟩
    case round =>
      clear HX HB HW
      obtain ⟨i, hi, rfl, HF, HX, HB, HW⟩ := hrel
      by_cases hlt : i < l.length
      · obtain ⟨wo, rfl⟩ : ∃ wo : World, wo = wr := ⟨_, rfl⟩
        go_wp2_with fail
        have hstep := firstFrom_step (R := n) (what := what) hlt
        have HS := Lib.hid hstep; clear hstep
        go_loopw [10] (fun v wi => ∃ k : Nat, k ≤ l.length ∧ v = .int .i64 k ∧ Hid (firstFrom n l what 0 = (firstAt n l what i k).or (firstFrom n l what (i + 1))) ∧ Hid (wi.heap[w2.heap.size]? = some (.cells #[.int .i64 n, .slice A l.length c, .slice RA l.length rc, .map (some m)] 72 (0, 0))) ∧ Hid (Bk n RA m l wi) ∧ Hid (Below w.heap.size w wi)) (fun v _ => l.length - (intOf v).toNat)
        case atStart => exact ⟨i + 1, by omega, by go_num, Lib.hid (HF.out.trans HS.out), HX, HB, HW⟩
        case round =>
          clear HX HB HW
          obtain ⟨k, hk, rfl, HF, HX, HB, HW⟩ := hrel
          have c0 : wr.cell? ⟨w2.heap.size, 0, none⟩ = some (.int .i64 n) := blk_cell HX.out 0
          have c1 : wr.cell? ⟨w2.heap.size, 1, none⟩ = some (.slice A l.length c) := blk_cell HX.out 1
          have c2 : wr.cell? ⟨w2.heap.size, 2, none⟩ = some (.slice RA l.length rc) := blk_cell HX.out 2
          have c3 : wr.cell? ⟨w2.heap.size, 3, none⟩ = some (.map (some m)) := blk_cell HX.out 3
          by_cases hlt2 : k < l.length
          · have hst := firstAt_step (R := n) (what := what) (i := i) hlt2
            by_cases hsb : sameB n l i k what = true
            · go_wp2_with (go_at_call 64; refine (calls_same' n hn8 A l.length c RA rc m l i k what hlt hlt2 h2 _ HB.out hrc H8.out).mono ?_; rintro e w3 ⟨he, hb3, hg3⟩; rw [hsb] at he; subst he)
              have hff := HF.out
              rw [hst, hsb, if_pos rfl, Option.some_or] at hff
              have hfd := HFD.out
              rw [hff] at hfd
              rw [hfd]
              exact bodyPost_ret (results_tmp3 rfl _ _ _) rfl ⟨rfl, grown_Below HW.out HMW.out hg3⟩
            · have hsb : sameB n l i k what = false := by simpa using hsb
              go_wp2_with (go_at_call 64; refine (calls_same' n hn8 A l.length c RA rc m l i k what hlt hlt2 h2 _ HB.out hrc H8.out).mono ?_; rintro e w3 ⟨he, hb3, hg3⟩; rw [hsb] at he; subst he)
              have HX3 := Lib.hid (blk_grownM HX.out HB.out.is hg3)
              have HB3 := Lib.hid hb3
              have HW3 := Lib.hid (grown_Below HW.out HMW.out hg3)
              go_roundw
              case rel => exact ⟨k + 1, by omega, by go_num, Lib.hid (by have hff := HF.out; rw [hst, hsb] at hff; simpa using hff), HX3, HB3, HW3⟩
              case measure => simp [intOf]; omega
          · obtain rfl : k = l.length := by omega
            go_wp2_with fail
            go_roundw
            case rel => exact ⟨i + 1, by omega, by go_num, Lib.hid (by have hff := HF.out; rw [firstAt_stop (by omega), Option.none_or] at hff; exact hff), HX, HB, HW⟩
            case measure => simp [intOf]; omega
      · obtain rfl : i = l.length := by omega
        go_wp2_with fail
        have hfd := HFD.out
        rw [HF.out, firstFrom_stop (by omega)] at hfd
        rw [hfd]
        exact bodyPost_ret (results_tmp3 rfl _ _ _) rfl ⟨rfl, HW.out⟩
  · have hck : checkD R l = 70 := by simp [checkD, hval]
    have hfd : firstD R l what = (0, 0, 70) := by simp [firstD, hval]
    rw [hfd]
    go_enter Tryd.func75, Tryd.ntmps75
    go_wp2_with (first | (go_at_call 20; refine (calls_Check R A c l _ (Kd.C_below HR.out (below_alloc (Below.refl _ _) _)) hc).mono ?_; rintro e w1 ⟨he, hb1⟩; rw [hck] at he; subst he) | fail)
    exact bodyPost_ret (results_tmp3 rfl _ _ _) rfl ⟨rfl, (below_alloc (Below.refl _ _) _).trans (hb1.mono (by simp))⟩
end Go.Proofs.YtdllacjkacmghaaDoorD

namespace Go.Proofs.YtdllacjkacmghaaDoorD
open Go.RowKit Go.Proofs.YtdllacjkacmghaaDoorW.PrintWords Go.Proofs.YtdllacjkacmghaaDoorW.PrintLast Go.Proofs.YtdllacjkacmghaaDoorW.PrintMore Go.Proofs.YtdllacjkacmghaaDoorH
set_option linter.unusedVariables false
set_option linter.unusedSimpArgs false

theorem results_cell_row_tmp {P : Program} {fn : Func} {p u : Tmp} {ty : TypeId} (h : fn.results = #[.cell p ty, .tmp u]) (tmps : Array Value) (w : World) (g : Nat) (t : TypeId) (cs : Array Value) (fr : Nat × Nat) (d : TypeDesc)
    (hp : tmps.getD p undef = .pointer (some ⟨g, 0, none⟩)) (hg : w.heap[g]? = some (.cells cs t fr))
    (hu : P.underlying ty = some d) (hd : (match d with | .struct _ | .array _ _ => true | _ => false) = true) (hi : (P.info? ty).map (·.size) = some cs.size) :
    (results fn tmps).run P w = .ok (.tuple #[.agg cs, tmps.getD u undef]) w := by
  have hp' : tmps[p]?.getD undef = .pointer (some ⟨g, 0, none⟩) := by simpa using hp
  simp [results, h, hp', asAddr, run_loadVar_row w g t ty cs fr d hg hu hd hi]

theorem kRow_setRow {w : World} {g : Nat} {A : Option Addr} {n : Nat} {l : List (List Int)} (h : kRow.C w A n l) (hne : ∀ ad, A = some ad → ad.block ≠ g) (cs : Array Value) : kRow.C (w.setRow g cs) A n l := by
  obtain ⟨hl, hc, hd⟩ := h
  refine ⟨hl, hc, fun h0 => ?_⟩
  obtain ⟨ad, e, h1⟩ := hd h0
  refine ⟨ad, e, fun j x hx => ?_⟩
  obtain ⟨c, h2, h3, h4⟩ := h1 j x hx
  refine ⟨c, h2, h3, fun i u hi => ?_⟩
  have h5 := h4 i u hi
  have h6 : (w.setRow g cs).heap[(ad.add (j * kRow.sz + i)).block]? = w.heap[(ad.add (j * kRow.sz + i)).block]? := setRow_other _ _ _ _ (by have := hne ad e; unfold Addr.add; first | (split <;> exact this) | simpa using this)
  unfold World.cell? at h5 ⊢
  rw [h6]; exact h5

theorem calls_Clash (R : Int) (A : Option Addr) (c : Nat) (l : List (List Int)) (w : World) (hr : Kd.C (Kd.slice 3 (Kd.int .i64)) w A l.length l) (hc : l.length ≤ c) (hG : Glob w) :
    Calls Tryd.prog 44 #[.agg #[.int .i64 R, .slice A l.length c]] w fun e w' =>
      e = .returned (.tuple #[.int .i64 (firstD R l 0).1, .int .i64 (firstD R l 0).2.1, .int .i64 (firstD R l 0).2.2]) ∧ Below w.heap.size w w' := by
  have hX := blk_new w (.cells #[.int .i64 R, .slice A l.length c] 24)
  have hb : Below w.heap.size w (w.alloc (.cells #[.int .i64 R, .slice A l.length c] 24)) := below_alloc (Below.refl _ _) _
  go_enter Tryd.func44, Tryd.ntmps44
  go_wp2_with (go_at_call 75; refine (calls_first R A c l 0 (by omega) _ (Kd.C_below hr hb) hc (hG.below hb)).mono ?_; rintro e w1 ⟨rfl, hb1⟩)
  exact bodyPost_ret (results_tmp3 rfl _ _ _) rfl ⟨rfl, hb.trans (hb1.mono (by simp))⟩
/-- what comes of asking for a book and two horses -/
def askedD (R : Int) (l : List (List Int)) (one other : Int) : Int := if validB R l then (if horseB l one && horseB l other && one != other then 0 else 71) else 70

set_option maxRecDepth 100000 in
set_option maxHeartbeats 1000000 in
theorem calls_asked (R : Int) (A : Option Addr) (c : Nat) (l : List (List Int)) (one other : Int) (w : World) (hr : Kd.C (Kd.slice 3 (Kd.int .i64)) w A l.length l) (hc : l.length ≤ c) (hG : Glob w) :
    Calls Tryd.prog 59 #[.agg #[.int .i64 R, .slice A l.length c], .int .i64 one, .int .i64 other] w fun e w' =>
      Below w.heap.size w w' ∧ ((askedD R l one other = 0 ∧ Valid R l ∧ horseB l one = true ∧ horseB l other = true ∧ ∃ RA rc m, e = .returned (.tuple #[.agg #[.int .i64 R, .slice A l.length c, .slice RA l.length rc, .map (some m)], .int .i64 0]) ∧ Bk R.toNat RA m l w' ∧ l.length ≤ rc ∧ w.heap.size ≤ m) ∨
        (askedD R l one other ≠ 0 ∧ e = .returned (.tuple #[.agg #[.int .i64 0, .slice none 0 0, .slice none 0 0, .map none], .int .i64 (askedD R l one other)]))) := by
  have hv := valid_iff R l
  have HR := Lib.hid hr; clear hr
  have HG := Lib.hid hG; clear hG
  by_cases hval : validB R l = true
  · have hck : checkD R l = 0 := by simp [checkD, hval]
    have hV := hv.1 hval
    obtain ⟨n, rfl, hn8, hn1⟩ := hV.nat
    have hn0 : ((n : Int)).toNat = n := by simp
    have had : askedD (n : Int) l one other = (if horseB l one && horseB l other && one != other then 0 else 71) := by simp [askedD, hval]
    have HAD := Lib.hid had; clear had
    have HV := Lib.hid hV; clear hV hv
    obtain ⟨b1, hb1⟩ : ∃ b, horseB l one = b := ⟨_, rfl⟩
    obtain ⟨b2, hb2⟩ : ∃ b, horseB l other = b := ⟨_, rfl⟩
    have hX0 := blk_alloc (blk_new w (.cells #[.int .i64 n, .slice A l.length c] 24)) (.cells #[.int .i64 0, .slice none 0 0, .slice none 0 0, .map none] 72)
    have hB0 : Below w.heap.size w ((w.alloc (.cells #[.int .i64 n, .slice A l.length c] 24)).alloc (.cells #[.int .i64 0, .slice none 0 0, .slice none 0 0, .map none] 72)) := below_alloc (below_alloc (Below.refl _ _) _) _
    have HX := Lib.hid hX0; have HB := Lib.hid hB0
    have HY := Lib.hid (blk_new (w.alloc (.cells #[.int .i64 n, .slice A l.length c] 24)) (.cells #[.int .i64 0, .slice none 0 0, .slice none 0 0, .map none] 72))
    have hsz : (w.alloc (.cells #[.int .i64 n, .slice A l.length c] 24)).heap.size = w.heap.size + 1 := by simp
    rw [hsz] at HY
    clear hX0 hB0 hsz
    cases b1 with
    | false =>
      have HAD := Lib.hid (HAD.out.trans (show _ = (71 : Int) by rw [hb1]; rfl))
      go_enter Tryd.func59, Tryd.ntmps59
      go_wp2_with (first | (go_at_call 20; refine (calls_Check n A c l _ (Kd.C_below HR.out HB.out) hc).mono ?_; rintro e w1 ⟨he, hb⟩; rw [hck] at he; subst he; have HX := Lib.hid (blk_below HX.out hb); have HY := Lib.hid (blk_below HY.out hb); have HB := Lib.hid (HB.out.trans (hb.mono (below_size HB.out))); clear hb; have c0 : w1.cell? ⟨w.heap.size, 0, none⟩ = some (.int .i64 n) := blk_cell HX.out 0; have c1 : w1.cell? ⟨w.heap.size, 1, none⟩ = some (.slice A l.length c) := blk_cell HX.out 1) | (go_at_call 81; refine (calls_isHorse n A c l _ _ (Kd.C_below HR.out HB.out) hc).mono ?_; rintro e w2 ⟨he, hb⟩; (first | rw [hb1] at he | rw [hb2] at he); subst he; have HX := Lib.hid (blk_below HX.out hb); have HY := Lib.hid (blk_below HY.out hb); have HB := Lib.hid (HB.out.trans (hb.mono (below_size HB.out))); clear hb; have c0 : w2.cell? ⟨w.heap.size, 0, none⟩ = some (.int .i64 n) := blk_cell HX.out 0; have c1 : w2.cell? ⟨w.heap.size, 1, none⟩ = some (.slice A l.length c) := blk_cell HX.out 1) | ((with_reducible refine gate_store (t := 72) (p := 6) rfl ?_); refine wpList_store_row rfl 72 _ _ rfl (w.heap.size + 1) _ rfl rfl 72 _ HY.out (by kernel_rfl) rfl (by simp [Value.oneCell']) ?_))
      have HY2 := setRow_heap w2 (w.heap.size + 1) _ #[.int .i64 0, .slice none 0 0, .slice none 0 0, .map none] 72 _ HY.out
      refine bodyPost_ret (results_cell_row_tmp rfl _ _ (w.heap.size + 1) 72 _ _ _ rfl HY2 Tryd.underlying72 rfl (by kernel_rfl)) rfl ?_
      exact ⟨below_setRow HB.out (by omega) _, .inr ⟨by rw [HAD.out]; decide, by rw [HAD.out]; rfl⟩⟩
    | true =>
    cases b2 with
    | false =>
      have HAD := Lib.hid (HAD.out.trans (show _ = (71 : Int) by rw [hb1, hb2]; rfl))
      go_enter Tryd.func59, Tryd.ntmps59
      go_wp2_with (first | (go_at_call 20; refine (calls_Check n A c l _ (Kd.C_below HR.out HB.out) hc).mono ?_; rintro e w1 ⟨he, hb⟩; rw [hck] at he; subst he; have HX := Lib.hid (blk_below HX.out hb); have HY := Lib.hid (blk_below HY.out hb); have HB := Lib.hid (HB.out.trans (hb.mono (below_size HB.out))); clear hb; have c0 : w1.cell? ⟨w.heap.size, 0, none⟩ = some (.int .i64 n) := blk_cell HX.out 0; have c1 : w1.cell? ⟨w.heap.size, 1, none⟩ = some (.slice A l.length c) := blk_cell HX.out 1) | (go_at_call 81; refine (calls_isHorse n A c l _ _ (Kd.C_below HR.out HB.out) hc).mono ?_; rintro e w2 ⟨he, hb⟩; (first | rw [hb1] at he | rw [hb2] at he); subst he; have HX := Lib.hid (blk_below HX.out hb); have HY := Lib.hid (blk_below HY.out hb); have HB := Lib.hid (HB.out.trans (hb.mono (below_size HB.out))); clear hb; have c0 : w2.cell? ⟨w.heap.size, 0, none⟩ = some (.int .i64 n) := blk_cell HX.out 0; have c1 : w2.cell? ⟨w.heap.size, 1, none⟩ = some (.slice A l.length c) := blk_cell HX.out 1) | ((with_reducible refine gate_store (t := 72) (p := 6) rfl ?_); refine wpList_store_row rfl 72 _ _ rfl (w.heap.size + 1) _ rfl rfl 72 _ HY.out (by kernel_rfl) rfl (by simp [Value.oneCell']) ?_))
      have HY2 := setRow_heap w2 (w.heap.size + 1) _ #[.int .i64 0, .slice none 0 0, .slice none 0 0, .map none] 72 _ HY.out
      refine bodyPost_ret (results_cell_row_tmp rfl _ _ (w.heap.size + 1) 72 _ _ _ rfl HY2 Tryd.underlying72 rfl (by kernel_rfl)) rfl ?_
      exact ⟨below_setRow HB.out (by omega) _, .inr ⟨by rw [HAD.out]; decide, by rw [HAD.out]; rfl⟩⟩
    | true =>
    by_cases hoo : one = other
    · have hob : (one == other) = true := by simpa using hoo
      have HAD := Lib.hid (HAD.out.trans (show _ = (71 : Int) by simp [hoo]))
      go_enter Tryd.func59, Tryd.ntmps59
      go_wp2_with (first | (go_at_call 20; refine (calls_Check n A c l _ (Kd.C_below HR.out HB.out) hc).mono ?_; rintro e w1 ⟨he, hb⟩; rw [hck] at he; subst he; have HX := Lib.hid (blk_below HX.out hb); have HY := Lib.hid (blk_below HY.out hb); have HB := Lib.hid (HB.out.trans (hb.mono (below_size HB.out))); clear hb; have c0 : w1.cell? ⟨w.heap.size, 0, none⟩ = some (.int .i64 n) := blk_cell HX.out 0; have c1 : w1.cell? ⟨w.heap.size, 1, none⟩ = some (.slice A l.length c) := blk_cell HX.out 1) | (go_at_call 81; refine (calls_isHorse n A c l _ _ (Kd.C_below HR.out HB.out) hc).mono ?_; rintro e w2 ⟨he, hb⟩; (first | rw [hb1] at he | rw [hb2] at he); subst he; have HX := Lib.hid (blk_below HX.out hb); have HY := Lib.hid (blk_below HY.out hb); have HB := Lib.hid (HB.out.trans (hb.mono (below_size HB.out))); clear hb; have c0 : w2.cell? ⟨w.heap.size, 0, none⟩ = some (.int .i64 n) := blk_cell HX.out 0; have c1 : w2.cell? ⟨w.heap.size, 1, none⟩ = some (.slice A l.length c) := blk_cell HX.out 1) | ((with_reducible refine gate_store (t := 72) (p := 6) rfl ?_); refine wpList_store_row rfl 72 _ _ rfl (w.heap.size + 1) _ rfl rfl 72 _ HY.out (by kernel_rfl) rfl (by simp [Value.oneCell']) ?_))
      have HY2 := setRow_heap w2 (w.heap.size + 1) _ #[.int .i64 0, .slice none 0 0, .slice none 0 0, .map none] 72 _ HY.out
      refine bodyPost_ret (results_cell_row_tmp rfl _ _ (w.heap.size + 1) 72 _ _ _ rfl HY2 Tryd.underlying72 rfl (by kernel_rfl)) rfl ?_
      exact ⟨below_setRow HB.out (by omega) _, .inr ⟨by rw [HAD.out]; decide, by rw [HAD.out]; rfl⟩⟩
    · have hob : (one == other) = false := by simpa using hoo
      have HAD := Lib.hid (HAD.out.trans (show _ = (0 : Int) by rw [hb1, hb2]; simp [hoo]))
      go_enter Tryd.func59, Tryd.ntmps59
      go_wp2_with (first | (go_at_call 20; refine (calls_Check n A c l _ (Kd.C_below HR.out HB.out) hc).mono ?_; rintro e w1 ⟨he, hb⟩; rw [hck] at he; subst he; have HX := Lib.hid (blk_below HX.out hb); have HY := Lib.hid (blk_below HY.out hb); have HB := Lib.hid (HB.out.trans (hb.mono (below_size HB.out))); clear hb; have c0 : w1.cell? ⟨w.heap.size, 0, none⟩ = some (.int .i64 n) := blk_cell HX.out 0; have c1 : w1.cell? ⟨w.heap.size, 1, none⟩ = some (.slice A l.length c) := blk_cell HX.out 1) | (go_at_call 81; refine (calls_isHorse n A c l _ _ (Kd.C_below HR.out HB.out) hc).mono ?_; rintro e w2 ⟨he, hb⟩; (first | rw [hb1] at he | rw [hb2] at he); subst he; have HX := Lib.hid (blk_below HX.out hb); have HY := Lib.hid (blk_below HY.out hb); have HB := Lib.hid (HB.out.trans (hb.mono (below_size HB.out))); clear hb; have c0 : w2.cell? ⟨w.heap.size, 0, none⟩ = some (.int .i64 n) := blk_cell HX.out 0; have c1 : w2.cell? ⟨w.heap.size, 1, none⟩ = some (.slice A l.length c) := blk_cell HX.out 1) | (go_at_call 66; refine (calls_opened' n A c l HV.out _ (Kd.C_below HR.out HB.out) hc (HG.out.below HB.out)).mono ?_; rintro e w4 ⟨RA, rc, m, rfl, hBk, hrc, hm, hra, hb⟩; have hz2 : w.heap.size + 1 < w2.heap.size := blk_lt HY.out; have HY := Lib.hid (blk_below HY.out hb); have hm := Nat.le_trans (below_size HB.out) hm; have HB := Lib.hid (HB.out.trans (hb.mono (below_size HB.out))); clear hb; have HBK := Lib.hid hBk; clear hBk) | ((with_reducible refine gate_store (t := 72) (p := 6) rfl ?_); refine wpList_store_row rfl 72 _ _ rfl (w.heap.size + 1) _ rfl rfl 72 _ HY.out (by kernel_rfl) rfl (by simp [Value.oneCell']) ?_))
      have HY2 := setRow_heap w4 (w.heap.size + 1) _ #[.int .i64 n, .slice A l.length c, .slice RA l.length rc, .map (some m)] 72 _ HY.out
      refine bodyPost_ret (results_cell_row_tmp rfl _ _ (w.heap.size + 1) 72 _ _ _ rfl HY2 Tryd.underlying72 rfl (by kernel_rfl)) rfl ?_
      have hbf := below_setRow HB.out (by omega : w.heap.size ≤ w.heap.size + 1) #[.int .i64 n, .slice A l.length c, .slice RA l.length rc, .map (some m)]
      refine ⟨hbf, .inl ⟨HAD.out, HV.out, hb1, hb2, RA, rc, m, rfl, ⟨HG.out.below hbf, kRow_setRow HBK.out.row (fun ad e => by have := hra ad e; omega) _, ?_⟩, hrc, by omega⟩⟩
      obtain ⟨f, h3, h4⟩ := HBK.out.map
      exact ⟨f, h3.same (setRow_other _ _ _ _ (by omega)), by rw [hn0]; exact h4⟩
  · have hck : checkD R l = 70 := by simp [checkD, hval]
    have HAD := Lib.hid (show askedD R l one other = (70 : Int) by simp [askedD, hval])
    have hX0 := blk_alloc (blk_new w (.cells #[.int .i64 R, .slice A l.length c] 24)) (.cells #[.int .i64 0, .slice none 0 0, .slice none 0 0, .map none] 72)
    have hB0 : Below w.heap.size w ((w.alloc (.cells #[.int .i64 R, .slice A l.length c] 24)).alloc (.cells #[.int .i64 0, .slice none 0 0, .slice none 0 0, .map none] 72)) := below_alloc (below_alloc (Below.refl _ _) _) _
    have HX := Lib.hid hX0; have HB := Lib.hid hB0
    have HY := Lib.hid (blk_new (w.alloc (.cells #[.int .i64 R, .slice A l.length c] 24)) (.cells #[.int .i64 0, .slice none 0 0, .slice none 0 0, .map none] 72))
    have hsz : (w.alloc (.cells #[.int .i64 R, .slice A l.length c] 24)).heap.size = w.heap.size + 1 := by simp
    rw [hsz] at HY
    clear hX0 hB0 hsz
    go_enter Tryd.func59, Tryd.ntmps59
    go_wp2_with (first | (go_at_call 20; refine (calls_Check R A c l _ (Kd.C_below HR.out HB.out) hc).mono ?_; rintro e w1 ⟨he, hb⟩; rw [hck] at he; subst he; have HX := Lib.hid (blk_below HX.out hb); have HY := Lib.hid (blk_below HY.out hb); have HB := Lib.hid (HB.out.trans (hb.mono (below_size HB.out))); clear hb; have c0 : w1.cell? ⟨w.heap.size, 0, none⟩ = some (.int .i64 R) := blk_cell HX.out 0; have c1 : w1.cell? ⟨w.heap.size, 1, none⟩ = some (.slice A l.length c) := blk_cell HX.out 1) | ((with_reducible refine gate_store (t := 72) (p := 6) rfl ?_); refine wpList_store_row rfl 72 _ _ rfl (w.heap.size + 1) _ rfl rfl 72 _ HY.out (by kernel_rfl) rfl (by simp [Value.oneCell']) ?_))
    have HY2 := setRow_heap w1 (w.heap.size + 1) _ #[.int .i64 0, .slice none 0 0, .slice none 0 0, .map none] 72 _ HY.out
    refine bodyPost_ret (results_cell_row_tmp rfl _ _ (w.heap.size + 1) 72 _ _ _ rfl HY2 Tryd.underlying72 rfl (by kernel_rfl)) rfl ?_
    exact ⟨below_setRow HB.out (by omega) _, .inr ⟨by rw [HAD.out]; decide, by rw [HAD.out]; rfl⟩⟩
end Go.Proofs.YtdllacjkacmghaaDoorD

namespace Go.Proofs.YtdllacjkacmghaaDoorD
open Go.RowKit Go.Proofs.YtdllacjkacmghaaDoorW.PrintWords Go.Proofs.YtdllacjkacmghaaDoorW.PrintLast Go.Proofs.YtdllacjkacmghaaDoorW.PrintMore Go.Proofs.YtdllacjkacmghaaDoorH
set_option linter.unusedVariables false
set_option linter.unusedSimpArgs false

theorem horseB_nat {l : List (List Int)} {n : Int} (h : horseB l n = true) : ∃ k : Nat, n = k ∧ k < l.length := by
  unfold horseB at h
  simp only [Bool.and_eq_true, decide_eq_true_eq] at h
  exact ⟨n.toNat, by omega, by omega⟩
/-- what is told of two horses -/
def kindB (R : Nat) (l : List (List Int)) (one other : Nat) : Nat := (if sameB R l one other 0 then 1 else 0) + (if sameB R l one other 1 then 1 else 0)
def sameD (R : Int) (l : List (List Int)) (one other : Int) : Int × Int := if askedD R l one other = 0 then ((kindB R.toNat l one.toNat other.toNat : Nat), 0) else (0, askedD R l one other)

def kindTo (R : Nat) (l : List (List Int)) (one other : Nat) : Nat → Nat
  | 0 => 0
  | k + 1 => kindTo R l one other k + (if sameB R l one other k then 1 else 0)
theorem kindTo_le (R : Nat) (l : List (List Int)) (one other k : Nat) : kindTo R l one other k ≤ k := by
  induction k with
  | zero => exact Nat.le_refl _
  | succ k ih => unfold kindTo; split <;> omega

set_option maxRecDepth 100000 in
set_option maxHeartbeats 1000000 in
theorem calls_Same (R : Int) (A : Option Addr) (c : Nat) (l : List (List Int)) (one other : Int) (w : World) (hr : Kd.C (Kd.slice 3 (Kd.int .i64)) w A l.length l) (hc : l.length ≤ c) (hG : Glob w) :
    Calls Tryd.prog 22 #[.agg #[.int .i64 R, .slice A l.length c], .int .i64 one, .int .i64 other] w fun e w' =>
      e = .returned (.tuple #[.int .i64 (sameD R l one other).1, .int .i64 (sameD R l one other).2]) ∧ Below w.heap.size w w' := by
  have HR := Lib.hid hr; clear hr
  have HG := Lib.hid hG; clear hG
  have hb0 : Below w.heap.size w (w.alloc (.cells #[.int .i64 R, .slice A l.length c] 24)) := below_alloc (Below.refl _ _) _
  have hbool : askedD R l one other = 0 ∨ askedD R l one other ≠ 0 := Decidable.em _
  rcases hbool with h0 | h0
  · go_enter Tryd.func22, Tryd.ntmps22
    go_wp2_with (go_at_call 59; refine (calls_asked R A c l one other _ (Kd.C_below HR.out hb0) hc (HG.out.below hb0)).mono ?_; rintro e w1 ⟨hb1, ⟨_, hV, h1, h2, RA, rc, m, rfl, hBk, hrc, hm⟩ | ⟨hne, _⟩⟩; rotate_left; exact absurd h0 hne)
    obtain ⟨n, rfl, hn8, hn1⟩ := hV.nat
    obtain ⟨i, rfl, hi⟩ := horseB_nat h1
    obtain ⟨j, rfl, hj⟩ := horseB_nat h2
    have hn0 : ((n : Int)).toNat = n := by simp
    have hsd : sameD (n : Int) l i j = (((kindTo n l i j 2 : Nat) : Int), (0 : Int)) := by simp [sameD, h0, kindB, kindTo]
    rw [hn0] at hBk
    have hB2 : Below w.heap.size w w1 := hb0.trans (hb1.mono (by simp))
    have hsz : w.heap.size ≤ w1.heap.size := below_size hB2
    have hmw : w.heap.size ≤ m := by have : w.heap.size ≤ (w.alloc (.cells #[.int .i64 n, .slice A l.length c] 24)).heap.size := below_size hb0; omega
    have HX := Lib.hid (blk_new w1 (.cells #[.int .i64 n, .slice A l.length c, .slice RA l.length rc, .map (some m)] 72))
    have HB := Lib.hid (hBk.alloc (.cells #[.int .i64 n, .slice A l.length c, .slice RA l.length rc, .map (some m)] 72))
    have HW := Lib.hid (hB2.alloc hsz (.cells #[.int .i64 n, .slice A l.length c, .slice RA l.length rc, .map (some m)] 72))
    have HMW := Lib.hid hmw
    have H8 := Lib.hid hV.rows8
    have HSD := Lib.hid hsd
    clear hBk hB2 hb1 hsz hmw HG hm h0 hb0 hsd h1 h2 hV
    go_cut [10, 11] (fun v u wc => v = .int .i64 0 ∧ u = .func (.func 64) #[.agg #[.int .i64 n, .slice A l.length c, .slice RA l.length rc, .map (some m)]] #[] ∧ Hid (Bk n RA m l wc) ∧ Hid (Below w.heap.size w wc))
    case first =>
      go_region
      all_goals
        go_wp2
        go_meet
        case rel => exact ⟨rfl, rfl, Lib.hid HB.out.drew, Lib.hid HW.out.drew⟩
    case rest =>
    obtain ⟨rfl, rfl, HB, HW⟩ := hcut
    go_wp2_with fail
    go_loopw [10, 25] (fun v u wr => ∃ k : Nat, k ≤ 2 ∧ v = .int .i64 (kindTo n l i j k : Nat) ∧ u = .int .i64 k ∧ Hid (Bk n RA m l wr) ∧ Hid (Below w.heap.size w wr)) (fun _ u _ => 2 - (intOf u).toNat)
    case atStart => exact ⟨0, by omega, rfl, rfl, HB, HW⟩
    case round =>
      clear HB HW
      obtain ⟨k, hk, rfl, rfl, HB, HW⟩ := hrel
      have hkt := kindTo_le n l i j k
      have hks : kindTo n l i j (k + 1) = kindTo n l i j k + (if sameB n l i j k then 1 else 0) := rfl
      by_cases hlt : k < 2
      · by_cases hsb : sameB n l i j k = true
        · go_wp2_with (go_at_call 64; refine (calls_same' n hn8 A l.length c RA rc m l i j k hi hj hlt _ HB.out hrc H8.out).mono ?_; rintro e w3 ⟨he, hb3, hg3⟩; rw [hsb] at he; subst he)
          go_roundw
          case rel => exact ⟨k + 1, by omega, by rw [hks, hsb]; go_num, by go_num, Lib.hid hb3, Lib.hid (grown_Below HW.out HMW.out hg3)⟩
          case measure => simp [intOf]; omega
        · have hsb : sameB n l i j k = false := by simpa using hsb
          go_wp2_with (go_at_call 64; refine (calls_same' n hn8 A l.length c RA rc m l i j k hi hj hlt _ HB.out hrc H8.out).mono ?_; rintro e w3 ⟨he, hb3, hg3⟩; rw [hsb] at he; subst he)
          go_roundw
          case rel => exact ⟨k + 1, by omega, by rw [hks, hsb]; simp, by go_num, Lib.hid hb3, Lib.hid (grown_Below HW.out HMW.out hg3)⟩
          case measure => simp [intOf]; omega
      · obtain rfl : k = 2 := by omega
        go_wp2_with fail
        rw [HSD.out]
        exact bodyPost_ret (results_tmp2 rfl _ _ _) rfl ⟨rfl, HW.out⟩
  · go_enter Tryd.func22, Tryd.ntmps22
    have hcb : (askedD R l one other == 0) = false := by simpa using h0
    have hcb2 : (askedD R l one other != 0) = true := by simpa using h0
    have hsd : sameD R l one other = (0, askedD R l one other) := by simp [sameD, h0]
    rw [hsd]
    go_wp2_with (go_at_call 59; refine (calls_asked R A c l one other _ (Kd.C_below HR.out hb0) hc (HG.out.below hb0)).mono ?_; rintro e w1 ⟨hb1, ⟨he, _⟩ | ⟨_, rfl⟩⟩; exact absurd he h0)
    exact bodyPost_ret (results_tmp2 rfl _ _ _) rfl ⟨rfl, below_alloc (hb0.trans (hb1.mono (by simp))) _⟩
end Go.Proofs.YtdllacjkacmghaaDoorD
