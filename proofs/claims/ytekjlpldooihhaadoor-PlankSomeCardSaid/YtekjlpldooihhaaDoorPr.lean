/- The walks of known and of the reference's Known: a book in which the inch of a knot is known. -/
import Derived.Test.YtekjlpldooihhaaDoorPj
import Derived.Test.YtekjlpldooihhaaDoorWWords
import Derived.Test.YtekjlpldooihhaaDoorPAx0
import Derived.Lib.SliceRun
namespace Go.Proofs.YtekjlpldooihhaaDoorP
open Go.Proofs.YtekjlpldooihhaaDoorSh
open Go.RowKit Go.Proofs.YtekjlpldooihhaaDoorW.PrintWords Go.Proofs.YtekjlpldooihhaaDoorW.PrintLast Go.Proofs.YtekjlpldooihhaaDoorW.PrintMore Go.Proofs.YtekjlpldooihhaaDoorH Go.Proofs.YtekjlpldooihhaaDoorEv Go.Proofs.YtekjlpldooihhaaDoor.PA
set_option linter.unusedVariables false
set_option linter.unusedSimpArgs false
def mostP (P : List S48) (Q : List S50) : List Int × Int := if validB P Q then (ints (mostN P Q), 0) else ([], 10)
theorem mostP_no {P : List S48} {Q : List S50} (h : validB P Q = false) : mostP P Q = ([], 10) := by unfold mostP; rw [h]; rfl
theorem mostP_yes {P : List S48} {Q : List S50} (h : validB P Q = true) : mostP P Q = (ints (mostN P Q), 0) := by unfold mostP; rw [h]; rfl
theorem checkP_no {P : List S48} {Q : List S50} (h : validB P Q = false) : checkP P Q = 10 := by unfold checkP; rw [h]; rfl
theorem checkP_yes {P : List S48} {Q : List S50} (h : validB P Q = true) : checkP P Q = 0 := by unfold checkP; rw [h]; rfl
set_option maxRecDepth 100000 in
theorem calls_Most (PA : Option Addr) (pc : Nat) (P : List S48) (QA : Option Addr) (qc : Nat) (Q : List S50) (w : World) (hP : Kd.C k48 w PA P.length P) (hpc : P.length ≤ pc) (hQ : Kd.C k50 w QA Q.length Q) (hqc : Q.length ≤ qc) (hG : Glob w) :
    Calls Tryd.prog 26 #[.agg #[.slice PA P.length pc, .slice QA Q.length qc]] w fun e w' => ∃ v, e = .returned (.tuple #[v, .int .i64 (mostP P Q).2]) ∧ Kd.V (Kd.int .i64) 3 w' w.heap.size (fun k => w.heap.size ≤ k) v (mostP P Q).1 ∧ Below w.heap.size w w' := by
  obtain ⟨n0, n1, n2⟩ := new1 w (.cells #[.slice PA P.length pc, .slice QA Q.length qc] 25)
  have HP := Lib.hid (Kd.C_below hP n1); have HQ := Lib.hid (Kd.C_below hQ n1); have HG := Lib.hid (hG.below n1); have HX := Lib.hid n0; have HB := Lib.hid n1
  clear n0 n1 n2 hP hQ hG
  cases hv : validB P Q with
  | false =>
    have hck := checkP_no hv
    rw [mostP_no hv]
    go_enter Tryd.func26, Tryd.ntmps26
    go_wp2_with (go_at_call 18; (with_reducible refine (calls_Check PA pc P QA qc Q _ HP.out hpc HQ.out hqc).mono ?_); rintro e w1 ⟨he, hb⟩; rw [hck] at he; subst he; have HB := Lib.hid (HB.out.trans (hb.mono (below_size HB.out))))
    exact bodyPost_ret (results_tmp2 rfl _ _ _) rfl ⟨_, rfl, Kd.V_nil _ _ _ _ _, HB.out⟩
  | true =>
    have hck := checkP_yes hv
    have hok := valid_ok hv
    rw [mostP_yes hv]
    clear hv
    go_enter Tryd.func26, Tryd.ntmps26
    go_wp2_with (first | (go_at_call 18; (with_reducible refine (calls_Check PA pc P QA qc Q _ HP.out hpc HQ.out hqc).mono ?_); rintro e w1 ⟨he, hb⟩; rw [hck] at he; subst he; have HP := Lib.hid (Kd.C_below HP.out hb); have HQ := Lib.hid (Kd.C_below HQ.out hb); have HG := Lib.hid (HG.out.below hb); have HX := Lib.hid (below_far HX.out hb); have HB := Lib.hid (HB.out.trans (hb.mono (below_size HB.out))); obtain ⟨c0, c1⟩ : w1.cell? ⟨w.heap.size, 0, none⟩ = some (.slice PA P.length pc) ∧ w1.cell? ⟨w.heap.size, 1, none⟩ = some (.slice QA Q.length qc) := ⟨blk_cell HX.out 0, blk_cell HX.out 1⟩; clear hb) | (go_at_call 60; (with_reducible refine (calls_opened PA pc QA qc P Q _ HG.out HP.out HQ.out).mono ?_); rintro e w2 ⟨m, rfl, hbk, hm, hb⟩; have hm := Nat.le_trans (below_size HB.out) hm; have HB := Lib.hid (HB.out.trans (hb.mono (below_size HB.out)))) | (go_at_call 79; (with_reducible refine (calls_most PA pc QA qc m P Q hok _ hbk).mono ?_); rintro e w3 ⟨v3, rfl, hv3, hbk3, hg3⟩))
    obtain ⟨A, c, rfl, h6, h7, h8⟩ := hv3
    refine bodyPost_ret (results_tmp2 rfl _ _ _) rfl ⟨_, rfl, ?_, grown_Below HB.out hm hg3⟩
    exact (show VI w.heap.size w3 (.slice A (ints (mostN P Q)).length c) (ints (mostN P Q)) from ⟨A, c, rfl, h6, h7, fun ad e => Nat.le_trans (below_size HB.out) (h8 ad e)⟩).V
def inB (n : Int) (l : Nat) : Bool := decide (0 ≤ n) && decide (n ≤ (l : Int) - 1)
def canP (P : List S48) (Q : List S50) (i p a : Int) : Int × Int :=
  if validB P Q then if inB i P.length && (inB p Q.length && liesB (P.getD i.toNat z48) (Q.getD p.toNat z50) a) then (((canN (P.getD i.toNat z48) (Q.getD p.toNat z50) a.toNat : Nat) : Int), 0) else (0, 11) else (0, 10)
theorem in_nat {n : Int} {l : Nat} (h : inB n l = true) : ∃ k : Nat, n = (k : Int) ∧ k < l := by
  unfold inB at h
  simp only [Bool.and_eq_true, decide_eq_true_eq] at h
  exact ⟨n.toNat, by omega, by omega⟩
set_option maxRecDepth 100000 in
set_option maxHeartbeats 1000000 in
theorem calls_Can (PA : Option Addr) (pc : Nat) (P : List S48) (QA : Option Addr) (qc : Nat) (Q : List S50) (i p a : Int) (w : World) (hP : Kd.C k48 w PA P.length P) (hpc : P.length ≤ pc) (hQ : Kd.C k50 w QA Q.length Q) (hqc : Q.length ≤ qc) (hG : Glob w) :
    Calls Tryd.prog 16 #[.agg #[.slice PA P.length pc, .slice QA Q.length qc], .int .i64 i, .int .i64 p, .int .i64 a] w fun e w' => e = .returned (.tuple #[.int .i64 (canP P Q i p a).1, .int .i64 (canP P Q i p a).2]) ∧ Below w.heap.size w w' := by
  obtain ⟨n0, n1, n2⟩ := new1 w (.cells #[.slice PA P.length pc, .slice QA Q.length qc] 25)
  have HP := Lib.hid (Kd.C_below hP n1); have HQ := Lib.hid (Kd.C_below hQ n1); have HG := Lib.hid (hG.below n1); have HX := Lib.hid n0; have HB := Lib.hid n1
  clear n0 n1 n2 hP hQ hG
  cases hv : validB P Q with
  | false =>
    have hck := checkP_no hv
    rw [show canP P Q i p a = (0, 10) from by unfold canP; rw [hv]; rfl]
    go_enter Tryd.func16, Tryd.ntmps16
    go_wp2_with (go_at_call 18; (with_reducible refine (calls_Check PA pc P QA qc Q _ HP.out hpc HQ.out hqc).mono ?_); rintro e w1 ⟨he, hb⟩; rw [hck] at he; subst he; have HB := Lib.hid (HB.out.trans (hb.mono (below_size HB.out))))
    exact bodyPost_ret (results_tmp2 rfl _ _ _) rfl ⟨rfl, HB.out⟩
  | true =>
    have hck := checkP_yes hv
    have hok := valid_ok hv
    have hcan : canP P Q i p a = if inB i P.length && (inB p Q.length && liesB (P.getD i.toNat z48) (Q.getD p.toNat z50) a) then (((canN (P.getD i.toNat z48) (Q.getD p.toNat z50) a.toNat : Nat) : Int), 0) else (0, 11) := by unfold canP; rw [hv]; rfl
    rw [hcan]
    clear hv hcan
    have hcpl := fun W hPW hQW => calls_isPlank PA pc P QA qc Q i W hPW hpc hQW hqc
    have hcpa := fun W hPW hQW => calls_isPart PA pc P QA qc Q p W hPW hpc hQW hqc
    rw [show (decide (0 ≤ i) && decide (i ≤ (P.length : Int) - 1)) = inB i P.length from rfl] at hcpl
    rw [show (decide (0 ≤ p) && decide (p ≤ (Q.length : Int) - 1)) = inB p Q.length from rfl] at hcpa
    have HCL := Lib.hid hcpl; have HCA := Lib.hid hcpa; clear hcpl hcpa
    obtain ⟨e1, h1⟩ : ∃ e1, inB i P.length = e1 := ⟨_, rfl⟩
    obtain ⟨e2, h2⟩ : ∃ e2, inB p Q.length = e2 := ⟨_, rfl⟩
    rw [h1, h2]
    rw [h1] at HCL
    rw [h2] at HCA
    go_enter Tryd.func16, Tryd.ntmps16
    cases e1 with
    | false =>
      go_wp2_with (first | (go_at_call 18; (with_reducible refine (calls_Check PA pc P QA qc Q _ HP.out hpc HQ.out hqc).mono ?_); rintro e w1 ⟨he, hb⟩; rw [hck] at he; subst he; have HP := Lib.hid (Kd.C_below HP.out hb); have HQ := Lib.hid (Kd.C_below HQ.out hb); have HG := Lib.hid (HG.out.below hb); have HX := Lib.hid (below_far HX.out hb); have HB := Lib.hid (HB.out.trans (hb.mono (below_size HB.out))); obtain ⟨c0, c1⟩ : w1.cell? ⟨w.heap.size, 0, none⟩ = some (.slice PA P.length pc) ∧ w1.cell? ⟨w.heap.size, 1, none⟩ = some (.slice QA Q.length qc) := ⟨blk_cell HX.out 0, blk_cell HX.out 1⟩; clear hb) | (go_at_call 60; (with_reducible refine (calls_opened PA pc QA qc P Q _ HG.out HP.out HQ.out).mono ?_); rintro e w2 ⟨m, rfl, hbk, hm, hb⟩; have hm := Nat.le_trans (below_size HB.out) hm; obtain ⟨n0, n1, n2, n3⟩ := new2 w2 (.cells #[.slice PA P.length pc, .slice QA Q.length qc, .map (some m)] 84) (.cells #[.int .i64 i, .int .i64 p, .int .i64 a] 87); have hxl := blk_lt (below_far HX.out hb); have hxl2 := Nat.lt_succ_of_lt hxl; have HX := Lib.hid (below_far (below_far HX.out hb) n2); have HP := Lib.hid (Kd.C_below (Kd.C_below HP.out hb) n2); have HQ := Lib.hid (Kd.C_below (Kd.C_below HQ.out hb) n2); have HB := Lib.hid (HB.out.trans ((hb.mono (below_size HB.out)).trans (n2.mono (Nat.le_trans (below_size HB.out) (below_size hb))))); have HBK := Lib.hid (hbk.below n2); have HK := Lib.hid n0; have HS := Lib.hid n1; have HMW := Lib.hid hm; clear hb hbk c0 c1 n0 n1 n2 n3 hm; obtain ⟨c0, c1⟩ : ((w2.alloc (.cells #[.slice PA P.length pc, .slice QA Q.length qc, .map (some m)] 84)).alloc (.cells #[.int .i64 i, .int .i64 p, .int .i64 a] 87)).cell? ⟨w.heap.size, 0, none⟩ = some (.slice PA P.length pc) ∧ ((w2.alloc (.cells #[.slice PA P.length pc, .slice QA Q.length qc, .map (some m)] 84)).alloc (.cells #[.int .i64 i, .int .i64 p, .int .i64 a] 87)).cell? ⟨w.heap.size, 1, none⟩ = some (.slice QA Q.length qc) := ⟨blk_cell HX.out 0, blk_cell HX.out 1⟩; obtain ⟨k0, k1, k2⟩ : ((w2.alloc (.cells #[.slice PA P.length pc, .slice QA Q.length qc, .map (some m)] 84)).alloc (.cells #[.int .i64 i, .int .i64 p, .int .i64 a] 87)).cell? ⟨w2.heap.size, 0, none⟩ = some (.slice PA P.length pc) ∧ ((w2.alloc (.cells #[.slice PA P.length pc, .slice QA Q.length qc, .map (some m)] 84)).alloc (.cells #[.int .i64 i, .int .i64 p, .int .i64 a] 87)).cell? ⟨w2.heap.size, 1, none⟩ = some (.slice QA Q.length qc) ∧ ((w2.alloc (.cells #[.slice PA P.length pc, .slice QA Q.length qc, .map (some m)] 84)).alloc (.cells #[.int .i64 i, .int .i64 p, .int .i64 a] 87)).cell? ⟨w2.heap.size, 2, none⟩ = some (.map (some m)) := ⟨blk_cell HK.out 0, blk_cell HK.out 1, blk_cell HK.out 2⟩; obtain ⟨s0, s1, s2⟩ : ((w2.alloc (.cells #[.slice PA P.length pc, .slice QA Q.length qc, .map (some m)] 84)).alloc (.cells #[.int .i64 i, .int .i64 p, .int .i64 a] 87)).cell? ⟨w2.heap.size + 1, 0, none⟩ = some (.int .i64 i) ∧ ((w2.alloc (.cells #[.slice PA P.length pc, .slice QA Q.length qc, .map (some m)] 84)).alloc (.cells #[.int .i64 i, .int .i64 p, .int .i64 a] 87)).cell? ⟨w2.heap.size + 1, 1, none⟩ = some (.int .i64 p) ∧ ((w2.alloc (.cells #[.slice PA P.length pc, .slice QA Q.length qc, .map (some m)] 84)).alloc (.cells #[.int .i64 i, .int .i64 p, .int .i64 a] 87)).cell? ⟨w2.heap.size + 1, 2, none⟩ = some (.int .i64 a) := ⟨blk_cell HS.out 0, blk_cell HS.out 1, blk_cell HS.out 2⟩) | (go_at_call 61; (with_reducible refine (HCL.out _ HP.out HQ.out).mono ?_); rintro e w3 ⟨rfl, hb⟩; have HX := Lib.hid (below_far HX.out hb); have HP := Lib.hid (Kd.C_below HP.out hb); have HQ := Lib.hid (Kd.C_below HQ.out hb); have HB := Lib.hid (HB.out.trans (hb.mono (below_size HB.out))); have HBK := Lib.hid (HBK.out.below hb); have HK := Lib.hid (below_far HK.out hb); have HS := Lib.hid (below_far HS.out hb); clear hb c0 c1 k0 k1 k2 s0 s1 s2; obtain ⟨c0, c1⟩ : w3.cell? ⟨w.heap.size, 0, none⟩ = some (.slice PA P.length pc) ∧ w3.cell? ⟨w.heap.size, 1, none⟩ = some (.slice QA Q.length qc) := ⟨blk_cell HX.out 0, blk_cell HX.out 1⟩; obtain ⟨k0, k1, k2⟩ : w3.cell? ⟨w2.heap.size, 0, none⟩ = some (.slice PA P.length pc) ∧ w3.cell? ⟨w2.heap.size, 1, none⟩ = some (.slice QA Q.length qc) ∧ w3.cell? ⟨w2.heap.size, 2, none⟩ = some (.map (some m)) := ⟨blk_cell HK.out 0, blk_cell HK.out 1, blk_cell HK.out 2⟩; obtain ⟨s0, s1, s2⟩ : w3.cell? ⟨w2.heap.size + 1, 0, none⟩ = some (.int .i64 i) ∧ w3.cell? ⟨w2.heap.size + 1, 1, none⟩ = some (.int .i64 p) ∧ w3.cell? ⟨w2.heap.size + 1, 2, none⟩ = some (.int .i64 a) := ⟨blk_cell HS.out 0, blk_cell HS.out 1, blk_cell HS.out 2⟩))
      exact bodyPost_ret (results_tmp2 rfl _ _ _) rfl ⟨rfl, HB.out⟩
    | true =>
      cases e2 with
      | false =>
        go_wp2_with (first | (go_at_call 18; (with_reducible refine (calls_Check PA pc P QA qc Q _ HP.out hpc HQ.out hqc).mono ?_); rintro e w1 ⟨he, hb⟩; rw [hck] at he; subst he; have HP := Lib.hid (Kd.C_below HP.out hb); have HQ := Lib.hid (Kd.C_below HQ.out hb); have HG := Lib.hid (HG.out.below hb); have HX := Lib.hid (below_far HX.out hb); have HB := Lib.hid (HB.out.trans (hb.mono (below_size HB.out))); obtain ⟨c0, c1⟩ : w1.cell? ⟨w.heap.size, 0, none⟩ = some (.slice PA P.length pc) ∧ w1.cell? ⟨w.heap.size, 1, none⟩ = some (.slice QA Q.length qc) := ⟨blk_cell HX.out 0, blk_cell HX.out 1⟩; clear hb) | (go_at_call 60; (with_reducible refine (calls_opened PA pc QA qc P Q _ HG.out HP.out HQ.out).mono ?_); rintro e w2 ⟨m, rfl, hbk, hm, hb⟩; have hm := Nat.le_trans (below_size HB.out) hm; obtain ⟨n0, n1, n2, n3⟩ := new2 w2 (.cells #[.slice PA P.length pc, .slice QA Q.length qc, .map (some m)] 84) (.cells #[.int .i64 i, .int .i64 p, .int .i64 a] 87); have hxl := blk_lt (below_far HX.out hb); have hxl2 := Nat.lt_succ_of_lt hxl; have HX := Lib.hid (below_far (below_far HX.out hb) n2); have HP := Lib.hid (Kd.C_below (Kd.C_below HP.out hb) n2); have HQ := Lib.hid (Kd.C_below (Kd.C_below HQ.out hb) n2); have HB := Lib.hid (HB.out.trans ((hb.mono (below_size HB.out)).trans (n2.mono (Nat.le_trans (below_size HB.out) (below_size hb))))); have HBK := Lib.hid (hbk.below n2); have HK := Lib.hid n0; have HS := Lib.hid n1; have HMW := Lib.hid hm; clear hb hbk c0 c1 n0 n1 n2 n3 hm; obtain ⟨c0, c1⟩ : ((w2.alloc (.cells #[.slice PA P.length pc, .slice QA Q.length qc, .map (some m)] 84)).alloc (.cells #[.int .i64 i, .int .i64 p, .int .i64 a] 87)).cell? ⟨w.heap.size, 0, none⟩ = some (.slice PA P.length pc) ∧ ((w2.alloc (.cells #[.slice PA P.length pc, .slice QA Q.length qc, .map (some m)] 84)).alloc (.cells #[.int .i64 i, .int .i64 p, .int .i64 a] 87)).cell? ⟨w.heap.size, 1, none⟩ = some (.slice QA Q.length qc) := ⟨blk_cell HX.out 0, blk_cell HX.out 1⟩; obtain ⟨k0, k1, k2⟩ : ((w2.alloc (.cells #[.slice PA P.length pc, .slice QA Q.length qc, .map (some m)] 84)).alloc (.cells #[.int .i64 i, .int .i64 p, .int .i64 a] 87)).cell? ⟨w2.heap.size, 0, none⟩ = some (.slice PA P.length pc) ∧ ((w2.alloc (.cells #[.slice PA P.length pc, .slice QA Q.length qc, .map (some m)] 84)).alloc (.cells #[.int .i64 i, .int .i64 p, .int .i64 a] 87)).cell? ⟨w2.heap.size, 1, none⟩ = some (.slice QA Q.length qc) ∧ ((w2.alloc (.cells #[.slice PA P.length pc, .slice QA Q.length qc, .map (some m)] 84)).alloc (.cells #[.int .i64 i, .int .i64 p, .int .i64 a] 87)).cell? ⟨w2.heap.size, 2, none⟩ = some (.map (some m)) := ⟨blk_cell HK.out 0, blk_cell HK.out 1, blk_cell HK.out 2⟩; obtain ⟨s0, s1, s2⟩ : ((w2.alloc (.cells #[.slice PA P.length pc, .slice QA Q.length qc, .map (some m)] 84)).alloc (.cells #[.int .i64 i, .int .i64 p, .int .i64 a] 87)).cell? ⟨w2.heap.size + 1, 0, none⟩ = some (.int .i64 i) ∧ ((w2.alloc (.cells #[.slice PA P.length pc, .slice QA Q.length qc, .map (some m)] 84)).alloc (.cells #[.int .i64 i, .int .i64 p, .int .i64 a] 87)).cell? ⟨w2.heap.size + 1, 1, none⟩ = some (.int .i64 p) ∧ ((w2.alloc (.cells #[.slice PA P.length pc, .slice QA Q.length qc, .map (some m)] 84)).alloc (.cells #[.int .i64 i, .int .i64 p, .int .i64 a] 87)).cell? ⟨w2.heap.size + 1, 2, none⟩ = some (.int .i64 a) := ⟨blk_cell HS.out 0, blk_cell HS.out 1, blk_cell HS.out 2⟩) | (go_at_call 61; (with_reducible refine (HCL.out _ HP.out HQ.out).mono ?_); rintro e w3 ⟨rfl, hb⟩; have HX := Lib.hid (below_far HX.out hb); have HP := Lib.hid (Kd.C_below HP.out hb); have HQ := Lib.hid (Kd.C_below HQ.out hb); have HB := Lib.hid (HB.out.trans (hb.mono (below_size HB.out))); have HBK := Lib.hid (HBK.out.below hb); have HK := Lib.hid (below_far HK.out hb); have HS := Lib.hid (below_far HS.out hb); clear hb c0 c1 k0 k1 k2 s0 s1 s2; obtain ⟨c0, c1⟩ : w3.cell? ⟨w.heap.size, 0, none⟩ = some (.slice PA P.length pc) ∧ w3.cell? ⟨w.heap.size, 1, none⟩ = some (.slice QA Q.length qc) := ⟨blk_cell HX.out 0, blk_cell HX.out 1⟩; obtain ⟨k0, k1, k2⟩ : w3.cell? ⟨w2.heap.size, 0, none⟩ = some (.slice PA P.length pc) ∧ w3.cell? ⟨w2.heap.size, 1, none⟩ = some (.slice QA Q.length qc) ∧ w3.cell? ⟨w2.heap.size, 2, none⟩ = some (.map (some m)) := ⟨blk_cell HK.out 0, blk_cell HK.out 1, blk_cell HK.out 2⟩; obtain ⟨s0, s1, s2⟩ : w3.cell? ⟨w2.heap.size + 1, 0, none⟩ = some (.int .i64 i) ∧ w3.cell? ⟨w2.heap.size + 1, 1, none⟩ = some (.int .i64 p) ∧ w3.cell? ⟨w2.heap.size + 1, 2, none⟩ = some (.int .i64 a) := ⟨blk_cell HS.out 0, blk_cell HS.out 1, blk_cell HS.out 2⟩) | (go_at_call 62; (with_reducible refine (HCA.out _ HP.out HQ.out).mono ?_); rintro e w5 ⟨rfl, hb⟩; have HX := Lib.hid (below_far HX.out hb); have HP := Lib.hid (Kd.C_below HP.out hb); have HQ := Lib.hid (Kd.C_below HQ.out hb); have HB := Lib.hid (HB.out.trans (hb.mono (below_size HB.out))); have HBK := Lib.hid (HBK.out.below hb); have HK := Lib.hid (below_far HK.out hb); have HS := Lib.hid (below_far HS.out hb); clear hb c0 c1 k0 k1 k2 s0 s1 s2; obtain ⟨c0, c1⟩ : w5.cell? ⟨w.heap.size, 0, none⟩ = some (.slice PA P.length pc) ∧ w5.cell? ⟨w.heap.size, 1, none⟩ = some (.slice QA Q.length qc) := ⟨blk_cell HX.out 0, blk_cell HX.out 1⟩; obtain ⟨k0, k1, k2⟩ : w5.cell? ⟨w2.heap.size, 0, none⟩ = some (.slice PA P.length pc) ∧ w5.cell? ⟨w2.heap.size, 1, none⟩ = some (.slice QA Q.length qc) ∧ w5.cell? ⟨w2.heap.size, 2, none⟩ = some (.map (some m)) := ⟨blk_cell HK.out 0, blk_cell HK.out 1, blk_cell HK.out 2⟩; obtain ⟨s0, s1, s2⟩ : w5.cell? ⟨w2.heap.size + 1, 0, none⟩ = some (.int .i64 i) ∧ w5.cell? ⟨w2.heap.size + 1, 1, none⟩ = some (.int .i64 p) ∧ w5.cell? ⟨w2.heap.size + 1, 2, none⟩ = some (.int .i64 a) := ⟨blk_cell HS.out 0, blk_cell HS.out 1, blk_cell HS.out 2⟩))
        exact bodyPost_ret (results_tmp2 rfl _ _ _) rfl ⟨rfl, HB.out⟩
      | true =>
        obtain ⟨i', rfl, hi⟩ := in_nat h1
        obtain ⟨p', rfl, hp⟩ := in_nat h2
        rw [show ((i' : Nat) : Int).toNat = i' from rfl, show ((p' : Nat) : Int).toNat = p' from rfl]
        have hli := fun m W hPW hQW => calls_lies PA pc QA qc m P Q i' p' a hi hp (hok.sized hi hp) W hPW hQW
        unfold bookV at hli
        obtain ⟨e3, h3⟩ : ∃ e3, liesB (P.getD i' z48) (Q.getD p' z50) a = e3 := ⟨_, rfl⟩
        rw [h3] at hli ⊢
        have HLI := Lib.hid hli; clear hli
        cases e3 with
        | false =>
          go_wp2_with (first | (go_at_call 18; (with_reducible refine (calls_Check PA pc P QA qc Q _ HP.out hpc HQ.out hqc).mono ?_); rintro e w1 ⟨he, hb⟩; rw [hck] at he; subst he; have HP := Lib.hid (Kd.C_below HP.out hb); have HQ := Lib.hid (Kd.C_below HQ.out hb); have HG := Lib.hid (HG.out.below hb); have HX := Lib.hid (below_far HX.out hb); have HB := Lib.hid (HB.out.trans (hb.mono (below_size HB.out))); obtain ⟨c0, c1⟩ : w1.cell? ⟨w.heap.size, 0, none⟩ = some (.slice PA P.length pc) ∧ w1.cell? ⟨w.heap.size, 1, none⟩ = some (.slice QA Q.length qc) := ⟨blk_cell HX.out 0, blk_cell HX.out 1⟩; clear hb) | (go_at_call 60; (with_reducible refine (calls_opened PA pc QA qc P Q _ HG.out HP.out HQ.out).mono ?_); rintro e w2 ⟨m, rfl, hbk, hm, hb⟩; have hm := Nat.le_trans (below_size HB.out) hm; obtain ⟨n0, n1, n2, n3⟩ := new2 w2 (.cells #[.slice PA P.length pc, .slice QA Q.length qc, .map (some m)] 84) (.cells #[.int .i64 i', .int .i64 p', .int .i64 a] 87); have hxl := blk_lt (below_far HX.out hb); have hxl2 := Nat.lt_succ_of_lt hxl; have HX := Lib.hid (below_far (below_far HX.out hb) n2); have HP := Lib.hid (Kd.C_below (Kd.C_below HP.out hb) n2); have HQ := Lib.hid (Kd.C_below (Kd.C_below HQ.out hb) n2); have HB := Lib.hid (HB.out.trans ((hb.mono (below_size HB.out)).trans (n2.mono (Nat.le_trans (below_size HB.out) (below_size hb))))); have HBK := Lib.hid (hbk.below n2); have HK := Lib.hid n0; have HS := Lib.hid n1; have HMW := Lib.hid hm; clear hb hbk c0 c1 n0 n1 n2 n3 hm; obtain ⟨c0, c1⟩ : ((w2.alloc (.cells #[.slice PA P.length pc, .slice QA Q.length qc, .map (some m)] 84)).alloc (.cells #[.int .i64 i', .int .i64 p', .int .i64 a] 87)).cell? ⟨w.heap.size, 0, none⟩ = some (.slice PA P.length pc) ∧ ((w2.alloc (.cells #[.slice PA P.length pc, .slice QA Q.length qc, .map (some m)] 84)).alloc (.cells #[.int .i64 i', .int .i64 p', .int .i64 a] 87)).cell? ⟨w.heap.size, 1, none⟩ = some (.slice QA Q.length qc) := ⟨blk_cell HX.out 0, blk_cell HX.out 1⟩; obtain ⟨k0, k1, k2⟩ : ((w2.alloc (.cells #[.slice PA P.length pc, .slice QA Q.length qc, .map (some m)] 84)).alloc (.cells #[.int .i64 i', .int .i64 p', .int .i64 a] 87)).cell? ⟨w2.heap.size, 0, none⟩ = some (.slice PA P.length pc) ∧ ((w2.alloc (.cells #[.slice PA P.length pc, .slice QA Q.length qc, .map (some m)] 84)).alloc (.cells #[.int .i64 i', .int .i64 p', .int .i64 a] 87)).cell? ⟨w2.heap.size, 1, none⟩ = some (.slice QA Q.length qc) ∧ ((w2.alloc (.cells #[.slice PA P.length pc, .slice QA Q.length qc, .map (some m)] 84)).alloc (.cells #[.int .i64 i', .int .i64 p', .int .i64 a] 87)).cell? ⟨w2.heap.size, 2, none⟩ = some (.map (some m)) := ⟨blk_cell HK.out 0, blk_cell HK.out 1, blk_cell HK.out 2⟩; obtain ⟨s0, s1, s2⟩ : ((w2.alloc (.cells #[.slice PA P.length pc, .slice QA Q.length qc, .map (some m)] 84)).alloc (.cells #[.int .i64 i', .int .i64 p', .int .i64 a] 87)).cell? ⟨w2.heap.size + 1, 0, none⟩ = some (.int .i64 i') ∧ ((w2.alloc (.cells #[.slice PA P.length pc, .slice QA Q.length qc, .map (some m)] 84)).alloc (.cells #[.int .i64 i', .int .i64 p', .int .i64 a] 87)).cell? ⟨w2.heap.size + 1, 1, none⟩ = some (.int .i64 p') ∧ ((w2.alloc (.cells #[.slice PA P.length pc, .slice QA Q.length qc, .map (some m)] 84)).alloc (.cells #[.int .i64 i', .int .i64 p', .int .i64 a] 87)).cell? ⟨w2.heap.size + 1, 2, none⟩ = some (.int .i64 a) := ⟨blk_cell HS.out 0, blk_cell HS.out 1, blk_cell HS.out 2⟩) | (go_at_call 61; (with_reducible refine (HCL.out _ HP.out HQ.out).mono ?_); rintro e w3 ⟨rfl, hb⟩; have HX := Lib.hid (below_far HX.out hb); have HP := Lib.hid (Kd.C_below HP.out hb); have HQ := Lib.hid (Kd.C_below HQ.out hb); have HB := Lib.hid (HB.out.trans (hb.mono (below_size HB.out))); have HBK := Lib.hid (HBK.out.below hb); have HK := Lib.hid (below_far HK.out hb); have HS := Lib.hid (below_far HS.out hb); clear hb c0 c1 k0 k1 k2 s0 s1 s2; obtain ⟨c0, c1⟩ : w3.cell? ⟨w.heap.size, 0, none⟩ = some (.slice PA P.length pc) ∧ w3.cell? ⟨w.heap.size, 1, none⟩ = some (.slice QA Q.length qc) := ⟨blk_cell HX.out 0, blk_cell HX.out 1⟩; obtain ⟨k0, k1, k2⟩ : w3.cell? ⟨w2.heap.size, 0, none⟩ = some (.slice PA P.length pc) ∧ w3.cell? ⟨w2.heap.size, 1, none⟩ = some (.slice QA Q.length qc) ∧ w3.cell? ⟨w2.heap.size, 2, none⟩ = some (.map (some m)) := ⟨blk_cell HK.out 0, blk_cell HK.out 1, blk_cell HK.out 2⟩; obtain ⟨s0, s1, s2⟩ : w3.cell? ⟨w2.heap.size + 1, 0, none⟩ = some (.int .i64 i') ∧ w3.cell? ⟨w2.heap.size + 1, 1, none⟩ = some (.int .i64 p') ∧ w3.cell? ⟨w2.heap.size + 1, 2, none⟩ = some (.int .i64 a) := ⟨blk_cell HS.out 0, blk_cell HS.out 1, blk_cell HS.out 2⟩) | (go_at_call 62; (with_reducible refine (HCA.out _ HP.out HQ.out).mono ?_); rintro e w5 ⟨rfl, hb⟩; have HX := Lib.hid (below_far HX.out hb); have HP := Lib.hid (Kd.C_below HP.out hb); have HQ := Lib.hid (Kd.C_below HQ.out hb); have HB := Lib.hid (HB.out.trans (hb.mono (below_size HB.out))); have HBK := Lib.hid (HBK.out.below hb); have HK := Lib.hid (below_far HK.out hb); have HS := Lib.hid (below_far HS.out hb); clear hb c0 c1 k0 k1 k2 s0 s1 s2; obtain ⟨c0, c1⟩ : w5.cell? ⟨w.heap.size, 0, none⟩ = some (.slice PA P.length pc) ∧ w5.cell? ⟨w.heap.size, 1, none⟩ = some (.slice QA Q.length qc) := ⟨blk_cell HX.out 0, blk_cell HX.out 1⟩; obtain ⟨k0, k1, k2⟩ : w5.cell? ⟨w2.heap.size, 0, none⟩ = some (.slice PA P.length pc) ∧ w5.cell? ⟨w2.heap.size, 1, none⟩ = some (.slice QA Q.length qc) ∧ w5.cell? ⟨w2.heap.size, 2, none⟩ = some (.map (some m)) := ⟨blk_cell HK.out 0, blk_cell HK.out 1, blk_cell HK.out 2⟩; obtain ⟨s0, s1, s2⟩ : w5.cell? ⟨w2.heap.size + 1, 0, none⟩ = some (.int .i64 i') ∧ w5.cell? ⟨w2.heap.size + 1, 1, none⟩ = some (.int .i64 p') ∧ w5.cell? ⟨w2.heap.size + 1, 2, none⟩ = some (.int .i64 a) := ⟨blk_cell HS.out 0, blk_cell HS.out 1, blk_cell HS.out 2⟩) | (go_at_call 63; (with_reducible refine (HLI.out _ _ HP.out HQ.out).mono ?_); rintro e w6 ⟨rfl, hb⟩; have HX := Lib.hid (below_far HX.out hb); have HP := Lib.hid (Kd.C_below HP.out hb); have HQ := Lib.hid (Kd.C_below HQ.out hb); have HB := Lib.hid (HB.out.trans (hb.mono (below_size HB.out))); have HBK := Lib.hid (HBK.out.below hb); have HK := Lib.hid (below_far HK.out hb); have HS := Lib.hid (below_far HS.out hb); clear hb c0 c1 k0 k1 k2 s0 s1 s2; obtain ⟨c0, c1⟩ : w6.cell? ⟨w.heap.size, 0, none⟩ = some (.slice PA P.length pc) ∧ w6.cell? ⟨w.heap.size, 1, none⟩ = some (.slice QA Q.length qc) := ⟨blk_cell HX.out 0, blk_cell HX.out 1⟩; obtain ⟨k0, k1, k2⟩ : w6.cell? ⟨w2.heap.size, 0, none⟩ = some (.slice PA P.length pc) ∧ w6.cell? ⟨w2.heap.size, 1, none⟩ = some (.slice QA Q.length qc) ∧ w6.cell? ⟨w2.heap.size, 2, none⟩ = some (.map (some m)) := ⟨blk_cell HK.out 0, blk_cell HK.out 1, blk_cell HK.out 2⟩; obtain ⟨s0, s1, s2⟩ : w6.cell? ⟨w2.heap.size + 1, 0, none⟩ = some (.int .i64 i') ∧ w6.cell? ⟨w2.heap.size + 1, 1, none⟩ = some (.int .i64 p') ∧ w6.cell? ⟨w2.heap.size + 1, 2, none⟩ = some (.int .i64 a) := ⟨blk_cell HS.out 0, blk_cell HS.out 1, blk_cell HS.out 2⟩))
          exact bodyPost_ret (results_tmp2 rfl _ _ _) rfl ⟨rfl, HB.out⟩
        | true =>
          obtain ⟨a', rfl⟩ : ∃ a' : Nat, a = a' := ⟨a.toNat, by unfold liesB at h3; simp only [Bool.and_eq_true, decide_eq_true_eq] at h3; omega⟩
          rw [show ((a' : Nat) : Int).toNat = a' from rfl]
          have hcn := fun m W hB => calls_bcan PA pc QA qc m P Q i' p' a' hi hp (hok.woodOk hi) (hok.fits hi hp h3) W hB
          unfold bookV at hcn
          have HCN := Lib.hid hcn; clear hcn
          go_wp2_with (first | (go_at_call 18; (with_reducible refine (calls_Check PA pc P QA qc Q _ HP.out hpc HQ.out hqc).mono ?_); rintro e w1 ⟨he, hb⟩; rw [hck] at he; subst he; have HP := Lib.hid (Kd.C_below HP.out hb); have HQ := Lib.hid (Kd.C_below HQ.out hb); have HG := Lib.hid (HG.out.below hb); have HX := Lib.hid (below_far HX.out hb); have HB := Lib.hid (HB.out.trans (hb.mono (below_size HB.out))); obtain ⟨c0, c1⟩ : w1.cell? ⟨w.heap.size, 0, none⟩ = some (.slice PA P.length pc) ∧ w1.cell? ⟨w.heap.size, 1, none⟩ = some (.slice QA Q.length qc) := ⟨blk_cell HX.out 0, blk_cell HX.out 1⟩; clear hb) | (go_at_call 60; (with_reducible refine (calls_opened PA pc QA qc P Q _ HG.out HP.out HQ.out).mono ?_); rintro e w2 ⟨m, rfl, hbk, hm, hb⟩; have hm := Nat.le_trans (below_size HB.out) hm; obtain ⟨n0, n1, n2, n3⟩ := new2 w2 (.cells #[.slice PA P.length pc, .slice QA Q.length qc, .map (some m)] 84) (.cells #[.int .i64 i', .int .i64 p', .int .i64 a'] 87); have hxl := blk_lt (below_far HX.out hb); have hxl2 := Nat.lt_succ_of_lt hxl; have HX := Lib.hid (below_far (below_far HX.out hb) n2); have HP := Lib.hid (Kd.C_below (Kd.C_below HP.out hb) n2); have HQ := Lib.hid (Kd.C_below (Kd.C_below HQ.out hb) n2); have HB := Lib.hid (HB.out.trans ((hb.mono (below_size HB.out)).trans (n2.mono (Nat.le_trans (below_size HB.out) (below_size hb))))); have HBK := Lib.hid (hbk.below n2); have HK := Lib.hid n0; have HS := Lib.hid n1; have HMW := Lib.hid hm; clear hb hbk c0 c1 n0 n1 n2 n3 hm; obtain ⟨c0, c1⟩ : ((w2.alloc (.cells #[.slice PA P.length pc, .slice QA Q.length qc, .map (some m)] 84)).alloc (.cells #[.int .i64 i', .int .i64 p', .int .i64 a'] 87)).cell? ⟨w.heap.size, 0, none⟩ = some (.slice PA P.length pc) ∧ ((w2.alloc (.cells #[.slice PA P.length pc, .slice QA Q.length qc, .map (some m)] 84)).alloc (.cells #[.int .i64 i', .int .i64 p', .int .i64 a'] 87)).cell? ⟨w.heap.size, 1, none⟩ = some (.slice QA Q.length qc) := ⟨blk_cell HX.out 0, blk_cell HX.out 1⟩; obtain ⟨k0, k1, k2⟩ : ((w2.alloc (.cells #[.slice PA P.length pc, .slice QA Q.length qc, .map (some m)] 84)).alloc (.cells #[.int .i64 i', .int .i64 p', .int .i64 a'] 87)).cell? ⟨w2.heap.size, 0, none⟩ = some (.slice PA P.length pc) ∧ ((w2.alloc (.cells #[.slice PA P.length pc, .slice QA Q.length qc, .map (some m)] 84)).alloc (.cells #[.int .i64 i', .int .i64 p', .int .i64 a'] 87)).cell? ⟨w2.heap.size, 1, none⟩ = some (.slice QA Q.length qc) ∧ ((w2.alloc (.cells #[.slice PA P.length pc, .slice QA Q.length qc, .map (some m)] 84)).alloc (.cells #[.int .i64 i', .int .i64 p', .int .i64 a'] 87)).cell? ⟨w2.heap.size, 2, none⟩ = some (.map (some m)) := ⟨blk_cell HK.out 0, blk_cell HK.out 1, blk_cell HK.out 2⟩; obtain ⟨s0, s1, s2⟩ : ((w2.alloc (.cells #[.slice PA P.length pc, .slice QA Q.length qc, .map (some m)] 84)).alloc (.cells #[.int .i64 i', .int .i64 p', .int .i64 a'] 87)).cell? ⟨w2.heap.size + 1, 0, none⟩ = some (.int .i64 i') ∧ ((w2.alloc (.cells #[.slice PA P.length pc, .slice QA Q.length qc, .map (some m)] 84)).alloc (.cells #[.int .i64 i', .int .i64 p', .int .i64 a'] 87)).cell? ⟨w2.heap.size + 1, 1, none⟩ = some (.int .i64 p') ∧ ((w2.alloc (.cells #[.slice PA P.length pc, .slice QA Q.length qc, .map (some m)] 84)).alloc (.cells #[.int .i64 i', .int .i64 p', .int .i64 a'] 87)).cell? ⟨w2.heap.size + 1, 2, none⟩ = some (.int .i64 a') := ⟨blk_cell HS.out 0, blk_cell HS.out 1, blk_cell HS.out 2⟩) | (go_at_call 61; (with_reducible refine (HCL.out _ HP.out HQ.out).mono ?_); rintro e w3 ⟨rfl, hb⟩; have HX := Lib.hid (below_far HX.out hb); have HP := Lib.hid (Kd.C_below HP.out hb); have HQ := Lib.hid (Kd.C_below HQ.out hb); have HB := Lib.hid (HB.out.trans (hb.mono (below_size HB.out))); have HBK := Lib.hid (HBK.out.below hb); have HK := Lib.hid (below_far HK.out hb); have HS := Lib.hid (below_far HS.out hb); clear hb c0 c1 k0 k1 k2 s0 s1 s2; obtain ⟨c0, c1⟩ : w3.cell? ⟨w.heap.size, 0, none⟩ = some (.slice PA P.length pc) ∧ w3.cell? ⟨w.heap.size, 1, none⟩ = some (.slice QA Q.length qc) := ⟨blk_cell HX.out 0, blk_cell HX.out 1⟩; obtain ⟨k0, k1, k2⟩ : w3.cell? ⟨w2.heap.size, 0, none⟩ = some (.slice PA P.length pc) ∧ w3.cell? ⟨w2.heap.size, 1, none⟩ = some (.slice QA Q.length qc) ∧ w3.cell? ⟨w2.heap.size, 2, none⟩ = some (.map (some m)) := ⟨blk_cell HK.out 0, blk_cell HK.out 1, blk_cell HK.out 2⟩; obtain ⟨s0, s1, s2⟩ : w3.cell? ⟨w2.heap.size + 1, 0, none⟩ = some (.int .i64 i') ∧ w3.cell? ⟨w2.heap.size + 1, 1, none⟩ = some (.int .i64 p') ∧ w3.cell? ⟨w2.heap.size + 1, 2, none⟩ = some (.int .i64 a') := ⟨blk_cell HS.out 0, blk_cell HS.out 1, blk_cell HS.out 2⟩) | (go_at_call 62; (with_reducible refine (HCA.out _ HP.out HQ.out).mono ?_); rintro e w5 ⟨rfl, hb⟩; have HX := Lib.hid (below_far HX.out hb); have HP := Lib.hid (Kd.C_below HP.out hb); have HQ := Lib.hid (Kd.C_below HQ.out hb); have HB := Lib.hid (HB.out.trans (hb.mono (below_size HB.out))); have HBK := Lib.hid (HBK.out.below hb); have HK := Lib.hid (below_far HK.out hb); have HS := Lib.hid (below_far HS.out hb); clear hb c0 c1 k0 k1 k2 s0 s1 s2; obtain ⟨c0, c1⟩ : w5.cell? ⟨w.heap.size, 0, none⟩ = some (.slice PA P.length pc) ∧ w5.cell? ⟨w.heap.size, 1, none⟩ = some (.slice QA Q.length qc) := ⟨blk_cell HX.out 0, blk_cell HX.out 1⟩; obtain ⟨k0, k1, k2⟩ : w5.cell? ⟨w2.heap.size, 0, none⟩ = some (.slice PA P.length pc) ∧ w5.cell? ⟨w2.heap.size, 1, none⟩ = some (.slice QA Q.length qc) ∧ w5.cell? ⟨w2.heap.size, 2, none⟩ = some (.map (some m)) := ⟨blk_cell HK.out 0, blk_cell HK.out 1, blk_cell HK.out 2⟩; obtain ⟨s0, s1, s2⟩ : w5.cell? ⟨w2.heap.size + 1, 0, none⟩ = some (.int .i64 i') ∧ w5.cell? ⟨w2.heap.size + 1, 1, none⟩ = some (.int .i64 p') ∧ w5.cell? ⟨w2.heap.size + 1, 2, none⟩ = some (.int .i64 a') := ⟨blk_cell HS.out 0, blk_cell HS.out 1, blk_cell HS.out 2⟩) | (go_at_call 63; (with_reducible refine (HLI.out _ _ HP.out HQ.out).mono ?_); rintro e w6 ⟨rfl, hb⟩; have HX := Lib.hid (below_far HX.out hb); have HP := Lib.hid (Kd.C_below HP.out hb); have HQ := Lib.hid (Kd.C_below HQ.out hb); have HB := Lib.hid (HB.out.trans (hb.mono (below_size HB.out))); have HBK := Lib.hid (HBK.out.below hb); have HK := Lib.hid (below_far HK.out hb); have HS := Lib.hid (below_far HS.out hb); clear hb c0 c1 k0 k1 k2 s0 s1 s2; obtain ⟨c0, c1⟩ : w6.cell? ⟨w.heap.size, 0, none⟩ = some (.slice PA P.length pc) ∧ w6.cell? ⟨w.heap.size, 1, none⟩ = some (.slice QA Q.length qc) := ⟨blk_cell HX.out 0, blk_cell HX.out 1⟩; obtain ⟨k0, k1, k2⟩ : w6.cell? ⟨w2.heap.size, 0, none⟩ = some (.slice PA P.length pc) ∧ w6.cell? ⟨w2.heap.size, 1, none⟩ = some (.slice QA Q.length qc) ∧ w6.cell? ⟨w2.heap.size, 2, none⟩ = some (.map (some m)) := ⟨blk_cell HK.out 0, blk_cell HK.out 1, blk_cell HK.out 2⟩; obtain ⟨s0, s1, s2⟩ : w6.cell? ⟨w2.heap.size + 1, 0, none⟩ = some (.int .i64 i') ∧ w6.cell? ⟨w2.heap.size + 1, 1, none⟩ = some (.int .i64 p') ∧ w6.cell? ⟨w2.heap.size + 1, 2, none⟩ = some (.int .i64 a') := ⟨blk_cell HS.out 0, blk_cell HS.out 1, blk_cell HS.out 2⟩) | (go_at_call 64; (with_reducible refine (HCN.out _ _ HBK.out).mono ?_); rintro e w7 ⟨rfl, hbk7, hg7⟩))
          exact bodyPost_ret (results_tmp2 rfl _ _ _) rfl ⟨rfl, grown_Below HB.out HMW.out hg7⟩
def fewestZ (P : List S48) (Q : List S50) : Bool × List Nat := bestTo betterL (fun s => cutB P Q (setL s) (2 ^ Q.length - 1)) (2 ^ P.length)
def fewestP (P : List S48) (Q : List S50) : List Int × Int := if validB P Q then if (fewestZ P Q).1 then (ints (fewestZ P Q).2, 0) else ([], 4) else ([], 10)
set_option maxRecDepth 100000 in
set_option maxHeartbeats 1000000 in
theorem calls_Fewest (PA : Option Addr) (pc : Nat) (P : List S48) (QA : Option Addr) (qc : Nat) (Q : List S50) (w : World) (hP : Kd.C k48 w PA P.length P) (hpc : P.length ≤ pc) (hQ : Kd.C k50 w QA Q.length Q) (hqc : Q.length ≤ qc) (hG : Glob w) :
    Calls Tryd.prog 28 #[.agg #[.slice PA P.length pc, .slice QA Q.length qc]] w fun e w' => ∃ v, e = .returned (.tuple #[v, .int .i64 (fewestP P Q).2]) ∧ Kd.V (Kd.int .i64) 3 w' w.heap.size (fun k => w.heap.size ≤ k) v (fewestP P Q).1 ∧ Below w.heap.size w w' := by
  obtain ⟨n0, n1, n2⟩ := new1 w (.cells #[.slice PA P.length pc, .slice QA Q.length qc] 25)
  have HP := Lib.hid (Kd.C_below hP n1); have HQ := Lib.hid (Kd.C_below hQ n1); have HG := Lib.hid (hG.below n1); have HX := Lib.hid n0; have HB := Lib.hid n1
  clear n0 n1 n2 hP hQ hG
  cases hv : validB P Q with
  | false =>
    have hck := checkP_no hv
    rw [show fewestP P Q = ([], 10) from by unfold fewestP; rw [hv]; rfl]
    go_enter Tryd.func28, Tryd.ntmps28
    go_wp2_with (go_at_call 18; (with_reducible refine (calls_Check PA pc P QA qc Q _ HP.out hpc HQ.out hqc).mono ?_); rintro e w1 ⟨he, hb⟩; rw [hck] at he; subst he; have HB := Lib.hid (HB.out.trans (hb.mono (below_size HB.out))))
    exact bodyPost_ret (results_tmp2 rfl _ _ _) rfl ⟨_, rfl, Kd.V_nil _ _ _ _ _, HB.out⟩
  | true =>
    have hck := checkP_yes hv
    have hok := valid_ok hv
    have hfd : fewestP P Q = if (fewestZ P Q).1 then (ints (fewestZ P Q).2, 0) else ([], 4) := by unfold fewestP; rw [hv]; rfl
    rw [hfd]
    clear hv hfd
    obtain ⟨fnd, best, hz⟩ : ∃ fnd best, fewestZ P Q = (fnd, best) := ⟨_, _, rfl⟩
    rw [hz]
    have HZ := Lib.hid (show bestTo betterL (fun s => cutB P Q (setL s) (2 ^ Q.length - 1)) (2 ^ P.length) = (fnd, best) from hz)
    clear hz
    go_enter Tryd.func28, Tryd.ntmps28
    go_wp2_with (first | (go_at_call 18; (with_reducible refine (calls_Check PA pc P QA qc Q _ HP.out hpc HQ.out hqc).mono ?_); rintro e w1 ⟨he, hb⟩; rw [hck] at he; subst he; have HP := Lib.hid (Kd.C_below HP.out hb); have HQ := Lib.hid (Kd.C_below HQ.out hb); have HG := Lib.hid (HG.out.below hb); have HX := Lib.hid (below_far HX.out hb); have HB := Lib.hid (HB.out.trans (hb.mono (below_size HB.out))); obtain ⟨c0, c1⟩ : w1.cell? ⟨w.heap.size, 0, none⟩ = some (.slice PA P.length pc) ∧ w1.cell? ⟨w.heap.size, 1, none⟩ = some (.slice QA Q.length qc) := ⟨blk_cell HX.out 0, blk_cell HX.out 1⟩; clear hb) | (go_at_call 60; (with_reducible refine (calls_opened PA pc QA qc P Q _ HG.out HP.out HQ.out).mono ?_); rintro e w2 ⟨m, rfl, hbk, hm, hb⟩; have hm := Nat.le_trans (below_size HB.out) hm; have HX := Lib.hid (below_far HX.out hb); have HB := Lib.hid (HB.out.trans (hb.mono (below_size HB.out))); have HBK := Lib.hid hbk; clear hb hbk c0 c1))
    obtain ⟨n0, n1, n2⟩ := new1 w2 (.cells #[.slice PA P.length pc, .slice QA Q.length qc, .map (some m)] 84)
    have HX := Lib.hid (below_far HX.out n1)
    have HI := Lib.hid (show InvA PA pc QA qc m P Q w2.heap.size (w2.alloc (.cells #[.slice PA P.length pc, .slice QA Q.length qc, .map (some m)] 84)) from ⟨HBK.out.below n1, n0⟩)
    have HB := Lib.hid (HB.out.trans (n1.mono (below_size HB.out)))
    clear n0 n1 n2 HBK
    generalize w2.alloc (.cells #[.slice PA P.length pc, .slice QA Q.length qc, .map (some m)] 84) = W at HX HI HB ⊢
    have c0 : W.cell? ⟨w.heap.size, 0, none⟩ = some (.slice PA P.length pc) := blk_cell HX.out 0
    have HCB := Lib.hid (fun W' hI hm => calls_best 109 betterL better_few 83 #[.pointer (some ⟨w2.heap.size, 0, none⟩)] m P.length (by have := hok.p3; omega) _ _ (asks_Fewest1 (PA := PA) (pc := pc) (QA := QA) (qc := qc) hok w2.heap.size) W' hI hm)
    rw [HZ.out] at HCB
    clear HZ
    refine start_ (n := 11) (S := fun w' => w'.cell? ⟨w.heap.size, 0, none⟩ = some (.slice PA P.length pc)) (ds := [5]) #[false, false, false, false, false, false, false, false, false, false, false] (by kernel_rfl) rfl rfl (c0) (fun hHeld => ?_)
    refine pu_ (i := 1) (N := some 17) (qa_ 11 2) ?_
    refine pu_ (i := 4) (N := some 20) (qa_ 11 18) ?_
    refine tk_ (i := 2) (N := some 18) (qa_ 11 22) hHeld ?_
    refine pu_ (i := 3) (N := some 19) (qa_ 11 30) ?_
    refine on_ (i := 0) (N := some 16) (qa_ 11 31) (fun K hK => ?_)
    refine goes_ Tryd.func81 (by kernel_rfl) rfl #[] (by rfl) rfl rfl (by first | (simp; done) | (simp only [List.map_toArray, List.map_cons, List.map_nil]; rfl)) ?_
    with_reducible refine (calls_few _).mono ?_
    rintro e w3 ⟨rfl, hb1⟩
    have hb2 : Below W.heap.size W w3 := undrew hb1
    refine ⟨_, rfl, ?_⟩
    refine hK.out _ _ (pw_cell_below hb2 c0) (fun hHeld => ?_)
    clear hK K
    refine nm_ (some 16) ?_
    refine last_ (i := 5) (N := some 21) (qa_ 11 63) rfl rfl (by kernel_rfl) (by decide) (fun K hK => ?_)
    refine goes_ Tryd.func82 (by kernel_rfl) rfl #[.agg #[.func (.func 109) #[] #[]], .int .i64 P.length, .func (.func 83) #[] #[.pointer (some ⟨w2.heap.size, 0, none⟩)]] (by rfl) rfl rfl (by first | (simp; done) | (simp only [List.map_toArray, List.map_cons, List.map_nil]; rfl)) ?_
    with_reducible refine (HCB.out w3 (HI.out.below hb2) (HI.out.below hb2).bk.lt).mono ?_
    rintro e w4 ⟨v4, rfl, hv4, hi4, hg4⟩
    refine ⟨_, rfl, ?_⟩
    refine hK.out _ _ ?_
    clear hK K
    refine nm_ (some 21) ?_
    refine pu_ (i := 6) (N := some 15) (qa_ 11 127) ?_
    refine pu_ (i := 7) (N := some 22) (qa_ 11 255) ?_
    refine pu_ (i := 8) (N := some 23) (qa_ 11 511) ?_
    refine pu_ (i := 9) (N := some 6) (qa_ 11 1023) ?_
    refine pu_ (i := 10) (N := some 7) (qa_ 11 2047) ?_
    refine done_ (by kernel_rfl) ?_
    clear hHeld
    have hbb : Below w.heap.size w w3 := HB.out.trans (hb2.mono (below_size HB.out))
    have HV4 := Lib.hid hv4; have HG4 := Lib.hid hg4; have HBB := Lib.hid hbb; have HMW := Lib.hid hm
    clear hv4 hi4 hg4 hbb hb1 hb2 c0 hm
    cases fnd with
    | false =>
      go_wp2_with fail
      exact bodyPost_ret (results_tmp2 rfl _ _ _) rfl ⟨_, rfl, Kd.V_nil _ _ _ _ _, grown_Below HBB.out HMW.out HG4.out⟩
    | true =>
      go_wp2_with fail
      obtain ⟨A, c, rfl, h6, h7, h8⟩ := HV4.out
      refine bodyPost_ret (results_tmp2 rfl _ _ _) rfl ⟨_, rfl, ?_, grown_Below HBB.out HMW.out HG4.out⟩
      exact (show VI w.heap.size w4 (.slice A (ints best).length c) (ints best) from ⟨A, c, rfl, h6, h7, fun ad e => Nat.le_trans (below_size HBB.out) (h8 ad e)⟩).V
def lackB (P : List S48) (Q : List S50) (n : Nat) : Bool := !cutB P Q (setL (2 ^ P.length - 1)) (2 ^ (n + 1) - 1)
def lacksR : Option Nat → Int × Int
  | some n => ((n : Int), 0)
  | none => (0, 4)
def lacksP (P : List S48) (Q : List S50) : Int × Int := if validB P Q then lacksR ((List.range Q.length).find? (lackB P Q)) else (0, 10)
theorem lack_nums (n1 N : Nat) (h5 : n1 ≤ 5) (hN : n1 ≤ N) : ∃ u t : Nat, 2 ^ n1 - 1 = t ∧ (∀ W : World, (Op.shift BinOp.shl IntKind.i64 1 IntKind.i64 (wrap64 (n1 : Int))).run Tryd.prog W = .ok (.int .i64 u) W) ∧ wrap64 ((u : Int) - 1) = (t : Int) ∧ t < 2 ^ N := by
  have h2 := pow_int n1 h5
  have h3 := pow_small n1 h5
  have h4 : 2 ^ n1 ≤ 2 ^ N := Nat.pow_le_pow_right (by omega) hN
  generalize 2 ^ N = z at h4 ⊢
  generalize 2 ^ n1 = u at h2 h3 h4 ⊢
  refine ⟨u, u - 1, rfl, fun W => ?_, by unfold wrap64; omega, by omega⟩
  have hw1 : wrap64 (n1 : Int) = (n1 : Int) := by unfold wrap64; omega
  rw [hw1]
  go_simp
  rw [i64_w]
  exact h2
theorem find_at {f : Nat → Bool} {n k : Nat} (hk : k < n) (h : ∀ j, j < k → f j = false) (hf : f k = true) : (List.range n).find? f = some k := by
  rw [List.find?_range_eq_some]
  exact ⟨hf, by simpa using hk, fun j hj => by rw [h j hj]; rfl⟩
theorem find_no {f : Nat → Bool} {n : Nat} (h : ∀ j, j < n → f j = false) : (List.range n).find? f = none := by
  rw [List.find?_eq_none]
  intro x hx
  rw [h x (List.mem_range.1 hx)]
  simp
set_option maxRecDepth 100000 in
set_option maxHeartbeats 1000000 in
theorem calls_Lacks (PA : Option Addr) (pc : Nat) (P : List S48) (QA : Option Addr) (qc : Nat) (Q : List S50) (w : World) (hP : Kd.C k48 w PA P.length P) (hpc : P.length ≤ pc) (hQ : Kd.C k50 w QA Q.length Q) (hqc : Q.length ≤ qc) (hG : Glob w) :
    Calls Tryd.prog 30 #[.agg #[.slice PA P.length pc, .slice QA Q.length qc]] w fun e w' => e = .returned (.tuple #[.int .i64 (lacksP P Q).1, .int .i64 (lacksP P Q).2]) ∧ Below w.heap.size w w' := by
  obtain ⟨n0, n1, n2⟩ := new1 w (.cells #[.slice PA P.length pc, .slice QA Q.length qc] 25)
  have HP := Lib.hid (Kd.C_below hP n1); have HQ := Lib.hid (Kd.C_below hQ n1); have HG := Lib.hid (hG.below n1); have HX := Lib.hid n0; have HB := Lib.hid n1
  clear n0 n1 n2 hP hQ hG
  cases hv : validB P Q with
  | false =>
    have hck := checkP_no hv
    rw [show lacksP P Q = (0, 10) from by unfold lacksP; rw [hv]; rfl]
    go_enter Tryd.func30, Tryd.ntmps30
    go_wp2_with (go_at_call 18; (with_reducible refine (calls_Check PA pc P QA qc Q _ HP.out hpc HQ.out hqc).mono ?_); rintro e w1 ⟨he, hb⟩; rw [hck] at he; subst he; have HB := Lib.hid (HB.out.trans (hb.mono (below_size HB.out))))
    exact bodyPost_ret (results_tmp2 rfl _ _ _) rfl ⟨rfl, HB.out⟩
  | true =>
    have hck := checkP_yes hv
    have hok := valid_ok hv
    have hfd : lacksP P Q = lacksR ((List.range Q.length).find? (lackB P Q)) := by unfold lacksP; rw [hv]; rfl
    rw [hfd]
    clear hv hfd
    have hp5 : P.length ≤ 5 := by have := hok.p3; omega
    have hcp := fun m W => calls_planks PA P.length pc QA Q.length qc m hp5 W
    have hcc := fun m s hs A c W hB hC hc => bk_cut (pc := pc) (qc := qc) (PA := PA) (QA := QA) (m := m) hok (2 ^ P.length - 1) (by have := pow_small _ hp5; omega) s hs A c W hB hC hc
    have hlk : ∀ n, lackB P Q n = !cutB P Q (setL (2 ^ P.length - 1)) (2 ^ (n + 1) - 1) := fun n => rfl
    obtain ⟨q, hq⟩ : ∃ q : Nat, 2 ^ P.length - 1 = q := ⟨_, rfl⟩
    rw [hq] at hcp hcc hlk
    clear hq
    have HCP := Lib.hid hcp; have HCC := Lib.hid hcc; have HLK := Lib.hid hlk
    clear hcp hcc hlk
    have hq5 := hok.q5
    go_enter Tryd.func30, Tryd.ntmps30
    go_wp2_with (first | (go_at_call 18; (with_reducible refine (calls_Check PA pc P QA qc Q _ HP.out hpc HQ.out hqc).mono ?_); rintro e w1 ⟨he, hb⟩; rw [hck] at he; subst he; have HP := Lib.hid (Kd.C_below HP.out hb); have HQ := Lib.hid (Kd.C_below HQ.out hb); have HG := Lib.hid (HG.out.below hb); have HX := Lib.hid (below_far HX.out hb); have HB := Lib.hid (HB.out.trans (hb.mono (below_size HB.out))); obtain ⟨c0, c1⟩ : w1.cell? ⟨w.heap.size, 0, none⟩ = some (.slice PA P.length pc) ∧ w1.cell? ⟨w.heap.size, 1, none⟩ = some (.slice QA Q.length qc) := ⟨blk_cell HX.out 0, blk_cell HX.out 1⟩; clear hb) | (go_at_call 60; (with_reducible refine (calls_opened PA pc QA qc P Q _ HG.out HP.out HQ.out).mono ?_); rintro e w2 ⟨m, rfl, hbk, hm, hb⟩; have hm := Nat.le_trans (below_size HB.out) hm; have hx := below_far HX.out hb; have hxl := blk_lt hx; have HX := Lib.hid hx; have HB := Lib.hid (HB.out.trans (hb.mono (below_size HB.out))); have HBK := Lib.hid hbk; clear hb hbk c0 c1; have c1 : w2.cell? ⟨w.heap.size, 1, none⟩ = some (.slice QA Q.length qc) := blk_cell hx 1; clear hx))
    obtain ⟨n0, n1, n2⟩ := new1 w2 (.cells #[.slice PA P.length pc, .slice QA Q.length qc, .map (some m)] 84)
    have HI := Lib.hid (show InvA PA pc QA qc m P Q w2.heap.size (w2.alloc (.cells #[.slice PA P.length pc, .slice QA Q.length qc, .map (some m)] 84)) from ⟨HBK.out.below n1, n0⟩)
    have HB := Lib.hid (HB.out.trans (n1.mono (below_size HB.out)))
    clear n0 n1 n2 HBK HX HP HQ HG c1 hxl
    generalize w2.alloc (.cells #[.slice PA P.length pc, .slice QA Q.length qc, .map (some m)] 84) = W at HI HB ⊢
    have HMW := Lib.hid hm; clear hm
    go_loopw [17] (fun v wr => ∃ n : Nat, n ≤ Q.length ∧ v = .int .i64 n ∧ (∀ j, j < n → lackB P Q j = false) ∧ Hid (InvA PA pc QA qc m P Q w2.heap.size wr) ∧ Hid (Below w.heap.size w wr)) (fun v _ => Q.length - (intOf v).toNat)
    case atStart => exact ⟨0, Nat.zero_le _, rfl, (fun j hj => absurd hj (by omega)), HI, HB⟩
    case round =>
      clear HI HB
      obtain ⟨n, hn, rfl, hno, HI, HB⟩ := hrel
      by_cases hlt : n < Q.length
      · obtain ⟨n1, hn1⟩ : ∃ n1, n + 1 = n1 := ⟨_, rfl⟩
        have hn1' : (n : Int) + 1 = (n1 : Int) := by omega
        have hlk := HLK.out n
        rw [hn1] at hlk
        have h5 : n1 ≤ 5 := by omega
        obtain ⟨u, t, ht, hsh, hsb, hs⟩ := lack_nums n1 Q.length h5 (by omega)
        have hcut := fun A c W hB hC hc => HCC.out m t hs A c W hB hC hc
        rw [ht] at hlk
        clear h5
        obtain ⟨r, hr⟩ : ∃ r, cutB P Q (setL q) t = r := ⟨_, rfl⟩
        rw [hr] at hcut hlk
        rw [← hsb] at hcut
        have HCUT := Lib.hid hcut; have HL := Lib.hid hlk
        clear hcut hlk hs ht hr
        obtain ⟨b0, b1, b2⟩ : wr.cell? ⟨w2.heap.size, 0, none⟩ = some (.slice PA P.length pc) ∧ wr.cell? ⟨w2.heap.size, 1, none⟩ = some (.slice QA Q.length qc) ∧ wr.cell? ⟨w2.heap.size, 2, none⟩ = some (.map (some m)) := ⟨blk_cell HI.out.2 0, blk_cell HI.out.2 1, blk_cell HI.out.2 2⟩
        go_wp2_with fail
        refine start_ (n := 9) (S := fun w' => w'.cell? ⟨w2.heap.size, 0, none⟩ = some (.slice PA P.length pc) ∧ w'.cell? ⟨w2.heap.size, 1, none⟩ = some (.slice QA Q.length qc) ∧ w'.cell? ⟨w2.heap.size, 2, none⟩ = some (.map (some m))) (ds := [7]) #[false, false, false, false, false, false, false, false, false] (by kernel_rfl) rfl rfl ⟨b0, b1, b2⟩ (fun hHeld => ?_)
        refine pu_ (i := 1) (N := some 21) (qa_ 9 2) ?_
        refine pu_ (i := 2) (N := some 22) (qa_ 9 6) ?_
        refine pu_ (i := 3) (N := some 23) (qa_ 9 14) ?_
        refine pu_ (i := 4) (N := some 24) (qa_ 9 30) ?_
        refine tk_ (i := 0) (N := some 20) (qa_ 9 31) hHeld ?_
        refine tk_ (i := 5) (N := some 25) (qa_ 9 63) hHeld ?_
        refine on_ (i := 6) (N := some 26) (qa_ 9 127) (fun K hK => ?_)
        refine goes_ Tryd.func90 (by kernel_rfl) rfl #[.agg #[.slice PA P.length pc, .slice QA Q.length qc, .map (some m)]] (by rfl) rfl rfl (by first | (simp; done) | (simp only [List.map_toArray, List.map_cons, List.map_nil]; rfl)) ?_
        with_reducible refine (HCP.out _ _).mono ?_
        rintro e w5 ⟨v5, rfl, hv5, hb3⟩
        have hb4 : Below wr.heap.size wr w5 := undrew hb3
        obtain ⟨A5, c5, rfl, hl5, hC5, -⟩ := hv5
        refine ⟨_, rfl, ?_⟩
        refine hK.out _ _ ⟨pw_cell_below hb4 b0, pw_cell_below hb4 b1, pw_cell_below hb4 b2⟩ (fun hHeld => ?_)
        clear hK K
        refine nm_ (some 26) ?_
        refine last_ (i := 7) (N := some 27) (qa_ 9 255) rfl rfl (by kernel_rfl) (by decide) (fun K hK => ?_)
        refine goes_ Tryd.func84 (by kernel_rfl) rfl #[.agg #[.slice PA P.length pc, .slice QA Q.length qc, .map (some m)], .int .i64 (wrap64 ((u : Int) - 1)), .slice A5 (ints (setL q)).length c5] (by rfl) rfl rfl (by first | (simp; done) | (simp only [List.map_toArray, List.map_cons, List.map_nil]; rfl)) ?_
        with_reducible refine (HCUT.out A5 c5 w5 (HI.out.bk.below hb4) hC5 hl5).mono ?_
        rintro e w6 ⟨rfl, hbk6, hg6⟩
        refine ⟨_, rfl, ?_⟩
        refine hK.out _ _ ?_
        clear hK K
        refine nm_ (some 27) ?_
        refine pu_ (i := 8) (N := some 28) (qa_ 9 511) ?_
        refine done_ (by kernel_rfl) ?_
        clear hHeld b0 b1 b2
        have HI6 := Lib.hid (show InvA PA pc QA qc m P Q w2.heap.size w6 from ⟨hbk6, blk_grownM (HI.out.below hb4).2 (HI.out.below hb4).bk.is hg6⟩)
        have HB6 := Lib.hid (grown_Below (HB.out.trans (hb4.mono (below_size HB.out))) HMW.out hg6)
        clear hbk6 hg6 hb4 hb3 hC5
        cases r with
        | true =>
          go_wp2_with fail
          go_roundw
          case rel => exact ⟨n + 1, by omega, by first | (rw [hn1]; done) | (rw [hn1]; rfl) | go_num, (fun j hj => by
            rcases Nat.lt_succ_iff_lt_or_eq.1 hj with h | h
            · exact hno j h
            · subst h; exact HL.out), HI6, HB6⟩
          case measure => simp [intOf]; omega
        | false =>
          have hfn := find_at hlt hno HL.out
          have HFN := Lib.hid hfn; clear hfn
          go_wp2_with fail
          rw [HFN.out]
          exact bodyPost_ret (results_tmp2 rfl _ _ _) rfl ⟨rfl, HB6.out⟩
      · obtain rfl : n = Q.length := by omega
        have HFN := Lib.hid (find_no hno)
        go_wp2_with fail
        rw [HFN.out]
        exact bodyPost_ret (results_tmp2 rfl _ _ _) rfl ⟨rfl, HB.out⟩
def lstep (N : Nat) (z : Bool × Int) (n : Int) : Bool × Int := (z.1 && (inB n N && decide (n > z.2)), n)
def layR : Option (List Nat) → List Int × Int
  | some o => (ints o, 0)
  | none => ([], 4)
def okL (N : Nat) (b : Bool) (ps : List Int) : Bool := (ps.foldl (lstep N) (b, -1)).1
def layP (P : List S48) (Q : List S50) (i : Int) (ps : List Int) : List Int × Int :=
  if validB P Q then if okL Q.length (inB i P.length) ps then layR (laidB (P.getD i.toNat z48) Q (ps.map (·.toNat))) else ([], 11) else ([], 10)
theorem lstep_true (N : Nat) : ∀ (ps : List Int) (b : Bool) (last : Int), (ps.foldl (lstep N) (b, last)).1 = true → b = true ∧ ps = ints (ps.map (·.toNat)) ∧ (∀ p ∈ ps.map (·.toNat), p < N ∧ last < (p : Int)) ∧ ps.length ≤ N - (last + 1).toNat
  | [], b, last, h => ⟨h, rfl, fun p hp => absurd hp (by simp), by simp⟩
  | a :: l, b, last, h => by
    obtain ⟨h1, h2, h3, h4⟩ := lstep_true N l _ _ h
    simp only [lstep, Bool.and_eq_true, decide_eq_true_eq] at h1
    obtain ⟨k, rfl, hk⟩ := in_nat h1.2.1
    refine ⟨h1.1, ?_, fun p hp => ?_, ?_⟩
    · rw [List.map_cons, show ints (((k : Int)).toNat :: l.map (·.toNat)) = (k : Int) :: ints (l.map (·.toNat)) from rfl, ← h2]
    · rw [List.map_cons] at hp
      rcases List.mem_cons.1 hp with rfl | hp
      · exact ⟨hk, by simpa using h1.2.2⟩
      · have := h3 p hp
        exact ⟨this.1, by have := h1.2.2; omega⟩
    · simp only [List.length_cons]
      have := h1.2.2
      omega
theorem okL_true {N : Nat} {b : Bool} {ps : List Int} (h : okL N b ps = true) : b = true ∧ ∃ qs : List Nat, ps = ints qs ∧ ps.map (·.toNat) = qs ∧ (∀ p ∈ qs, p < N) ∧ qs.length ≤ N := by
  obtain ⟨h1, h2, h3, h4⟩ := lstep_true N ps b (-1) h
  refine ⟨h1, _, h2, rfl, fun p hp => (h3 p hp).1, ?_⟩
  rw [List.length_map]
  simpa using h4
theorem take_next (ps : List Int) (k : Nat) (h : k < ps.length) : ps.take (k + 1) = ps.take k ++ [rd ps k] := by
  rw [List.take_add_one, show ps[k]? = some (rd ps k) from by simp [rd, h]]; rfl
set_option maxRecDepth 100000 in
set_option maxHeartbeats 1000000 in
theorem calls_Lay (PA : Option Addr) (pc : Nat) (P : List S48) (QA : Option Addr) (qc : Nat) (Q : List S50) (i : Int) (BA : Option Addr) (bc : Nat) (ps : List Int) (w : World) (hP : Kd.C k48 w PA P.length P) (hpc : P.length ≤ pc) (hQ : Kd.C k50 w QA Q.length Q) (hqc : Q.length ≤ qc) (hL : Kd.C (Kd.int .i64) w BA ps.length ps) (hbc : ps.length ≤ bc) (hG : Glob w) :
    Calls Tryd.prog 24 #[.agg #[.slice PA P.length pc, .slice QA Q.length qc], .int .i64 i, .slice BA ps.length bc] w fun e w' => ∃ v, e = .returned (.tuple #[v, .int .i64 (layP P Q i ps).2]) ∧ Kd.V (Kd.int .i64) 3 w' w.heap.size (fun k => w.heap.size ≤ k) v (layP P Q i ps).1 ∧ Below w.heap.size w w' := by
  have hlen : ps.length < 9223372036854775808 := by have := hL.2.1; omega
  obtain ⟨n0, n1, n2⟩ := new1 w (.cells #[.slice PA P.length pc, .slice QA Q.length qc] 25)
  have HP := Lib.hid (Kd.C_below hP n1); have HQ := Lib.hid (Kd.C_below hQ n1); have HL := Lib.hid (Kd.C_below hL n1); have HG := Lib.hid (hG.below n1); have HX := Lib.hid n0; have HB := Lib.hid n1
  clear n0 n1 n2 hP hQ hG hL
  cases hv : validB P Q with
  | false =>
    have hck := checkP_no hv
    rw [show layP P Q i ps = ([], 10) from by unfold layP; rw [hv]; rfl]
    go_enter Tryd.func24, Tryd.ntmps24
    go_wp2_with (go_at_call 18; (with_reducible refine (calls_Check PA pc P QA qc Q _ HP.out hpc HQ.out hqc).mono ?_); rintro e w1 ⟨he, hb⟩; rw [hck] at he; subst he; have HB := Lib.hid (HB.out.trans (hb.mono (below_size HB.out))))
    exact bodyPost_ret (results_tmp2 rfl _ _ _) rfl ⟨_, rfl, Kd.V_nil _ _ _ _ _, HB.out⟩
  | true =>
    have hck := checkP_yes hv
    have hok := valid_ok hv
    have hfd : layP P Q i ps = if okL Q.length (inB i P.length) ps then layR (laidB (P.getD i.toNat z48) Q (ps.map (·.toNat))) else ([], 11) := by unfold layP; rw [hv]; rfl
    obtain ⟨R0, hR0⟩ : ∃ R0, layP P Q i ps = R0 := ⟨_, rfl⟩
    rw [hR0]
    rw [hfd] at hR0
    clear hv hfd
    have hcpl := fun W hPW hQW => calls_isPlank PA pc P QA qc Q i W hPW hpc hQW hqc
    rw [show (decide (0 ≤ i) && decide (i ≤ (P.length : Int) - 1)) = inB i P.length from rfl] at hcpl
    have hcpa := fun p W hPW hQW => calls_isPart PA pc P QA qc Q p W hPW hpc hQW hqc
    obtain ⟨eb, hib⟩ : ∃ eb, inB i P.length = eb := ⟨_, rfl⟩
    rw [hib] at hcpl hR0
    have HR0 := Lib.hid hR0; clear hR0
    have HCL := Lib.hid hcpl
    have HCA := Lib.hid (show ∀ (p : Int) (W : World), Kd.C k48 W PA P.length P → Kd.C k50 W QA Q.length Q → Calls Tryd.prog 62 #[.agg #[.slice PA P.length pc, .slice QA Q.length qc], .int .i64 p] W fun e w' => e = .returned (.bool (inB p Q.length)) ∧ Below W.heap.size W w' from hcpa)
    clear hcpl hcpa
    go_enter Tryd.func24, Tryd.ntmps24
    go_wp2_with (first | (go_at_call 18; (with_reducible refine (calls_Check PA pc P QA qc Q _ HP.out hpc HQ.out hqc).mono ?_); rintro e w1 ⟨he, hb⟩; rw [hck] at he; subst he; have HP := Lib.hid (Kd.C_below HP.out hb); have HQ := Lib.hid (Kd.C_below HQ.out hb); have HL := Lib.hid (Kd.C_below HL.out hb); have HG := Lib.hid (HG.out.below hb); have HX := Lib.hid (below_far HX.out hb); have HB := Lib.hid (HB.out.trans (hb.mono (below_size HB.out))); obtain ⟨c0, c1⟩ : w1.cell? ⟨w.heap.size, 0, none⟩ = some (.slice PA P.length pc) ∧ w1.cell? ⟨w.heap.size, 1, none⟩ = some (.slice QA Q.length qc) := ⟨blk_cell HX.out 0, blk_cell HX.out 1⟩; clear hb) | (go_at_call 61; (with_reducible refine (HCL.out _ HP.out HQ.out).mono ?_); rintro e w2 ⟨rfl, hb⟩; have HP := Lib.hid (Kd.C_below HP.out hb); have HQ := Lib.hid (Kd.C_below HQ.out hb); have HL := Lib.hid (Kd.C_below HL.out hb); have HG := Lib.hid (HG.out.below hb); have HX := Lib.hid (below_far HX.out hb); have HB := Lib.hid (HB.out.trans (hb.mono (below_size HB.out))); clear hb c0 c1))
    go_loopw [9, 10, 25] (fun v9 v10 v wr => ∃ k : Nat, k ≤ ps.length ∧ v = .int .i64 k ∧ v9 = .bool ((ps.take k).foldl (lstep Q.length) (eb, -1)).1 ∧ v10 = .int .i64 ((ps.take k).foldl (lstep Q.length) (eb, -1)).2 ∧ Hid (Kd.C k48 wr PA P.length P) ∧ Hid (Kd.C k50 wr QA Q.length Q) ∧ Hid (Kd.C (Kd.int .i64) wr BA ps.length ps) ∧ Hid (Glob wr) ∧ Hid (wr.heap[w.heap.size]? = some (.cells #[.slice PA P.length pc, .slice QA Q.length qc] 25 (0, 0))) ∧ Hid (Below w.heap.size w wr)) (fun _ _ v _ => ps.length - (intOf v).toNat)
    case atStart => exact ⟨0, Nat.zero_le _, rfl, rfl, rfl, HP, HQ, HL, HG, HX, HB⟩
    case round =>
      clear HP HQ HL HG HX HB
      obtain ⟨k, hk, rfl, rfl, rfl, HP, HQ, HL, HG, HX, HB⟩ := hrel
      obtain ⟨ok, last, hz⟩ : ∃ ok last, (ps.take k).foldl (lstep Q.length) (eb, -1) = (ok, last) := ⟨_, _, rfl⟩
      rw [hz]
      simp only
      by_cases hlt : k < ps.length
      · obtain ⟨ad, rfl, hcell⟩ := at_nat HL.out k hlt
        obtain ⟨x, hx⟩ : ∃ x, rd ps k = x := ⟨_, rfl⟩
        have hnx : (ps.take (k + 1)).foldl (lstep Q.length) (eb, -1) = (ok && (inB x Q.length && decide (x > last)), x) := by
          rw [take_next ps k hlt, List.foldl_append, hz, hx]; rfl
        rw [hx] at hcell
        obtain ⟨c0, c1⟩ : wr.cell? ⟨w.heap.size, 0, none⟩ = some (.slice PA P.length pc) ∧ wr.cell? ⟨w.heap.size, 1, none⟩ = some (.slice QA Q.length qc) := ⟨blk_cell HX.out 0, blk_cell HX.out 1⟩
        obtain ⟨ib, hib2⟩ : ∃ ib, inB x Q.length = ib := ⟨_, rfl⟩
        rw [hib2] at hnx
        have HN := Lib.hid hnx; have HIB := Lib.hid hib2
        clear hnx hz hib2 hx
        cases ok with
        | false =>
          go_wp2_with fail
          go_roundw
          case rel => exact ⟨k + 1, by omega, by go_num, by rw [HN.out]; rfl, by rw [HN.out], HP, HQ, HL, HG, HX, HB⟩
          case measure => simp [intOf]; omega
        | true =>
          cases ib with
          | false =>
            go_wp2_with (go_at_call 62; (with_reducible refine (HCA.out x _ HP.out HQ.out).mono ?_); rintro e w2 ⟨he, hb⟩; rw [HIB.out] at he; subst he; have HP := Lib.hid (Kd.C_below HP.out hb); have HQ := Lib.hid (Kd.C_below HQ.out hb); have HL := Lib.hid (Kd.C_below HL.out hb); have HG := Lib.hid (HG.out.below hb); have HX := Lib.hid (below_far HX.out hb); have HB := Lib.hid (HB.out.trans (hb.mono (below_size HB.out))); clear hb c0 c1 hcell)
            go_roundw
            case rel => exact ⟨k + 1, by omega, by go_num, by rw [HN.out]; rfl, by rw [HN.out], HP, HQ, HL, HG, HX, HB⟩
            case measure => simp [intOf]; omega
          | true =>
            go_wp2_with (go_at_call 62; (with_reducible refine (HCA.out x _ HP.out HQ.out).mono ?_); rintro e w2 ⟨he, hb⟩; rw [HIB.out] at he; subst he; have HP := Lib.hid (Kd.C_below HP.out hb); have HQ := Lib.hid (Kd.C_below HQ.out hb); have HL := Lib.hid (Kd.C_below HL.out hb); have HG := Lib.hid (HG.out.below hb); have HX := Lib.hid (below_far HX.out hb); have HB := Lib.hid (HB.out.trans (hb.mono (below_size HB.out))); clear hb c0 c1 hcell)
            go_roundw
            case rel => exact ⟨k + 1, by omega, by go_num, by rw [HN.out]; rfl, by rw [HN.out], HP, HQ, HL, HG, HX, HB⟩
            case measure => simp [intOf]; omega
      · obtain rfl : k = ps.length := by omega
        rw [List.take_length] at hz
        have hokl : okL Q.length eb ps = ok := by unfold okL; rw [hz]
        clear hz
        cases ok with
        | false =>
          obtain rfl : (([] : List Int), (11 : Int)) = R0 := by have := HR0.out; rw [hokl] at this; exact this
          clear hokl HR0
          go_wp2_with fail
          exact bodyPost_ret (results_tmp2 rfl _ _ _) rfl ⟨_, rfl, Kd.V_nil _ _ _ _ _, HB.out⟩
        | true =>
          obtain ⟨rfl, qs, rfl, hqs, hq1, hq2⟩ := okL_true hokl
          obtain ⟨i', rfl, hi⟩ := in_nat hib
          have hr1 : R0 = layR (laidB (P.getD i' z48) Q qs) := by have := HR0.out; rw [hokl, hqs] at this; exact this.symm
          clear hokl hib HR0 hqs
          obtain ⟨c0, c1⟩ : wr.cell? ⟨w.heap.size, 0, none⟩ = some (.slice PA P.length pc) ∧ wr.cell? ⟨w.heap.size, 1, none⟩ = some (.slice QA Q.length qc) := ⟨blk_cell HX.out 0, blk_cell HX.out 1⟩
          have HLD := Lib.hid (show ∀ (m : Nat) (W : World), Bk PA QA m P Q W → Kd.C (Kd.int .i64) W BA (ints qs).length (ints qs) → Calls Tryd.prog 76 #[.agg #[.slice PA P.length pc, .slice QA Q.length qc, .map (some m)], .int .i64 i', .slice BA (ints qs).length bc] W fun e w' => Bk PA QA m P Q w' ∧ W.grownBy w' (some m) ∧ LayPost W.heap.size (laidB (P.getD i' z48) Q qs) e w' from fun m W hB hC => by
            have h := calls_laid PA pc QA qc m P Q hok i' hi BA bc qs hq1 (by have := hok.q5; omega) W hB hC
            rwa [ints_length])
          obtain ⟨r, hr⟩ : ∃ r, laidB (P.getD i' z48) Q qs = r := ⟨_, rfl⟩
          rw [hr] at HLD hr1
          clear hr
          cases r with
          | none =>
            obtain rfl : R0 = ([], 4) := hr1
            go_wp2_with (first | (go_at_call 60; (with_reducible refine (calls_opened PA pc QA qc P Q _ HG.out HP.out HQ.out).mono ?_); rintro e w3 ⟨m, rfl, hbk, hm, hb⟩; have hm := Nat.le_trans (below_size HB.out) hm; have HL := Lib.hid (Kd.C_below HL.out hb); have HB := Lib.hid (HB.out.trans (hb.mono (below_size HB.out))); have HBK := Lib.hid hbk; clear hb hbk c0 c1) | (go_at_call 76; (with_reducible refine (HLD.out _ _ HBK.out HL.out).mono ?_); rintro e w4 ⟨hbk4, hg4, hp4⟩; obtain ⟨v4, b4, rfl, ht4⟩ := LayPost.told hp4; obtain ⟨rfl, rfl⟩ := ht4))
            exact bodyPost_ret (results_tmp2 rfl _ _ _) rfl ⟨_, rfl, Kd.V_nil _ _ _ _ _, grown_Below HB.out hm hg4⟩
          | some o =>
            obtain rfl : R0 = (ints o, 0) := hr1
            go_wp2_with (first | (go_at_call 60; (with_reducible refine (calls_opened PA pc QA qc P Q _ HG.out HP.out HQ.out).mono ?_); rintro e w3 ⟨m, rfl, hbk, hm, hb⟩; have hm := Nat.le_trans (below_size HB.out) hm; have HL := Lib.hid (Kd.C_below HL.out hb); have HB := Lib.hid (HB.out.trans (hb.mono (below_size HB.out))); have HBK := Lib.hid hbk; clear hb hbk c0 c1) | (go_at_call 76; (with_reducible refine (HLD.out _ _ HBK.out HL.out).mono ?_); rintro e w4 ⟨hbk4, hg4, hp4⟩; obtain ⟨v4, b4, rfl, ht4⟩ := LayPost.told hp4; obtain ⟨rfl, A4, c4, rfl, hl4, hC4, hB4⟩ := ht4; have hlen4 : (ints o).length < 9223372036854775808 := (by have := hC4.2.1; omega); have HC4 := Lib.hid hC4; have HB4 := Lib.hid hB4; clear hC4 hB4))
            refine bodyPost_ret (results_tmp2 rfl _ _ _) rfl ⟨_, rfl, ?_, grown_Below HB.out hm hg4⟩
            exact (vi_of (base := w.heap.size) (Nat.le_refl _) HC4.out (fun ad e => Nat.le_trans (below_size HB.out) (HB4.out ad e))).V
end Go.Proofs.YtekjlpldooihhaaDoorP
namespace Go.Proofs.YtekjlpldooihhaaDoorP
open Go.RowKit Go.Proofs.YtekjlpldooihhaaDoorW.PrintWords Go.Proofs.YtekjlpldooihhaaDoorW.PrintLast Go.Proofs.YtekjlpldooihhaaDoorW.PrintMore Go.Proofs.YtekjlpldooihhaaDoorH Go.Proofs.YtekjlpldooihhaaDoorEv Go.Proofs.YtekjlpldooihhaaDoor.PA
set_option linter.unusedVariables false
set_option linter.unusedSimpArgs false
attribute [local go_sem] Oper.semAt_some
theorem own_weaker {W : World} {n b : Nat} {e : TypeId} {size : Nat} {v : Value} {k : Nat} {xs : List Value} (h : W.ownsRow n e size v k xs) (hb : b ≤ n) : W.ownsRow b e size v k xs := by
  refine ⟨h.1, ?_⟩
  rcases h.2 with h | ⟨g, cap, cur, h1, h2, h3⟩
  · exact .inl h
  · exact .inr ⟨g, cap, cur, h1, Nat.le_trans hb h2, h3⟩
theorem own_far {W : World} {n : Nat} {e : TypeId} {size : Nat} {v : Value} {k j : Nat} {xs : List Value} (h : W.ownsRow n e size v k xs) (hj : j < n) : some j ≠ v.ownBlock := fun e => by
  have := own_base h j (by first | exact e.symm | exact e)
  omega
theorem boxed_app {W w1 : World} {n b B : Nat} {t e : TypeId} {size : Nat} {v v' : Value} {k m : Nat} {xs ys : List Value} {tmp : Obj}
    (hv : Boxed W B t v) (hte : t ≠ e) (hrow : W.ownsRow n e size v k xs) (hn : n ≤ W.heap.size) (hbn : b ≤ n) (hB : b ≤ B)
    (hown' : w1.ownsRow n e size v' m ys) (hgrow : (W.alloc tmp).grownBy w1 v.ownBlock) :
    Boxed w1 B t v ∧ Boxed (w1.setCell ⟨B, 0, none⟩ v') B t v' ∧ (w1.setCell ⟨B, 0, none⟩ v').ownsRow n e size v' m ys ∧ KeepsOthers W (w1.setCell ⟨B, 0, none⟩ v') ∧ Below b W (w1.setCell ⟨B, 0, none⟩ v') ∧ ∀ j, j < n → j ≠ B → (w1.setCell ⟨B, 0, none⟩ v').heap[j]? = W.heap[j]? := by
  obtain ⟨h1, h2, h3, h4, h5⟩ := Boxed.appended hv hte (own_weaker hrow hbn) (Nat.le_trans hbn hn) hB (own_weaker hown' hbn) hgrow
  refine ⟨h1, h2, hown'.kept (grownBy_setCell' w1 B v') (.inr (h1.not_row hte hown').symm), h4, h5, fun j hj hne => ?_⟩
  refine (Below.heap_setCell w1 _ v' j hne).trans ((hgrow.block j (by simp; omega) (own_far hrow hj)).trans ?_)
  exact Below.heap_alloc _ _ _ (by omega)
def spotsP (P : List S48) (Q : List S50) (i p : Int) : List Int × Int :=
  if validB P Q then if inB i P.length && inB p Q.length then (ints (spotsL (P.getD i.toNat z48) (Q.getD p.toNat z50)), 0) else ([], 11) else ([], 10)
set_option maxRecDepth 100000 in
set_option maxHeartbeats 1000000 in
theorem calls_Spots (PA : Option Addr) (pc : Nat) (P : List S48) (QA : Option Addr) (qc : Nat) (Q : List S50) (i p : Int) (w : World) (hP : Kd.C k48 w PA P.length P) (hpc : P.length ≤ pc) (hQ : Kd.C k50 w QA Q.length Q) (hqc : Q.length ≤ qc) (hG : Glob w) :
    Calls Tryd.prog 20 #[.agg #[.slice PA P.length pc, .slice QA Q.length qc], .int .i64 i, .int .i64 p] w fun e w' => ∃ v, e = .returned (.tuple #[v, .int .i64 (spotsP P Q i p).2]) ∧ Kd.V (Kd.int .i64) 3 w' w.heap.size (fun k => w.heap.size ≤ k) v (spotsP P Q i p).1 ∧ Below w.heap.size w w' := by
  have HP0 := Lib.hid hP; have HQ0 := Lib.hid hQ; have HG0 := Lib.hid hG
  obtain ⟨n0, n1, n2⟩ := new1 w (.cells #[.slice PA P.length pc, .slice QA Q.length qc] 25)
  have HP := Lib.hid (Kd.C_below hP n1); have HQ := Lib.hid (Kd.C_below hQ n1); have HG := Lib.hid (hG.below n1); have HX := Lib.hid n0; have HB := Lib.hid n1
  clear n0 n1 n2 hP hQ hG
  cases hv : validB P Q with
  | false =>
    have hck := checkP_no hv
    rw [show spotsP P Q i p = ([], 10) from by unfold spotsP; rw [hv]; rfl]
    go_enter Tryd.func20, Tryd.ntmps20
    go_wp2_with (go_at_call 18; (with_reducible refine (calls_Check PA pc P QA qc Q _ HP.out hpc HQ.out hqc).mono ?_); rintro e w1 ⟨he, hb⟩; rw [hck] at he; subst he; have HB := Lib.hid (HB.out.trans (hb.mono (below_size HB.out))))
    exact bodyPost_ret (results_tmp2 rfl _ _ _) rfl ⟨_, rfl, Kd.V_nil _ _ _ _ _, HB.out⟩
  | true =>
    have hck := checkP_yes hv
    have hok := valid_ok hv
    have hfd : spotsP P Q i p = if inB i P.length && inB p Q.length then (ints (spotsL (P.getD i.toNat z48) (Q.getD p.toNat z50)), 0) else ([], 11) := by unfold spotsP; rw [hv]; rfl
    obtain ⟨R0, hR0⟩ : ∃ R0, spotsP P Q i p = R0 := ⟨_, rfl⟩
    rw [hR0]
    rw [hfd] at hR0
    clear hv hfd
    have hcpl := fun W hPW hQW => calls_isPlank PA pc P QA qc Q i W hPW hpc hQW hqc
    have hcpa := fun W hPW hQW => calls_isPart PA pc P QA qc Q p W hPW hpc hQW hqc
    rw [show (decide (0 ≤ i) && decide (i ≤ (P.length : Int) - 1)) = inB i P.length from rfl] at hcpl
    rw [show (decide (0 ≤ p) && decide (p ≤ (Q.length : Int) - 1)) = inB p Q.length from rfl] at hcpa
    obtain ⟨e1, h1⟩ : ∃ e1, inB i P.length = e1 := ⟨_, rfl⟩
    obtain ⟨e2, h2⟩ : ∃ e2, inB p Q.length = e2 := ⟨_, rfl⟩
    rw [h1] at hcpl
    rw [h2] at hcpa
    rw [h1, h2] at hR0
    have HCL := Lib.hid hcpl; have HCA := Lib.hid hcpa; have HR0 := Lib.hid hR0
    clear hcpl hcpa hR0
    cases e1 with
    | false =>
      obtain rfl : (([] : List Int), (11 : Int)) = R0 := HR0.out
      go_enter Tryd.func20, Tryd.ntmps20
      go_wp2_with (first | (go_at_call 18; (with_reducible refine (calls_Check PA pc P QA qc Q _ HP.out hpc HQ.out hqc).mono ?_); rintro e w1 ⟨he, hb⟩; rw [hck] at he; subst he; have HP := Lib.hid (Kd.C_below HP.out hb); have HQ := Lib.hid (Kd.C_below HQ.out hb); have HG := Lib.hid (HG.out.below hb); have HX := Lib.hid (below_far HX.out hb); have HB := Lib.hid (HB.out.trans (hb.mono (below_size HB.out))); clear hb; obtain ⟨c0, c1⟩ : w1.cell? ⟨w.heap.size, 0, none⟩ = some (.slice PA P.length pc) ∧ w1.cell? ⟨w.heap.size, 1, none⟩ = some (.slice QA Q.length qc) := ⟨blk_cell HX.out 0, blk_cell HX.out 1⟩) | (go_at_call 61; (with_reducible refine (HCL.out _ HP.out HQ.out).mono ?_); rintro e w3 ⟨rfl, hb⟩; have HP := Lib.hid (Kd.C_below HP.out hb); have HQ := Lib.hid (Kd.C_below HQ.out hb); have HG := Lib.hid (HG.out.below hb); have HX := Lib.hid (below_far HX.out hb); have HB := Lib.hid (HB.out.trans (hb.mono (below_size HB.out))); clear hb; obtain ⟨c0, c1⟩ : w3.cell? ⟨w.heap.size, 0, none⟩ = some (.slice PA P.length pc) ∧ w3.cell? ⟨w.heap.size, 1, none⟩ = some (.slice QA Q.length qc) := ⟨blk_cell HX.out 0, blk_cell HX.out 1⟩))
      exact bodyPost_ret (results_tmp2 rfl _ _ _) rfl ⟨_, rfl, Kd.V_nil _ _ _ _ _, HB.out⟩
    | true =>
      cases e2 with
      | false =>
        obtain rfl : (([] : List Int), (11 : Int)) = R0 := HR0.out
        go_enter Tryd.func20, Tryd.ntmps20
        go_wp2_with (first | (go_at_call 18; (with_reducible refine (calls_Check PA pc P QA qc Q _ HP.out hpc HQ.out hqc).mono ?_); rintro e w1 ⟨he, hb⟩; rw [hck] at he; subst he; have HP := Lib.hid (Kd.C_below HP.out hb); have HQ := Lib.hid (Kd.C_below HQ.out hb); have HG := Lib.hid (HG.out.below hb); have HX := Lib.hid (below_far HX.out hb); have HB := Lib.hid (HB.out.trans (hb.mono (below_size HB.out))); clear hb; obtain ⟨c0, c1⟩ : w1.cell? ⟨w.heap.size, 0, none⟩ = some (.slice PA P.length pc) ∧ w1.cell? ⟨w.heap.size, 1, none⟩ = some (.slice QA Q.length qc) := ⟨blk_cell HX.out 0, blk_cell HX.out 1⟩) | (go_at_call 61; (with_reducible refine (HCL.out _ HP.out HQ.out).mono ?_); rintro e w3 ⟨rfl, hb⟩; have HP := Lib.hid (Kd.C_below HP.out hb); have HQ := Lib.hid (Kd.C_below HQ.out hb); have HG := Lib.hid (HG.out.below hb); have HX := Lib.hid (below_far HX.out hb); have HB := Lib.hid (HB.out.trans (hb.mono (below_size HB.out))); clear hb; obtain ⟨c0, c1⟩ : w3.cell? ⟨w.heap.size, 0, none⟩ = some (.slice PA P.length pc) ∧ w3.cell? ⟨w.heap.size, 1, none⟩ = some (.slice QA Q.length qc) := ⟨blk_cell HX.out 0, blk_cell HX.out 1⟩) | (go_at_call 62; (with_reducible refine (HCA.out _ HP.out HQ.out).mono ?_); rintro e w5 ⟨rfl, hb⟩; have HP := Lib.hid (Kd.C_below HP.out hb); have HQ := Lib.hid (Kd.C_below HQ.out hb); have HG := Lib.hid (HG.out.below hb); have HX := Lib.hid (below_far HX.out hb); have HB := Lib.hid (HB.out.trans (hb.mono (below_size HB.out))); clear hb; obtain ⟨c0, c1⟩ : w5.cell? ⟨w.heap.size, 0, none⟩ = some (.slice PA P.length pc) ∧ w5.cell? ⟨w.heap.size, 1, none⟩ = some (.slice QA Q.length qc) := ⟨blk_cell HX.out 0, blk_cell HX.out 1⟩))
        exact bodyPost_ret (results_tmp2 rfl _ _ _) rfl ⟨_, rfl, Kd.V_nil _ _ _ _ _, HB.out⟩
      | true =>
        obtain ⟨i', rfl, hi⟩ := in_nat h1
        obtain ⟨p', rfl, hp⟩ := in_nat h2
        have hr1 : (ints (spotsL (P.getD i' z48) (Q.getD p' z50)), (0 : Int)) = R0 := HR0.out
        clear HR0 h1 h2
        have HR1 := Lib.hid hr1; clear hr1
        have HCS := Lib.hid (show ∀ (m : Nat) (W : World), Calls Tryd.prog 74 #[.agg #[.slice PA P.length pc, .slice QA Q.length qc, .map (some m)], .int .i64 i', .int .i64 p'] W fun e w' => e = .returned (.func (.func 102) #[] #[.pointer (some ⟨W.heap.size, 0, none⟩), .pointer (some ⟨W.heap.size + 1, 0, none⟩), .pointer (some ⟨W.heap.size + 2, 0, none⟩)]) ∧ SpotBox PA P.length pc QA Q.length qc m i' p' W.heap.size w' ∧ Below W.heap.size W w' ∧ w'.heap.size = W.heap.size + 3 from fun m W => calls_spots PA P.length pc QA Q.length qc m i' p' W)
        refine (callsIn_wide (n := 3)).1 ?_
        refine callsIn_of_wp_marks Tryd.func20 rfl trivial ?_
        simp only [Tryd.ntmps20, List.size_toArray, List.length_cons, List.length_nil, Nat.reduceAdd, Nat.reduceSub, Array.replicate_succ, Array.replicate_zero, List.push_toArray, List.append_toArray, List.nil_append, List.cons_append]
        gi_wp2_with (first | (refine ⟨trivial, ?_⟩; gi_at_call 18; (with_reducible refine (callsIn_wide.2 (calls_Check PA pc P QA qc Q _ HP.out hpc HQ.out hqc)).mono ?_); rintro e w1 ⟨he, hb⟩; rw [hck] at he; subst he; have HP := Lib.hid (Kd.C_below HP.out hb); have HQ := Lib.hid (Kd.C_below HQ.out hb); have HG := Lib.hid (HG.out.below hb); have HX := Lib.hid (below_far HX.out hb); have HB := Lib.hid (HB.out.trans (hb.mono (below_size HB.out))); clear hb; obtain ⟨c0, c1⟩ : w1.cell? ⟨w.heap.size, 0, none⟩ = some (.slice PA P.length pc) ∧ w1.cell? ⟨w.heap.size, 1, none⟩ = some (.slice QA Q.length qc) := ⟨blk_cell HX.out 0, blk_cell HX.out 1⟩) | (refine ⟨trivial, ?_⟩; gi_at_call 61; (with_reducible refine (callsIn_wide.2 (HCL.out _ HP.out HQ.out)).mono ?_); rintro e w3 ⟨rfl, hb⟩; have HP := Lib.hid (Kd.C_below HP.out hb); have HQ := Lib.hid (Kd.C_below HQ.out hb); have HG := Lib.hid (HG.out.below hb); have HX := Lib.hid (below_far HX.out hb); have HB := Lib.hid (HB.out.trans (hb.mono (below_size HB.out))); clear hb; obtain ⟨c0, c1⟩ : w3.cell? ⟨w.heap.size, 0, none⟩ = some (.slice PA P.length pc) ∧ w3.cell? ⟨w.heap.size, 1, none⟩ = some (.slice QA Q.length qc) := ⟨blk_cell HX.out 0, blk_cell HX.out 1⟩) | (refine ⟨trivial, ?_⟩; gi_at_call 62; (with_reducible refine (callsIn_wide.2 (HCA.out _ HP.out HQ.out)).mono ?_); rintro e w5 ⟨rfl, hb⟩; have HP := Lib.hid (Kd.C_below HP.out hb); have HQ := Lib.hid (Kd.C_below HQ.out hb); have HG := Lib.hid (HG.out.below hb); have HX := Lib.hid (below_far HX.out hb); have HB := Lib.hid (HB.out.trans (hb.mono (below_size HB.out))); clear hb; obtain ⟨c0, c1⟩ : w5.cell? ⟨w.heap.size, 0, none⟩ = some (.slice PA P.length pc) ∧ w5.cell? ⟨w.heap.size, 1, none⟩ = some (.slice QA Q.length qc) := ⟨blk_cell HX.out 0, blk_cell HX.out 1⟩; have hxl := blk_lt HX.out) | (refine ⟨trivial, ?_⟩; gi_at_call 60; (with_reducible refine (callsIn_wide.2 (calls_opened PA pc QA qc P Q _ (HG.out.below (new1 _ (.cells #[.slice none 0 0] 31)).2.1) (Kd.C_below HP.out (new1 _ (.cells #[.slice none 0 0] 31)).2.1) (Kd.C_below HQ.out (new1 _ (.cells #[.slice none 0 0] 31)).2.1))).mono ?_); rintro e w6 ⟨m, rfl, hbk, hm, hb⟩; obtain ⟨o0, o1, o2⟩ := new1 w5 (.cells #[.slice none 0 0] 31); have hsw := below_size HB.out; have HO := Lib.hid (below_far o0 hb); have HB := Lib.hid (HB.out.trans ((o1.trans (hb.mono (by rw [o2]; omega))).mono (below_size HB.out))); have HM := Lib.hid hm; have HO2 := Lib.hid o2; have HSW := Lib.hid hsw; have H65 := Lib.hid (blk_lt HO.out); have HBK := Lib.hid hbk; clear hb hbk o0 o1 o2 hm) | (refine ⟨trivial, ?_⟩; gi_at_call 74; (with_reducible refine (callsIn_wide.2 (HCS.out m _)).mono ?_); rintro e w2 ⟨rfl, hT, hb, hs⟩; have HT := Lib.hid hT; have HO := Lib.hid (below_far HO.out hb); have HB := Lib.hid (HB.out.trans (hb.mono (below_size HB.out))); have HBK := Lib.hid (HBK.out.below hb); have HS := Lib.hid hs; clear hb hT hs))
        have hbk2 := HBK.out
        have hmlt : m < w2.heap.size := hbk2.lt
        have hinv0 : SpotInv PA pc QA qc m P Q i' p' w6.heap.size w2 := ⟨hbk2, HT.out⟩
        have hmw : w.heap.size ≤ m := Nat.le_trans HSW.out (Nat.le_trans (by have := HO2.out; omega) HM.out)
        have hob : w.heap.size ≤ w5.heap.size := HSW.out
        have hm5 : w5.heap.size + 1 ≤ m := by have := HM.out; rwa [HO2.out] at this
        have h65 : w5.heap.size < w6.heap.size := H65.out
        have h26 := HS.out
        have hseq := spots_seq 2 PA pc QA qc m P Q hok i' p' w6.heap.size hi hp
        obtain ⟨i0, hinf, hz0, hz1, hz2⟩ := info_parts infoInt
        refine rangeFunc_memo_var (n := 3) (by omega) (gf := 102) (s := 10) (enc := fun a : Nat => .int .i64 (a : Nat)) (lb := #[.pointer (some ⟨w6.heap.size, 0, none⟩), .pointer (some ⟨w6.heap.size + 1, 0, none⟩), .pointer (some ⟨w6.heap.size + 2, 0, none⟩)]) rfl (enters_of Tryd.func102 (by kernel_rfl) rfl)
          hseq hmlt hinv0 (fun W' o h => h.below (new1 W' o).2.1) (fun W' l o o' hl hlo ho h => h.put hlo ho (by omega) o')
          (fun pre W' => (∃ v, Boxed W' w5.heap.size 31 v ∧ W'.ownsRow w2.heap.size 3 1 v pre.length ((ints pre).map (Value.int .i64)) ∧ True) ∧ Below w.heap.size w W')
          (fun _ _ _ => False)
          (OwnFrom.and (Own.from (holdsRow_own w2.heap.size w5.heap.size 31 3 1 (fun pre : List Nat => pre.length) (fun pre => (ints pre).map (Value.int .i64)) (fun _ _ => True)) _) (ownFrom_below (Nat.le_refl _) (below_size HB.out)))
          (fun _ _ _ _ _ hs _ _ => hs)
          (fun pre A B hs hg hv => by
            obtain ⟨⟨v, h1, h2, _⟩, h3⟩ := hs
            exact ⟨⟨v, h1.kept hg (fun e => by injection e; omega), h2.kept hg (.inr (own_far h2 hmlt).symm), trivial⟩, h3.grown hg (below_size h3) (fun k e => by cases e; exact hmw)⟩)
          ⟨⟨_, HO.out, World.ownsRow_nil _ _ _ _, trivial⟩, HB.out⟩ ?assign ?body ?done ?stop
        case assign =>
          intro l' b W' K hK
          simp only [List.setIfInBounds_toArray, List.set_cons_succ, List.set_cons_zero] at hK ⊢
          gi_wp2
          exact hK
        case body =>
          rintro l' pre x W' hl1 hl2 ⟨⟨v, hv, hrow, _⟩, hB⟩ hinv hpre
          have hx16 : pre.length < 16 := by
            have h1 := hpre.length_le
            have h2 := List.length_filter_le (spotB (P.getD i' z48) (Q.getD p' z50)) (List.range (P.getD i' z48).f0.toNat)
            rw [List.length_range] at h2
            have h3 := (hok.sized hi hp).w16
            rw [List.length_append, List.length_singleton] at h1
            unfold spotsL at h1
            omega
          have hc := hv.cell
          have hsz := Nat.le_of_lt (Nat.lt_of_le_of_lt hl1 hl2)
          simp only [List.setIfInBounds_toArray, List.set_cons_succ, List.set_cons_zero]
          gi_wp2_with (gi_at_builtin; refine wpListIn_append_own _ rfl _ _ 31 rfl w2.heap.size 3 i0 (.int .i64 0) 1 8 Tryd.underlying31 hinf hz0 hz1 hz2 rfl (by decide) _ _ _ rfl (hrow.alloc _) ⟨W'.heap.size, 0, none⟩ 1 1 [.int .i64 x] rfl rfl (cell_one_new _ _ _) (by simp [Value.oneCell']) (by simp [maxLen]; omega) (by omega) (by simp; omega) ?_; intro v' w3 hown' hgrow _; obtain ⟨g', cap', rfl⟩ := ownsRow_succ hown'; obtain ⟨hv1, hv2, hr2, hk2, hb2, hj2⟩ := boxed_app (b := w.heap.size) hv (by decide) hrow hsz (below_size HB.out) hob hown' hgrow; have hc1 := hv1.cell; have hf1 := hv1.frozen)
          have hbb := hB.trans hb2
          refine ⟨hk2.from _, ⟨?_, ⟨(hj2 _ (by omega) (by omega)).trans hinv.2.book, (hj2 _ (by omega) (by omega)).trans hinv.2.plank, (hj2 _ (by omega) (by omega)).trans hinv.2.part⟩⟩, ⟨_, hv2, by simpa [ints] using hr2, trivial⟩, hbb⟩
          obtain ⟨f, hf, hm⟩ := hinv.1.map
          exact ⟨HG0.out.below hbb, Kd.C_below HP0.out hbb, Kd.C_below HQ0.out hbb, f, hf.same (hj2 _ hmlt (by omega)), hm⟩
        case done =>
          rintro D W' hD ⟨⟨v, hv, hrow, _⟩, hB⟩ hinv hK
          obtain ⟨A', c', rfl⟩ := own_slice hrow
          have hc := hv.cell
          have hle := own_le hrow
          obtain ⟨ys, hys⟩ : ∃ ys, spotsL (P.getD i' z48) (Q.getD p' z50) = ys := ⟨_, rfl⟩
          have hr := HR1.out
          rw [hys] at hrow hc hle hr
          have HR1 := Lib.hid hr
          have HROW := Lib.hid hrow; have HBB := Lib.hid hB; have HK := Lib.hid hK
          clear hr hrow hB hK hv hys hinv hseq hinv0 hbk2
          gi_wp2
          refine ⟨by simp, .inl ⟨_, _, rfl, run_takeDeferred HK.out, ?_⟩⟩
          have hil : (ints ys).length = ys.length := by simp [ints]
          have hvv := cut_V (A := A') (n := ys.length) (c := c') (xs := ints ys) (by rw [hil]; exact own_weaker (ownsRow_putObj HROW.out (.deferred none) HK.out rfl) (below_size HB.out))
          rw [hil] at hvv
          refine ⟨_, results_tmp2 rfl _ _ _, _, by rw [← HR1.out]; rfl, by rw [← HR1.out]; exact hvv, ?_⟩
          exact HBB.out.grown (grownBy_putObj' W' D (.deferred none)) (below_size HBB.out) (fun k e => by cases e; exact Nat.le_trans (below_size HB.out) hD)
        case stop =>
          rintro D c pre W _ _ h _
          exact h.elim
end Go.Proofs.YtekjlpldooihhaaDoorP
namespace Go.Proofs.YtekjlpldooihhaaDoorP
open Go.Proofs.YtekjlpldooihhaaDoorSh
open Go.RowKit Go.Proofs.YtekjlpldooihhaaDoorW.PrintWords Go.Proofs.YtekjlpldooihhaaDoorW.PrintLast Go.Proofs.YtekjlpldooihhaaDoorW.PrintMore Go.Proofs.YtekjlpldooihhaaDoorH Go.Proofs.YtekjlpldooihhaaDoorEv Go.Proofs.YtekjlpldooihhaaDoor.PA
set_option linter.unusedVariables false
set_option linter.unusedSimpArgs false
theorem infoWood : (Tryd.prog.info? 48).map (fun i => (i.zero, i.size, i.bytes)) = some (some (.agg #[.int .i64 0, .slice none 0 0]), 2, 32) := by kernel_rfl
theorem infoSpan : (Tryd.prog.info? 60).map (fun i => (i.zero, i.size, i.bytes)) = some (some (.agg #[.int .i64 0, .int .i64 0]), 2, 16) := by kernel_rfl
theorem add_two (ad : Addr) (j : Nat) : ad.add (j * 2 + 1) = ⟨(ad.add (j * 2)).block, (ad.add (j * 2)).off + 1, none⟩ := by
  unfold Addr.add
  by_cases h : j = 0
  · subst h; simp
  · have h2 : ¬ j * 2 = 0 := by omega
    simp [h2]; omega
def woodAt (W : World) (cs : Nat → Option Value) (y : S48) (j : Nat) : Prop := ∃ A c, cs (j * 2) = some (.int .i64 y.f0) ∧ cs (j * 2 + 1) = some (.slice A y.f1.length c) ∧ y.f1.length ≤ c ∧ Kd.C k60 W A y.f1.length y.f1
def cellsOf (W : World) (ad : Addr) (n : Nat) : List Value := (List.range (n * 2)).map fun i => (W.cell? (ad.add i)).getD undef
theorem cellsOf_get {W : World} {ad : Addr} {n i : Nat} (h : i < n * 2) : (cellsOf W ad n)[i]? = some ((W.cell? (ad.add i)).getD undef) := by
  unfold cellsOf
  rw [List.getElem?_map, List.getElem?_range h]; rfl
theorem cellsOf_len (W : World) (ad : Addr) (n : Nat) : (cellsOf W ad n).length = n * 2 := by simp [cellsOf]
theorem woods_news {W : World} {ad : Addr} {P : List S48} (h : Kd.C k48 W (some ad) P.length P) :
    (∀ j u, (cellsOf W ad P.length)[j]? = some u → W.cell? (ad.add j) = some u) ∧ (∀ u ∈ cellsOf W ad P.length, u.oneCell' = true) ∧ ∀ j, j < P.length → woodAt W (fun i => (cellsOf W ad P.length)[i]?) (P.getD j z48) j := by
  have key : ∀ j, j < P.length → ∃ A c, W.cell? (ad.add (j * 2)) = some (.int .i64 (P.getD j z48).f0) ∧ W.cell? (ad.add (j * 2 + 1)) = some (.slice A (P.getD j z48).f1.length c) ∧ (P.getD j z48).f1.length ≤ c ∧ Kd.C k60 W A (P.getD j z48).f1.length (P.getD j z48).f1 := fun j hj => by
    obtain ⟨a, A, c, e, h1, h2, h3, h4⟩ := at_wood h j hj
    obtain rfl := Option.some.inj e
    exact ⟨A, c, h1, by rw [add_two]; exact h2, h3, h4⟩
  have all : ∀ i, i < P.length * 2 → ∃ u, W.cell? (ad.add i) = some u ∧ u.oneCell' = true := fun i hi => by
    obtain ⟨A, c, h1, h2, _, _⟩ := key (i / 2) (by omega)
    by_cases hm : i % 2 = 0
    · rw [show i / 2 * 2 = i by omega] at h1; exact ⟨_, h1, rfl⟩
    · rw [show i / 2 * 2 + 1 = i by omega] at h2; exact ⟨_, h2, rfl⟩
  refine ⟨fun j u hu => ?_, fun u hu => ?_, fun j hj => ?_⟩
  · have hj : j < P.length * 2 := by have := (List.getElem?_eq_some_iff.1 hu).1; rwa [cellsOf_len] at this
    obtain ⟨v, hv, _⟩ := all j hj
    rw [cellsOf_get hj, hv] at hu
    rw [hv]; exact hu
  · obtain ⟨j, hj, rfl⟩ := List.getElem_of_mem hu
    have hj2 : j < P.length * 2 := by rwa [cellsOf_len] at hj
    obtain ⟨v, hv, h1⟩ := all j hj2
    have := cellsOf_get (W := W) (ad := ad) hj2
    rw [List.getElem?_eq_getElem hj, hv] at this
    rw [Option.some.inj this]; exact h1
  · obtain ⟨A, c, h1, h2, h3, h4⟩ := key j hj
    exact ⟨A, c, by show (cellsOf W ad P.length)[j * 2]? = _; rw [cellsOf_get (by omega), h1]; rfl, by show (cellsOf W ad P.length)[j * 2 + 1]? = _; rw [cellsOf_get (by omega), h2]; rfl, h3, h4⟩
theorem woods_C {W : World} {g : Nat} {cur : Array Value} {fr : Nat × Nat} {P : List S48} (hg : W.heap[g]? = some (.cells cur 48 fr)) (hm : P.length ≤ maxLen) (h : ∀ j, j < P.length → woodAt W (fun i => cur[i]?) (P.getD j z48) j) : Kd.C k48 W (some ⟨g, 0, none⟩) P.length P := by
  refine ⟨rfl, hm, fun _ => ⟨_, rfl, fun j x hx => ?_⟩⟩
  have hj : j < P.length := (List.getElem?_eq_some_iff.1 hx).1
  obtain ⟨A, c, h1, h2, h3, h4⟩ := h j hj
  have hxe : P.getD j z48 = x := by rw [List.getD_eq_getElem?_getD, hx]; rfl
  rw [hxe] at h1 h2 h3 h4
  refine ⟨[.int .i64 x.f0, .slice A x.f1.length c], rfl, k48_mk W x h3 h4, fun i u hi => ?_⟩
  rw [show k48.sz = 2 from rfl, show (⟨g, 0, none⟩ : Addr).add (j * 2 + i) = ⟨g, j * 2 + i, none⟩ from by unfold Addr.add; split <;> simp_all]
  have hgc : W.cell? ⟨g, j * 2 + i, none⟩ = cur[j * 2 + i]? := by unfold World.cell?; rw [hg]; rfl
  rw [hgc]
  match i, hi with
  | 0, hi => simp at hi; rw [← hi]; exact h1
  | 1, hi => simp at hi; rw [← hi]; exact h2
  | i + 2, hi => simp at hi
theorem woodAt_keep {W W1 : World} {cs cs1 : Nat → Option Value} {y : S48} {j : Nat} (h : woodAt W cs y j) (h0 : cs1 (j * 2) = cs (j * 2)) (h1 : cs1 (j * 2 + 1) = cs (j * 2 + 1)) (hb : Below W.heap.size W W1) : woodAt W1 cs1 y j := by
  obtain ⟨A, c, a1, a2, a3, a4⟩ := h
  exact ⟨A, c, h0.trans a1, h1.trans a2, a3, Kd.C_below a4 hb⟩
def spanAt (cs : Nat → Option Value) (y : S60) (j : Nat) : Prop := cs (j * 2) = some (.int .i64 y.f0) ∧ cs (j * 2 + 1) = some (.int .i64 y.f1)
theorem spans_news {W : World} {ad : Addr} {P : List S60} (h : Kd.C k60 W (some ad) P.length P) :
    (∀ j u, (cellsOf W ad P.length)[j]? = some u → W.cell? (ad.add j) = some u) ∧ (∀ u ∈ cellsOf W ad P.length, u.oneCell' = true) ∧ ∀ j, j < P.length → spanAt (fun i => (cellsOf W ad P.length)[i]?) (P.getD j z60) j := by
  have key : ∀ j, j < P.length → W.cell? (ad.add (j * 2)) = some (.int .i64 (P.getD j z60).f0) ∧ W.cell? (ad.add (j * 2 + 1)) = some (.int .i64 (P.getD j z60).f1) := fun j hj => by
    obtain ⟨a, e, h1, h2⟩ := at_span h j hj
    obtain rfl := Option.some.inj e
    exact ⟨h1, by rw [add_two]; exact h2⟩
  have all : ∀ i, i < P.length * 2 → ∃ u, W.cell? (ad.add i) = some u ∧ u.oneCell' = true := fun i hi => by
    obtain ⟨h1, h2⟩ := key (i / 2) (by omega)
    by_cases hm : i % 2 = 0
    · rw [show i / 2 * 2 = i by omega] at h1; exact ⟨_, h1, rfl⟩
    · rw [show i / 2 * 2 + 1 = i by omega] at h2; exact ⟨_, h2, rfl⟩
  refine ⟨fun j u hu => ?_, fun u hu => ?_, fun j hj => ?_⟩
  · have hj : j < P.length * 2 := by have := (List.getElem?_eq_some_iff.1 hu).1; rwa [cellsOf_len] at this
    obtain ⟨v, hv, _⟩ := all j hj
    rw [cellsOf_get hj, hv] at hu
    rw [hv]; exact hu
  · obtain ⟨j, hj, rfl⟩ := List.getElem_of_mem hu
    have hj2 : j < P.length * 2 := by rwa [cellsOf_len] at hj
    obtain ⟨v, hv, h1⟩ := all j hj2
    have := cellsOf_get (W := W) (ad := ad) hj2
    rw [List.getElem?_eq_getElem hj, hv] at this
    rw [Option.some.inj this]; exact h1
  · obtain ⟨h1, h2⟩ := key j hj
    exact ⟨by show (cellsOf W ad P.length)[j * 2]? = _; rw [cellsOf_get (by omega), h1]; rfl, by show (cellsOf W ad P.length)[j * 2 + 1]? = _; rw [cellsOf_get (by omega), h2]; rfl⟩
theorem spans_C {W : World} {g : Nat} {cur : Array Value} {fr : Nat × Nat} {P : List S60} (hg : W.heap[g]? = some (.cells cur 60 fr)) (hm : P.length ≤ maxLen) (h : ∀ j, j < P.length → spanAt (fun i => cur[i]?) (P.getD j z60) j) : Kd.C k60 W (some ⟨g, 0, none⟩) P.length P := by
  refine ⟨rfl, hm, fun _ => ⟨_, rfl, fun j x hx => ?_⟩⟩
  have hj : j < P.length := (List.getElem?_eq_some_iff.1 hx).1
  obtain ⟨h1, h2⟩ := h j hj
  have hxe : P.getD j z60 = x := by rw [List.getD_eq_getElem?_getD, hx]; rfl
  rw [hxe] at h1 h2
  refine ⟨[.int .i64 x.f0, .int .i64 x.f1], rfl, k60_mk W x, fun i u hi => ?_⟩
  rw [show k60.sz = 2 from rfl, show (⟨g, 0, none⟩ : Addr).add (j * 2 + i) = ⟨g, j * 2 + i, none⟩ from by unfold Addr.add; split <;> simp_all]
  have hgc : W.cell? ⟨g, j * 2 + i, none⟩ = cur[j * 2 + i]? := by unfold World.cell?; rw [hg]; rfl
  rw [hgc]
  match i, hi with
  | 0, hi => simp at hi; rw [← hi]; exact h1
  | 1, hi => simp at hi; rw [← hi]; exact h2
  | i + 2, hi => simp at hi
set_option maxRecDepth 100000 in
theorem calls_ClonePl (ad : Addr) (n c : Nat) (hn : 1 ≤ n) (hn2 : n ≤ 64) (news : List Value) (W : World) (hl : news.length = n * 2) (hc : ∀ j u, news[j]? = some u → W.cell? (ad.add j) = some u) (h1 : ∀ u ∈ news, u.oneCell' = true) :
    Calls Tryd.prog 91 #[.slice (some ad) n c] W fun e w' => ∃ g cap cur, e = .returned (.slice (some ⟨g, 0, none⟩) n cap) ∧ w'.heap[g]? = some (.cells cur 48 (0, 0)) ∧ W.heap.size ≤ g ∧ n ≤ cap ∧ cur.toList.take (n * 2) = news ∧ Below W.heap.size W w' := by
  obtain ⟨i0, hinf, hz0, hz1, hz2⟩ := info_parts infoWood
  have HC := Lib.hid hc; have H1 := Lib.hid h1
  clear hc h1
  have q : ∀ (w : World) (a : Option Addr) (n c n' c' : Nat), (binOp .eql 22 (.slice a n c) (.slice none n' c')).run Tryd.prog w = .ok (.bool a.isNone) w := fun w a n c n' c' => Lib.run_eql_slice_nil w _ _ a n c n' c' Tryd.underlying22
  go_enter Tryd.func91, Tryd.ntmps91
  go_wp2_with ((with_reducible refine gate_builtin (b := .append) (xs := #[.tmp 5, .tmp 6]) rfl ?_); at_builtin; refine wpList_append_own _ rfl _ _ 22 rfl W.heap.size 48 i0 (.agg #[.int .i64 0, .slice none 0 0]) 2 32 Tryd.underlying22 hinf hz0 hz1 hz2 rfl (by decide) _ 0 [] rfl ⟨by simp, .inr ⟨W.heap.size, 0, #[], rfl, Nat.le_refl _, (new1 W _).1, Nat.le_refl _, (by decide), (by simp), (by simp)⟩⟩ ad n c news rfl hl (fun j u h => pw_cell_below (new1 W _).2.1 (HC.out j u h)) H1.out (by simp [maxLen]; omega) (by omega) (by simp) ?_; intro v' w3 hown hgrow _)
  obtain ⟨_, hown⟩ := hown
  rcases hown with ⟨_, h0⟩ | ⟨g, cap, cur, rfl, hg, hblk, hcap, _, _, hnews⟩
  · omega
  go_wp2
  go_ret
  refine ⟨g, cap, cur, by simp, hblk, hg, by omega, by simpa using hnews, grown_Below (new1 W _).2.1 (Nat.le_refl _) hgrow⟩
set_option maxRecDepth 100000 in
theorem calls_CloneKn (ad : Addr) (n c : Nat) (hn : 1 ≤ n) (hn2 : n ≤ 64) (news : List Value) (W : World) (hl : news.length = n * 2) (hc : ∀ j u, news[j]? = some u → W.cell? (ad.add j) = some u) (h1 : ∀ u ∈ news, u.oneCell' = true) :
    Calls Tryd.prog 92 #[.slice (some ad) n c] W fun e w' => ∃ g cap cur, e = .returned (.slice (some ⟨g, 0, none⟩) n cap) ∧ w'.heap[g]? = some (.cells cur 60 (0, 0)) ∧ W.heap.size ≤ g ∧ n ≤ cap ∧ cur.toList.take (n * 2) = news ∧ Below W.heap.size W w' := by
  obtain ⟨i0, hinf, hz0, hz1, hz2⟩ := info_parts infoSpan
  have HC := Lib.hid hc; have H1 := Lib.hid h1
  clear hc h1
  have q : ∀ (w : World) (a : Option Addr) (n c n' c' : Nat), (binOp .eql 46 (.slice a n c) (.slice none n' c')).run Tryd.prog w = .ok (.bool a.isNone) w := fun w a n c n' c' => Lib.run_eql_slice_nil w _ _ a n c n' c' Tryd.underlying46
  go_enter Tryd.func92, Tryd.ntmps92
  go_wp2_with ((with_reducible refine gate_builtin (b := .append) (xs := #[.tmp 5, .tmp 6]) rfl ?_); at_builtin; refine wpList_append_own _ rfl _ _ 46 rfl W.heap.size 60 i0 (.agg #[.int .i64 0, .int .i64 0]) 2 16 Tryd.underlying46 hinf hz0 hz1 hz2 rfl (by decide) _ 0 [] rfl ⟨by simp, .inr ⟨W.heap.size, 0, #[], rfl, Nat.le_refl _, (new1 W _).1, Nat.le_refl _, (by decide), (by simp), (by simp)⟩⟩ ad n c news rfl hl (fun j u h => pw_cell_below (new1 W _).2.1 (HC.out j u h)) H1.out (by simp [maxLen]; omega) (by omega) (by simp) ?_; intro v' w3 hown hgrow _)
  obtain ⟨_, hown⟩ := hown
  rcases hown with ⟨_, h0⟩ | ⟨g, cap, cur, rfl, hg, hblk, hcap, _, _, hnews⟩
  · omega
  go_wp2
  go_ret
  refine ⟨g, cap, cur, by simp, hblk, hg, by omega, by simpa using hnews, grown_Below (new1 W _).2.1 (Nat.le_refl _) hgrow⟩
def setKnot (P : List S48) (p k : Nat) (n : Int) : List S48 := P.set p ⟨(P.getD p z48).f0, (P.getD p z48).f1.set k ⟨n, n⟩⟩
def knotLen (P : List S48) (Q : List S50) (p k : Nat) (n : Int) : Int := ((mostN (setKnot P p k n) Q).length : Nat)
def worstTo (P : List S48) (Q : List S50) (p k : Nat) (j : Nat) : List Int := (List.range j).map fun n : Nat => knotLen P Q p k (((P.getD p z48).f1.getD k z60).f0 + (n : Int))
def worstB (P : List S48) (Q : List S50) (p k : Nat) : Int :=
  let l := worstTo P Q p k ((((P.getD p z48).f1.getD k z60).f1 - ((P.getD p z48).f1.getD k z60).f0 + 1).toNat)
  l.foldl mn (l.getD 0 0)
def lookStep (P : List S48) (Q : List S50) (p k : Nat) (z : Int × Int × Int) : Int × Int × Int := if z.2.2 < worstB P Q p k then ((p : Int), (k : Int), worstB P Q p k) else z
def lookIn (P : List S48) (Q : List S50) (p : Nat) (z : Int × Int × Int) : Nat → Int × Int × Int
  | 0 => z
  | k + 1 => lookStep P Q p k (lookIn P Q p z k)
def lookTo (P : List S48) (Q : List S50) : Nat → Int × Int × Int
  | 0 => (0, 0, -1)
  | p + 1 => lookIn P Q p (lookTo P Q p) (P.getD p z48).f1.length
def lookP (P : List S48) (Q : List S50) : Int × Int × Int :=
  if validB P Q then (if (lookTo P Q P.length).2.2 < 0 then (0, 0, 4) else ((lookTo P Q P.length).1, (lookTo P Q P.length).2.1, 0)) else (0, 0, 10)
theorem least_l0 (l : List Int) (hl : l.length < 9223372036854775808) : ∀ (d j : Nat) (a : Int), j + d = l.length →
    Evt (fun k => plank_least_int.l0 k a l (l.length : Int) (j : Int)) ((l.drop j).foldl mn a)
  | 0, j, a, hj => by
    refine Evt.succ ?_
    simp only [plank_least_int.l0]
    rw [List.drop_eq_nil_of_le (by omega)]
    exact Evt.neg (by omega) (Evt.pure _)
  | d + 1, j, a, hj => by
    have h1 : l.drop j = l[j] :: l.drop (j + 1) := List.drop_eq_getElem_cons (by omega)
    have hg : rd l (j : Int) = l[j] := by simp [rd, show j < l.length by omega]
    refine Evt.succ ?_
    simp only [plank_least_int.l0]
    rw [h1, List.foldl_cons]
    refine Evt.pos (by omega) (Evt.pos (by omega) (Evt.pos (by omega) ?_))
    rw [hg, w64 j (by omega)]
    exact least_l0 l hl d (j + 1) _ (by omega)
theorem calls_least (a : Int) (A : Option Addr) (c : Nat) (l : List Int) (w : World) (hr : Kd.C (Kd.int .i64) w A l.length l) (hc : l.length ≤ c) :
    Calls Tryd.prog 93 #[.int .i64 a, .slice A l.length c] w fun e w' => e = .returned (.int .i64 (l.foldl mn a)) ∧ Below w.heap.size w w' := by
  obtain ⟨k, hk⟩ := (least_l0 l (by have := hr.2.1; omega) l.length 0 a (by omega)).get
  exact (plank_least_int.calls k a A c l _ w hr hc hk).mono fun e w' h => ⟨h.1, by first | exact h.2 | exact h.2.below⟩
theorem set_length (P : List S48) (p k : Nat) (n : Int) : (setKnot P p k n).length = P.length := by simp [setKnot]
theorem ok_set {P : List S48} {Q : List S50} (hok : Ok P Q) {p k : Nat} (hp : p < P.length) {n : Int} (h0 : 0 ≤ n) (h16 : n < 16) : Ok (setKnot P p k n) Q := by
  refine ⟨by rw [set_length]; exact hok.p3, hok.q5, fun y hy => ?_, hok.shape⟩
  unfold setKnot at hy
  rcases List.mem_or_eq_of_mem_set hy with h | rfl
  · exact hok.wood y h
  · obtain ⟨h1, h2, h3⟩ := hok.wood (P.getD p z48) (by rw [show P.getD p z48 = P[p] from by simp [hp]]; exact List.getElem_mem hp)
    refine ⟨h1, h2, ⟨by simpa using h3.few, fun s hs => ?_⟩⟩
    rcases List.mem_or_eq_of_mem_set hs with h | rfl
    · exact h3.knot s h
    · exact ⟨h0, Int.le_refl _, h16⟩
theorem take_get {cur : Array Value} {news : List Value} {m i : Nat} (h : cur.toList.take m = news) (hi : i < m) : cur[i]? = news[i]? := by
  rw [← h, List.getElem?_take_of_lt hi, Array.getElem?_toList]
theorem set_spans {cur : Array Value} {news : List Value} {l : List S60} (hcur : cur.toList.take (l.length * 2) = news) (hnl : news.length = l.length * 2) (hnw : ∀ j, j < l.length → spanAt (fun i => news[i]?) (l.getD j z60) j) {k : Nat} (hk : k < l.length) (v : Int) :
    ∀ j, j < (l.set k ⟨v, v⟩).length → spanAt (fun i => ((cur.setIfInBounds (k * 2) (.int .i64 v)).setIfInBounds (k * 2 + 1) (.int .i64 v))[i]?) ((l.set k ⟨v, v⟩).getD j z60) j := by
  intro j hj
  rw [List.length_set] at hj
  have hsz : l.length * 2 ≤ cur.size := by
    have h1 : (cur.toList.take (l.length * 2)).length = l.length * 2 := by rw [hcur]; exact hnl
    rw [List.length_take] at h1
    have h2 : cur.toList.length = cur.size := Array.length_toList
    omega
  by_cases e : j = k
  · subst e
    rw [show (l.set j ⟨v, v⟩).getD j z60 = ⟨v, v⟩ from by simp [hj]]
    refine ⟨?_, ?_⟩
    · show _ = some (Value.int .i64 v)
      try dsimp only
      rw [Array.getElem?_setIfInBounds_ne (show j * 2 + 1 ≠ j * 2 by omega), Array.getElem?_setIfInBounds_self_of_lt (by omega)]
    · show _ = some (Value.int .i64 v)
      try dsimp only
      rw [Array.getElem?_setIfInBounds_self_of_lt (by simp; omega)]
  · obtain ⟨h1, h2⟩ := hnw j hj
    rw [show (l.set k ⟨v, v⟩).getD j z60 = l.getD j z60 from by simp [Ne.symm e]]
    refine ⟨?_, ?_⟩
    · refine Eq.trans ?_ h1
      show _ = news[j * 2]?
      try dsimp only
      rw [← take_get hcur (by omega), Array.getElem?_setIfInBounds_ne (show k * 2 + 1 ≠ j * 2 by omega), Array.getElem?_setIfInBounds_ne (show k * 2 ≠ j * 2 by omega)]
    · refine Eq.trans ?_ h2
      show _ = news[j * 2 + 1]?
      try dsimp only
      rw [← take_get hcur (by omega), Array.getElem?_setIfInBounds_ne (show k * 2 + 1 ≠ j * 2 + 1 by omega), Array.getElem?_setIfInBounds_ne (show k * 2 ≠ j * 2 + 1 by omega)]
theorem set_woods {Wr Wd : World} {cur : Array Value} {news : List Value} {P : List S48} (hcur : cur.toList.take (P.length * 2) = news) (hnl : news.length = P.length * 2) (hnw : ∀ j, j < P.length → woodAt Wr (fun i => news[i]?) (P.getD j z48) j) (hb : Below Wr.heap.size Wr Wd) {p : Nat} (hp : p < P.length)
    {l : List S60} {A : Option Addr} {c : Nat} (hlc : l.length ≤ c) (hC : Kd.C k60 Wd A l.length l) :
    ∀ j, j < (P.set p ⟨(P.getD p z48).f0, l⟩).length → woodAt Wd (fun i => (cur.setIfInBounds (p * 2 + 1) (.slice A l.length c))[i]?) ((P.set p ⟨(P.getD p z48).f0, l⟩).getD j z48) j := by
  intro j hj
  rw [List.length_set] at hj
  have hsz : P.length * 2 ≤ cur.size := by
    have h1 : (cur.toList.take (P.length * 2)).length = P.length * 2 := by rw [hcur]; exact hnl
    rw [List.length_take] at h1
    have h2 : cur.toList.length = cur.size := Array.length_toList
    omega
  have hat := hnw j hj
  by_cases e : j = p
  · subst e
    rw [show (P.set j ⟨(P.getD j z48).f0, l⟩).getD j z48 = ⟨(P.getD j z48).f0, l⟩ from by simp [hj]]
    obtain ⟨A', c', h1, h2, h3, h4⟩ := hat
    refine ⟨A, c, ?_, ?_, hlc, hC⟩
    · refine Eq.trans ?_ h1
      show _ = news[j * 2]?
      try dsimp only
      rw [← take_get hcur (by omega), Array.getElem?_setIfInBounds_ne (show j * 2 + 1 ≠ j * 2 by omega)]
    · show _ = some (Value.slice A l.length c)
      try dsimp only
      rw [Array.getElem?_setIfInBounds_self_of_lt (by omega)]
  · rw [show (P.set p ⟨(P.getD p z48).f0, l⟩).getD j z48 = P.getD j z48 from by simp [Ne.symm e]]
    refine woodAt_keep hat ?_ ?_ hb
    · show _ = news[j * 2]?
      try dsimp only
      rw [← take_get hcur (by omega), Array.getElem?_setIfInBounds_ne (show p * 2 + 1 ≠ j * 2 by omega)]
    · show _ = news[j * 2 + 1]?
      try dsimp only
      rw [← take_get hcur (by omega), Array.getElem?_setIfInBounds_ne (show p * 2 + 1 ≠ j * 2 + 1 by omega)]
theorem worst_next (P : List S48) (Q : List S50) (p k j : Nat) : worstTo P Q p k (j + 1) = worstTo P Q p k j ++ [knotLen P Q p k (((P.getD p z48).f1.getD k z60).f0 + (j : Int))] := by
  unfold worstTo; rw [List.range_succ, List.map_append]; rfl
theorem worst_len (P : List S48) (Q : List S50) (p k j : Nat) : (worstTo P Q p k j).length = j := by simp [worstTo]
theorem valid_knots {P : List S48} {Q : List S50} (hv : validB P Q = true) {p : Nat} (hp : p < P.length) : (P.getD p z48).f1.length ≤ 3 ∧ ∀ k, k < (P.getD p z48).f1.length → ∃ lo hi : Nat, ((P.getD p z48).f1.getD k z60).f0 = lo ∧ ((P.getD p z48).f1.getD k z60).f1 = hi ∧ lo ≤ hi ∧ hi - lo ≤ 6 ∧ hi < 16 := by
  unfold validB at hv
  simp only [Bool.and_eq_true, List.all_eq_true] at hv
  have hm : P.getD p z48 ∈ P := by rw [show P.getD p z48 = P[p] from by simp [hp]]; exact List.getElem_mem hp
  have hw := hv.2.1 _ hm
  generalize P.getD p z48 = y at hw ⊢
  unfold woodB at hw
  simp only [Bool.and_eq_true, List.all_eq_true, decide_eq_true_eq] at hw
  obtain ⟨⟨h1, h2⟩, h3, h4⟩ := hw
  refine ⟨h3, fun k hk => ?_⟩
  have hm : y.f1.getD k z60 ∈ y.f1 := by rw [show y.f1.getD k z60 = y.f1[k] from by simp [hk]]; exact List.getElem_mem hk
  have hq := h4 _ hm
  generalize y.f1.getD k z60 = s at hq ⊢
  unfold knotB at hq
  simp only [Bool.and_eq_true, decide_eq_true_eq] at hq
  exact ⟨s.f0.toNat, s.f1.toNat, by omega, by omega, by omega, by omega, by omega⟩
theorem worst_is (P : List S48) (Q : List S50) (p k lo hi : Nat) (h0 : ((P.getD p z48).f1.getD k z60).f0 = lo) (h1 : ((P.getD p z48).f1.getD k z60).f1 = hi) (hle : lo ≤ hi) :
    worstB P Q p k = (worstTo P Q p k (hi - lo + 1)).foldl mn ((worstTo P Q p k (hi - lo + 1)).getD 0 0) := by
  unfold worstB
  rw [h0, h1, show ((hi : Int) - (lo : Int) + 1).toNat = hi - lo + 1 by omega]
set_option maxRecDepth 100000 in
set_option maxHeartbeats 2000000 in
theorem calls_Look (PA : Option Addr) (pc : Nat) (P : List S48) (QA : Option Addr) (qc : Nat) (Q : List S50) (w : World) (hP : Kd.C k48 w PA P.length P) (hpc : P.length ≤ pc) (hQ : Kd.C k50 w QA Q.length Q) (hqc : Q.length ≤ qc) (hG : Glob w) :
    Calls Tryd.prog 32 #[.agg #[.slice PA P.length pc, .slice QA Q.length qc]] w fun e w' => e = .returned (.tuple #[.int .i64 (lookP P Q).1, .int .i64 (lookP P Q).2.1, .int .i64 (lookP P Q).2.2]) ∧ Below w.heap.size w w' := by
  have HP0 := Lib.hid hP; have HQ0 := Lib.hid hQ; have HG0 := Lib.hid hG
  obtain ⟨n0, n1, n2⟩ := new1 w (.cells #[.slice PA P.length pc, .slice QA Q.length qc] 25)
  have HX := Lib.hid n0; have HB := Lib.hid n1
  clear n0 n1 n2 hP hQ hG
  cases hv : validB P Q with
  | false =>
    have hck := checkP_no hv
    rw [show lookP P Q = (0, 0, 10) from by unfold lookP; rw [hv]; rfl]
    go_enter Tryd.func32, Tryd.ntmps32
    go_wp2_with (go_at_call 18; (with_reducible refine (calls_Check PA pc P QA qc Q _ (Kd.C_below HP0.out HB.out) hpc (Kd.C_below HQ0.out HB.out) hqc).mono ?_); rintro e w1 ⟨he, hb⟩; rw [hck] at he; subst he; have HB := Lib.hid (HB.out.trans (hb.mono (below_size HB.out))))
    exact bodyPost_ret (results_tmp3 rfl _ _ _) rfl ⟨rfl, HB.out⟩
  | true =>
    have hck := checkP_yes hv
    have hok := valid_ok hv
    have hdd : lookP P Q = (if (lookTo P Q P.length).2.2 < 0 then (0, 0, 4) else ((lookTo P Q P.length).1, (lookTo P Q P.length).2.1, (0 : Int))) := by unfold lookP; rw [hv]; rfl
    have HDD := Lib.hid hdd; clear hdd
    go_enter Tryd.func32, Tryd.ntmps32
    go_wp2_with (go_at_call 18; (with_reducible refine (calls_Check PA pc P QA qc Q _ (Kd.C_below HP0.out HB.out) hpc (Kd.C_below HQ0.out HB.out) hqc).mono ?_); rintro e w1 ⟨he, hb⟩; rw [hck] at he; subst he; have HX := Lib.hid (below_far HX.out hb); have HB := Lib.hid (HB.out.trans (hb.mono (below_size HB.out))); clear hb; have c0 : w1.cell? ⟨w.heap.size, 0, none⟩ = some (.slice PA P.length pc) := blk_cell HX.out 0)
    go_loopw [2, 3, 6, 23] (fun v2 v3 v6 v wr => ∃ p : Nat, p ≤ P.length ∧ v = .int .i64 p ∧ v2 = .int .i64 (lookTo P Q p).1 ∧ v3 = .int .i64 (lookTo P Q p).2.1 ∧ v6 = .int .i64 (lookTo P Q p).2.2 ∧ Hid (wr.heap[w.heap.size]? = some (.cells #[.slice PA P.length pc, .slice QA Q.length qc] 25 (0, 0))) ∧ Hid (Below w.heap.size w wr)) (fun _ _ _ v _ => P.length - (intOf v).toNat)
    case atStart => exact ⟨0, Nat.zero_le _, rfl, rfl, rfl, rfl, HX, HB⟩
    case round =>
      clear HX HB c0
      clear HX HB
      obtain ⟨p, hp, rfl, rfl, rfl, rfl, HX, HB⟩ := hrel
      obtain ⟨z0, hz0⟩ : ∃ z0, lookTo P Q p = z0 := ⟨_, rfl⟩
      by_cases hlt : p < P.length
      · obtain ⟨wo, rfl⟩ : ∃ wo : World, wo = wr := ⟨_, rfl⟩
        obtain ⟨ad, KA, kc, hPA, hc0, hc1, hkl, hKn⟩ := at_wood (Kd.C_below HP0.out HB.out) p hlt
        obtain ⟨y, hy⟩ : ∃ y, P.getD p z48 = y := ⟨_, rfl⟩
        rw [hy] at hc0 hc1 hkl hKn
        subst hPA
        have hyf := valid_knots hv hlt
        rw [hy] at hyf
        have hnext : lookTo P Q (p + 1) = lookIn P Q p z0 y.f1.length := by rw [← hz0, ← hy]; rfl
        have HN := Lib.hid hnext; have HY := Lib.hid hy; have HK := Lib.hid hKn; have HYF := Lib.hid hyf
        have hpl3 := hok.p3
        rw [hz0]
        clear hnext hy hKn hz0 hyf
        go_wp2_with fail
        obtain ⟨n0, n1, n2⟩ := new1 wo (.cells #[.int .i64 y.f0, .slice KA y.f1.length kc] 48)
        generalize wo.alloc (.cells #[.int .i64 y.f0, .slice KA y.f1.length kc] 48) = W1 at n0 n1 n2 ⊢
        have H8 := Lib.hid n0; have HB1 := Lib.hid n1
        clear n0 n1 n2 hc0 hc1
        go_loopw [2, 3, 6, 31] (fun v2 v3 v6 v wi => ∃ k : Nat, k ≤ y.f1.length ∧ v = .int .i64 k ∧ v2 = .int .i64 (lookIn P Q p z0 k).1 ∧ v3 = .int .i64 (lookIn P Q p z0 k).2.1 ∧ v6 = .int .i64 (lookIn P Q p z0 k).2.2 ∧ Hid (Below W1.heap.size W1 wi)) (fun _ _ _ v _ => y.f1.length - (intOf v).toNat)
        case atStart => exact ⟨0, Nat.zero_le _, rfl, rfl, rfl, rfl, Lib.hid (Below.refl _ _)⟩
        case round =>
          obtain ⟨k, hk, rfl, rfl, rfl, rfl, HI⟩ := hrel
          obtain ⟨z, hz⟩ : ∃ z, lookIn P Q p z0 k = z := ⟨_, rfl⟩
          by_cases hltk : k < y.f1.length
          · obtain ⟨wm, rfl⟩ : ∃ wm : World, wm = wr := ⟨_, rfl⟩
            obtain ⟨ka, hKA, hk0, hk1⟩ := at_span (Kd.C_below HK.out (HB1.out.trans (HI.out.mono (below_size HB1.out)))) k hltk
            subst hKA
            obtain ⟨lo, hi, hlo, hhi, hle, hw6, h16⟩ := HYF.out.2 k hltk
            have hkn3 := HYF.out.1
            rw [hlo] at hk0
            rw [hhi] at hk1
            have hnext : lookIn P Q p z0 (k + 1) = lookStep P Q p k z := by rw [← hz]; rfl
            have HN2 := Lib.hid hnext
            have hwb := worst_is P Q p k lo hi (by rw [HY.out]; exact hlo) (by rw [HY.out]; exact hhi) hle
            have HWB := Lib.hid hwb
            obtain ⟨N, hN⟩ : ∃ N : Nat, hi - lo + 1 = N := ⟨_, rfl⟩
            rw [hN] at HWB
            have hN2 : wrap64 (wrap64 ((hi : Int) - (lo : Int)) + 1) = (N : Int) := by unfold wrap64; omega
            have HS := Lib.hid (show (y.f1.getD k z60).f0 = lo from hlo)
            rw [hz]
            clear hnext hz hwb hlo hhi
            go_wp2_with fail
            rw [show (hi : Int) - (lo : Int) + 1 = (N : Int) by omega]
            obtain ⟨n0, n1, n2⟩ := new1 wm (.cells #[.int .i64 lo, .int .i64 hi] 60)
            generalize wm.alloc (.cells #[.int .i64 lo, .int .i64 hi] 60) = W2 at n0 n1 n2 ⊢
            have H10 := Lib.hid n0; have HB2 := Lib.hid n1
            have HS2 := Lib.hid (show wm.heap.size < W2.heap.size from blk_lt n0)
            have hN7 : N ≤ 7 := by omega
            have HBM := Lib.hid (HI.out.trans (n1.mono (below_size HI.out)))
            clear n0 n1 n2 hk0 hk1 hN2
            go_loopw [11, 42] (fun v11 v wi => ∃ j : Nat, j ≤ N ∧ v = .int .i64 j ∧ Hid (Kd.R (Kd.int .i64) 3 wi W2.heap.size (fun _ => True) v11 (worstTo P Q p k j)) ∧ Hid (Below W2.heap.size W2 wi)) (fun _ v _ => N - (intOf v).toNat)
            case atStart => exact ⟨0, by omega, rfl, Lib.hid (Kd.R_nil _ _ _ _ _), Lib.hid (Below.refl _ _)⟩
            case round =>
              obtain ⟨j, hj, rfl, HL, HJ⟩ := hrel
              by_cases hltj : j < N
              · have HXr := Lib.hid (below_far (below_far (below_far HX.out HB1.out) HBM.out) HJ.out)
                have H8r := Lib.hid (below_far (below_far H8.out HBM.out) HJ.out)
                have H10r := Lib.hid (below_far H10.out HJ.out)
                have HBr := Lib.hid (((HB.out.trans (HB1.out.mono (below_size HB.out))).trans (HBM.out.mono (Nat.le_trans (below_size HB.out) (below_size HB1.out)))).trans (HJ.out.mono (Nat.le_trans (Nat.le_trans (below_size HB.out) (below_size HB1.out)) (below_size HBM.out))))
                have HKr := Lib.hid (Kd.C_below (Kd.C_below (Kd.C_below HK.out HB1.out) HBM.out) HJ.out)
                obtain ⟨c0, c1⟩ : wr.cell? ⟨w.heap.size, 0, none⟩ = some (.slice (some ad) P.length pc) ∧ wr.cell? ⟨w.heap.size, 1, none⟩ = some (.slice QA Q.length qc) := ⟨blk_cell HXr.out 0, blk_cell HXr.out 1⟩
                go_upto_region 16 with (fail)
                obtain ⟨n0, n1, n2⟩ := new1 wr (.cells #[.slice (some ad) P.length pc, .slice QA Q.length qc] 25)
                generalize wr.alloc (.cells #[.slice (some ad) P.length pc, .slice QA Q.length qc] 25) = Wa at n0 n1 n2 ⊢
                have H13 := Lib.hid n0; have HBa := Lib.hid n1
                have hsa : wr.heap.size < Wa.heap.size := blk_lt n0
                have hwr : w.heap.size ≤ wr.heap.size := below_size HBr.out
                have HPa := Lib.hid (Kd.C_below HP0.out (HBr.out.trans (n1.mono hwr)))
                have c0 : Wa.cell? ⟨w.heap.size, 0, none⟩ = some (.slice (some ad) P.length pc) := blk_cell (below_far HXr.out n1) 0
                clear n0 n1 n2 c1
                obtain ⟨news, hnl, hnc, hn1, hnw⟩ : ∃ news : List Value, news.length = P.length * 2 ∧ (∀ j u, news[j]? = some u → Wa.cell? (ad.add j) = some u) ∧ (∀ u ∈ news, u.oneCell' = true) ∧ ∀ j, j < P.length → woodAt wr (fun i => news[i]?) (P.getD j z48) j := by
                  obtain ⟨h1, h2, h3⟩ := woods_news (Kd.C_below HP0.out HBr.out)
                  exact ⟨cellsOf wr ad P.length, cellsOf_len _ _ _, fun j u h => pw_cell_below HBa.out (h1 j u h), h2, h3⟩
                have HNL := Lib.hid hnl; have HNC := Lib.hid hnc; have HN1 := Lib.hid hn1; have HNW := Lib.hid hnw
                clear hnl hnc hn1 hnw
                have hP1 : 1 ≤ P.length := by omega
                have hP64 : P.length ≤ 64 := by omega
                go_wp2_with (go_at_call 91; (with_reducible refine (calls_ClonePl ad P.length pc hP1 hP64 news Wa HNL.out HNC.out HN1.out).mono ?_); rintro e w1 ⟨g, cap, cur, rfl, hg, hgw, hcap, hcur, hb⟩; have HG1 := Lib.hid hg; have HCUR := Lib.hid hcur; have HB1a := Lib.hid hb; obtain ⟨adg, hadg⟩ : ∃ a : Addr, a = ⟨g, 0, none⟩ := ⟨_, rfl⟩; rw [← hadg]; have HADG := Lib.hid hadg; have H131 := Lib.hid (below_far H13.out hb); have c130 : w1.cell? ⟨wr.heap.size, 0, none⟩ = some (.slice (some ad) P.length pc) := (blk_cell H131.out 0); have f130 : w1.frozen? ⟨wr.heap.size, 0, none⟩ = false := (blk_frozen H131.out 0); clear hg hcur hb hadg)
                generalize hWb : w1.setCell ⟨wr.heap.size, 0, none⟩ (.slice (some adg) P.length cap) = Wb
                have hgne : g ≠ wr.heap.size := by omega
                have HGb := Lib.hid (show Wb.heap[g]? = some (.cells cur 48 (0, 0)) by rw [← hWb]; exact blk_far HG1.out (by show g ≠ wr.heap.size; omega) _)
                have H13b := Lib.hid (show Wb.heap[wr.heap.size]? = some (.cells #[.slice (some adg) P.length cap, .slice QA Q.length qc] 25 (0, 0)) by rw [← hWb]; exact blk_set H131.out 0 _)
                have hba : Below wr.heap.size wr w1 := HBa.out.trans (HB1a.out.mono (Nat.le_of_lt hsa))
                have HBb := Lib.hid (show Below wr.heap.size wr Wb by rw [← hWb]; exact hba.setCell (Nat.le_refl _) _)
                have HBab := Lib.hid (show ∀ k, k < wr.heap.size → Wb.heap[k]? = wr.heap[k]? from fun k hk => (HBb.out.block k hk))
                clear hWb c130 f130 c0 hba H131 HG1 HB1a
                obtain ⟨news2, hnl, hnc, hn1, hnw⟩ : ∃ news : List Value, news.length = y.f1.length * 2 ∧ (∀ j u, news[j]? = some u → Wb.cell? (ka.add j) = some u) ∧ (∀ u ∈ news, u.oneCell' = true) ∧ ∀ j, j < y.f1.length → spanAt (fun i => news[i]?) (y.f1.getD j z60) j := by
                  obtain ⟨h1, h2, h3⟩ := spans_news (Kd.C_below HKr.out HBb.out)
                  exact ⟨cellsOf Wb ka y.f1.length, cellsOf_len _ _ _, h1, h2, h3⟩
                have HNL2 := Lib.hid hnl; have HNC2 := Lib.hid hnc; have HN12 := Lib.hid hn1; have HNW2 := Lib.hid hnw
                clear hnl hnc hn1 hnw
                have HNC2d := Lib.hid (show ∀ j u, news2[j]? = some u → Wb.drew.cell? (ka.add j) = some u from HNC2.out)
                have hk1 : 1 ≤ y.f1.length := by omega
                have hk64 : y.f1.length ≤ 64 := by omega
                have hadg : ∀ i, adg.add i = ⟨g, i, none⟩ := fun i => by rw [HADG.out]; unfold Addr.add; split <;> simp_all
                have HADD := Lib.hid hadg; clear hadg
                obtain ⟨ch, hch⟩ : ∃ ch, cur[p * 2 + 1]? = some ch := by
                  have h1 : (cur.toList.take (P.length * 2)).length = P.length * 2 := by rw [HCUR.out]; exact HNL.out
                  rw [List.length_take] at h1
                  have h2 : cur.toList.length = cur.size := Array.length_toList
                  exact ⟨_, Array.getElem?_eq_getElem (by omega)⟩
                have HCH := Lib.hid hch; clear hch
                have s0 : Wb.cell? ⟨wr.heap.size, 0, none⟩ = some (.slice (some adg) P.length cap) := blk_cell H13b.out 0
                have s1 : Wb.cell? ⟨wo.heap.size, 1, none⟩ = some (.slice (some ka) y.f1.length kc) := blk_cell (below_far H8r.out HBb.out) 1
                have s2 : Wb.cell? ⟨(adg.add (p * 2)).block, (adg.add (p * 2)).off + 1, none⟩ = some ch := by rw [HADD.out]; exact (blk_cell HGb.out _).trans HCH.out
                have s3 : Wb.frozen? ⟨(adg.add (p * 2)).block, (adg.add (p * 2)).off + 1, none⟩ = false := by rw [HADD.out]; exact blk_frozen HGb.out _
                have hpl : (p : Int) < (P.length : Int) := by omega
                have hp0 : 0 ≤ (p : Int) := by omega
                clear HNC HN1 HX
                refine start_ (n := 9) (S := fun w' => w'.cell? ⟨wr.heap.size, 0, none⟩ = some (.slice (some adg) P.length cap) ∧ w'.cell? ⟨wo.heap.size, 1, none⟩ = some (.slice (some ka) y.f1.length kc) ∧ w'.cell? ⟨(adg.add (p * 2)).block, (adg.add (p * 2)).off + 1, none⟩ = some ch ∧ w'.frozen? ⟨(adg.add (p * 2)).block, (adg.add (p * 2)).off + 1, none⟩ = false) (ds := [8]) #[false, false, false, false, false, false, false, false, false] (by kernel_rfl) rfl rfl ⟨s0, s1, s2, s3⟩ (fun hHeld => ?_)
                refine pu_ (i := 0) (N := some 50) (qa_ 9 1) ?_
                refine pu_ (i := 2) (N := some 52) (qa_ 9 5) ?_
                refine pu_ (i := 3) (N := some 53) (qa_ 9 13) ?_
                refine tk_ (i := 1) (N := some 51) (qa_ 9 15) hHeld ?_
                refine tk_ (i := 4) (N := some 54) (qa_ 9 31) hHeld ?_
                refine on_ (i := 5) (N := some 55) (qa_ 9 63) (fun K hK => ?_)
                refine goes_ Tryd.func92 (by kernel_rfl) rfl #[.slice (some ka) y.f1.length kc] (by rfl) rfl rfl (by first | (simp; done) | (simp only [List.map_toArray, List.map_cons, List.map_nil]; rfl)) ?_
                with_reducible refine (calls_CloneKn ka y.f1.length kc hk1 hk64 news2 Wb.drew HNL2.out HNC2d.out HN12.out).mono ?_
                rintro e w2 ⟨gk, capk, cur2, rfl, hgk, hgkw, hcapk, hcur2, hb1⟩
                have hb2 : Below Wb.heap.size Wb w2 := undrew hb1
                obtain ⟨adk, hadk⟩ : ∃ a : Addr, a = ⟨gk, 0, none⟩ := ⟨_, rfl⟩
                rw [← hadk]
                refine ⟨_, rfl, ?_⟩
                refine hK.out _ _ ⟨pw_cell_below hb2 s0, pw_cell_below hb2 s1, pw_cell_below hb2 s2, (by rw [HADD.out]; exact blk_frozen (below_far HGb.out hb2) _)⟩ (fun hHeld => ?_)
                clear hK K
                refine nm_ (some 55) ?_
                refine pu_ (i := 6) (N := some 56) (qa_ 9 127) ?_
                refine pu_ (i := 7) (N := some 57) (qa_ 9 255) ?_
                refine last_ (i := 8) (N := none) (qa_ 9 511) rfl rfl (by kernel_rfl) (by decide) (fun K hK => ?_)
                refine skip_ (w1 := ?_) (by rfl) rfl ?_ ?_
                rotate_left
                · go_simp
                  rfl
                refine hK.out _ _ ?_
                clear hK K
                refine done_ (by kernel_rfl) ?_
                clear hHeld s0 s1 s2 s3
                have hgkb : Wb.heap.size ≤ gk := hgkw
                have hgb : g < Wb.heap.size := blk_lt HGb.out
                have hsb : wr.heap.size < Wb.heap.size := blk_lt H13b.out
                rw [show ({ block := gk, off := 0 } : Addr) = adk from hadk.symm, HADD.out]
                have hadk2 : ∀ i, adk.add i = ⟨gk, i, none⟩ := fun i => by rw [hadk]; unfold Addr.add; split <;> simp_all
                have HADK := Lib.hid hadk2; clear hadk2
                generalize hWc : w2.setCell ⟨g, p * 2 + 1, none⟩ (.slice (some adk) y.f1.length capk) = Wc
                have HGc := Lib.hid (show Wc.heap[g]? = some (.cells (cur.setIfInBounds (p * 2 + 1) (.slice (some adk) y.f1.length capk)) 48 (0, 0)) by rw [← hWc]; exact blk_set (below_far HGb.out hb2) _ _)
                have HKc := Lib.hid (show Wc.heap[gk]? = some (.cells cur2 60 (0, 0)) by rw [← hWc]; exact blk_far hgk (by show gk ≠ g; omega) _)
                have H13c := Lib.hid (show Wc.heap[wr.heap.size]? = some (.cells #[.slice (some adg) P.length cap, .slice QA Q.length qc] 25 (0, 0)) by rw [← hWc]; exact blk_far (below_far H13b.out hb2) (by show wr.heap.size ≠ g; omega) _)
                have hbr2 : Below wr.heap.size wr w2 := HBb.out.trans (hb2.mono (Nat.le_of_lt hsb))
                have HBc := Lib.hid (show Below wr.heap.size wr Wc by rw [← hWc]; exact hbr2.setCell (by show _ ≤ g; omega) _)
                clear hWc hbr2 hb1 hb2 HGb H13b HNC2 HNC2d HN12
                obtain ⟨c3, c4, hc3, hc4⟩ : ∃ c3 c4, cur2[k * 2]? = some c3 ∧ cur2[k * 2 + 1]? = some c4 := by
                  have h1 : (cur2.toList.take (y.f1.length * 2)).length = y.f1.length * 2 := by rw [hcur2]; exact HNL2.out
                  rw [List.length_take] at h1
                  have h2 : cur2.toList.length = cur2.size := Array.length_toList
                  exact ⟨_, _, Array.getElem?_eq_getElem (by omega), Array.getElem?_eq_getElem (by omega)⟩
                have hcp : p * 2 + 1 < cur.size := by have := HCH.out; exact (Array.getElem?_eq_some_iff.1 this).1
                have s0 : Wc.cell? ⟨wr.heap.size, 0, none⟩ = some (.slice (some adg) P.length cap) := blk_cell H13c.out 0
                have s1 : Wc.cell? ⟨(adg.add (p * 2)).block, (adg.add (p * 2)).off + 1, none⟩ = some (.slice (some adk) y.f1.length capk) := by rw [HADD.out]; refine (blk_cell HGc.out _).trans ?_; simp [hcp]
                have s2 : Wc.cell? ⟨wm.heap.size, 0, none⟩ = some (.int .i64 lo) := blk_cell (below_far H10r.out HBc.out) 0
                have s3 : Wc.cell? (adk.add (k * 2)) = some c3 := by rw [HADK.out]; exact (blk_cell HKc.out _).trans hc3
                have s4 : Wc.cell? ⟨(adk.add (k * 2)).block, (adk.add (k * 2)).off + 1, none⟩ = some c4 := by rw [HADK.out]; exact (blk_cell HKc.out _).trans hc4
                have s5 : Wc.frozen? (adk.add (k * 2)) = false := by rw [HADK.out]; exact blk_frozen HKc.out _
                have s6 : Wc.frozen? ⟨(adk.add (k * 2)).block, (adk.add (k * 2)).off + 1, none⟩ = false := by rw [HADK.out]; exact blk_frozen HKc.out _
                have s7 : ∀ v, (Wc.setCell (adk.add (k * 2)) v).cell? ⟨(adk.add (k * 2)).block, (adk.add (k * 2)).off + 1, none⟩ = some c4 := fun v => by
                  rw [HADK.out]
                  refine (blk_cell (blk_set HKc.out _ _) _).trans ?_
                  rw [Array.getElem?_setIfInBounds_ne (show k * 2 ≠ k * 2 + 1 by omega)]
                  exact hc4
                have hkl' : (k : Int) < (y.f1.length : Int) := by omega
                have hk0 : 0 ≤ (k : Int) := by omega
                have hwl : wrap64 ((lo : Int) + (j : Int)) = (lo : Int) + (j : Int) := by unfold wrap64; omega
                have HCU2 := Lib.hid hcur2; have HC3 := Lib.hid hc3; have HC4 := Lib.hid hc4; have HCP := Lib.hid hcp; have HADK0 := Lib.hid hadk
                clear hcur2 hc3 hc4 hcp hadk hgk
                go_wp2_with fail
                refine start_ (n := 18) (S := fun w' => w'.cell? ⟨wr.heap.size, 0, none⟩ = some (.slice (some adg) P.length cap) ∧ w'.cell? ⟨(adg.add (p * 2)).block, (adg.add (p * 2)).off + 1, none⟩ = some (.slice (some adk) y.f1.length capk) ∧ w'.cell? ⟨wm.heap.size, 0, none⟩ = some (.int .i64 lo) ∧ w'.cell? (adk.add (k * 2)) = some c3 ∧ w'.cell? ⟨(adk.add (k * 2)).block, (adk.add (k * 2)).off + 1, none⟩ = some c4 ∧ w'.frozen? (adk.add (k * 2)) = false ∧ w'.frozen? ⟨(adk.add (k * 2)).block, (adk.add (k * 2)).off + 1, none⟩ = false ∧ ∀ v, (w'.setCell (adk.add (k * 2)) v).cell? ⟨(adk.add (k * 2)).block, (adk.add (k * 2)).off + 1, none⟩ = some c4) (ds := [17]) #[false, false, false, false, false, false, false, false, false, false, false, false, false, false, false, false, false, false] (by kernel_rfl) rfl rfl ⟨s0, s1, s2, s3, s4, s5, s6, s7⟩ (fun hHeld => ?_)
                refine pu_ (i := 0) (N := some 58) (qa_ 18 1) ?_
                refine pu_ (i := 2) (N := some 60) (qa_ 18 5) ?_
                refine pu_ (i := 6) (N := some 64) (qa_ 18 69) ?_
                refine pu_ (i := 7) (N := some 65) (qa_ 18 197) ?_
                refine pu_ (i := 9) (N := some 67) (qa_ 18 709) ?_
                refine pu_ (i := 11) (N := some 69) (qa_ 18 2757) ?_
                refine pu_ (i := 13) (N := some 71) (qa_ 18 10949) ?_
                refine tk_ (i := 1) (N := some 59) (qa_ 18 10951) hHeld ?_
                refine pu_ (i := 3) (N := some 61) (qa_ 18 10959) ?_
                refine pu_ (i := 4) (N := some 62) (qa_ 18 10975) ?_
                refine tk_ (i := 5) (N := some 63) (qa_ 18 11007) hHeld ?_
                refine tk_ (i := 8) (N := some 66) (qa_ 18 11263) hHeld ?_
                refine pu_ (i := 10) (N := some 68) (qa_ 18 12287) ?_
                refine tk_ (i := 12) (N := some 70) (qa_ 18 16383) hHeld ?_
                refine pu_ (i := 14) (N := some 72) (qa_ 18 32767) ?_
                refine pu_ (i := 15) (N := some 73) (qa_ 18 65535) ?_
                refine pu_ (i := 16) (N := some 74) (qa_ 18 131071) ?_
                refine last_ (i := 17) (N := none) (qa_ 18 262143) rfl rfl (by kernel_rfl) (by decide) (fun K hK => ?_)
                refine skip_ (w1 := ?_) (by rfl) rfl ?_ ?_
                rotate_left
                · go_simp
                  rfl
                refine hK.out _ _ ?_
                clear hK K
                refine done_ (by kernel_rfl) ?_
                clear hHeld s0 s1 s2 s3 s4 s5 s6 s7 hwl
                rw [HADK.out]
                have hgkg : gk ≠ g := by omega
                generalize hWd : ((Wc.setCell ⟨gk, k * 2, none⟩ (.int .i64 ((lo : Int) + (j : Int)))).setCell ⟨gk, k * 2 + 1, none⟩ (.int .i64 ((lo : Int) + (j : Int)))).drew = Wd
                have HKd := Lib.hid (show Wd.heap[gk]? = some (.cells ((cur2.setIfInBounds (k * 2) (.int .i64 ((lo : Int) + (j : Int)))).setIfInBounds (k * 2 + 1) (.int .i64 ((lo : Int) + (j : Int)))) 60 (0, 0)) by rw [← hWd]; exact blk_drew (blk_set (blk_set HKc.out _ _) _ _))
                have HGd := Lib.hid (show Wd.heap[g]? = some (.cells (cur.setIfInBounds (p * 2 + 1) (.slice (some adk) y.f1.length capk)) 48 (0, 0)) by rw [← hWd]; exact blk_drew (blk_far (blk_far HGc.out (by show g ≠ gk; omega) _) (by show g ≠ gk; omega) _))
                have H13d := Lib.hid (show Wd.heap[wr.heap.size]? = some (.cells #[.slice (some adg) P.length cap, .slice QA Q.length qc] 25 (0, 0)) by rw [← hWd]; exact blk_drew (blk_far (blk_far H13c.out (by show wr.heap.size ≠ gk; omega) _) (by show wr.heap.size ≠ gk; omega) _))
                have HBd := Lib.hid (show Below wr.heap.size wr Wd by rw [← hWd]; exact ((HBc.out.setCell (by show _ ≤ gk; omega) _).setCell (by show _ ≤ gk; omega) _).drew)
                clear hWd HKc HGc H13c HBc HC3 HC4 HCP
                have HY2 := Lib.hid (show setKnot P p k ((lo : Int) + (j : Int)) = P.set p ⟨(P.getD p z48).f0, y.f1.set k ⟨(lo : Int) + (j : Int), (lo : Int) + (j : Int)⟩⟩ by unfold setKnot; rw [HY.out])
                have hkd : Kd.C k60 Wd (some adk) y.f1.length (y.f1.set k ⟨(lo : Int) + (j : Int), (lo : Int) + (j : Int)⟩) := by
                  have := spans_C HKd.out (P := y.f1.set k ⟨(lo : Int) + (j : Int), (lo : Int) + (j : Int)⟩) (by rw [List.length_set]; simp [maxLen]; omega) (set_spans HCU2.out HNL2.out HNW2.out hltk _)
                  rwa [List.length_set, ← HADK0.out] at this
                have hpd : Kd.C k48 Wd (some adg) P.length (setKnot P p k ((lo : Int) + (j : Int))) := by
                  rw [HY2.out]
                  have hs := set_woods HCUR.out HNL.out HNW.out HBd.out hlt (A := some adk) (c := capk) (l := y.f1.set k ⟨(lo : Int) + (j : Int), (lo : Int) + (j : Int)⟩) (by rw [List.length_set]; exact hcapk) (by rw [List.length_set]; exact hkd)
                  rw [show (y.f1.set k ⟨(lo : Int) + (j : Int), (lo : Int) + (j : Int)⟩).length = y.f1.length from by rw [List.length_set]] at hs
                  have := woods_C HGd.out (by rw [List.length_set]; simp [maxLen]; omega) hs
                  rwa [List.length_set, ← HADG.out] at this
                have HPD := Lib.hid hpd
                clear hkd hpd HKd HGd
                obtain ⟨P', hP'⟩ : ∃ P', setKnot P p k ((lo : Int) + (j : Int)) = P' := ⟨_, rfl⟩
                have hokP : Ok P' Q := by rw [← hP']; exact ok_set hok hlt (by omega) (by omega)
                have hlP : P.length = P'.length := by rw [← hP', set_length]
                have hkn : knotLen P Q p k (((P.getD p z48).f1.getD k z60).f0 + (j : Int)) = ((mostN P' Q).length : Nat) := by unfold knotLen; rw [HY.out, HS.out, hP']
                rw [hP'] at HPD
                have HKN := Lib.hid hkn; have HLP := Lib.hid hlP; have HOKP := Lib.hid hokP
                clear hkn hlP hokP hP' HY2
                rw [HLP.out] at HPD H13d
                obtain ⟨d0, d1⟩ : Wd.cell? ⟨wr.heap.size, 0, none⟩ = some (.slice (some adg) P'.length cap) ∧ Wd.cell? ⟨wr.heap.size, 1, none⟩ = some (.slice QA Q.length qc) := ⟨blk_cell H13d.out 0, blk_cell H13d.out 1⟩
                have HBw := Lib.hid (HBr.out.trans (HBd.out.mono (below_size HBr.out)))
                have HJd := Lib.hid (HJ.out.trans (HBd.out.mono (below_size HJ.out)))
                have HLd := Lib.hid (Kd.R_below HL.out HBd.out)
                have HWS := Lib.hid (below_size HJd.out)
                go_wp2_with (first | (go_at_call 60; (with_reducible refine (calls_opened (some adg) cap QA qc P' Q Wd (HG0.out.below HBw.out) HPD.out (Kd.C_below HQ0.out HBw.out)).mono ?_); rintro e w5 ⟨m, rfl, hbk, hm, hb⟩; have HBK := Lib.hid hbk; have HM := Lib.hid (show W2.heap.size ≤ m from Nat.le_trans HWS.out hm); have HL5 := Lib.hid (Kd.R_below HLd.out hb); have HJ5 := Lib.hid (HJd.out.trans (hb.mono HWS.out)); clear hbk hm hb d0 d1) | (go_at_call 79; (with_reducible refine (calls_most (some adg) cap QA qc m P' Q HOKP.out w5 HBK.out).mono ?_); rintro e w6 ⟨v6, rfl, hv6, hbk6, hg6⟩; obtain ⟨A6, c6, rfl, _, _, _⟩ := hv6; rw [ints_length]; have HL6 := Lib.hid (turn_R (b := 0) HL5.out hg6 (fun r e => by cases e; obtain ⟨arr, clock, hq⟩ := HBK.out.is; exact ⟨Nat.zero_le _, _, hq, rfl⟩)); have HJ6 := Lib.hid (grown_Below HJ5.out HM.out hg6); clear hbk6 hg6) | ((with_reducible refine gate_builtin (b := .append) (xs := #[.tmp 75, .tmp 80]) rfl ?_); at_builtin; refine Kd.R_append (Kd.int .i64) (w0 := W2) W2.heap.size rfl (.tmp 75) (.tmp 80) 31 3 (.int .i64 0) 8 rfl Tryd.underlying31 infoInt rfl (by decide) (by omega) _ (worstTo P Q p k j) ((mostN P' Q).length : Int) [.int .i64 (mostN P' Q).length] (fun _ => True) (fun _ => False) rfl rfl ?aP (fun _ hk => hk.elim) ?aF ?aO ?aB ?aS ?aL ?_; (case aP => exact rfl); (case aF => exact (fun _ _ => trivial)); (case aO => exact HL6.out); (case aB => exact HJ6.out); (case aS => exact below_size HJ6.out); (case aL => rw [worst_len]; omega); intro v2 w7 ho hb7 hg7 hat))
                obtain ⟨A2, c2, rfl, _, _⟩ := Kd.R_reads ho
                go_roundw
                case rel => exact ⟨j + 1, by omega, by go_num, by rw [worst_next, HKN.out]; exact Lib.hid ho, Lib.hid hb7⟩
                case measure => simp [intOf]; omega
              · obtain rfl : j = N := by omega
                obtain ⟨l, hl⟩ : ∃ l, worstTo P Q p k j = l := ⟨_, rfl⟩
                have hll : l.length = j := by rw [← hl, worst_len]
                rw [hl] at HL HWB
                obtain ⟨A2, c2, rfl, hle2, hC2⟩ := Kd.R_reads HL.out
                obtain ⟨a2, rfl, hcell⟩ := at_nat hC2 0 (by omega)
                have hcell0 : wr.cell? a2 = some (.int .i64 (rd l 0)) := hcell
                have HC2 := Lib.hid hC2; have HLL := Lib.hid hll
                have hl0 : (0 : Int) < (l.length : Int) := by omega
                obtain ⟨b, hb0⟩ : ∃ b, worstB P Q p k = b := ⟨_, rfl⟩
                have HW := Lib.hid (show b = l.foldl mn (rd l 0) by rw [← hb0, HWB.out]; rfl)
                have HN3 := Lib.hid (HN2.out.trans (show lookStep P Q p k z = if z.2.2 < b then ((p : Int), (k : Int), b) else z by unfold lookStep; rw [hb0]))
                clear HWB HN2 HL hC2 hll hl hb0
                by_cases hgt : z.2.2 < b
                · have HN3 := Lib.hid (HN3.out.trans (if_pos hgt))
                  go_wp2_with (go_at_call 93; (with_reducible refine (calls_least (rd l 0) (some a2) c2 l _ HC2.out hle2).mono ?_); rintro e w5 ⟨he, hb⟩; rw [← HW.out] at he; subst he; have HJ5 := Lib.hid (HJ.out.trans (hb.mono (below_size HJ.out))); clear hb)
                  go_roundw
                  case rel => exact ⟨k + 1, by omega, by go_num, by rw [HN3.out], by rw [HN3.out], by rw [HN3.out], Lib.hid (HBM.out.trans (HJ5.out.mono (below_size HBM.out)))⟩
                  case measure => simp [intOf]; omega
                · have HN3 := Lib.hid (HN3.out.trans (if_neg hgt))
                  go_wp2_with (go_at_call 93; (with_reducible refine (calls_least (rd l 0) (some a2) c2 l _ HC2.out hle2).mono ?_); rintro e w5 ⟨he, hb⟩; rw [← HW.out] at he; subst he; have HJ5 := Lib.hid (HJ.out.trans (hb.mono (below_size HJ.out))); clear hb)
                  go_roundw
                  case rel => exact ⟨k + 1, by omega, by go_num, by rw [HN3.out], by rw [HN3.out], by rw [HN3.out], Lib.hid (HBM.out.trans (HJ5.out.mono (below_size HBM.out)))⟩
                  case measure => simp [intOf]; omega
          · obtain rfl : k = y.f1.length := by omega
            go_wp2_with fail
            go_roundw
            case rel => exact ⟨p + 1, by omega, by go_num, by rw [HN.out, hz], by rw [HN.out, hz], by rw [HN.out, hz], below_far (below_far HX.out HB1.out) HI.out, HB.out.trans ((HB1.out.trans (HI.out.mono (below_size HB1.out))).mono (below_size HB.out))⟩
            case measure => simp [intOf]; omega
      · obtain rfl : p = P.length := by omega
        rw [hz0] at HDD ⊢
        by_cases hneg : z0.2.2 < 0
        · go_wp2_with fail
          rw [HDD.out, if_pos hneg]
          exact bodyPost_ret (results_tmp3 rfl _ _ _) rfl ⟨rfl, HB.out⟩
        · go_wp2_with fail
          rw [HDD.out, if_neg (by omega)]
          exact bodyPost_ret (results_tmp3 rfl _ _ _) rfl ⟨rfl, HB.out⟩
end Go.Proofs.YtekjlpldooihhaaDoorP
namespace Go.Proofs.YtekjlpldooihhaaDoorP
open Go.RowKit Go.Proofs.YtekjlpldooihhaaDoorW.PrintWords Go.Proofs.YtekjlpldooihhaaDoorW.PrintLast Go.Proofs.YtekjlpldooihhaaDoorW.PrintMore Go.Proofs.YtekjlpldooihhaaDoorH
open Go.Proofs.YtekjlpldooihhaaDoor.PA (S48 S50 k48 k50)
set_option linter.unusedVariables false
def plank_Check.f (l0_0 : List (S48)) (l0_1 : List (S50)) : Option Int := some (checkP l0_0 l0_1)
theorem plank_Check.calls (A0_0 : Option Addr) (c0_0 : Nat) (l0_0 : List (S48)) (A0_1 : Option Addr) (c0_1 : Nat) (l0_1 : List (S50)) (r : Int) (w : World) (hr0_0 : Kd.C k48 w A0_0 l0_0.length l0_0) (hc0_0 : l0_0.length ≤ c0_0) (hr0_1 : Kd.C k50 w A0_1 l0_1.length l0_1) (hc0_1 : l0_1.length ≤ c0_1) (h : plank_Check.f l0_0 l0_1 = some r) :
    Calls Tryd.prog 18 #[.agg #[.slice A0_0 l0_0.length c0_0, .slice A0_1 l0_1.length c0_1]] w fun e w' => e = .returned (.int .i64 r) ∧ Below w.heap.size w w' := by
  obtain rfl := Option.some.inj h
  exact calls_Check A0_0 c0_0 l0_0 A0_1 c0_1 l0_1 w hr0_0 hc0_0 hr0_1 hc0_1
def plank_Can.f (l0_0 : List (S48)) (l0_1 : List (S50)) (a1 : Int) (a2 : Int) (a3 : Int) : Option (Int × Int) := some (canP l0_0 l0_1 a1 a2 a3)
theorem plank_Can.calls (A0_0 : Option Addr) (c0_0 : Nat) (l0_0 : List (S48)) (A0_1 : Option Addr) (c0_1 : Nat) (l0_1 : List (S50)) (a1 : Int) (a2 : Int) (a3 : Int) (r1 : Int) (r2 : Int) (w : World) (hr0_0 : Kd.C k48 w A0_0 l0_0.length l0_0) (hc0_0 : l0_0.length ≤ c0_0) (hr0_1 : Kd.C k50 w A0_1 l0_1.length l0_1) (hc0_1 : l0_1.length ≤ c0_1)  (hG : Glob w) (h : plank_Can.f l0_0 l0_1 a1 a2 a3 = some (r1, r2)) :
    Calls Tryd.prog 16 #[.agg #[.slice A0_0 l0_0.length c0_0, .slice A0_1 l0_1.length c0_1], .int .i64 a1, .int .i64 a2, .int .i64 a3] w fun e w' => e = .returned (.tuple #[.int .i64 r1, .int .i64 r2]) ∧ Below w.heap.size w w' := by
  have h' := Option.some.inj h
  obtain rfl : (canP l0_0 l0_1 a1 a2 a3).1 = r1 := by rw [h']
  obtain rfl : (canP l0_0 l0_1 a1 a2 a3).2 = r2 := by rw [h']
  exact calls_Can A0_0 c0_0 l0_0 A0_1 c0_1 l0_1 a1 a2 a3 w hr0_0 hc0_0 hr0_1 hc0_1  hG
def plank_Spots.f (l0_0 : List (S48)) (l0_1 : List (S50)) (a1 : Int) (a2 : Int) : Option (List Int × Int) := some (spotsP l0_0 l0_1 a1 a2)
theorem plank_Spots.calls (A0_0 : Option Addr) (c0_0 : Nat) (l0_0 : List (S48)) (A0_1 : Option Addr) (c0_1 : Nat) (l0_1 : List (S50)) (a1 : Int) (a2 : Int) (r1 : List Int) (r2 : Int) (w : World) (hr0_0 : Kd.C k48 w A0_0 l0_0.length l0_0) (hc0_0 : l0_0.length ≤ c0_0) (hr0_1 : Kd.C k50 w A0_1 l0_1.length l0_1) (hc0_1 : l0_1.length ≤ c0_1)  (hG : Glob w) (h : plank_Spots.f l0_0 l0_1 a1 a2 = some (r1, r2)) :
    Calls Tryd.prog 20 #[.agg #[.slice A0_0 l0_0.length c0_0, .slice A0_1 l0_1.length c0_1], .int .i64 a1, .int .i64 a2] w fun e w' => ∃ v0_ : Value, e = .returned (.tuple #[v0_, .int .i64 r2]) ∧ Kd.V (Kd.int .i64) 3 w' w.heap.size (fun k_ => (w.heap.size ≤ k_)) v0_ r1 ∧ Below w.heap.size w w' := by
  have h' := Option.some.inj h
  obtain rfl : (spotsP l0_0 l0_1 a1 a2).1 = r1 := by rw [h']
  obtain rfl : (spotsP l0_0 l0_1 a1 a2).2 = r2 := by rw [h']
  exact calls_Spots A0_0 c0_0 l0_0 A0_1 c0_1 l0_1 a1 a2 w hr0_0 hc0_0 hr0_1 hc0_1  hG
def plank_Lay.f (l0_0 : List (S48)) (l0_1 : List (S50)) (a1 : Int) (l2 : List Int) : Option (List Int × Int) := some (layP l0_0 l0_1 a1 l2)
def plank_Fewest.f (l0_0 : List (S48)) (l0_1 : List (S50))  : Option (List Int × Int) := some (fewestP l0_0 l0_1 )
end Go.Proofs.YtekjlpldooihhaaDoorP
namespace Go.Proofs.YtekjlpldooihhaaDoorK
open Go.Proofs.YtekjlpldooihhaaDoorSh
open Go.RowKit Go.Proofs.YtekjlpldooihhaaDoorW.PrintWords Go.Proofs.YtekjlpldooihhaaDoorW.PrintLast Go.Proofs.YtekjlpldooihhaaDoorW.PrintMore Go.Proofs.YtekjlpldooihhaaDoorH Go.Proofs.YtekjlpldooihhaaDoorP
open Go.Proofs.YtekjlpldooihhaaDoor.PA (S48 S50 S60 k48 k50 k60 z48 z50 z60 k48_open k60_open k60_mkM)
set_option linter.unusedVariables false
set_option linter.unusedSimpArgs false
theorem add_at0 (g k : Nat) : (⟨g, 0, none⟩ : Addr).add k = ⟨g, k, none⟩ := by unfold Addr.add; split <;> simp_all
theorem calls_One (n : Int) (w : World) : Calls Tryd.prog 55 #[.int .i64 n] w fun e w' => e = .returned (.agg #[.int .i64 n, .int .i64 n]) ∧ Below w.heap.size w w' := by
  go_enter Tryd.func55, Tryd.ntmps55
  have hu := Tryd.underlying60
  go_wp2_with fail
  refine bodyPost_ret (results_cell_row rfl _ _ w.heap.size 60 #[.int .i64 n, .int .i64 n] (0, 0) _ rfl (blk_new w _) Tryd.underlying60 rfl (by kernel_rfl)) rfl ⟨rfl, ?_⟩
  exact (new1 w _).2.1
end Go.Proofs.YtekjlpldooihhaaDoorK
