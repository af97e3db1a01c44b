/- The walks of package dapple: whose a row can be, as it is asked. The walks of package dapple: lists of horses, and whether the others are apart. The walks of package dapple: whether the others are apart. -/
import Derived.Test.YtdllacjkacmghaaDoorGe
namespace Go.Proofs.YtdllacjkacmghaaDoorD
open Go.RowKit Go.Proofs.YtdllacjkacmghaaDoorW.PrintWords Go.Proofs.YtdllacjkacmghaaDoorW.PrintLast Go.Proofs.YtdllacjkacmghaaDoorW.PrintMore Go.Proofs.YtdllacjkacmghaaDoorH
set_option linter.unusedVariables false
set_option linter.unusedSimpArgs false

def inB (n : Int) : Bool := decide (0 ≤ n) && decide (n ≤ 3)
/-- the set of one size -/
def setOf (n : Int) : Int := 2 ^ n.toNat
def whoseD (R : Int) (l : List (List Int)) (row : List Int) : List Int × Int :=
  if validB R l then (if ((row.length : Int) == R) && row.all inB then (ints (whoseL R.toNat l (row.map setOf)), 0) else ([], 71)) else ([], 70)

/-- what is gathered of a row's first sizes -/
def gath : List Int → Bool × List Int → Bool × List Int
  | [], s => s
  | n :: l, (ok, acc) => gath l (ok && inB n, if ok && inB n then acc ++ [setOf n] else acc)
theorem gath_app (l : List Int) (n : Int) : ∀ s, gath (l ++ [n]) s = gath [n] (gath l s) := by
  induction l with
  | nil => intro s; rfl
  | cons a l ih => intro s; obtain ⟨ok, acc⟩ := s; exact ih _
theorem gath_ok (l : List Int) : ∀ ok acc, (gath l (ok, acc)).1 = (ok && l.all inB) := by
  induction l with
  | nil => intro ok acc; simp [gath]
  | cons a l ih => intro ok acc; simp only [gath, ih, List.all_cons, Bool.and_assoc]
theorem gath_acc (l : List Int) : ∀ ok acc, (ok && l.all inB) = true → (gath l (ok, acc)).2 = acc ++ l.map setOf := by
  induction l with
  | nil => intro ok acc _; simp [gath]
  | cons a l ih =>
    intro ok acc h
    simp only [List.all_cons, Bool.and_eq_true] at h
    simp only [gath, h.1, h.2.1, Bool.and_self, if_true]
    rw [ih true _ (by simp [h.2.2])]
    simp
theorem gath_len (l : List Int) : ∀ ok acc, (gath l (ok, acc)).2.length ≤ acc.length + l.length := by
  induction l with
  | nil => intro ok acc; simp [gath]
  | cons a l ih =>
    intro ok acc
    refine Nat.le_trans (ih _ _) ?_
    split <;> simp <;> omega

theorem calls_on (a b c : Int) (w : World) : Calls Tryd.prog 63 #[.int .i64 a, .int .i64 b, .int .i64 c] w fun e w' => e = .returned (.bool (decide (b ≤ a) && decide (a ≤ c))) ∧ Below w.heap.size w w' :=
  (Go.Proofs.YtdllacjkacmghaaDoor.DP.dapple_on.calls a b c _ w (on_f a b c)).mono fun e w' h => ⟨h.1, h.2.below⟩

set_option maxRecDepth 100000 in
set_option maxHeartbeats 1000000 in
theorem calls_Whose (R : Int) (A : Option Addr) (c : Nat) (l : List (List Int)) (B : Option Addr) (d : Nat) (row : List Int) (w : World) (hr : Kd.C (Kd.slice 3 (Kd.int .i64)) w A l.length l) (hc : l.length ≤ c) (hr1 : Kd.C (Kd.int .i64) w B row.length row) (hc1 : row.length ≤ d) (hG : Glob w) :
    Calls Tryd.prog 25 #[.agg #[.int .i64 R, .slice A l.length c], .slice B row.length d] w fun e w' =>
      ∃ v, e = .returned (.tuple #[v, .int .i64 (whoseD R l row).2]) ∧ Kd.V (Kd.int .i64) 3 w' w.heap.size (fun k => w.heap.size ≤ k) v (whoseD R l row).1 ∧ Below w.heap.size w w' := by
  have hv := valid_iff R l
  have HR := Lib.hid hr; clear hr
  have HR1 := Lib.hid hr1; clear hr1
  have HG := Lib.hid hG; clear hG
  have HX := Lib.hid (blk_new w (.cells #[.int .i64 R, .slice A l.length c] 24))
  have HB := Lib.hid (below_alloc (Below.refl _ _) (.cells #[.int .i64 R, .slice A l.length c] 24) : Below w.heap.size w _)
  have hlen : row.length < 9223372036854775808 := by have := HR1.out.2.1; omega
  by_cases hval : validB R l = true
  · have hck : checkD R l = 0 := by simp [checkD, hval]
    have hV := hv.1 hval
    obtain ⟨n, rfl, hn8, hn1⟩ := hV.nat
    have HV := Lib.hid hV; clear hV hv
    have hn0 : ((n : Int)).toNat = n := by simp
    go_enter Tryd.func25, Tryd.ntmps25
    go_wp2_with (go_at_call 20; refine (calls_Check n A c l _ (Kd.C_below HR.out HB.out) hc).mono ?_; rintro e w1 ⟨he, hb⟩; rw [hck] at he; subst he; have HX := Lib.hid (blk_below HX.out hb); have HB := Lib.hid (HB.out.trans (hb.mono (by simp))); clear hb; have c0 : w1.cell? ⟨w.heap.size, 0, none⟩ = some (.int .i64 n) := blk_cell HX.out 0)
    go_loopw [7, 8, 23] (fun v7 v8 v wr => ∃ k : Nat, k ≤ row.length ∧ v = .int .i64 k ∧ v7 = .bool (gath (row.take k) ((row.length : Int) == n, [])).1 ∧ Hid (wr.heap[w.heap.size]? = some (.cells #[.int .i64 n, .slice A l.length c] 24 (0, 0))) ∧ Hid (Kd.R (Kd.int .i64) 3 wr w.heap.size (fun _ => True) v8 (gath (row.take k) ((row.length : Int) == n, [])).2) ∧ Hid (Below w.heap.size w wr)) (fun _ _ v _ => row.length - (intOf v).toNat)
    case atStart => exact ⟨0, Nat.zero_le _, rfl, rfl, HX, Lib.hid (Kd.R_nil _ _ _ _ _), HB⟩
    case round =>
      clear HX HB c0
      obtain ⟨k, hk, rfl, rfl, HX, HO, HB⟩ := hrel
      obtain ⟨ok, acc, hg⟩ : ∃ ok acc, gath (row.take k) ((row.length : Int) == n, []) = (ok, acc) := ⟨_, _, rfl⟩
      rw [hg] at HO ⊢
      simp only at HO ⊢
      obtain ⟨A', c', rfl, hle, _⟩ := Kd.R_reads HO.out
      by_cases hlt : k < row.length
      · obtain ⟨ad, rfl, hcell⟩ := at_nat (Kd.C_below HR1.out HB.out) k hlt
        have hnext : gath (row.take (k + 1)) ((row.length : Int) == n, []) = (ok && inB (rd row k), if ok && inB (rd row k) then acc ++ [setOf (rd row k)] else acc) := by
          have : row.take (k + 1) = row.take k ++ [rd row k] := by rw [List.take_add_one, show row[k]? = some (rd row k) from by simp [rd, hlt]]; rfl
          rw [this, gath_app, hg]; rfl
        have HN := Lib.hid hnext; clear hnext
        cases ok with
        | false =>
          go_wp2_with fail
          go_roundw
          case rel => exact ⟨k + 1, by omega, by go_num, by rw [HN.out]; rfl, HX, by rw [HN.out]; exact HO, HB⟩
          case measure => simp [intOf]; omega
        | true =>
          by_cases hx : inB (rd row k) = true
          · have hx0 : rd row k = 0 ∨ rd row k = 1 ∨ rd row k = 2 ∨ rd row k = 3 := by
              unfold inB at hx
              simp only [Bool.and_eq_true, decide_eq_true_eq] at hx
              omega
            have hn8' : acc.length ≤ k := by have := gath_len (row.take k) ((row.length : Int) == n) []; rw [hg] at this; simp at this; omega
            have hrl : row.length = n := by
              have := gath_ok (row.take k) ((row.length : Int) == n) []
              rw [hg] at this
              simp only at this
              have h2 := this.symm
              simp only [Bool.and_eq_true, beq_iff_eq] at h2
              omega
            have hacc : acc.length ≤ 8 := by omega
            clear HV HR HG hrl hn8'
            have HHX := Lib.hid hx; clear hx
            rcases hx0 with h0 | h0 | h0 | h0
            · have HSE := Lib.hid (show setOf (rd row k) = 1 by rw [h0]; rfl)
              rw [h0] at hcell
              clear h0
              go_wp2_with (first | (go_at_call 63; refine (calls_on 0 0 3 _).mono ?_; rintro e w2 ⟨he, hb⟩; obtain rfl : e = .returned (.bool true) := he.trans (by rfl); have HX := Lib.hid (blk_below HX.out hb); have HO := Lib.hid (Kd.R_below HO.out hb); have HB := Lib.hid (HB.out.trans (hb.mono (below_size HB.out))); clear hb he) | ((with_reducible refine gate_builtin (b := .append) (xs := #[.tmp 33, .tmp 36]) rfl ?_); at_builtin; refine Kd.R_append (Kd.int .i64) (w0 := w) w.heap.size rfl (.tmp 33) (.tmp 36) 26 3 (.int .i64 0) 8 rfl Tryd.underlying26 infoInt rfl (by decide) (by omega) _ acc 1 [.int .i64 1] (fun _ => True) (fun _ => False) rfl rfl ?aP (fun _ hk => hk.elim) ?aF ?aO ?aB ?aS ?aL ?_; (case aP => exact rfl); (case aF => exact (fun _ _ => trivial)); (case aO => exact HO.out); (case aB => exact HB.out); (case aS => exact below_size HB.out); (case aL => omega); intro v2 w2 ho hb2 hg2 hat))
              obtain ⟨A2, c2, rfl, _, _⟩ := Kd.R_reads ho
              go_roundw
              case rel =>
                refine ⟨k + 1, by omega, by go_num, by rw [HN.out, HHX.out]; rfl, blk_grown HX.out hg2 (Kd.R_ne HO.out HX.out (by decide)), ?_, Lib.hid hb2⟩
                rw [HN.out, HHX.out]
                simp only [Bool.and_self, if_true, HSE.out]
                exact ho
              case measure => simp [intOf]; omega
            · have HSE := Lib.hid (show setOf (rd row k) = 2 by rw [h0]; rfl)
              rw [h0] at hcell
              clear h0
              go_wp2_with (first | (go_at_call 63; refine (calls_on 1 0 3 _).mono ?_; rintro e w2 ⟨he, hb⟩; obtain rfl : e = .returned (.bool true) := he.trans (by rfl); have HX := Lib.hid (blk_below HX.out hb); have HO := Lib.hid (Kd.R_below HO.out hb); have HB := Lib.hid (HB.out.trans (hb.mono (below_size HB.out))); clear hb he) | ((with_reducible refine gate_builtin (b := .append) (xs := #[.tmp 33, .tmp 36]) rfl ?_); at_builtin; refine Kd.R_append (Kd.int .i64) (w0 := w) w.heap.size rfl (.tmp 33) (.tmp 36) 26 3 (.int .i64 0) 8 rfl Tryd.underlying26 infoInt rfl (by decide) (by omega) _ acc 2 [.int .i64 2] (fun _ => True) (fun _ => False) rfl rfl ?aP (fun _ hk => hk.elim) ?aF ?aO ?aB ?aS ?aL ?_; (case aP => exact rfl); (case aF => exact (fun _ _ => trivial)); (case aO => exact HO.out); (case aB => exact HB.out); (case aS => exact below_size HB.out); (case aL => omega); intro v2 w2 ho hb2 hg2 hat))
              obtain ⟨A2, c2, rfl, _, _⟩ := Kd.R_reads ho
              go_roundw
              case rel =>
                refine ⟨k + 1, by omega, by go_num, by rw [HN.out, HHX.out]; rfl, blk_grown HX.out hg2 (Kd.R_ne HO.out HX.out (by decide)), ?_, Lib.hid hb2⟩
                rw [HN.out, HHX.out]
                simp only [Bool.and_self, if_true, HSE.out]
                exact ho
              case measure => simp [intOf]; omega
            · have HSE := Lib.hid (show setOf (rd row k) = 4 by rw [h0]; rfl)
              rw [h0] at hcell
              clear h0
              go_wp2_with (first | (go_at_call 63; refine (calls_on 2 0 3 _).mono ?_; rintro e w2 ⟨he, hb⟩; obtain rfl : e = .returned (.bool true) := he.trans (by rfl); have HX := Lib.hid (blk_below HX.out hb); have HO := Lib.hid (Kd.R_below HO.out hb); have HB := Lib.hid (HB.out.trans (hb.mono (below_size HB.out))); clear hb he) | ((with_reducible refine gate_builtin (b := .append) (xs := #[.tmp 33, .tmp 36]) rfl ?_); at_builtin; refine Kd.R_append (Kd.int .i64) (w0 := w) w.heap.size rfl (.tmp 33) (.tmp 36) 26 3 (.int .i64 0) 8 rfl Tryd.underlying26 infoInt rfl (by decide) (by omega) _ acc 4 [.int .i64 4] (fun _ => True) (fun _ => False) rfl rfl ?aP (fun _ hk => hk.elim) ?aF ?aO ?aB ?aS ?aL ?_; (case aP => exact rfl); (case aF => exact (fun _ _ => trivial)); (case aO => exact HO.out); (case aB => exact HB.out); (case aS => exact below_size HB.out); (case aL => omega); intro v2 w2 ho hb2 hg2 hat))
              obtain ⟨A2, c2, rfl, _, _⟩ := Kd.R_reads ho
              go_roundw
              case rel =>
                refine ⟨k + 1, by omega, by go_num, by rw [HN.out, HHX.out]; rfl, blk_grown HX.out hg2 (Kd.R_ne HO.out HX.out (by decide)), ?_, Lib.hid hb2⟩
                rw [HN.out, HHX.out]
                simp only [Bool.and_self, if_true, HSE.out]
                exact ho
              case measure => simp [intOf]; omega
            · have HSE := Lib.hid (show setOf (rd row k) = 8 by rw [h0]; rfl)
              rw [h0] at hcell
              clear h0
              go_wp2_with (first | (go_at_call 63; refine (calls_on 3 0 3 _).mono ?_; rintro e w2 ⟨he, hb⟩; obtain rfl : e = .returned (.bool true) := he.trans (by rfl); have HX := Lib.hid (blk_below HX.out hb); have HO := Lib.hid (Kd.R_below HO.out hb); have HB := Lib.hid (HB.out.trans (hb.mono (below_size HB.out))); clear hb he) | ((with_reducible refine gate_builtin (b := .append) (xs := #[.tmp 33, .tmp 36]) rfl ?_); at_builtin; refine Kd.R_append (Kd.int .i64) (w0 := w) w.heap.size rfl (.tmp 33) (.tmp 36) 26 3 (.int .i64 0) 8 rfl Tryd.underlying26 infoInt rfl (by decide) (by omega) _ acc 8 [.int .i64 8] (fun _ => True) (fun _ => False) rfl rfl ?aP (fun _ hk => hk.elim) ?aF ?aO ?aB ?aS ?aL ?_; (case aP => exact rfl); (case aF => exact (fun _ _ => trivial)); (case aO => exact HO.out); (case aB => exact HB.out); (case aS => exact below_size HB.out); (case aL => omega); intro v2 w2 ho hb2 hg2 hat))
              obtain ⟨A2, c2, rfl, _, _⟩ := Kd.R_reads ho
              go_roundw
              case rel =>
                refine ⟨k + 1, by omega, by go_num, by rw [HN.out, HHX.out]; rfl, blk_grown HX.out hg2 (Kd.R_ne HO.out HX.out (by decide)), ?_, Lib.hid hb2⟩
                rw [HN.out, HHX.out]
                simp only [Bool.and_self, if_true, HSE.out]
                exact ho
              case measure => simp [intOf]; omega
          · have hx : inB (rd row k) = false := by simpa using hx
            go_wp2_with (go_at_call 63; refine (calls_on (rd row k) 0 3 _).mono ?_; rintro e w2 ⟨he, hb⟩; rw [show (decide ((0 : Int) ≤ rd row k) && decide (rd row k ≤ 3)) = inB (rd row k) from rfl, hx] at he; subst he; have HX := Lib.hid (blk_below HX.out hb); have HO := Lib.hid (Kd.R_below HO.out hb); have HB := Lib.hid (HB.out.trans (hb.mono (below_size HB.out))); clear hb)
            go_roundw
            case rel => exact ⟨k + 1, by omega, by go_num, by rw [HN.out, hx]; rfl, HX, by rw [HN.out, hx]; exact HO, HB⟩
            case measure => simp [intOf]; omega
      · obtain rfl : k = row.length := by omega
        have hok := gath_ok row ((row.length : Int) == n) []
        have hac := gath_acc row ((row.length : Int) == n) []
        rw [List.take_length] at hg
        rw [hg] at hok hac
        simp only at hok hac
        cases ok with
        | false =>
          have hfd : whoseD n l row = ([], (71 : Int)) := by simp only [whoseD, hval, if_true]; rw [← hok]; rfl
          have HFD := Lib.hid hfd
          clear hok hac hfd hg
          go_wp2_with fail
          rw [HFD.out]
          exact bodyPost_ret (results_tmp2 rfl _ _ _) rfl ⟨_, rfl, Kd.V_nil _ _ _ _ _, HB.out⟩
        | true =>
          have hfd : whoseD n l row = (ints (whoseL n l (row.map setOf)), (0 : Int)) := by simp only [whoseD, hval, if_true]; rw [← hok]; rfl
          have hac := hac hok.symm
          rw [List.nil_append] at hac
          have hrl : row.length = n := by
            have h2 := hok.symm
            simp only [Bool.and_eq_true, beq_iff_eq] at h2
            omega
          have h8 : acc.length ≤ 8 := by rw [hac]; simp; omega
          have HFD := Lib.hid hfd; have HAC := Lib.hid hac
          have c0 : wr.cell? ⟨w.heap.size, 0, none⟩ = some (.int .i64 n) := blk_cell HX.out 0
          have c1 : wr.cell? ⟨w.heap.size, 1, none⟩ = some (.slice A l.length c) := blk_cell HX.out 1
          clear hrl hfd hac hok hg hle
          have hs0 := below_size HB.out
          obtain ⟨A2, c2, e2, hle2, hC2⟩ := Kd.R_reads HO.out
          obtain ⟨rfl, rfl⟩ : A' = A2 ∧ c' = c2 := by simpa using e2
          have HC2 := Lib.hid hC2; clear hC2 e2
          go_wp2_with (first | (go_at_call 66; refine (calls_opened' n A c l HV.out _ (Kd.C_below HR.out HB.out) hc (HG.out.below HB.out)).mono ?_; rintro e w2 ⟨RA, rc, m, rfl, hBk, hrc, hm, hra, hb⟩; have HC2 := Lib.hid (Kd.C_below HC2.out hb); have HB := Lib.hid (HB.out.trans (hb.mono (below_size HB.out))); have HBK := Lib.hid hBk; clear hBk hb hm hra) | (go_at_call 68; refine (calls_rowOf A' c' acc _ HC2.out hle2 h8).mono ?_; rintro e w3 ⟨rfl, hb⟩; have HBK := Lib.hid (HBK.out.below hb); have HB := Lib.hid (HB.out.trans (hb.mono (below_size HB.out))); clear hb) | (go_at_call 67; refine (calls_whose n hn8 A l.length c RA rc m l HV.out.h6 acc _ HBK.out.glob HBK.out.row HV.out.rows8).mono ?_; rintro e w4 ⟨v, rfl, hvv, hb⟩; have hs3 := below_size HB.out; have HB := Lib.hid (HB.out.trans (hb.mono (below_size HB.out)))))
          rw [HFD.out]
          rw [HAC.out] at hvv
          exact bodyPost_ret (results_tmp2 rfl _ _ _) rfl ⟨_, rfl, Kd.V_mono hvv (fun k hk => by omega), HB.out⟩
  · have hck : checkD R l = 70 := by simp [checkD, hval]
    have hfd : whoseD R l row = ([], 70) := by simp [whoseD, hval]
    rw [hfd]
    go_enter Tryd.func25, Tryd.ntmps25
    go_wp2_with (go_at_call 20; refine (calls_Check R A c l _ (Kd.C_below HR.out HB.out) hc).mono ?_; rintro e w1 ⟨he, hb⟩; rw [hck] at he; subst he; have HB := Lib.hid (HB.out.trans (hb.mono (by simp))))
    exact bodyPost_ret (results_tmp2 rfl _ _ _) rfl ⟨_, rfl, Kd.V_nil _ _ _ _ _, HB.out⟩
end Go.Proofs.YtdllacjkacmghaaDoorD

namespace Go.Proofs.YtdllacjkacmghaaDoorD
open Go.RowKit Go.Proofs.YtdllacjkacmghaaDoorW.PrintWords Go.Proofs.YtdllacjkacmghaaDoorW.PrintLast Go.Proofs.YtdllacjkacmghaaDoorW.PrintMore Go.Proofs.YtdllacjkacmghaaDoorH Go.Proofs.YtdllacjkacmghaaDoorEv Go.Proofs.YtdllacjkacmghaaDoor.DP
set_option linter.unusedVariables false
set_option linter.unusedSimpArgs false

/-- two lists, in order -/
def cmpL : List Int → List Int → Int
  | [], [] => 0
  | [], _ :: _ => -1
  | _ :: _, [] => 1
  | a :: l, b :: m => if a < b then -1 else if b < a then 1 else cmpL l m
theorem Compare_l0 (l m : List Int) (hl : l.length < 9223372036854775808) : ∀ (d j : Nat), j + d = l.length → j ≤ m.length →
    Evt (fun k => slices_Compare_int_int.l0 k l m l (l.length : Int) (j : Int)) (cmpL (l.drop j) (m.drop j))
  | 0, j, hj, hm => by
    refine Evt.succ ?_
    simp only [slices_Compare_int_int.l0]
    have h1 : l.drop j = [] := List.drop_eq_nil_of_le (by omega)
    rw [h1]
    refine Evt.neg (by omega) ?_
    by_cases h : l.length < m.length
    · refine Evt.pos (by omega) ?_
      have hd : m.drop j = m[j] :: m.drop (j + 1) := List.drop_eq_getElem_cons (by omega)
      rw [hd]; exact Evt.pure _
    · refine Evt.neg (by omega) ?_
      have h2 : m.drop j = [] := List.drop_eq_nil_of_le (by omega)
      rw [h2]; exact Evt.pure _
  | d + 1, j, hj, hm => by
    refine Evt.succ ?_
    simp only [slices_Compare_int_int.l0]
    have h1 : l.drop j = l[j] :: l.drop (j + 1) := List.drop_eq_getElem_cons (by omega)
    have hg : rd l (j : Int) = l[j] := by rw [rd_at]; simp [show j < l.length by omega]
    rw [h1]
    refine Evt.pos (by omega) (Evt.pos (by omega) (Evt.pos (by omega) ?_))
    by_cases h : j < m.length
    · refine Evt.neg (by omega) (Evt.pos (by omega) ?_)
      have h2 : m.drop j = m[j] :: m.drop (j + 1) := List.drop_eq_getElem_cons (by omega)
      have hg2 : rd m (j : Int) = m[j] := by rw [rd_at]; simp [h]
      rw [h2, hg, hg2]
      have hn : ∀ x : Int, (x != x) = false := fun x => by simp
      simp only [cmp_Compare_int.f, cmp_isNaN_int.f, hn, Option.bind_some, Bool.false_eq_true, if_false, cmpL]
      by_cases c1 : l[j] < m[j]
      · simp only [if_pos c1, Option.bind_some]
        exact Evt.neg (by omega) (Evt.pure _)
      · by_cases c2 : m[j] < l[j]
        · simp only [if_neg c1, if_pos c2, show l[j] > m[j] from c2, if_true, Option.bind_some]
          exact Evt.neg (by omega) (Evt.pure _)
        · simp only [if_neg c1, if_neg c2, show ¬ l[j] > m[j] from c2, if_false, Option.bind_some]
          refine Evt.pos trivial ?_
          rw [w64 j (by omega)]
          exact Compare_l0 l m hl d (j + 1) (by omega) (by omega)
    · have h2 : m.drop j = [] := List.drop_eq_nil_of_le (by omega)
      rw [h2]
      exact Evt.pos (by omega) (Evt.pure _)
theorem calls_Compare (A : Option Addr) (c : Nat) (l : List Int) (B : Option Addr) (d : Nat) (m : List Int) (w : World) (hr : Kd.C (Kd.int .i64) w A l.length l) (hc : l.length ≤ c) (hr1 : Kd.C (Kd.int .i64) w B m.length m) (hc1 : m.length ≤ d) :
    Calls Tryd.prog 90 #[.slice A l.length c, .slice B m.length d] w fun e w' => e = .returned (.int .i64 (cmpL l m)) ∧ Below w.heap.size w w' := by
  have hl : l.length < 9223372036854775808 := by have := hr.2.1; omega
  obtain ⟨k, hk⟩ := (Compare_l0 l m hl l.length 0 (by omega) (by omega)).get
  exact (slices_Compare_int_int.calls k A c l B d m _ w hr hc hr1 hc1 hk).mono fun e w' h => ⟨h.1, h.2.below⟩

theorem Index_l0 (l : List Int) (a : Int) (hl : l.length < 9223372036854775808) : ∀ (d j : Nat), j + d = l.length →
    ∃ r, Evt (fun k => slices_Index_int_int.l0 k l a (l.length : Int) (j : Int)) r ∧ (decide (r ≥ 0) = (l.drop j).contains a)
  | 0, j, hj => by
    refine ⟨-1, Evt.succ ?_, ?_⟩
    · simp only [slices_Index_int_int.l0]
      exact Evt.neg (by omega) (Evt.pure _)
    · rw [List.drop_eq_nil_of_le (by omega)]; rfl
  | d + 1, j, hj => by
    have h1 : l.drop j = l[j] :: l.drop (j + 1) := List.drop_eq_getElem_cons (by omega)
    have hg : rd l (j : Int) = l[j] := by rw [rd_at]; simp [show j < l.length by omega]
    by_cases h : a = l[j]
    · refine ⟨j, Evt.succ ?_, ?_⟩
      · simp only [slices_Index_int_int.l0]
        refine Evt.pos (by omega) (Evt.pos (by omega) (Evt.pos (by omega) ?_))
        rw [hg]
        exact Evt.pos h (Evt.pure _)
      · rw [h]; rw [h1]; rw [List.contains_cons, beq_self_eq_true, Bool.true_or]; exact decide_eq_true (by omega)
    · obtain ⟨r, h2, h3⟩ := Index_l0 l a hl d (j + 1) (by omega)
      refine ⟨r, Evt.succ ?_, ?_⟩
      · simp only [slices_Index_int_int.l0]
        refine Evt.pos (by omega) (Evt.pos (by omega) (Evt.pos (by omega) ?_))
        rw [hg, w64 j (by omega)]
        exact Evt.neg h h2
      · rw [h1, h3, List.contains_cons]
        have : (a == l[j]) = false := by simpa using h
        rw [this, Bool.false_or]
theorem calls_Contains (A : Option Addr) (c : Nat) (l : List Int) (a : Int) (w : World) (hr : Kd.C (Kd.int .i64) w A l.length l) (hc : l.length ≤ c) :
    Calls Tryd.prog 91 #[.slice A l.length c, .int .i64 a] w fun e w' => e = .returned (.bool (l.contains a)) ∧ Below w.heap.size w w' := by
  have hl : l.length < 9223372036854775808 := by have := hr.2.1; omega
  obtain ⟨r, h1, h2⟩ := Index_l0 l a hl l.length 0 (by omega)
  obtain ⟨k, hk⟩ := h1.get
  refine (slices_Contains_int_int.calls k A c l a (l.contains a) w hr hc ?_).mono fun e w' h => ⟨h.1, h.2.below⟩
  unfold slices_Contains_int_int.f slices_Index_int_int.f
  rw [show slices_Index_int_int.l0 k l a (l.length : Int) 0 = some r from hk]
  simp only [Option.bind_some]
  rw [h2]
  rfl

/-- the shorter list, or of lists that are as long the first one -/
def betterL (l m : List Int) : Bool := decide (l.length < m.length) || ((l.length == m.length) && decide (cmpL l m < 0))

theorem calls_fewest1 (A : Option Addr) (c : Nat) (l : List Int) (B : Option Addr) (d : Nat) (m : List Int) (w : World) (hr : Kd.C (Kd.int .i64) w A l.length l) (hc : l.length ≤ c) (hr1 : Kd.C (Kd.int .i64) w B m.length m) (hc1 : m.length ≤ d) :
    Calls Tryd.prog 89 #[.slice A l.length c, .slice B m.length d] w fun e w' => e = .returned (.bool (betterL l m)) ∧ Below w.heap.size w w' := by
  have HR := Lib.hid hr; have HR1 := Lib.hid hr1
  clear hr hr1
  go_enter Tryd.func89, Tryd.ntmps89
  by_cases h1 : l.length < m.length
  · have e : betterL l m = true := by simp [betterL, h1]
    rw [e]
    go_wp2
    go_ret
    exact ⟨rfl, by repeat (first | exact Below.refl _ _ | apply below_drew1 | apply pw_below_drewN)⟩
  · by_cases h2 : l.length = m.length
    · have e : betterL l m = decide (cmpL l m < 0) := by simp [betterL, h2]
      have HE := Lib.hid e; clear e
      have HH := Lib.hid h2; clear h2
      have h2 : ((l.length : Int) == (m.length : Int)) = true := by rw [HH.out]; simp
      go_wp2_with (go_at_call 90; refine (calls_Compare A c l B d m _ HR.out hc HR1.out hc1).mono ?_; rintro e w1 ⟨rfl, hb⟩)
      go_ret
      exact ⟨by rw [HE.out]; rfl, hb⟩
    · have e : betterL l m = false := by simp [betterL, h1, h2]
      rw [e]
      have h3 : ((l.length : Int) == (m.length : Int)) = false := by simp; omega
      go_wp2
      go_ret
      exact ⟨rfl, by repeat (first | exact Below.refl _ _ | apply below_drew1 | apply pw_below_drewN)⟩

theorem calls_fewest (w : World) : Calls Tryd.prog 73 #[] w fun e w' => e = .returned (.agg #[.func (.func 89) #[] #[]]) ∧ Below w.heap.size w w' := by
  go_enter Tryd.func73, Tryd.ntmps73
  have hX := blk_new w (.cells #[.nilFunc] 92)
  go_wp2_with ((with_reducible refine gate_store (t := 92) (p := 0) rfl ?_); refine wpList_store_row rfl 92 _ _ rfl w.heap.size _ rfl rfl 92 _ hX (by kernel_rfl) rfl (by simp [Value.oneCell']) ?_)
  have hX2 := setRow_heap (w.alloc (.cells #[.nilFunc] 92)) w.heap.size _ #[.func (.func 89) #[] #[]] 92 _ hX
  exact bodyPost_ret (results_cell_row rfl _ _ w.heap.size 92 _ _ _ rfl hX2 Tryd.underlying92 rfl (by kernel_rfl)) rfl ⟨rfl, below_setRow (below_alloc (Below.refl _ _) _) (Nat.le_refl _) _⟩
end Go.Proofs.YtdllacjkacmghaaDoorD

namespace Go.Proofs.YtdllacjkacmghaaDoorD
open Go.RowKit Go.Proofs.YtdllacjkacmghaaDoorW.PrintWords Go.Proofs.YtdllacjkacmghaaDoorW.PrintLast Go.Proofs.YtdllacjkacmghaaDoorW.PrintMore Go.Proofs.YtdllacjkacmghaaDoorH
set_option linter.unusedVariables false
set_option linter.unusedSimpArgs false

theorem C_grown {w w1 : World} {m : Nat} {A : Option Addr} {n : Nat} {l : List Int} (h : Kd.C (Kd.int .i64) w A n l) (hm : ∃ arr clock, w.heap[m]? = some (.map arr clock)) (hg : w.grownBy w1 (some m)) : Kd.C (Kd.int .i64) w1 A n l := by
  obtain ⟨hl, hc, hd⟩ := h
  refine ⟨hl, hc, fun h0 => ?_⟩
  obtain ⟨ad, e, h1⟩ := hd h0
  refine ⟨ad, e, fun j x hx => ?_⟩
  obtain ⟨c, h2, h3, h4⟩ := h1 j x hx
  exact ⟨c, h2, h3, fun i u hi => grown_cell hm hg (h4 i u hi)⟩

/-- a pair, neither of them among some, can be the same -/
def badB (R : Nat) (rows : List (List Int)) (but : List Int) (i k : Nat) : Bool := !but.contains (i : Int) && (!but.contains (k : Int) && sameB R rows i k 0)
def apartB (R : Nat) (rows : List (List Int)) (but : List Int) : Bool := (List.range rows.length).all fun k => (List.range k).all fun i => !badB R rows but i k
theorem apart_of {R : Nat} {rows : List (List Int)} {but : List Int} (h : ∀ k, k < rows.length → ∀ i, i < k → badB R rows but i k = false) : apartB R rows but = true := by
  unfold apartB
  rw [List.all_eq_true]
  intro k hk
  rw [List.all_eq_true]
  intro i hi
  rw [h k (List.mem_range.1 hk) i (List.mem_range.1 hi)]; rfl
theorem apart_not {R : Nat} {rows : List (List Int)} {but : List Int} {i k : Nat} (hk : k < rows.length) (hi : i < k) (h : badB R rows but i k = true) : apartB R rows but = false := by
  rw [Bool.eq_false_iff, ne_eq]
  intro h2
  unfold apartB at h2
  rw [List.all_eq_true] at h2
  have := h2 k (List.mem_range.2 hk)
  rw [List.all_eq_true] at this
  have := this i (List.mem_range.2 hi)
  rw [h] at this
  cases this

set_option maxRecDepth 100000 in
set_option maxHeartbeats 1000000 in
theorem calls_apart (R : Nat) (hR : R ≤ 8) (HA : Option Addr) (hn hc : Nat) (RA : Option Addr) (rc m : Nat) (rows : List (List Int)) (h6 : rows.length ≤ 6) (B : Option Addr) (d : Nat) (but : List Int) (w : World)
    (hB : Bk R RA m rows w) (hrc : rows.length ≤ rc) (h8 : Rows8 rows) (hr1 : Kd.C (Kd.int .i64) w B but.length but) (hc1 : but.length ≤ d) :
    Calls Tryd.prog 74 #[.agg #[.int .i64 R, .slice HA hn hc, .slice RA rows.length rc, .map (some m)], .slice B but.length d] w fun e w' =>
      e = .returned (.bool (apartB R rows but)) ∧ Bk R RA m rows w' ∧ w.grownBy w' (some m) := by
  go_enter Tryd.func74, Tryd.ntmps74
  go_wp2_with fail
  have HX := Lib.hid (blk_new w (.cells #[.int .i64 R, .slice HA hn hc, .slice RA rows.length rc, .map (some m)] 72))
  have HR1 := Lib.hid (Kd.C_alloc hr1 (.cells #[.int .i64 R, .slice HA hn hc, .slice RA rows.length rc, .map (some m)] 72))
  have HB := Lib.hid (hB.alloc (.cells #[.int .i64 R, .slice HA hn hc, .slice RA rows.length rc, .map (some m)] 72))
  have HG := Lib.hid (grown_of_below (below_alloc (Below.refl _ _) _ : Below w.heap.size w (w.alloc (.cells #[.int .i64 R, .slice HA hn hc, .slice RA rows.length rc, .map (some m)] 72))) (some m))
  have H8 := Lib.hid h8
  clear hB h8 hr1
  go_loopw [10] (fun v wr => ∃ k : Nat, k ≤ rows.length ∧ v = .int .i64 k ∧ Hid (∀ k', k' < k → ∀ i, i < k' → badB R rows but i k' = false) ∧ Hid (wr.heap[w.heap.size]? = some (.cells #[.int .i64 R, .slice HA hn hc, .slice RA rows.length rc, .map (some m)] 72 (0, 0))) ∧ Hid (Kd.C (Kd.int .i64) wr B but.length but) ∧ Hid (Bk R RA m rows wr) ∧ Hid (w.grownBy wr (some m))) (fun v _ => rows.length - (intOf v).toNat)
  case atStart => exact ⟨0, Nat.zero_le _, rfl, Lib.hid (fun k' h => absurd h (Nat.not_lt_zero _)), HX, HR1, HB, HG⟩
  case round =>
    clear HX HR1 HB HG
    obtain ⟨k, hk, rfl, HP, HX, HR1, HB, HG⟩ := hrel
    by_cases hlt : k < rows.length
    · obtain ⟨wo, rfl⟩ : ∃ wo : World, wo = wr := ⟨_, rfl⟩
      go_wp2_with fail
      go_loopw [14] (fun v wi => ∃ i : Nat, i ≤ k ∧ v = .int .i64 i ∧ Hid (∀ i', i' < i → badB R rows but i' k = false) ∧ Hid (wi.heap[w.heap.size]? = some (.cells #[.int .i64 R, .slice HA hn hc, .slice RA rows.length rc, .map (some m)] 72 (0, 0))) ∧ Hid (Kd.C (Kd.int .i64) wi B but.length but) ∧ Hid (Bk R RA m rows wi) ∧ Hid (w.grownBy wi (some m))) (fun v _ => k - (intOf v).toNat)
      case atStart => exact ⟨0, Nat.zero_le _, rfl, Lib.hid (fun k' h => absurd h (Nat.not_lt_zero _)), HX, HR1, HB, HG⟩
      case round =>
        clear HX HR1 HB HG
        obtain ⟨i, hi, rfl, HQ, HX, HR1, HB, HG⟩ := hrel
        by_cases hlti : i < k
        · have hstep : badB R rows but i k = false → ∀ i', i' < i + 1 → badB R rows but i' k = false := fun h i' hi' => by
            by_cases e : i' = i
            · rw [e]; exact h
            · exact HQ.out i' (by omega)
          have HST := Lib.hid hstep; clear hstep
          have hbad : badB R rows but i k = (!but.contains (i : Int) && (!but.contains (k : Int) && sameB R rows i k 0)) := rfl
          have HBAD := Lib.hid hbad; clear hbad
          have hcx0 : ∀ W : World, W.heap[w.heap.size]? = some (.cells #[.int .i64 R, .slice HA hn hc, .slice RA rows.length rc, .map (some m)] 72 (0, 0)) → W.cell? ⟨w.heap.size, 0, none⟩ = some (.int .i64 R) ∧ W.cell? ⟨w.heap.size, 1, none⟩ = some (.slice HA hn hc) ∧ W.cell? ⟨w.heap.size, 2, none⟩ = some (.slice RA rows.length rc) ∧ W.cell? ⟨w.heap.size, 3, none⟩ = some (.map (some m)) := fun W h => ⟨blk_cell h 0, blk_cell h 1, blk_cell h 2, blk_cell h 3⟩
          have HCX := Lib.hid hcx0; clear hcx0
          by_cases ci : but.contains (i : Int) = true
          · have hbf := Lib.hid (show badB R rows but i k = false by rw [HBAD.out, ci]; rfl)
            go_wp2_with (go_at_call 91; refine (calls_Contains B d but i _ HR1.out hc1).mono ?_; rintro e w1 ⟨he, hb⟩; rw [ci] at he; subst he; have HX := Lib.hid (blk_below HX.out hb); have HR1 := Lib.hid (Kd.C_below HR1.out hb); have HG := Lib.hid (grown_trans HG.out (grown_of_below hb (some m))); have HB := Lib.hid (HB.out.below hb); clear hb)
            go_roundw
            case rel => exact ⟨i + 1, by omega, by go_num, Lib.hid (HST.out hbf.out), HX, HR1, HB, HG⟩
            case measure => simp [intOf]; omega
          · have ci : but.contains (i : Int) = false := by simpa using ci
            by_cases ck : but.contains (k : Int) = true
            · have hbf := Lib.hid (show badB R rows but i k = false by rw [HBAD.out, ck]; simp)
              go_wp2_with (go_at_call 91; refine (calls_Contains B d but _ _ HR1.out hc1).mono ?_; rintro e w1 ⟨he, hb⟩; (first | rw [ci] at he | rw [ck] at he); subst he; have HX := Lib.hid (blk_below HX.out hb); have HR1 := Lib.hid (Kd.C_below HR1.out hb); have HG := Lib.hid (grown_trans HG.out (grown_of_below hb (some m))); have HB := Lib.hid (HB.out.below hb); clear hb)
              go_roundw
              case rel => exact ⟨i + 1, by omega, by go_num, Lib.hid (HST.out hbf.out), HX, HR1, HB, HG⟩
              case measure => simp [intOf]; omega
            · have ck : but.contains (k : Int) = false := by simpa using ck
              by_cases hsb : sameB R rows i k 0 = true
              · have hbf := Lib.hid (show badB R rows but i k = true by rw [HBAD.out, ci, ck, hsb]; rfl)
                go_wp2_with (first | (go_at_call 91; refine (calls_Contains B d but _ _ HR1.out hc1).mono ?_; rintro e w1 ⟨he, hb⟩; (first | rw [ci] at he | rw [ck] at he); subst he; have HX := Lib.hid (blk_below HX.out hb); have HR1 := Lib.hid (Kd.C_below HR1.out hb); have HG := Lib.hid (grown_trans HG.out (grown_of_below hb (some m))); have HB := Lib.hid (HB.out.below hb); clear hb; obtain ⟨c0, c1, c2, c3⟩ := HCX.out _ HX.out) | (go_at_call 64; refine (calls_same' R hR HA hn hc RA rc m rows i k 0 (by omega) hlt (by omega) _ HB.out hrc H8.out).mono ?_; rintro e w3 ⟨he, hb3, hg3⟩; rw [hsb] at he; subst he))
                go_ret
                exact ⟨by rw [apart_not hlt hlti hbf.out]; rfl, hb3, grown_trans HG.out hg3⟩
              · have hsb : sameB R rows i k 0 = false := by simpa using hsb
                have hbf := Lib.hid (show badB R rows but i k = false by rw [HBAD.out, hsb]; simp)
                go_wp2_with (first | (go_at_call 91; refine (calls_Contains B d but _ _ HR1.out hc1).mono ?_; rintro e w1 ⟨he, hb⟩; (first | rw [ci] at he | rw [ck] at he); subst he; have HX := Lib.hid (blk_below HX.out hb); have HR1 := Lib.hid (Kd.C_below HR1.out hb); have HG := Lib.hid (grown_trans HG.out (grown_of_below hb (some m))); have HB := Lib.hid (HB.out.below hb); clear hb; obtain ⟨c0, c1, c2, c3⟩ := HCX.out _ HX.out) | (go_at_call 64; refine (calls_same' R hR HA hn hc RA rc m rows i k 0 (by omega) hlt (by omega) _ HB.out hrc H8.out).mono ?_; rintro e w3 ⟨he, hb3, hg3⟩; rw [hsb] at he; subst he))
                go_roundw
                case rel => exact ⟨i + 1, by omega, by go_num, Lib.hid (HST.out hbf.out), Lib.hid (blk_grownM HX.out HB.out.is hg3), Lib.hid (C_grown HR1.out HB.out.is hg3), Lib.hid hb3, Lib.hid (grown_trans HG.out hg3)⟩
                case measure => simp [intOf]; omega
        · obtain rfl : i = k := by omega
          go_wp2_with fail
          go_roundw
          case rel => exact ⟨i + 1, by omega, by go_num, Lib.hid (fun k' hk' i' hi' => by
            by_cases e : k' = i
            · subst e; exact HQ.out i' hi'
            · exact HP.out k' (by omega) i' hi'), HX, HR1, HB, HG⟩
          case measure => simp [intOf]; omega
    · obtain rfl : k = rows.length := by omega
      go_wp2_with fail
      go_ret
      exact ⟨by rw [apart_of HP.out]; rfl, HB.out, HG.out⟩
end Go.Proofs.YtdllacjkacmghaaDoorD
