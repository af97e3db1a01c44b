/- The walks of package dapple: the horses to be painted anew. The walks of package dapple: a book one dapple of which is known; the greatest of numbers. -/
import Derived.Test.YtdllacjkacmghaaDoorGf
namespace Go.Proofs.YtdllacjkacmghaaDoorD
open Go.RowKit Go.Proofs.YtdllacjkacmghaaDoorW.PrintWords Go.Proofs.YtdllacjkacmghaaDoorW.PrintLast Go.Proofs.YtdllacjkacmghaaDoorW.PrintMore Go.Proofs.YtdllacjkacmghaaDoorH
set_option linter.unusedVariables false
set_option linter.unusedSimpArgs false

/-- the horses of a set -/
def ofSet (n s : Nat) : List Nat := (List.range n).filter fun k => s / 2 ^ k % 2 == 1
def dropStep (R : Nat) (rows : List (List Int)) (s : Nat) (z : Bool × List Int) : Bool × List Int :=
  if (!z.1 || betterL (ints (ofSet rows.length s)) z.2) && apartB R rows (ints (ofSet rows.length s)) then (true, ints (ofSet rows.length s)) else z
def dropTo (R : Nat) (rows : List (List Int)) : Nat → Bool × List Int
  | 0 => (false, [])
  | s + 1 => dropStep R rows s (dropTo R rows s)
def dropD (R : Int) (l : List (List Int)) : List Int × Int := if validB R l then ((dropTo R.toNat l (2 ^ l.length)).2, 0) else ([], 70)

theorem run_better (W : World) : (Instr.field 92 (.agg #[.func (.func 89) #[] #[]]) 0).run Tryd.prog W = .ok (.func (.func 89) #[] #[]) W := by
  first | (unfold Instr.field; simp [Tryd.underlying92, run_underlying, go_sem]; done) | (unfold Instr.field; simp [Tryd.underlying92, run_underlying, go_sem]; rfl) | (go_simp; done) | (go_simp; rfl)

set_option maxRecDepth 100000 in
set_option maxHeartbeats 1000000 in
theorem calls_Drop (R : Int) (A : Option Addr) (c : Nat) (l : List (List Int)) (w : World) (hr : Kd.C (Kd.slice 3 (Kd.int .i64)) w A l.length l) (hc : l.length ≤ c) (hG : Glob w) :
    Calls Tryd.prog 42 #[.agg #[.int .i64 R, .slice A l.length c]] w fun e w' =>
      ∃ v, e = .returned (.tuple #[v, .int .i64 (dropD R l).2]) ∧ Kd.V (Kd.int .i64) 3 w' w.heap.size (fun k => w.heap.size ≤ k) v (dropD R l).1 ∧ Below w.heap.size w w' := by
  have hv := valid_iff R l
  have HR := Lib.hid hr; clear hr
  have HG := Lib.hid hG; clear hG
  have HX := Lib.hid (blk_new w (.cells #[.int .i64 R, .slice A l.length c] 24))
  have HB := Lib.hid (below_alloc (Below.refl _ _) (.cells #[.int .i64 R, .slice A l.length c] 24) : Below w.heap.size w _)
  by_cases hval : validB R l = true
  · have hck : checkD R l = 0 := by simp [checkD, hval]
    have hV := hv.1 hval
    obtain ⟨n, rfl, hn8, hn1⟩ := hV.nat
    have HV := Lib.hid hV; clear hV hv
    have hn0 : ((n : Int)).toNat = n := by simp
    have h6 : l.length ≤ 6 := HV.out.h6
    have hdd : dropD n l = ((dropTo n l (2 ^ l.length)).2, (0 : Int)) := by simp [dropD, hval]
    have HDD := Lib.hid hdd; clear hdd
    obtain ⟨P, hP⟩ : ∃ P : Nat, 2 ^ l.length = P := ⟨_, rfl⟩
    have hP64 : P ≤ 64 := by rw [← hP]; exact Nat.pow_le_pow_right (by omega) h6
    have hpw : wrap64 ((2 : Int) ^ l.length) = (P : Int) := by
      have : ((2 : Int) ^ l.length) = (P : Int) := by rw [← hP]; simp
      rw [this]; unfold wrap64; omega
    rw [hP] at HDD
    have HP := Lib.hid hP; clear hP
    go_enter Tryd.func42, Tryd.ntmps42
    go_wp2_with (first | (go_at_call 20; refine (calls_Check n A c l _ (Kd.C_below HR.out HB.out) hc).mono ?_; rintro e w1 ⟨he, hb⟩; rw [hck] at he; subst he; have HX := Lib.hid (blk_below HX.out hb); have HB := Lib.hid (HB.out.trans (hb.mono (by simp))); clear hb; have c0 : w1.cell? ⟨w.heap.size, 0, none⟩ = some (.int .i64 n) := blk_cell HX.out 0; have c1 : w1.cell? ⟨w.heap.size, 1, none⟩ = some (.slice A l.length c) := blk_cell HX.out 1) | (go_at_call 66; refine (calls_opened' n A c l HV.out _ (Kd.C_below HR.out HB.out) hc (HG.out.below HB.out)).mono ?_; rintro e w2 ⟨RA, rc, m, rfl, hBk, hrc, hm, hra, hb⟩; have HX := Lib.hid (blk_below HX.out hb); have hm := Nat.le_trans (below_size HB.out) hm; have HB := Lib.hid (HB.out.trans (hb.mono (below_size HB.out))); have HBK := Lib.hid hBk; clear hBk hb hra; have c1 : w2.cell? ⟨w.heap.size, 1, none⟩ = some (.slice A l.length c) := blk_cell HX.out 1; have l1 : w.heap.size < w2.heap.size := blk_lt HX.out))
    have hmw : w.heap.size ≤ m := hm
    have HY := Lib.hid (blk_new w2 (.cells #[.int .i64 n, .slice A l.length c, .slice RA l.length rc, .map (some m)] 72))
    have HX := Lib.hid (blk_alloc HX.out (.cells #[.int .i64 n, .slice A l.length c, .slice RA l.length rc, .map (some m)] 72))
    have HBK := Lib.hid (HBK.out.alloc (.cells #[.int .i64 n, .slice A l.length c, .slice RA l.length rc, .map (some m)] 72))
    have hs2 : w.heap.size ≤ w2.heap.size := below_size HB.out
    have HB := Lib.hid (HB.out.alloc hs2 (.cells #[.int .i64 n, .slice A l.length c, .slice RA l.length rc, .map (some m)] 72))
    have HMW := Lib.hid hmw
    have H8 := Lib.hid HV.out.rows8
    clear HR HG c0 c1 l1 hm hmw hck
    rw [hpw]
    clear hpw
    go_loopw [6, 7, 22] (fun v6 v7 v wr => ∃ s : Nat, s ≤ P ∧ v = .int .i64 s ∧ v7 = .bool (dropTo n l s).1 ∧ Hid (wr.heap[w.heap.size]? = some (.cells #[.int .i64 n, .slice A l.length c] 24 (0, 0))) ∧ Hid (wr.heap[w2.heap.size]? = some (.cells #[.int .i64 n, .slice A l.length c, .slice RA l.length rc, .map (some m)] 72 (0, 0))) ∧ Hid (Bk n RA m l wr) ∧ Hid (Kd.V (Kd.int .i64) 3 wr w.heap.size (fun k => w.heap.size ≤ k ∧ k ≠ m) v6 (dropTo n l s).2) ∧ Hid (Below w.heap.size w wr)) (fun _ _ v _ => P - (intOf v).toNat)
    case atStart => exact ⟨0, Nat.zero_le _, rfl, rfl, HX, HY, HBK, Lib.hid (Kd.V_nil _ _ _ _ _), HB⟩
    case round =>
      clear HX HY HBK HB
      obtain ⟨s, hs, rfl, rfl, HX, HY, HBK, HO, HB⟩ := hrel
      obtain ⟨A', c', rfl⟩ := Kd.V_slice HO.out
      by_cases hlt : s < P
      · obtain ⟨wo, rfl⟩ : ∃ wo : World, wo = wr := ⟨_, rfl⟩
        have c1 : wo.cell? ⟨w.heap.size, 1, none⟩ = some (.slice A l.length c) := blk_cell HX.out 1
        go_wp2_with fail
        go_loopw [9, 28] (fun v9 v wi => ∃ k : Nat, k ≤ l.length ∧ v = .int .i64 k ∧ Hid (Kd.R (Kd.int .i64) 3 wi wo.heap.size (fun _ => True) v9 (ints ((List.range k).filter fun k => s / 2 ^ k % 2 == 1))) ∧ Hid (Below wo.heap.size wo wi)) (fun _ v _ => l.length - (intOf v).toNat)
        case atStart => exact ⟨0, Nat.zero_le _, rfl, Lib.hid (Kd.R_nil _ _ _ _ _), Lib.hid (Below.refl _ _)⟩
        case round =>
          clear c1
          obtain ⟨k, hk, rfl, HL, HI⟩ := hrel
          obtain ⟨A2, c2, rfl, _, _⟩ := Kd.R_reads HL.out
          by_cases hltk : k < l.length
          · have hbit := bit_at s k (by omega)
            cases hbb : (s / 2 ^ k % 2 == 1) with
            | true =>
              rw [hbb] at hbit
              have HBB := Lib.hid hbb; clear hbb
              go_wp2_with ((with_reducible refine gate_builtin (b := .append) (xs := #[.tmp 36, .tmp 38]) rfl ?_); at_builtin; refine Kd.R_append (Kd.int .i64) (w0 := wo) wo.heap.size rfl (.tmp 36) (.tmp 38) 26 3 (.int .i64 0) 8 rfl Tryd.underlying26 infoInt rfl (by decide) (by omega) _ (ints ((List.range k).filter fun k => s / 2 ^ k % 2 == 1)) (k : Int) [.int .i64 k] (fun _ => True) (fun _ => False) rfl rfl ?aP (fun _ hk => hk.elim) ?aF ?aO ?aB ?aS ?aL ?_; (case aP => exact rfl); (case aF => exact (fun _ _ => trivial)); (case aO => exact HL.out); (case aB => exact HI.out); (case aS => exact below_size HI.out); (case aL => rw [ints_length]; have := List.length_filter_le (fun k => s / 2 ^ k % 2 == 1) (List.range k); rw [List.length_range] at this; omega); intro v2 w3 ho hb2 hg2 hat)
              obtain ⟨A3, c3, rfl, _, _⟩ := Kd.R_reads ho
              go_roundw
              case rel => exact ⟨k + 1, by omega, by go_num, by rw [filter_next_yes (p := fun k => s / 2 ^ k % 2 == 1) HBB.out, ints_append]; exact ho, Lib.hid hb2⟩
              case measure => simp [intOf]; omega
            | false =>
              rw [hbb] at hbit
              have HBB := Lib.hid hbb; clear hbb
              go_wp2_with fail
              go_roundw
              case rel => exact ⟨k + 1, by omega, by go_num, by rw [filter_next_no (p := fun k => s / 2 ^ k % 2 == 1) HBB.out]; exact HL, HI⟩
              case measure => simp [intOf]; omega
          · obtain rfl : k = l.length := by omega
            have hxs : ints ((List.range l.length).filter fun k => s / 2 ^ k % 2 == 1) = ints (ofSet l.length s) := rfl
            rw [hxs] at HL ⊢
            obtain ⟨xs, hxs⟩ : ∃ xs, ints (ofSet l.length s) = xs := ⟨_, rfl⟩
            rw [hxs] at HL ⊢
            clear c1
            have hfd := run_better
            have HX := Lib.hid (blk_below HX.out HI.out)
            have HY := Lib.hid (blk_below HY.out HI.out)
            have HV2 := Lib.hid (Kd.R_V (base' := w.heap.size) (Kd.R_mono (ok' := fun k => w.heap.size ≤ k ∧ k ≠ m) (Kd.R_tight rfl HL.out) (fun k hk => ⟨Nat.le_trans (below_size HB.out) (Kd.R_base HL.out k hk.symm), fun e => by obtain ⟨f, hf, _⟩ := (HBK.out.below HI.out).map; exact map_ne_row HL.out hf (by rw [← e]; exact hk)⟩)))
            have HBK := Lib.hid (HBK.out.below HI.out)
            have HO := Lib.hid (Kd.V_below HO.out HI.out)
            have HB := Lib.hid (HB.out.trans (HI.out.mono (below_size HB.out)))
            clear HL HI
            have hcx0 : ∀ W : World, W.heap[w2.heap.size]? = some (.cells #[.int .i64 n, .slice A l.length c, .slice RA l.length rc, .map (some m)] 72 (0, 0)) → W.cell? ⟨w2.heap.size, 0, none⟩ = some (.int .i64 n) ∧ W.cell? ⟨w2.heap.size, 1, none⟩ = some (.slice A l.length c) ∧ W.cell? ⟨w2.heap.size, 2, none⟩ = some (.slice RA l.length rc) ∧ W.cell? ⟨w2.heap.size, 3, none⟩ = some (.map (some m)) := fun W h => ⟨blk_cell h 0, blk_cell h 1, blk_cell h 2, blk_cell h 3⟩
            have HCX := Lib.hid hcx0; clear hcx0
            obtain ⟨d0, d1, d2, d3⟩ := HCX.out _ HY.out
            have hst : dropTo n l (s + 1) = dropStep n l s (dropTo n l s) := rfl
            obtain ⟨fnd, best, hz⟩ : ∃ fnd best, dropTo n l s = (fnd, best) := ⟨_, _, rfl⟩
            rw [hz] at hst HO ⊢
            simp only [dropStep, hxs] at hst HO ⊢
            have HST := Lib.hid hst; clear hst hz
            obtain ⟨ap, hap⟩ : ∃ ap, apartB n l xs = ap := ⟨_, rfl⟩
            obtain ⟨bt, hbt⟩ : ∃ bt, betterL xs best = bt := ⟨_, rfl⟩
            have HST := Lib.hid (by have := HST.out; rw [hap, hbt] at this; exact this)
            clear hxs
            cases fnd with
            | false =>
              cases ap with
              | true =>
                have HN := Lib.hid (HST.out.trans (show _ = (true, xs) from rfl))
                go_wp2_with (go_at_call 74; refine (calls_apart n hn8 A l.length c RA rc m l h6 A2 c2 xs _ HBK.out hrc H8.out (Kd.V_reads' HV2.out).2.2 (Kd.V_reads' HV2.out).2.1).mono ?_; rintro e w6 ⟨he, hbk, hg⟩; rw [hap] at he; subst he; have HX := Lib.hid (blk_grownM HX.out HBK.out.is hg); have HY := Lib.hid (blk_grownM HY.out HBK.out.is hg); have HO := Lib.hid (Kd.V_grown HO.out hg (fun k hk e => hk.2 (Option.some.inj e))); have HV2 := Lib.hid (Kd.V_grown HV2.out hg (fun k hk e => hk.2 (Option.some.inj e))); have HB := Lib.hid (grown_Below HB.out HMW.out hg); have HBK := Lib.hid hbk; clear hg hbk)
                go_roundw
                case rel => exact ⟨s + 1, by omega, by go_num, by rw [HN.out], HX, HY, HBK, by rw [HN.out]; exact HV2, HB⟩
                case measure => simp [intOf]; omega
              | false =>
                have HN := Lib.hid (HST.out.trans (show _ = (false, best) from rfl))
                go_wp2_with (go_at_call 74; refine (calls_apart n hn8 A l.length c RA rc m l h6 A2 c2 xs _ HBK.out hrc H8.out (Kd.V_reads' HV2.out).2.2 (Kd.V_reads' HV2.out).2.1).mono ?_; rintro e w6 ⟨he, hbk, hg⟩; rw [hap] at he; subst he; have HX := Lib.hid (blk_grownM HX.out HBK.out.is hg); have HY := Lib.hid (blk_grownM HY.out HBK.out.is hg); have HO := Lib.hid (Kd.V_grown HO.out hg (fun k hk e => hk.2 (Option.some.inj e))); have HV2 := Lib.hid (Kd.V_grown HV2.out hg (fun k hk e => hk.2 (Option.some.inj e))); have HB := Lib.hid (grown_Below HB.out HMW.out hg); have HBK := Lib.hid hbk; clear hg hbk)
                go_roundw
                case rel => exact ⟨s + 1, by omega, by go_num, by rw [HN.out], HX, HY, HBK, by rw [HN.out]; exact HO, HB⟩
                case measure => simp [intOf]; omega
            | true =>
              cases bt with
              | false =>
                have HN := Lib.hid (HST.out.trans (show _ = (true, best) from rfl))
                go_wp2_with (first | (go_at_call 73; refine (calls_fewest _).mono ?_; rintro e w4 ⟨rfl, hb⟩; have HX := Lib.hid (blk_below HX.out hb); have HY := Lib.hid (blk_below HY.out hb); have HBK := Lib.hid (HBK.out.below hb); have HO := Lib.hid (Kd.V_below HO.out hb); have HV2 := Lib.hid (Kd.V_below HV2.out hb); have HB := Lib.hid (HB.out.trans (hb.mono (below_size HB.out))); clear hb; obtain ⟨d0, d1, d2, d3⟩ := HCX.out _ HY.out) | (go_at_call 89; refine (calls_fewest1 A2 c2 xs A' c' best _ (Kd.V_reads' HV2.out).2.2 (Kd.V_reads' HV2.out).2.1 (Kd.V_reads' HO.out).2.2 (Kd.V_reads' HO.out).2.1).mono ?_; rintro e w5 ⟨he, hb⟩; rw [hbt] at he; subst he; have HX := Lib.hid (blk_below HX.out hb); have HY := Lib.hid (blk_below HY.out hb); have HBK := Lib.hid (HBK.out.below hb); have HO := Lib.hid (Kd.V_below HO.out hb); have HV2 := Lib.hid (Kd.V_below HV2.out hb); have HB := Lib.hid (HB.out.trans (hb.mono (below_size HB.out))); clear hb; obtain ⟨d0, d1, d2, d3⟩ := HCX.out _ HY.out))
                go_roundw
                case rel => exact ⟨s + 1, by omega, by go_num, by rw [HN.out], HX, HY, HBK, by rw [HN.out]; exact HO, HB⟩
                case measure => simp [intOf]; omega
              | true =>
                cases ap with
                | true =>
                  have HN := Lib.hid (HST.out.trans (show _ = (true, xs) from rfl))
                  go_wp2_with (first | (go_at_call 73; refine (calls_fewest _).mono ?_; rintro e w4 ⟨rfl, hb⟩; have HX := Lib.hid (blk_below HX.out hb); have HY := Lib.hid (blk_below HY.out hb); have HBK := Lib.hid (HBK.out.below hb); have HO := Lib.hid (Kd.V_below HO.out hb); have HV2 := Lib.hid (Kd.V_below HV2.out hb); have HB := Lib.hid (HB.out.trans (hb.mono (below_size HB.out))); clear hb; obtain ⟨d0, d1, d2, d3⟩ := HCX.out _ HY.out) | (go_at_call 89; refine (calls_fewest1 A2 c2 xs A' c' best _ (Kd.V_reads' HV2.out).2.2 (Kd.V_reads' HV2.out).2.1 (Kd.V_reads' HO.out).2.2 (Kd.V_reads' HO.out).2.1).mono ?_; rintro e w5 ⟨he, hb⟩; rw [hbt] at he; subst he; have HX := Lib.hid (blk_below HX.out hb); have HY := Lib.hid (blk_below HY.out hb); have HBK := Lib.hid (HBK.out.below hb); have HO := Lib.hid (Kd.V_below HO.out hb); have HV2 := Lib.hid (Kd.V_below HV2.out hb); have HB := Lib.hid (HB.out.trans (hb.mono (below_size HB.out))); clear hb; obtain ⟨d0, d1, d2, d3⟩ := HCX.out _ HY.out) | (go_at_call 74; refine (calls_apart n hn8 A l.length c RA rc m l h6 A2 c2 xs _ HBK.out hrc H8.out (Kd.V_reads' HV2.out).2.2 (Kd.V_reads' HV2.out).2.1).mono ?_; rintro e w6 ⟨he, hbk, hg⟩; rw [hap] at he; subst he; have HX := Lib.hid (blk_grownM HX.out HBK.out.is hg); have HY := Lib.hid (blk_grownM HY.out HBK.out.is hg); have HO := Lib.hid (Kd.V_grown HO.out hg (fun k hk e => hk.2 (Option.some.inj e))); have HV2 := Lib.hid (Kd.V_grown HV2.out hg (fun k hk e => hk.2 (Option.some.inj e))); have HB := Lib.hid (grown_Below HB.out HMW.out hg); have HBK := Lib.hid hbk; clear hg hbk))
                  go_roundw
                  case rel => exact ⟨s + 1, by omega, by go_num, by rw [HN.out], HX, HY, HBK, by rw [HN.out]; exact HV2, HB⟩
                  case measure => simp [intOf]; omega
                | false =>
                  have HN := Lib.hid (HST.out.trans (show _ = (true, best) from rfl))
                  go_wp2_with (first | (go_at_call 73; refine (calls_fewest _).mono ?_; rintro e w4 ⟨rfl, hb⟩; have HX := Lib.hid (blk_below HX.out hb); have HY := Lib.hid (blk_below HY.out hb); have HBK := Lib.hid (HBK.out.below hb); have HO := Lib.hid (Kd.V_below HO.out hb); have HV2 := Lib.hid (Kd.V_below HV2.out hb); have HB := Lib.hid (HB.out.trans (hb.mono (below_size HB.out))); clear hb; obtain ⟨d0, d1, d2, d3⟩ := HCX.out _ HY.out) | (go_at_call 89; refine (calls_fewest1 A2 c2 xs A' c' best _ (Kd.V_reads' HV2.out).2.2 (Kd.V_reads' HV2.out).2.1 (Kd.V_reads' HO.out).2.2 (Kd.V_reads' HO.out).2.1).mono ?_; rintro e w5 ⟨he, hb⟩; rw [hbt] at he; subst he; have HX := Lib.hid (blk_below HX.out hb); have HY := Lib.hid (blk_below HY.out hb); have HBK := Lib.hid (HBK.out.below hb); have HO := Lib.hid (Kd.V_below HO.out hb); have HV2 := Lib.hid (Kd.V_below HV2.out hb); have HB := Lib.hid (HB.out.trans (hb.mono (below_size HB.out))); clear hb; obtain ⟨d0, d1, d2, d3⟩ := HCX.out _ HY.out) | (go_at_call 74; refine (calls_apart n hn8 A l.length c RA rc m l h6 A2 c2 xs _ HBK.out hrc H8.out (Kd.V_reads' HV2.out).2.2 (Kd.V_reads' HV2.out).2.1).mono ?_; rintro e w6 ⟨he, hbk, hg⟩; rw [hap] at he; subst he; have HX := Lib.hid (blk_grownM HX.out HBK.out.is hg); have HY := Lib.hid (blk_grownM HY.out HBK.out.is hg); have HO := Lib.hid (Kd.V_grown HO.out hg (fun k hk e => hk.2 (Option.some.inj e))); have HV2 := Lib.hid (Kd.V_grown HV2.out hg (fun k hk e => hk.2 (Option.some.inj e))); have HB := Lib.hid (grown_Below HB.out HMW.out hg); have HBK := Lib.hid hbk; clear hg hbk))
                  go_roundw
                  case rel => exact ⟨s + 1, by omega, by go_num, by rw [HN.out], HX, HY, HBK, by rw [HN.out]; exact HO, HB⟩
                  case measure => simp [intOf]; omega
      · obtain rfl : s = P := by omega
        have h2 := Kd.V_at HO.out
        obtain ⟨best, hz⟩ : ∃ best, (dropTo n l s).2 = best := ⟨_, rfl⟩
        rw [hz] at h2 HDD ⊢
        have hle := h2.2.1
        have HF := Lib.hid h2.2.2
        clear h2
        go_wp2_with fail
        rw [HDD.out]
        exact bodyPost_ret (results_tmp2 rfl _ _ _) rfl ⟨_, rfl, Kd.V_mk (Nat.le_refl _) (Kd.F_mono HF.out (fun k hk => hk.1)), HB.out⟩
  · have hck : checkD R l = 70 := by simp [checkD, hval]
    have hfd : dropD R l = ([], 70) := by simp [dropD, hval]
    rw [hfd]
    go_enter Tryd.func42, Tryd.ntmps42
    go_wp2_with (go_at_call 20; refine (calls_Check R A c l _ (Kd.C_below HR.out HB.out) hc).mono ?_; rintro e w1 ⟨he, hb⟩; rw [hck] at he; subst he; have HB := Lib.hid (HB.out.trans (hb.mono (by simp))))
    exact bodyPost_ret (results_tmp2 rfl _ _ _) rfl ⟨_, rfl, Kd.V_nil _ _ _ _ _, HB.out⟩
end Go.Proofs.YtdllacjkacmghaaDoorD

namespace Go.Proofs.YtdllacjkacmghaaDoorD
open Go.RowKit Go.Proofs.YtdllacjkacmghaaDoorW.PrintWords Go.Proofs.YtdllacjkacmghaaDoorW.PrintLast Go.Proofs.YtdllacjkacmghaaDoorW.PrintMore Go.Proofs.YtdllacjkacmghaaDoorH Go.Proofs.YtdllacjkacmghaaDoorEv Go.Proofs.YtdllacjkacmghaaDoor.DP
set_option linter.unusedVariables false
set_option linter.unusedSimpArgs false

def initF : List Int → Option Value := fun ks => if ks = [-1, -1, -1] then some (.bool false) else none
theorem memo_init (R : Nat) (rows : List (List Int)) : Memo R rows initF := by
  intro i j k v hv
  simp only [initF] at hv
  split at hv
  · rename_i he
    simp only [List.cons.injEq] at he
    omega
  · cases hv

theorem calls_opened2 (R : Nat) (A : Option Addr) (c : Nat) (l : List (List Int)) (hV : Valid R l) (w : World) (hr : Kd.C (Kd.slice 3 (Kd.int .i64)) w A l.length l) (hc : l.length ≤ c) (hG : Glob w) :
    Calls Tryd.prog 66 #[.agg #[.int .i64 R, .slice A l.length c]] w fun e w' => ∃ g rc m cur, e = .returned (.agg #[.int .i64 R, .slice A l.length c, .slice (some ⟨g, 0, none⟩) l.length rc, .map (some m)]) ∧ w'.heap[g]? = some (.cells cur 79 (0, 0)) ∧ kRow.C w' (some ⟨g, 0, none⟩) l.length l ∧ MapFn 3 w' m initF ∧ l.length ≤ rc ∧ w.heap.size ≤ m ∧ w.heap.size ≤ g ∧ Below w.heap.size w w' := by
  refine (calls_opened R A c l w hr hc (fun r hr => by have := hV.len r hr; have := hV.r8; omega) hV.h6 hG).mono ?_
  rintro e w' ⟨v, m, rfl, hR, hM, hm, hb⟩
  obtain ⟨A', c', rfl, hc', hC⟩ := Kd.R_reads hR
  obtain ⟨inner, ho⟩ := Kd.R_own hR
  rcases ho.2 with ⟨e1, e2⟩ | ⟨g, cap, cur, e1, hg, hh, _⟩
  · exact absurd e2 (by have := hV.h1; omega)
  · simp only [Value.slice.injEq] at e1
    obtain ⟨rfl, _, rfl⟩ := e1
    exact ⟨g, c', m, cur, rfl, hh, hC, hM, hc', hm, hg, hb⟩

/-- a book in which a dapple is known -/
def setAt (l : List (List Int)) (h p : Nat) (v : Int) : List (List Int) := l.set h ((l.getD h []).set p v)
theorem setAt_length (l : List (List Int)) (h p : Nat) (v : Int) : (setAt l h p v).length = l.length := by simp [setAt]
theorem setAt_rows8 {l : List (List Int)} (h8 : Rows8 l) (h p : Nat) (v : Int) (hv : v ≠ 0) (hh : h < l.length) : Rows8 (setAt l h p v) := by
  intro r hr
  unfold setAt at hr
  rcases List.mem_or_eq_of_mem_set hr with hr | rfl
  · exact h8 r hr
  · have h1 := h8 _ (getD_mem hh)
    unfold el at h1 ⊢
    cases p with
    | zero =>
      cases hl : l.getD h [] with
      | nil => rw [hl] at h1; simp at h1
      | cons a x => simp [hv]
    | succ p =>
      cases hl : l.getD h [] with
      | nil => rw [hl] at h1; simp at h1
      | cons a x => rw [hl] at h1; simpa using h1

theorem el_set (r : List Int) (p : Nat) (v : Int) (j : Nat) (hp : p < r.length) : el (r.set p v) j = if j = p then v else el r j := by
  unfold el
  by_cases e : j = p
  · subst e; simp [hp]
  · have e' : ¬ p = j := fun h => e h.symm
    simp [e, e', List.getElem?_set]

/-- a store into a row's place -/
theorem kRow_set {w : World} {g n : Nat} {l : List (List Int)} (h : kRow.C w (some ⟨g, 0, none⟩) n l) (k p : Nat) (hk : k < n) (hp : p < 8) (hpr : p < (l.getD k []).length) (v : Int) :
    kRow.C (w.setCell ⟨g, k * 8 + p, none⟩ (.int .i64 v)) (some ⟨g, 0, none⟩) n (setAt l k p v) := by
  have h0 := h
  obtain ⟨hl, hc, hd⟩ := h
  refine ⟨(setAt_length _ _ _ _).trans hl, hc, fun hn => ?_⟩
  obtain ⟨ad, e, h1⟩ := hd hn
  obtain rfl : (⟨g, 0, none⟩ : Addr) = ad := Option.some.inj e
  refine ⟨_, rfl, fun j x hx => ?_⟩
  have hjl : j < l.length := by have := (List.getElem?_eq_some_iff.1 hx).1; rwa [setAt_length] at this
  obtain ⟨cs, h2, h3, h4⟩ := h1 j (l.getD j []) (by simp [hjl])
  have h3' : cs = (rowA (l.getD j [])).toList := h3
  subst h3'
  refine ⟨(rowA x).toList, rfl, rfl, fun i u hi => ?_⟩
  have hi8 : i < 8 := by have := (List.getElem?_eq_some_iff.1 hi).1; simpa [rowA] using this
  have hiu : u = .int .i64 (el x i) := by
    rw [Array.getElem?_toList, rowA_get _ _ hi8] at hi
    exact (Option.some.inj hi).symm
  subst hiu
  have hold := h4 i (.int .i64 (el (l.getD j []) i)) (by rw [Array.getElem?_toList]; exact rowA_get _ _ hi8)
  have hkz : kRow.sz = 8 := rfl
  rw [hkz] at hold ⊢
  have had : ∀ q, (⟨g, 0, none⟩ : Addr).add q = ⟨g, q, none⟩ := fun q => by unfold Addr.add; split <;> simp_all
  rw [had] at hold ⊢
  by_cases e1 : j = k
  · subst e1
    have hxe : x = (l.getD j []).set p v := by
      unfold setAt at hx
      rw [List.getElem?_set_self hjl] at hx
      exact (Option.some.inj hx).symm
    rw [hxe, el_set _ _ _ _ hpr]
    by_cases e2 : i = p
    · subst e2
      rw [if_pos rfl]
      exact World.cell?_setCell_same _ _ _ hold
    · rw [if_neg e2]
      exact (World.cell?_setCell_other _ _ _ _ (fun h => e2 (by injection h with _ h _; omega))).trans hold
  · have hxe : x = l.getD j [] := by
      unfold setAt at hx
      rw [List.getElem?_set_ne (fun h => e1 h.symm)] at hx
      rw [List.getElem?_eq_getElem hjl] at hx
      rw [← Option.some.inj hx]
      simp [hjl]
    rw [hxe]
    exact (World.cell?_setCell_other _ _ _ _ (fun h => by injection h with _ h _; omega)).trans hold

theorem greatest_l0 (l : List Int) (hl : l.length < 9223372036854775808) : ∀ (d j : Nat) (a : Int), j + d = l.length →
    Evt (fun k => dapple_greatest_int.l0 k a l (l.length : Int) (j : Int)) ((l.drop j).foldl mx a)
  | 0, j, a, hj => by
    refine Evt.succ ?_
    simp only [dapple_greatest_int.l0]
    rw [List.drop_eq_nil_of_le (by omega)]
    exact Evt.neg (by omega) (Evt.pure _)
  | d + 1, j, a, hj => by
    have h1 : l.drop j = l[j] :: l.drop (j + 1) := List.drop_eq_getElem_cons (by omega)
    have hg : rd l (j : Int) = l[j] := by rw [rd_at]; simp [show j < l.length by omega]
    refine Evt.succ ?_
    simp only [dapple_greatest_int.l0]
    rw [h1, List.foldl_cons]
    refine Evt.pos (by omega) (Evt.pos (by omega) (Evt.pos (by omega) ?_))
    rw [hg, w64 j (by omega)]
    exact greatest_l0 l hl d (j + 1) _ (by omega)
theorem calls_greatest (a : Int) (A : Option Addr) (c : Nat) (l : List Int) (w : World) (hr : Kd.C (Kd.int .i64) w A l.length l) (hc : l.length ≤ c) :
    Calls Tryd.prog 77 #[.int .i64 a, .slice A l.length c] w fun e w' => e = .returned (.int .i64 (l.foldl mx a)) ∧ Below w.heap.size w w' := by
  obtain ⟨k, hk⟩ := (greatest_l0 l (by have := hr.2.1; omega) l.length 0 a (by omega)).get
  exact (dapple_greatest_int.calls k a A c l _ w hr hc hk).mono fun e w' h => ⟨h.1, by first | exact h.2 | exact h.2.below⟩
end Go.Proofs.YtdllacjkacmghaaDoorD
