/- Printed by a program (prx.py). -/
import Derived.Test.YtekjlpldooihhaaDoorRw
import Derived.Test.YtekjlpldooihhaaDoorKn
namespace Go.Proofs.YtekjlpldooihhaaDoor.PT
open Go.Proofs.YtekjlpldooihhaaDoorSh
open Go.Proofs.YtekjlpldooihhaaDoor.PA (S48 S50 S60 at_L2 at_L4 at_T48 at_T50 at_T60 errW errW_none errW_some k48 k48_mk k48_mkM k48_open k48_openM k50 k50_mk k50_mkM k50_open k50_openM k60 k60_mk k60_mkM k60_open k60_openM rd_L2 rd_L4 rd_T48 rd_T50 rd_T60 z48 z50 z60)
open Go.Proofs.YtekjlpldooihhaaDoorP Go.Proofs.YtekjlpldooihhaaDoorK
open Go.RowKit Go.Proofs.YtekjlpldooihhaaDoorW.PrintWords Go.Proofs.YtekjlpldooihhaaDoorW.PrintLast Go.Proofs.YtekjlpldooihhaaDoorW.PrintMore
attribute [local go_sem] max2_int min2_int max_two min_two max_three min_three max_four min_four
set_option linter.unusedVariables false
set_option linter.unusedSimpArgs false
mutual
def skewbaldref01_Check.j0 : Nat → Bool → List (S48) → List (S50) → Option (Int)
 | 0, _, _, _ => none
 | k + 1, x3, x106000, x106001 => skewbaldref01_Check.l0 k x3 0 x106000 x106001
def skewbaldref01_Check.l0 : Nat → Bool → Int → List (S48) → List (S50) → Option (Int)
 | 0, _, _, _, _ => none
 | k + 1, x3, x4, x106000, x106001 => if x3 = true then (skewbaldref01_Check.j2 k x3 x4 (decide (x4 < (x106000.length : Int))) x106000 x106001) else (skewbaldref01_Check.j2 k x3 x4 false x106000 x106001)
def skewbaldref01_Check.j2 : Nat → Bool → Int → Bool → List (S48) → List (S50) → Option (Int)
 | 0, _, _, _, _, _ => none
 | k + 1, x3, x4, x26, x106000, x106001 => if x26 = true then (if 0 ≤ x4 then (if x4 < (x106000.length : Int) then ((skewbaldref00_In.f ((rd_T48 x106000 x4).f0) 1 16).bind fun t110 => (if t110 = true then (skewbaldref01_Check.j3 k (decide ((((rd_T48 x106000 x4).f1).length : Int) ≤ 3)) x4 x106000 x106001 ((rd_T48 x106000 x4).f0) ((rd_T48 x106000 x4).f1)) else (skewbaldref01_Check.j3 k false x4 x106000 x106001 ((rd_T48 x106000 x4).f0) ((rd_T48 x106000 x4).f1)))) else (none)) else (none)) else (skewbaldref01_Check.l2 k x3 0 x106000 x106001)
def skewbaldref01_Check.j3 : Nat → Bool → Int → List (S48) → List (S50) → Int → List (S60) → Option (Int)
 | 0, _, _, _, _, _, _ => none
 | k + 1, x3, x4, x106000, x106001, x110000, x110001 => skewbaldref01_Check.l1 k x3 x4 0 x106000 x106001 x110000 x110001
def skewbaldref01_Check.l1 : Nat → Bool → Int → Int → List (S48) → List (S50) → Int → List (S60) → Option (Int)
 | 0, _, _, _, _, _, _, _ => none
 | k + 1, x3, x4, x6, x106000, x106001, x110000, x110001 => if x3 = true then (if x6 < (x110001.length : Int) then (if 0 ≤ x6 then ((skewbaldref00_Ordered.f ((rd_T60 x110001 x6).f0) ((rd_T60 x110001 x6).f1) 0 (wrap64 (x110000 - 1))).bind fun t112 => (if t112 = true then (skewbaldref01_Check.l1 k (decide ((wrap64 (((rd_T60 x110001 x6).f1) - ((rd_T60 x110001 x6).f0))) ≤ 6)) x4 (wrap64 (x6 + 1)) x106000 x106001 x110000 x110001) else (skewbaldref01_Check.l1 k false x4 (wrap64 (x6 + 1)) x106000 x106001 x110000 x110001))) else (none)) else (skewbaldref01_Check.l0 k x3 (wrap64 (x4 + 1)) x106000 x106001)) else (skewbaldref01_Check.l0 k x3 (wrap64 (x4 + 1)) x106000 x106001)
def skewbaldref01_Check.l2 : Nat → Bool → Int → List (S48) → List (S50) → Option (Int)
 | 0, _, _, _, _ => none
 | k + 1, x3, x7, x106000, x106001 => if x3 = true then (skewbaldref01_Check.j6 k x3 x7 (decide (x7 < (x106001.length : Int))) x106000 x106001) else (skewbaldref01_Check.j6 k x3 x7 false x106000 x106001)
def skewbaldref01_Check.j6 : Nat → Bool → Int → Bool → List (S48) → List (S50) → Option (Int)
 | 0, _, _, _, _, _ => none
 | k + 1, x3, x7, x85, x106000, x106001 => if x85 = true then (if 0 ≤ x7 then (if x7 < (x106001.length : Int) then ((skewbaldref00_In.f ((rd_T50 x106001 x7).f0) 1 12).bind fun t117 => (if t117 = true then (if (((rd_T50 x106001 x7).f1).length : Int) ≤ 3 then ((skewbaldref00_Grows.f k ((rd_T50 x106001 x7).f1) ((rd_T50 x106001 x7).f0)).bind fun t118 => (skewbaldref01_Check.l2 k t118 (wrap64 (x7 + 1)) x106000 x106001)) else (skewbaldref01_Check.l2 k false (wrap64 (x7 + 1)) x106000 x106001)) else (skewbaldref01_Check.l2 k false (wrap64 (x7 + 1)) x106000 x106001))) else (none)) else (none)) else (if x3 = true then (some 0) else (some 10))
end
def skewbaldref01_Check.f (k : Nat) (l0_0 : List (S48)) (l0_1 : List (S50)) : Option (Int) := (skewbaldref00_In.f (l0_0.length : Int) 1 3).bind fun t106 => (if t106 = true then ((skewbaldref00_In.f (l0_1.length : Int) 1 5).bind fun t107 => (skewbaldref01_Check.j0 k t107 l0_0 l0_1)) else (skewbaldref01_Check.j0 k false l0_0 l0_1))
def skewbaldref01_Check.T10 : Bool × List (List Nat × List Nat) := (true, [([], []), ([0], [0]), ([], []), ([1, 2], [1, 2]), ([3], [3]), ([], []), ([5], [5]), ([6], [6]), ([4, 7], [4, 7]), ([8, 8], [8]), ([9], [9]), ([10, 9], [9, 10]), ([9], [9]), ([11, 12, 9], [9, 11, 12]), ([13, 9], [9, 13]), ([14, 9], [9, 14]), ([9], [9]), ([16, 9], [9, 16]), ([9], [9]), ([17, 18, 9], [9, 17, 18]), ([19, 9], [9, 19]), ([20, 9], [9, 20]), ([15, 21, 9], [9, 15, 21]), ([22, 9], [9, 22]), ([9, 23], [9, 23]), ([24, 9, 0, 1, 2, 3, 4, 5, 6, 7, 8, 9, 10, 11, 12, 13, 14, 15, 16, 17, 18, 19, 20, 21, 22, 23, 24], [24])])
def skewbaldref01_Check.B10 : List Nat := [0, 1, 0, 7, 15, 0, 32, 96, 255, 511, 1023, 2047, 1023, 8191, 16383, 32767, 1023, 66559, 1023, 459775, 984063, 2032639, 4194303, 8388607, 16777215, 33554431]
theorem skewbaldref01_Check.tab10 : rtab .any (opsOf Tryd.f19 10) = skewbaldref01_Check.T10 := by kernel_rfl
theorem skewbaldref01_Check.bits10 : waitsOk skewbaldref01_Check.T10.2 skewbaldref01_Check.B10 = true := by kernel_rfl
set_option maxHeartbeats 8000000 in
set_option maxRecDepth 100000 in
theorem skewbaldref01_Check.calls (k : Nat) (A0_0 : Option Addr) (c0_0 : Nat) (l0_0 : List (S48)) (A0_1 : Option Addr) (c0_1 : Nat) (l0_1 : List (S50)) (r : Int) (w : World) (hr0_0 : Kd.C k48 w A0_0 l0_0.length l0_0) (hc0_0 : l0_0.length ≤ c0_0) (hr0_1 : Kd.C k50 w A0_1 l0_1.length l0_1) (hc0_1 : l0_1.length ≤ c0_1) (h : skewbaldref01_Check.f k l0_0 l0_1 = some r) :
  Calls Tryd.prog 19 #[.agg #[.slice A0_0 l0_0.length c0_0, .slice A0_1 l0_1.length c0_1]] w fun e w' => e = .returned (.int .i64 r) ∧ Below w.heap.size w w' := by
 have hu25 := Tryd.underlying25; have hu48 := Tryd.underlying48; have hu60 := Tryd.underlying60; have hu50 := Tryd.underlying50; have HR0_0 := Aside0.mk hr0_0; have HC0_0 := Aside0.mk hc0_0; clear hr0_0 hc0_0; have HR0_1 := Aside0.mk hr0_1; have HC0_1 := Aside0.mk hc0_1; clear hr0_1 hc0_1; have HB := Aside0.mk (Below.refl w.heap.size w)
 have H : ((skewbaldref00_In.f (l0_0.length : Int) 1 3).bind fun t106 => (if t106 = true then ((skewbaldref00_In.f (l0_1.length : Int) 1 5).bind fun t107 => (skewbaldref01_Check.j0 k t107 l0_0 l0_1)) else (skewbaldref01_Check.j0 k false l0_0 l0_1))) = some r := h
 clear h; have HC2 := Aside0.mk H; clear H
 go_enter Tryd.func19, Tryd.ntmps19
 go_upto_region 1 with (first | ((with_reducible refine gate_dst (N := 1) rfl ?_); (try (refine gate_guard (by rfl) ?_; dsimp only)); refine bx 1 #[.slice A0_0 l0_0.length c0_0, .slice A0_1 l0_1.length c0_1] 25 ?_; intro gb105 hg w3 hbox hb; have BK105 := Aside0.mk hbox; have GW105 := gw hg HB; have GE105 := gw hg HB; replace HB := hs HB hb; clear hb hbox hg))
 (try simp only [Act.put, List.setIfInBounds_toArray, List.set_cons_zero, List.set_cons_succ])
 go_cut [3] (fun v3 wc => ∃ (kq : Nat) (x3_1 : Bool), v3 = .bool x3_1 ∧ Aside0 (skewbaldref01_Check.j0 kq x3_1 l0_0 l0_1 = some r) ∧ Aside0 (kq ≤ k) ∧ Aside0 (wc.heap[gb105]? = some (.cells #[(.slice A0_0 l0_0.length c0_0), (.slice A0_1 l0_1.length c0_1)] 25 (0, 0))) ∧ Aside0 (Below w.heap.size w wc))
 case first =>
  have H := HC2.out; clear HC2; obtain ⟨t106, A4, H⟩ := ob H
  by_cases c5 : t106 = true
  ·subst c5; rw [if_pos rfl] at H; obtain ⟨t107, A6, H⟩ := ob H; have H' := Aside0.mk H; clear H; obtain ⟨hcz7_0, hcz7_1, hfz7_0, hfz7_1⟩ := b2 (w := w3) BK105
   go_wp2_with (first | ((with_reducible refine gate_callee (f := 38) rfl ?_); refine gl (some 12) Tryd.func38 #[.int .i64 (l0_0.length : Int), .int .i64 1, .int .i64 3] ?_; (with_reducible refine (skewbaldref00_In.calls (l0_0.length : Int) 1 3 true _ A4.out).mono ?_); rintro e w' ⟨rfl, ⟨nd, rfl⟩⟩; refine ⟨_, rfl, ?_⟩) | (go_at_call 38; (with_reducible refine (skewbaldref00_In.calls (l0_1.length : Int) 1 5 t107 _ A6.out).mono ?_); rintro e w' ⟨rfl, ⟨nd, rfl⟩⟩))
   go_meet
   case rel => exact ⟨_, (t107), sm, H', ⟨by first | omega | exact Nat.le_refl _⟩, ⟨bk⟩, ⟨bl⟩⟩
  ·replace c5 := Bool.eq_false_iff.mpr c5; subst c5
   rw [if_neg (show ¬ (false = true) by decide)] at H
   have H' := Aside0.mk H; clear H; obtain ⟨hcz8_0, hcz8_1, hfz8_0, hfz8_1⟩ := b2 (w := w3) BK105
   go_wp2_with (first | ((with_reducible refine gate_callee (f := 38) rfl ?_); refine gl (some 12) Tryd.func38 #[.int .i64 (l0_0.length : Int), .int .i64 1, .int .i64 3] ?_; (with_reducible refine (skewbaldref00_In.calls (l0_0.length : Int) 1 3 false _ A4.out).mono ?_); rintro e w' ⟨rfl, ⟨nd, rfl⟩⟩; refine ⟨_, rfl, ?_⟩))
   go_meet
   case rel => exact ⟨_, (false), sm, H', ⟨by first | omega | exact Nat.le_refl _⟩, ⟨bk⟩, ⟨bl⟩⟩
 case rest =>
  clear HC2; (try clear c1); (try clear p2); (try clear c3); (try clear c5); (try clear hcz7_0); (try clear hcz7_1); (try clear hcz8_0); (try clear hcz8_1); (try clear hfz7_0); (try clear hfz7_1); (try clear hfz8_0); (try clear hfz8_1); obtain ⟨kq, x3_1, rfl, HA, HJ1, BK105, HB⟩ := hcut
  cases kq with
  | zero => exact absurd HA.out (by simp [skewbaldref01_Check.j0])
  | succ kj1 =>
   have H := HA.out; clear HA
   simp only [skewbaldref01_Check.j0] at H
   have H' := Aside0.mk H; clear H
   go_wp2
   go_loopg [3, 4] kj1 (fun kq v3 v4 w' => ∃ (x3_2 : Bool) (x4_2 : Int), v3 = .bool x3_2 ∧ v4 = .int .i64 x4_2 ∧ Aside0 (skewbaldref01_Check.l0 kq x3_2 x4_2 l0_0 l0_1 = some r) ∧ Aside0 (kq ≤ kj1) ∧ Aside0 (w'.heap[gb105]? = some (.cells #[(.slice A0_0 l0_0.length c0_0), (.slice A0_1 l0_1.length c0_1)] 25 (0, 0))) ∧ Aside0 (Below w.heap.size w w'))
   case atStart => exact ⟨(x3_1), (0), sm, sm, H', ⟨Nat.le_refl _⟩, ⟨bk⟩, ⟨bl⟩⟩
   case round =>
    clear H'; (try clear c1); (try clear p2); (try clear c3); (try clear c5); (try clear hcz7_0); (try clear hcz7_1); (try clear hcz8_0); (try clear hcz8_1); (try clear hfz7_0); (try clear hfz7_1); (try clear hfz8_0); (try clear hfz8_1); obtain ⟨x3_2, x4_2, rfl, rfl, HA, HK2, BK105, HB⟩ := hrel
    cases gk with
    | zero => exact absurd HA.out (by simp [skewbaldref01_Check.l0])
    | succ k2 =>
     have H := HA.out; clear HA
     simp only [skewbaldref01_Check.l0] at H
     have HC9 := Aside0.mk H; clear H
     go_upto_region 3 with (fail)
     go_cut [26] (fun v26 wc => ∃ (kq : Nat) (x26_8 : Bool), v26 = .bool x26_8 ∧ Aside0 (skewbaldref01_Check.j2 kq x3_2 x4_2 x26_8 l0_0 l0_1 = some r) ∧ Aside0 (kq ≤ k2) ∧ Aside0 (wc.heap[gb105]? = some (.cells #[(.slice A0_0 l0_0.length c0_0), (.slice A0_1 l0_1.length c0_1)] 25 (0, 0))) ∧ Aside0 (Below w.heap.size w wc))
     case first =>
      have H := HC9.out; clear HC9
      by_cases c10 : x3_2 = true
      ·subst c10; rw [if_pos rfl] at H; have H' := Aside0.mk H; clear H; obtain ⟨hcz11_0, hcz11_1, hfz11_0, hfz11_1⟩ := b2 (w := wr) BK105
       go_wp2
       go_meet
       case rel => exact ⟨_, (decide (x4_2 < (l0_0.length : Int))), sm, H', ⟨lp HJ1 HK2⟩, ⟨bk⟩, ⟨bl⟩⟩
      ·replace c10 := Bool.eq_false_iff.mpr c10; subst c10
       rw [if_neg (show ¬ (false = true) by decide)] at H
       have H' := Aside0.mk H; clear H
       go_wp2
       go_meet
       case rel => exact ⟨_, (false), sm, H', ⟨lp HJ1 HK2⟩, ⟨bk⟩, ⟨bl⟩⟩
     case rest =>
      clear HC9; (try clear c1); (try clear p2); (try clear c3); (try clear c5); (try clear c10); (try clear hcz11_0); (try clear hcz11_1); (try clear hcz7_0); (try clear hcz7_1); (try clear hcz8_0); (try clear hcz8_1); (try clear hfz11_0); (try clear hfz11_1); (try clear hfz7_0); (try clear hfz7_1); (try clear hfz8_0); (try clear hfz8_1); obtain ⟨kq, x26_8, rfl, HA, HJ8, BK105, HB⟩ := hcut
      cases kq with
      | zero => exact absurd HA.out (by simp [skewbaldref01_Check.j2])
      | succ kj8 =>
       have H := HA.out; clear HA
       simp only [skewbaldref01_Check.j2] at H
       by_cases c12 : x26_8 = true
       ·subst c12; rw [if_pos rfl] at H
        by_cases c13 : 0 ≤ x4_2
        ·rw [if_pos c13] at H; have c13b0 := decide_eq_true c13; clear c13
         by_cases c14 : x4_2 < (l0_0.length : Int)
         ·rw [if_pos c14] at H; have c14b0 := decide_eq_true c14; clear c14; have HC15 := Aside0.mk H; clear H; obtain ⟨hcz16_0, hcz16_1, hfz16_0, hfz16_1⟩ := b2 (w := wc) BK105
          have p108 : 0 ≤ (x4_2 : Int) := od
          have q108 : x4_2 < (l0_0.length : Int) := od
          obtain ⟨ad108, A108_1, c108_1, e108, hx108_0, hx108_1, hl108_1, hi108_1⟩ := at_T48 HR0_0.out x4_2 p108 q108
          cases e108
          replace hx108_0 := cm HB hx108_0; replace hx108_1 := cm HB hx108_1; have HR108_1 := Aside0.mk hi108_1; have HC108_1 := Aside0.mk hl108_1; clear hi108_1 hl108_1; replace p108 := eq_true p108; replace q108 := eq_true q108
          go_upto_region 6 with (first | ((with_reducible refine gate_dst (N := 5) rfl ?_); (try (refine gate_guard (by rfl) ?_; dsimp only)); refine bx 5 #[.int .i64 0, .slice none 0 0] 48 ?_; intro gb109 hg w17 hbox hb; have BK109 := Aside0.mk hbox; have GW109 := gw hg HB; have GE109 := gw hg HB; replace HB := hs HB hb; have NB105_109 := nl hg BK105; have NB109_105 := ng hg BK105; replace BK105 := nb BK105 hb; clear hb hbox hg; have hnb18 := NB109_105.out; have hnc18 := NB105_109.out; obtain ⟨hcz19_0, hcz19_1, hfz19_0, hfz19_1⟩ := b2 (w := w17) BK109))
          (try simp only [Act.put, List.setIfInBounds_toArray, List.set_cons_zero, List.set_cons_succ])
          go_cut [3] (fun v3 wc => ∃ (kq : Nat) (x3_14 : Bool), v3 = .bool x3_14 ∧ Aside0 (skewbaldref01_Check.j3 kq x3_14 x4_2 l0_0 l0_1 ((rd_T48 l0_0 x4_2).f0) ((rd_T48 l0_0 x4_2).f1) = some r) ∧ Aside0 (kq ≤ kj8) ∧ Aside0 (wc.heap[gb105]? = some (.cells #[(.slice (some ad108) l0_0.length c0_0), (.slice A0_1 l0_1.length c0_1)] 25 (0, 0))) ∧ Aside0 (wc.heap[gb109]? = some (.cells #[.int .i64 ((rd_T48 l0_0 x4_2).f0), (.slice A108_1 ((rd_T48 l0_0 x4_2).f1).length c108_1)] 48 (0, 0))) ∧ Aside0 (Below w.heap.size w wc))
          case first =>
           have H := HC15.out; clear HC15; obtain ⟨t110, A20, H⟩ := ob H
           by_cases c21 : t110 = true
           ·subst c21; rw [if_pos rfl] at H; have H' := Aside0.mk H; clear H; have hnb22 := NB109_105.out; have hnc22 := NB105_109.out; obtain ⟨hcz23_0, hcz23_1, hfz23_0, hfz23_1⟩ := b2 (w := w17) BK109
            go_wp2_with (first | ((with_reducible refine gate_callee (f := 38) rfl ?_); refine gl (some 36) Tryd.func38 #[.int .i64 ((rd_T48 l0_0 x4_2).f0), .int .i64 1, .int .i64 16] ?_; (with_reducible refine (skewbaldref00_In.calls ((rd_T48 l0_0 x4_2).f0) 1 16 true _ A20.out).mono ?_); rintro e w' ⟨rfl, ⟨nd, rfl⟩⟩; refine ⟨_, rfl, ?_⟩))
            go_meet
            case rel => exact ⟨_, (decide ((((rd_T48 l0_0 x4_2).f1).length : Int) ≤ 3)), sm, H', ⟨by have := HJ1.out; have := HK2.out; have := HJ8.out; first | omega | exact Nat.le_refl _⟩, ⟨by (with_reducible repeat (first | refine blk_drewN ?_ _ | refine blk_drew ?_ | refine blk_alloc ?_ _)); refine blk_far ?_ NB105_109.out _; (with_reducible repeat (first | refine blk_drewN ?_ _ | refine blk_drew ?_ | refine blk_alloc ?_ _)); refine blk_far ?_ NB105_109.out _; (with_reducible repeat (first | refine blk_drewN ?_ _ | refine blk_drew ?_ | refine blk_alloc ?_ _)); exact BK105.out⟩, ⟨by (with_reducible repeat (first | refine blk_drewN ?_ _ | refine blk_drew ?_ | refine blk_alloc ?_ _)); refine blk_put (cs := #[.int .i64 ((rd_T48 l0_0 x4_2).f0), .slice none 0 0]) ?_ 1 _ rfl; (with_reducible repeat (first | refine blk_drewN ?_ _ | refine blk_drew ?_ | refine blk_alloc ?_ _)); refine blk_put (cs := #[.int .i64 0, .slice none 0 0]) ?_ 0 _ rfl; (with_reducible repeat (first | refine blk_drewN ?_ _ | refine blk_drew ?_ | refine blk_alloc ?_ _)); exact BK109.out⟩, ⟨bl⟩⟩
           ·replace c21 := Bool.eq_false_iff.mpr c21; subst c21
            rw [if_neg (show ¬ (false = true) by decide)] at H
            have H' := Aside0.mk H; clear H; have hnb24 := NB109_105.out; have hnc24 := NB105_109.out; obtain ⟨hcz25_0, hcz25_1, hfz25_0, hfz25_1⟩ := b2 (w := w17) BK109
            go_wp2_with (first | ((with_reducible refine gate_callee (f := 38) rfl ?_); refine gl (some 36) Tryd.func38 #[.int .i64 ((rd_T48 l0_0 x4_2).f0), .int .i64 1, .int .i64 16] ?_; (with_reducible refine (skewbaldref00_In.calls ((rd_T48 l0_0 x4_2).f0) 1 16 false _ A20.out).mono ?_); rintro e w' ⟨rfl, ⟨nd, rfl⟩⟩; refine ⟨_, rfl, ?_⟩))
            go_meet
            case rel => exact ⟨_, (false), sm, H', ⟨by have := HJ1.out; have := HK2.out; have := HJ8.out; first | omega | exact Nat.le_refl _⟩, ⟨by (with_reducible repeat (first | refine blk_drewN ?_ _ | refine blk_drew ?_ | refine blk_alloc ?_ _)); refine blk_far ?_ NB105_109.out _; (with_reducible repeat (first | refine blk_drewN ?_ _ | refine blk_drew ?_ | refine blk_alloc ?_ _)); refine blk_far ?_ NB105_109.out _; (with_reducible repeat (first | refine blk_drewN ?_ _ | refine blk_drew ?_ | refine blk_alloc ?_ _)); exact BK105.out⟩, ⟨by (with_reducible repeat (first | refine blk_drewN ?_ _ | refine blk_drew ?_ | refine blk_alloc ?_ _)); refine blk_put (cs := #[.int .i64 ((rd_T48 l0_0 x4_2).f0), .slice none 0 0]) ?_ 1 _ rfl; (with_reducible repeat (first | refine blk_drewN ?_ _ | refine blk_drew ?_ | refine blk_alloc ?_ _)); refine blk_put (cs := #[.int .i64 0, .slice none 0 0]) ?_ 0 _ rfl; (with_reducible repeat (first | refine blk_drewN ?_ _ | refine blk_drew ?_ | refine blk_alloc ?_ _)); exact BK109.out⟩, ⟨bl⟩⟩
          case rest =>
           clear HC15; (try clear c1); (try clear p1); (try clear q1); (try clear hx1); (try clear c2); (try clear p2); (try clear c3); (try clear c5); (try clear c10); (try clear p10); (try clear q10); (try clear hx10); (try clear c12); (try clear c13); (try clear c13b0); (try clear c14); (try clear c14b0); (try clear c18); (try clear c19); (try clear c21); (try clear c22); (try clear c24); (try clear hcz11_0); (try clear hcz11_1); (try clear hcz16_0); (try clear hcz16_1); (try clear hcz19_0); (try clear hcz19_1); (try clear hcz23_0); (try clear hcz23_1); (try clear hcz25_0); (try clear hcz25_1); (try clear hcz7_0); (try clear hcz7_1); (try clear hcz8_0); (try clear hcz8_1); (try clear hfz11_0); (try clear hfz11_1); (try clear hfz16_0); (try clear hfz16_1); (try clear hfz19_0); (try clear hfz19_1); (try clear hfz23_0); (try clear hfz23_1); (try clear hfz25_0); (try clear hfz25_1); (try clear hfz7_0); (try clear hfz7_1); (try clear hfz8_0); (try clear hfz8_1); (try clear hx108_0); (try clear hx108_1); (try clear p108); (try clear q108)
           obtain ⟨kq, x3_14, rfl, HA, HJ14, BK105, BK109, HB⟩ := hcut
           cases kq with
           | zero => exact absurd HA.out (by simp [skewbaldref01_Check.j3])
           | succ kj14 =>
            have H := HA.out; clear HA
            simp only [skewbaldref01_Check.j3] at H
            have H' := Aside0.mk H; clear H
            go_wp2
            go_loopg [3, 6] kj14 (fun kq v3 v6 w' => ∃ (x3_5 : Bool) (x6_5 : Int), v3 = .bool x3_5 ∧ v6 = .int .i64 x6_5 ∧ Aside0 (skewbaldref01_Check.l1 kq x3_5 x4_2 x6_5 l0_0 l0_1 ((rd_T48 l0_0 x4_2).f0) ((rd_T48 l0_0 x4_2).f1) = some r) ∧ Aside0 (kq ≤ kj14) ∧ Aside0 (w'.heap[gb105]? = some (.cells #[(.slice (some ad108) l0_0.length c0_0), (.slice A0_1 l0_1.length c0_1)] 25 (0, 0))) ∧ Aside0 (w'.heap[gb109]? = some (.cells #[.int .i64 ((rd_T48 l0_0 x4_2).f0), (.slice A108_1 ((rd_T48 l0_0 x4_2).f1).length c108_1)] 48 (0, 0))) ∧ Aside0 (Below w.heap.size w w'))
            case atStart => exact ⟨(x3_14), (0), sm, sm, H', ⟨Nat.le_refl _⟩, ⟨bk⟩, ⟨bk⟩, ⟨bl⟩⟩
            case round =>
             clear H'; (try clear c1); (try clear p1); (try clear q1); (try clear hx1); (try clear c2); (try clear p2); (try clear c3); (try clear c5); (try clear c10); (try clear p10); (try clear q10); (try clear hx10); (try clear c12); (try clear c13); (try clear c13b0); (try clear c14); (try clear c14b0); (try clear c18); (try clear c19); (try clear c21); (try clear c22); (try clear c24); (try clear hcz11_0); (try clear hcz11_1); (try clear hcz16_0); (try clear hcz16_1); (try clear hcz19_0); (try clear hcz19_1); (try clear hcz23_0); (try clear hcz23_1); (try clear hcz25_0); (try clear hcz25_1); (try clear hcz7_0); (try clear hcz7_1); (try clear hcz8_0); (try clear hcz8_1); (try clear hfz11_0); (try clear hfz11_1); (try clear hfz16_0); (try clear hfz16_1); (try clear hfz19_0); (try clear hfz19_1); (try clear hfz23_0); (try clear hfz23_1); (try clear hfz25_0); (try clear hfz25_1); (try clear hfz7_0); (try clear hfz7_1); (try clear hfz8_0); (try clear hfz8_1); (try clear hx108_0); (try clear hx108_1); (try clear p108); (try clear q108)
             obtain ⟨x3_5, x6_5, rfl, rfl, HA, HK5, BK105, BK109, HB⟩ := hrel
             cases gk with
             | zero => exact absurd HA.out (by simp [skewbaldref01_Check.l1])
             | succ k5 =>
              have H := HA.out; clear HA
              simp only [skewbaldref01_Check.l1] at H
              by_cases c26 : x3_5 = true
              ·subst c26; rw [if_pos rfl] at H
               by_cases c27 : x6_5 < (((rd_T48 l0_0 x4_2).f1).length : Int)
               ·rw [if_pos c27] at H; have c27b0 := decide_eq_true c27; clear c27
                by_cases c28 : 0 ≤ x6_5
                ·rw [if_pos c28] at H; have c28b0 := decide_eq_true c28; clear c28; obtain ⟨t112, A29, H⟩ := ob H
                 by_cases c30 : t112 = true
                 ·subst c30; rw [if_pos rfl] at H; have H' := Aside0.mk H; clear H; have hnb31 := NB109_105.out; have hnc31 := NB105_109.out; obtain ⟨hcz32_0, hcz32_1, hfz32_0, hfz32_1⟩ := b2 (w := wr) BK109
                  try go_wp2
                  replace BK105 := Aside0.mk (blk_drew BK105.out); replace BK109 := Aside0.mk (blk_drew BK109.out); replace HB := Aside0.mk (below_drew1 HB.out)
                  have p111 : 0 ≤ (x6_5 : Int) := od
                  have q111 : x6_5 < (((rd_T48 l0_0 x4_2).f1).length : Int) := od
                  obtain ⟨ad111, e111, hx111_0, hx111_1⟩ := at_T60 HR108_1.out x6_5 p111 q111; have hw111_1 := hx111_1; have hw111_0 := hx111_0
                  cases e111
                  replace hx111_0 := cm HB hx111_0; replace hx111_1 := cm HB hx111_1; replace p111 := eq_true p111; replace q111 := eq_true q111
                  have p113 : 0 ≤ (x6_5 : Int) := od
                  have q113 : x6_5 < (((rd_T48 l0_0 x4_2).f1).length : Int) := od
                  obtain ⟨ad113, e113, hx113_0, hx113_1⟩ := at_T60 HR108_1.out x6_5 p113 q113; have hw113_1 := hx113_1; have hw113_0 := hx113_0
                  obtain rfl : ad111 = ad113 := (by injection e113)
                  replace hx113_0 := cm HB hx113_0; replace hx113_1 := cm HB hx113_1; replace p113 := eq_true p113; replace q113 := eq_true q113
                  have p114 : 0 ≤ (x6_5 : Int) := od
                  have q114 : x6_5 < (((rd_T48 l0_0 x4_2).f1).length : Int) := od
                  obtain ⟨ad114, e114, hx114_0, hx114_1⟩ := at_T60 HR108_1.out x6_5 p114 q114; have hw114_1 := hx114_1; have hw114_0 := hx114_0
                  obtain rfl : ad111 = ad114 := (by injection e114)
                  replace hx114_0 := cm HB hx114_0; replace hx114_1 := cm HB hx114_1; replace p114 := eq_true p114; replace q114 := eq_true q114
                  refine start_ (n := 26) (S := fun w' => w'.cell? ⟨gb109, 0, none⟩ = some (.int .i64 ((rd_T48 l0_0 x4_2).f0)) ∧ w'.cell? ⟨gb109, 1, none⟩ = some (.slice (some ad111) ((rd_T48 l0_0 x4_2).f1).length c108_1) ∧ w'.cell? (ad111.add ((x6_5).toNat * 2)) = some (.int .i64 ((rd_T60 ((rd_T48 l0_0 x4_2).f1) x6_5).f0)) ∧ w'.cell? ⟨(ad111.add ((x6_5).toNat * 2)).block, (ad111.add ((x6_5).toNat * 2)).off + 1, none⟩ = some (.int .i64 ((rd_T60 ((rd_T48 l0_0 x4_2).f1) x6_5).f1)) ∧ w'.cell? (ad111.add ((x6_5).toNat * 2)) = some (.int .i64 ((rd_T60 ((rd_T48 l0_0 x4_2).f1) x6_5).f0)) ∧ w'.cell? ⟨(ad111.add ((x6_5).toNat * 2)).block, (ad111.add ((x6_5).toNat * 2)).off + 1, none⟩ = some (.int .i64 ((rd_T60 ((rd_T48 l0_0 x4_2).f1) x6_5).f1)) ∧ w'.cell? (ad111.add ((x6_5).toNat * 2)) = some (.int .i64 ((rd_T60 ((rd_T48 l0_0 x4_2).f1) x6_5).f0)) ∧ w'.cell? ⟨(ad111.add ((x6_5).toNat * 2)).block, (ad111.add ((x6_5).toNat * 2)).off + 1, none⟩ = some (.int .i64 ((rd_T60 ((rd_T48 l0_0 x4_2).f1) x6_5).f1))) (ds := []) #[false, false, false, false, false, false, false, false, false, false, false, false, false, false, false, false, false, false, false, false, false, false, false, false, false, false] (by kernel_rfl) rfl rfl ⟨bq BK109 0, bq BK109 1, (cm HB hw111_0 :), (cm HB hw111_1 :), (cm HB hw113_0 :), (cm HB hw113_1 :), (cm HB hw114_0 :), (cm HB hw114_1 :)⟩ (fun hHeld => ?_); refine with_tabW skewbaldref01_Check.tab10 skewbaldref01_Check.bits10 (fun HT_ HW_ => ?_)
                  generalize wr.drew = w33 at BK105 BK109 HB hx111_0 hx111_1 hx113_0 hx113_1 hx114_0 hx114_1 hHeld ⊢
                  refine pu_ (i := 0) (N := some 53) (qa_ 26 1) ?_
                  refine pu_ (i := 2) (N := some 55) (qa_ 26 5) ?_
                  refine pu_ (i := 5) (N := some 58) (qa_ 26 37) ?_
                  refine tk_ (i := 1) (N := some 54) (qa_ 26 39) hHeld ?_
                  refine pu_ (i := 3) (N := some 56) (qa_ 26 47) ?_
                  refine tk_ (i := 4) (N := some 57) (qa_ 26 63) hHeld ?_
                  refine tk_ (i := 6) (N := some 59) (qa_ 26 127) hHeld ?_
                  refine pu_ (i := 7) (N := some 60) (qa_ 26 255) ?_
                  refine on_ (i := 8) (N := some 61) (qa_ 26 511) (fun K hK => ?_)
                  refine goes_ Tryd.func73 (by kernel_rfl) rfl #[.agg #[.int .i64 ((rd_T60 ((rd_T48 l0_0 x4_2).f1) x6_5).f0), .int .i64 ((rd_T60 ((rd_T48 l0_0 x4_2).f1) x6_5).f1)], .int .i64 0, .int .i64 (wrap64 (((rd_T48 l0_0 x4_2).f0) - 1))] (by rfl) rfl rfl (by (try simp only [List.map_toArray, List.map_cons, List.map_nil]); first | done | rfl | (simp only [List.length_drop, List.length_take]; rfl)) ?_
                  with_reducible refine (skewbaldref00_Ordered.calls ((rd_T60 ((rd_T48 l0_0 x4_2).f1) x6_5).f0) ((rd_T60 ((rd_T48 l0_0 x4_2).f1) x6_5).f1) 0 (wrap64 (((rd_T48 l0_0 x4_2).f0) - 1)) true _ A29.out).mono ?_
                  rintro e w34 ⟨rfl, hb⟩
                  refine ⟨_, rfl, ?_⟩
                  replace BK105 := nb BK105 hb; replace BK109 := nb BK109 hb; replace HB := hs HB hb; (try clear hb); (try clear hb2); (try clear hk); (try clear hi)
                  refine hK.out _ _ ⟨bq BK109 0, bq BK109 1, (cm HB hw111_0 :), (cm HB hw111_1 :), (cm HB hw113_0 :), (cm HB hw113_1 :), (cm HB hw114_0 :), (cm HB hw114_1 :)⟩ (fun hHeld => ?_)
                  clear hK K
                  refine nm_ (some 61) ?_
                  refine pu_ (i := 9) (N := some 62) (qa_ 26 1023) ?_
                  refine pu_ (i := 10) (N := some 63) (qa_ 26 2047) ?_
                  refine pu_ (i := 12) (N := some 65) (qa_ 26 6143) ?_
                  refine pu_ (i := 16) (N := some 69) (qa_ 26 71679) ?_
                  refine pu_ (i := 18) (N := some 71) (qa_ 26 333823) ?_
                  refine tk_ (i := 11) (N := some 64) (qa_ 26 335871) hHeld ?_
                  refine pu_ (i := 13) (N := some 66) (qa_ 26 344063) ?_
                  refine pu_ (i := 14) (N := some 67) (qa_ 26 360447) ?_
                  refine tk_ (i := 15) (N := some 68) (qa_ 26 393215) hHeld ?_
                  refine tk_ (i := 17) (N := some 70) (qa_ 26 524287) hHeld ?_
                  refine pu_ (i := 19) (N := some 72) (qa_ 26 1048575) ?_
                  refine pu_ (i := 20) (N := some 73) (qa_ 26 2097151) ?_
                  refine tk_ (i := 21) (N := some 74) (qa_ 26 4194303) hHeld ?_
                  refine pu_ (i := 22) (N := some 75) (qa_ 26 8388607) ?_
                  refine pu_ (i := 23) (N := some 76) (qa_ 26 16777215) ?_
                  refine pu_ (i := 24) (N := some 77) (qa_ 26 33554431) ?_
                  refine pu_ (i := 25) (N := some 3) (qa_ 26 67108863) ?_
                  refine done_ (done_of HT_.out (by kernel_rfl)) ?_
                  try go_wp2
                  go_roundg k5
                  case measure => have := HJ1.out; have := HK2.out; have := HJ8.out; have := HJ14.out; have := HK5.out; omega
                  case rel => exact ⟨(decide ((wrap64 (((rd_T60 ((rd_T48 l0_0 x4_2).f1) x6_5).f1) - ((rd_T60 ((rd_T48 l0_0 x4_2).f1) x6_5).f0))) ≤ 6)), (wrap64 (x6_5 + 1)), sm, sm, H', ⟨by have := HJ1.out; have := HK2.out; have := HJ8.out; have := HJ14.out; have := HK5.out; omega⟩, ⟨bk⟩, ⟨bk⟩, ⟨bl⟩⟩
                 ·replace c30 := Bool.eq_false_iff.mpr c30; subst c30
                  rw [if_neg (show ¬ (false = true) by decide)] at H
                  have H' := Aside0.mk H; clear H; have hnb35 := NB109_105.out; have hnc35 := NB105_109.out; obtain ⟨hcz36_0, hcz36_1, hfz36_0, hfz36_1⟩ := b2 (w := wr) BK109
                  try go_wp2
                  replace BK105 := Aside0.mk (blk_drew BK105.out); replace BK109 := Aside0.mk (blk_drew BK109.out); replace HB := Aside0.mk (below_drew1 HB.out)
                  have p111 : 0 ≤ (x6_5 : Int) := od
                  have q111 : x6_5 < (((rd_T48 l0_0 x4_2).f1).length : Int) := od
                  obtain ⟨ad111, e111, hx111_0, hx111_1⟩ := at_T60 HR108_1.out x6_5 p111 q111; have hw111_1 := hx111_1; have hw111_0 := hx111_0
                  cases e111
                  replace hx111_0 := cm HB hx111_0; replace hx111_1 := cm HB hx111_1; replace p111 := eq_true p111; replace q111 := eq_true q111
                  refine start_ (n := 26) (S := fun w' => w'.cell? ⟨gb109, 0, none⟩ = some (.int .i64 ((rd_T48 l0_0 x4_2).f0)) ∧ w'.cell? ⟨gb109, 1, none⟩ = some (.slice (some ad111) ((rd_T48 l0_0 x4_2).f1).length c108_1) ∧ w'.cell? (ad111.add ((x6_5).toNat * 2)) = some (.int .i64 ((rd_T60 ((rd_T48 l0_0 x4_2).f1) x6_5).f0)) ∧ w'.cell? ⟨(ad111.add ((x6_5).toNat * 2)).block, (ad111.add ((x6_5).toNat * 2)).off + 1, none⟩ = some (.int .i64 ((rd_T60 ((rd_T48 l0_0 x4_2).f1) x6_5).f1))) (ds := []) #[false, false, false, false, false, false, false, false, false, false, false, false, false, false, false, false, false, false, false, false, false, false, false, false, false, false] (by kernel_rfl) rfl rfl ⟨bq BK109 0, bq BK109 1, (cm HB hw111_0 :), (cm HB hw111_1 :)⟩ (fun hHeld => ?_); refine with_tabW skewbaldref01_Check.tab10 skewbaldref01_Check.bits10 (fun HT_ HW_ => ?_)
                  generalize wr.drew = w37 at BK105 BK109 HB hx111_0 hx111_1 hHeld ⊢
                  refine pu_ (i := 0) (N := some 53) (qa_ 26 1) ?_
                  refine pu_ (i := 2) (N := some 55) (qa_ 26 5) ?_
                  refine pu_ (i := 5) (N := some 58) (qa_ 26 37) ?_
                  refine tk_ (i := 1) (N := some 54) (qa_ 26 39) hHeld ?_
                  refine pu_ (i := 3) (N := some 56) (qa_ 26 47) ?_
                  refine tk_ (i := 4) (N := some 57) (qa_ 26 63) hHeld ?_
                  refine tk_ (i := 6) (N := some 59) (qa_ 26 127) hHeld ?_
                  refine pu_ (i := 7) (N := some 60) (qa_ 26 255) ?_
                  refine on_ (i := 8) (N := some 61) (qa_ 26 511) (fun K hK => ?_)
                  refine goes_ Tryd.func73 (by kernel_rfl) rfl #[.agg #[.int .i64 ((rd_T60 ((rd_T48 l0_0 x4_2).f1) x6_5).f0), .int .i64 ((rd_T60 ((rd_T48 l0_0 x4_2).f1) x6_5).f1)], .int .i64 0, .int .i64 (wrap64 (((rd_T48 l0_0 x4_2).f0) - 1))] (by rfl) rfl rfl (by (try simp only [List.map_toArray, List.map_cons, List.map_nil]); first | done | rfl | (simp only [List.length_drop, List.length_take]; rfl)) ?_
                  with_reducible refine (skewbaldref00_Ordered.calls ((rd_T60 ((rd_T48 l0_0 x4_2).f1) x6_5).f0) ((rd_T60 ((rd_T48 l0_0 x4_2).f1) x6_5).f1) 0 (wrap64 (((rd_T48 l0_0 x4_2).f0) - 1)) false _ A29.out).mono ?_
                  rintro e w38 ⟨rfl, hb⟩
                  refine ⟨_, rfl, ?_⟩
                  replace BK105 := nb BK105 hb; replace BK109 := nb BK109 hb; replace HB := hs HB hb; (try clear hb); (try clear hb2); (try clear hk); (try clear hi)
                  refine hK.out _ _ ⟨bq BK109 0, bq BK109 1, (cm HB hw111_0 :), (cm HB hw111_1 :)⟩ (fun hHeld => ?_)
                  clear hK K
                  refine nm_ (some 61) ?_
                  refine pu_ (i := 9) (N := some 62) (qa_ 26 1023) ?_
                  refine pn_ (i := 10) (N := some 63) (qa_ 26 2047) ?_
                  refine pn_ (i := 11) (N := some 64) (qa_ 26 4095) ?_
                  refine pn_ (i := 12) (N := some 65) (qa_ 26 8191) ?_
                  refine pn_ (i := 13) (N := some 66) (qa_ 26 16383) ?_
                  refine pn_ (i := 14) (N := some 67) (qa_ 26 32767) ?_
                  refine pn_ (i := 15) (N := some 68) (qa_ 26 65535) ?_
                  refine pn_ (i := 16) (N := some 69) (qa_ 26 131071) ?_
                  refine pn_ (i := 17) (N := some 70) (qa_ 26 262143) ?_
                  refine pn_ (i := 18) (N := some 71) (qa_ 26 524287) ?_
                  refine pn_ (i := 19) (N := some 72) (qa_ 26 1048575) ?_
                  refine pn_ (i := 20) (N := some 73) (qa_ 26 2097151) ?_
                  refine pn_ (i := 21) (N := some 74) (qa_ 26 4194303) ?_
                  refine pn_ (i := 22) (N := some 75) (qa_ 26 8388607) ?_
                  refine pn_ (i := 23) (N := some 76) (qa_ 26 16777215) ?_
                  refine pu_ (i := 24) (N := some 77) (qa_ 26 33554431) ?_
                  refine pu_ (i := 25) (N := some 3) (qa_ 26 67108863) ?_
                  refine done_ (done_of HT_.out (by kernel_rfl)) ?_
                  try go_wp2
                  go_roundg k5
                  case measure => have := HJ1.out; have := HK2.out; have := HJ8.out; have := HJ14.out; have := HK5.out; omega
                  case rel => exact ⟨(false), (wrap64 (x6_5 + 1)), sm, sm, H', ⟨by have := HJ1.out; have := HK2.out; have := HJ8.out; have := HJ14.out; have := HK5.out; omega⟩, ⟨bk⟩, ⟨bk⟩, ⟨bl⟩⟩
                ·rw [if_neg c28] at H
                 exact absurd H (by simp)
               ·rw [if_neg c27] at H
                have c27b0 : decide (x6_5 < (((rd_T48 l0_0 x4_2).f1).length : Int)) = false := decide_eq_false c27
                clear c27; have H' := Aside0.mk H; clear H; have hnb39 := NB109_105.out; have hnc39 := NB105_109.out; obtain ⟨hcz40_0, hcz40_1, hfz40_0, hfz40_1⟩ := b2 (w := wr) BK109
                go_wp2
                go_roundg k5
                case measure => have := HJ1.out; have := HK2.out; have := HJ8.out; have := HJ14.out; have := HK5.out; omega
                case rel => exact ⟨(true), (wrap64 (x4_2 + 1)), sm, sm, H', ⟨by have := HJ1.out; have := HK2.out; have := HJ8.out; have := HJ14.out; have := HK5.out; omega⟩, ⟨bk⟩, ⟨bl⟩⟩
              ·replace c26 := Bool.eq_false_iff.mpr c26; subst c26
               rw [if_neg (show ¬ (false = true) by decide)] at H
               have H' := Aside0.mk H; clear H
               go_wp2
               go_roundg k5
               case measure => have := HJ1.out; have := HK2.out; have := HJ8.out; have := HJ14.out; have := HK5.out; omega
               case rel => exact ⟨(false), (wrap64 (x4_2 + 1)), sm, sm, H', ⟨by have := HJ1.out; have := HK2.out; have := HJ8.out; have := HJ14.out; have := HK5.out; omega⟩, ⟨bk⟩, ⟨bl⟩⟩
         ·rw [if_neg c14] at H
          exact absurd H (by simp)
        ·rw [if_neg c13] at H
         exact absurd H (by simp)
       ·replace c12 := Bool.eq_false_iff.mpr c12; subst c12
        rw [if_neg (show ¬ (false = true) by decide)] at H
        have H' := Aside0.mk H; clear H
        go_wp2
        go_loopg [3, 7] kj8 (fun kq v3 v7 w' => ∃ (x3_4 : Bool) (x7_4 : Int), v3 = .bool x3_4 ∧ v7 = .int .i64 x7_4 ∧ Aside0 (skewbaldref01_Check.l2 kq x3_4 x7_4 l0_0 l0_1 = some r) ∧ Aside0 (kq ≤ kj8) ∧ Aside0 (w'.heap[gb105]? = some (.cells #[(.slice A0_0 l0_0.length c0_0), (.slice A0_1 l0_1.length c0_1)] 25 (0, 0))) ∧ Aside0 (Below w.heap.size w w'))
        case atStart => exact ⟨(x3_2), (0), sm, sm, H', ⟨Nat.le_refl _⟩, ⟨bk⟩, ⟨bl⟩⟩
        case round =>
         clear H'; (try clear c1); (try clear p1); (try clear q1); (try clear hx1); (try clear c2); (try clear p2); (try clear c3); (try clear p6); (try clear c7); (try clear c10); (try clear p10); (try clear q10); (try clear hx10); (try clear p11); (try clear q11); (try clear hx11); (try clear c12); (try clear c13); (try clear c14); (try clear c26); (try clear c27); (try clear c27b0); (try clear c28); (try clear c28b0); (try clear c30); (try clear c31); (try clear c35); (try clear c39); (try clear hcz25_1); (try clear hcz32_0); (try clear hcz32_1); (try clear hcz36_0); (try clear hcz36_1); (try clear hcz40_0); (try clear hcz40_1); (try clear hcz7_0); (try clear hcz7_1); (try clear hcz8_0); (try clear hcz8_1); (try clear hfz11_0); (try clear hfz11_1); (try clear hfz16_0); (try clear hfz16_1); (try clear hfz19_0); (try clear hfz19_1); (try clear hfz23_0); (try clear hfz23_1); (try clear hfz25_0); (try clear hfz25_1); (try clear hfz32_0); (try clear hfz32_1); (try clear hfz36_0); (try clear hfz36_1); (try clear hfz40_0); (try clear hfz40_1); (try clear hfz7_0); (try clear hfz7_1); (try clear hfz8_0); (try clear hfz8_1); (try clear hx108_0); (try clear hx108_1); (try clear hx111_0); (try clear hx111_1); (try clear hx113_0); (try clear hx113_1); (try clear hx114_0); (try clear hx114_1); (try clear p108); (try clear p111); (try clear p113); (try clear p114); (try clear q108); (try clear q111); (try clear q113); (try clear q114)
         obtain ⟨x3_4, x7_4, rfl, rfl, HA, HK4, BK105, HB⟩ := hrel
         cases gk with
         | zero => exact absurd HA.out (by simp [skewbaldref01_Check.l2])
         | succ k4 =>
          have H := HA.out; clear HA
          simp only [skewbaldref01_Check.l2] at H
          have HC41 := Aside0.mk H; clear H
          go_upto_region 12 with (fail)
          go_cut [85] (fun v85 wc => ∃ (kq : Nat) (x85_40 : Bool), v85 = .bool x85_40 ∧ Aside0 (skewbaldref01_Check.j6 kq x3_4 x7_4 x85_40 l0_0 l0_1 = some r) ∧ Aside0 (kq ≤ k4) ∧ Aside0 (wc.heap[gb105]? = some (.cells #[(.slice A0_0 l0_0.length c0_0), (.slice A0_1 l0_1.length c0_1)] 25 (0, 0))) ∧ Aside0 (Below w.heap.size w wc))
          case first =>
           have H := HC41.out; clear HC41
           by_cases c42 : x3_4 = true
           ·subst c42; rw [if_pos rfl] at H; have H' := Aside0.mk H; clear H; obtain ⟨hcz43_0, hcz43_1, hfz43_0, hfz43_1⟩ := b2 (w := wr) BK105
            go_wp2
            go_meet
            case rel => exact ⟨_, (decide (x7_4 < (l0_1.length : Int))), sm, H', ⟨by have := HJ1.out; have := HK2.out; have := HJ8.out; have := HK4.out; first | omega | exact Nat.le_refl _⟩, ⟨bk⟩, ⟨bl⟩⟩
           ·replace c42 := Bool.eq_false_iff.mpr c42; subst c42
            rw [if_neg (show ¬ (false = true) by decide)] at H
            have H' := Aside0.mk H; clear H
            go_wp2
            go_meet
            case rel => exact ⟨_, (false), sm, H', ⟨by have := HJ1.out; have := HK2.out; have := HJ8.out; have := HK4.out; first | omega | exact Nat.le_refl _⟩, ⟨bk⟩, ⟨bl⟩⟩
          case rest =>
           clear HC41; (try clear c1); (try clear p1); (try clear q1); (try clear hx1); (try clear c2); (try clear p2); (try clear c3); (try clear c4); (try clear p6); (try clear c7); (try clear c10); (try clear p10); (try clear q10); (try clear hx10); (try clear p11); (try clear q11); (try clear hx11); (try clear c12); (try clear c13); (try clear c14); (try clear c26); (try clear c27); (try clear c27b0); (try clear c28); (try clear c28b0); (try clear c30); (try clear c31); (try clear c35); (try clear c39); (try clear c42); (try clear hcz25_1); (try clear hcz32_0); (try clear hcz32_1); (try clear hcz36_0); (try clear hcz36_1); (try clear hcz40_0); (try clear hcz40_1); (try clear hcz43_0); (try clear hcz43_1); (try clear hcz7_0); (try clear hcz7_1); (try clear hcz8_0); (try clear hcz8_1); (try clear hfz11_0); (try clear hfz11_1); (try clear hfz16_0); (try clear hfz16_1); (try clear hfz19_0); (try clear hfz19_1); (try clear hfz23_0); (try clear hfz23_1); (try clear hfz25_0); (try clear hfz25_1); (try clear hfz32_0); (try clear hfz32_1); (try clear hfz36_0); (try clear hfz36_1); (try clear hfz40_0); (try clear hfz40_1); (try clear hfz43_0); (try clear hfz43_1); (try clear hfz7_0); (try clear hfz7_1); (try clear hfz8_0); (try clear hfz8_1); (try clear hx108_0); (try clear hx108_1); (try clear hx111_0); (try clear hx111_1); (try clear hx113_0); (try clear hx113_1); (try clear hx114_0); (try clear hx114_1); (try clear p108); (try clear p111); (try clear p113); (try clear p114); (try clear q108); (try clear q111); (try clear q113); (try clear q114)
           obtain ⟨kq, x85_40, rfl, HA, HJ40, BK105, HB⟩ := hcut
           cases kq with
           | zero => exact absurd HA.out (by simp [skewbaldref01_Check.j6])
           | succ kj40 =>
            have H := HA.out; clear HA
            simp only [skewbaldref01_Check.j6] at H
            by_cases c44 : x85_40 = true
            ·subst c44; rw [if_pos rfl] at H
             by_cases c45 : 0 ≤ x7_4
             ·rw [if_pos c45] at H; have c45b0 := decide_eq_true c45; clear c45
              by_cases c46 : x7_4 < (l0_1.length : Int)
              ·rw [if_pos c46] at H; have c46b0 := decide_eq_true c46; clear c46; obtain ⟨t117, A47, H⟩ := ob H
               by_cases c48 : t117 = true
               ·subst c48; rw [if_pos rfl] at H
                by_cases c49 : (((rd_T50 l0_1 x7_4).f1).length : Int) ≤ 3
                ·rw [if_pos c49] at H; have c49b0 := decide_eq_true c49
                 have c49b1 : decide (((rd_T50 l0_1 x7_4).f1).length ≤ 3) = true := decide_eq_true (by omega)
                 clear c49; obtain ⟨t118, A50, H⟩ := ob H; have H' := Aside0.mk H; clear H; obtain ⟨hcz51_0, hcz51_1, hfz51_0, hfz51_1⟩ := b2 (w := wc) BK105
                 have p115 : 0 ≤ (x7_4 : Int) := od
                 have q115 : x7_4 < (l0_1.length : Int) := od
                 obtain ⟨ad115, A115_1, c115_1, e115, hx115_0, hx115_1, hx115_2, hl115_1, hi115_1⟩ := at_T50 HR0_1.out x7_4 p115 q115
                 cases e115
                 replace hx115_0 := cm HB hx115_0; replace hx115_1 := cm HB hx115_1; replace hx115_2 := cm HB hx115_2; have HR115_1 := Aside0.mk hi115_1; have HC115_1 := Aside0.mk hl115_1; clear hi115_1 hl115_1; replace p115 := eq_true p115; replace q115 := eq_true q115
                 go_wp2_with (first | ((with_reducible refine gate_dst (N := 8) rfl ?_); (try (refine gate_guard (by rfl) ?_; dsimp only)); refine bx 8 #[.int .i64 0, .slice none 0 0, .bool false] 50 ?_; intro gb116 hg w52 hbox hb; have BK116 := Aside0.mk hbox; have GW116 := gw hg HB; have GE116 := gw hg HB; replace HB := hs HB hb; have NB105_116 := nl hg BK105; have NB116_105 := ng hg BK105; replace BK105 := nb BK105 hb; clear hb hbox hg; have hnb53 := NB116_105.out; have hnc53 := NB105_116.out; obtain ⟨hcz54_0, hcz54_1, hcz54_2, hfz54_0, hfz54_1, hfz54_2⟩ := b3 (w := w52) BK116) | ((with_reducible refine gate_callee (f := 38) rfl ?_); refine gl (some 95) Tryd.func38 #[.int .i64 ((rd_T50 l0_1 x7_4).f0), .int .i64 1, .int .i64 12] ?_; (with_reducible refine (skewbaldref00_In.calls ((rd_T50 l0_1 x7_4).f0) 1 12 true _ A47.out).mono ?_); rintro e w' ⟨rfl, ⟨nd, rfl⟩⟩; refine ⟨_, rfl, ?_⟩) | (go_at_call 39; (with_reducible refine (skewbaldref00_Grows.calls kj40 _ _ ((rd_T50 l0_1 x7_4).f1) ((rd_T50 l0_1 x7_4).f0) t118 _ ?side1 ?side2 A50.out).mono ?_); (case side1 => exact Kd.C_below HR115_1.out bl); (case side2 => exact HC115_1.out); rintro e w' ⟨rfl, ⟨nd, rfl⟩⟩))
                 go_roundg kj40
                 case measure => have := HJ1.out; have := HK2.out; have := HJ8.out; have := HK4.out; have := HJ40.out; omega
                 case rel => exact ⟨(t118), (wrap64 (x7_4 + 1)), sm, sm, H', ⟨by have := HJ1.out; have := HK2.out; have := HJ8.out; have := HK4.out; have := HJ40.out; omega⟩, ⟨by (with_reducible repeat (first | refine blk_drewN ?_ _ | refine blk_drew ?_ | refine blk_alloc ?_ _)); refine blk_far ?_ NB105_116.out _; (with_reducible repeat (first | refine blk_drewN ?_ _ | refine blk_drew ?_ | refine blk_alloc ?_ _)); refine blk_far ?_ NB105_116.out _; (with_reducible repeat (first | refine blk_drewN ?_ _ | refine blk_drew ?_ | refine blk_alloc ?_ _)); refine blk_far ?_ NB105_116.out _; (with_reducible repeat (first | refine blk_drewN ?_ _ | refine blk_drew ?_ | refine blk_alloc ?_ _)); exact BK105.out⟩, ⟨bl⟩⟩
                ·rw [if_neg c49] at H
                 have c49b0 : decide ((((rd_T50 l0_1 x7_4).f1).length : Int) ≤ 3) = false := decide_eq_false c49
                 have c49b1 : decide (((rd_T50 l0_1 x7_4).f1).length ≤ 3) = false := decide_eq_false (by omega)
                 clear c49; have H' := Aside0.mk H; clear H; obtain ⟨hcz55_0, hcz55_1, hfz55_0, hfz55_1⟩ := b2 (w := wc) BK105
                 have p115 : 0 ≤ (x7_4 : Int) := od
                 have q115 : x7_4 < (l0_1.length : Int) := od
                 obtain ⟨ad115, A115_1, c115_1, e115, hx115_0, hx115_1, hx115_2, hl115_1, hi115_1⟩ := at_T50 HR0_1.out x7_4 p115 q115
                 cases e115
                 replace hx115_0 := cm HB hx115_0; replace hx115_1 := cm HB hx115_1; replace hx115_2 := cm HB hx115_2; have HR115_1 := Aside0.mk hi115_1; have HC115_1 := Aside0.mk hl115_1; clear hi115_1 hl115_1; replace p115 := eq_true p115; replace q115 := eq_true q115
                 go_wp2_with (first | ((with_reducible refine gate_dst (N := 8) rfl ?_); (try (refine gate_guard (by rfl) ?_; dsimp only)); refine bx 8 #[.int .i64 0, .slice none 0 0, .bool false] 50 ?_; intro gb116 hg w56 hbox hb; have BK116 := Aside0.mk hbox; have GW116 := gw hg HB; have GE116 := gw hg HB; replace HB := hs HB hb; have NB105_116 := nl hg BK105; have NB116_105 := ng hg BK105; replace BK105 := nb BK105 hb; clear hb hbox hg; have hnb57 := NB116_105.out; have hnc57 := NB105_116.out; obtain ⟨hcz58_0, hcz58_1, hcz58_2, hfz58_0, hfz58_1, hfz58_2⟩ := b3 (w := w56) BK116) | ((with_reducible refine gate_callee (f := 38) rfl ?_); refine gl (some 95) Tryd.func38 #[.int .i64 ((rd_T50 l0_1 x7_4).f0), .int .i64 1, .int .i64 12] ?_; (with_reducible refine (skewbaldref00_In.calls ((rd_T50 l0_1 x7_4).f0) 1 12 true _ A47.out).mono ?_); rintro e w' ⟨rfl, ⟨nd, rfl⟩⟩; refine ⟨_, rfl, ?_⟩))
                 go_roundg kj40
                 case measure => have := HJ1.out; have := HK2.out; have := HJ8.out; have := HK4.out; have := HJ40.out; omega
                 case rel => exact ⟨(false), (wrap64 (x7_4 + 1)), sm, sm, H', ⟨by have := HJ1.out; have := HK2.out; have := HJ8.out; have := HK4.out; have := HJ40.out; omega⟩, ⟨by (with_reducible repeat (first | refine blk_drewN ?_ _ | refine blk_drew ?_ | refine blk_alloc ?_ _)); refine blk_far ?_ NB105_116.out _; (with_reducible repeat (first | refine blk_drewN ?_ _ | refine blk_drew ?_ | refine blk_alloc ?_ _)); refine blk_far ?_ NB105_116.out _; (with_reducible repeat (first | refine blk_drewN ?_ _ | refine blk_drew ?_ | refine blk_alloc ?_ _)); refine blk_far ?_ NB105_116.out _; (with_reducible repeat (first | refine blk_drewN ?_ _ | refine blk_drew ?_ | refine blk_alloc ?_ _)); exact BK105.out⟩, ⟨bl⟩⟩
               ·replace c48 := Bool.eq_false_iff.mpr c48; subst c48
                rw [if_neg (show ¬ (false = true) by decide)] at H
                have H' := Aside0.mk H; clear H; obtain ⟨hcz59_0, hcz59_1, hfz59_0, hfz59_1⟩ := b2 (w := wc) BK105
                have p115 : 0 ≤ (x7_4 : Int) := od
                have q115 : x7_4 < (l0_1.length : Int) := od
                obtain ⟨ad115, A115_1, c115_1, e115, hx115_0, hx115_1, hx115_2, hl115_1, hi115_1⟩ := at_T50 HR0_1.out x7_4 p115 q115
                cases e115
                replace hx115_0 := cm HB hx115_0; replace hx115_1 := cm HB hx115_1; replace hx115_2 := cm HB hx115_2; have HR115_1 := Aside0.mk hi115_1; have HC115_1 := Aside0.mk hl115_1; clear hi115_1 hl115_1; replace p115 := eq_true p115; replace q115 := eq_true q115
                go_wp2_with (first | ((with_reducible refine gate_dst (N := 8) rfl ?_); (try (refine gate_guard (by rfl) ?_; dsimp only)); refine bx 8 #[.int .i64 0, .slice none 0 0, .bool false] 50 ?_; intro gb116 hg w60 hbox hb; have BK116 := Aside0.mk hbox; have GW116 := gw hg HB; have GE116 := gw hg HB; replace HB := hs HB hb; have NB105_116 := nl hg BK105; have NB116_105 := ng hg BK105; replace BK105 := nb BK105 hb; clear hb hbox hg; have hnb61 := NB116_105.out; have hnc61 := NB105_116.out; obtain ⟨hcz62_0, hcz62_1, hcz62_2, hfz62_0, hfz62_1, hfz62_2⟩ := b3 (w := w60) BK116) | ((with_reducible refine gate_callee (f := 38) rfl ?_); refine gl (some 95) Tryd.func38 #[.int .i64 ((rd_T50 l0_1 x7_4).f0), .int .i64 1, .int .i64 12] ?_; (with_reducible refine (skewbaldref00_In.calls ((rd_T50 l0_1 x7_4).f0) 1 12 false _ A47.out).mono ?_); rintro e w' ⟨rfl, ⟨nd, rfl⟩⟩; refine ⟨_, rfl, ?_⟩))
                go_roundg kj40
                case measure => have := HJ1.out; have := HK2.out; have := HJ8.out; have := HK4.out; have := HJ40.out; omega
                case rel => exact ⟨(false), (wrap64 (x7_4 + 1)), sm, sm, H', ⟨by have := HJ1.out; have := HK2.out; have := HJ8.out; have := HK4.out; have := HJ40.out; omega⟩, ⟨by (with_reducible repeat (first | refine blk_drewN ?_ _ | refine blk_drew ?_ | refine blk_alloc ?_ _)); refine blk_far ?_ NB105_116.out _; (with_reducible repeat (first | refine blk_drewN ?_ _ | refine blk_drew ?_ | refine blk_alloc ?_ _)); refine blk_far ?_ NB105_116.out _; (with_reducible repeat (first | refine blk_drewN ?_ _ | refine blk_drew ?_ | refine blk_alloc ?_ _)); refine blk_far ?_ NB105_116.out _; (with_reducible repeat (first | refine blk_drewN ?_ _ | refine blk_drew ?_ | refine blk_alloc ?_ _)); exact BK105.out⟩, ⟨bl⟩⟩
              ·rw [if_neg c46] at H
               exact absurd H (by simp)
             ·rw [if_neg c45] at H
              exact absurd H (by simp)
            ·replace c44 := Bool.eq_false_iff.mpr c44; subst c44
             rw [if_neg (show ¬ (false = true) by decide)] at H
             by_cases c63 : x3_4 = true
             ·subst c63; rw [if_pos rfl] at H; obtain rfl := Option.some.inj H
              go_wp2
              go_ret
              exact ⟨by first | rfl | (simp [errW_none, errW_some] <;> rfl) | (simp [*, errW_none, errW_some] <;> rfl), bl⟩
             ·replace c63 := Bool.eq_false_iff.mpr c63; subst c63
              rw [if_neg (show ¬ (false = true) by decide)] at H
              obtain rfl := Option.some.inj H
              go_wp2
              go_ret
              exact ⟨by first | rfl | (simp [errW_none, errW_some] <;> rfl) | (simp [*, errW_none, errW_some] <;> rfl), bl⟩
def skewbaldref00_Of.f (a0 : Int) (a1 : Int) : Option (Bool) := if 0 ≤ a1 then (some ((Go.bits .and .i64 (shr .i64 a0 a1) 1) == 1)) else (none)
set_option maxHeartbeats 8000000 in
set_option maxRecDepth 100000 in
theorem skewbaldref00_Of.calls (a0 : Int) (a1 : Int) (r : Bool) (w : World) (h : skewbaldref00_Of.f a0 a1 = some r) :
  Calls Tryd.prog 95 #[.int .i64 a0, .int .i64 a1] w fun e w' => e = .returned (.bool r) ∧ Drawn0 w w' := by
 have H : (if 0 ≤ a1 then (some ((Go.bits .and .i64 (shr .i64 a0 a1) 1) == 1)) else (none)) = some r := h
 clear h
 by_cases c3 : 0 ≤ a1
 ·rw [if_pos c3] at H; have c3b0 := eq_true c3; have c3b1 := decide_eq_true c3; clear c3
  obtain ⟨ji4, hji4⟩ : ∃ j_ : Int, (shr .i64 a0 a1) = j_ := ⟨_, rfl⟩
  replace H : (some ((Go.bits .and .i64 (ji4) 1) == 1)) = some r := by first | (rw [hji4] at H; exact H) | (simp only [hji4] at H ⊢; exact H)
  have hji4_ : (a0 / 2 ^ min a1.toNat 64) = ji4 := hji4
  have hji4z : a1 ≤ 64 → (a0 / 2 ^ a1.toNat) = ji4 := shr_small hji4
  obtain rfl := Option.some.inj H
  go_enter Tryd.func95, Tryd.ntmps95
  go_wp2
  go_ret
  exact ⟨by first | rfl | (simp; done) | (simp only [← hji4] <;> (first | rfl | simp)) | (simp [*]; done), by repeat (first | exact Drawn0.refl _ | apply Drawn0.step)⟩
 ·rw [if_neg c3] at H
  exact absurd H (by simp)
def skewbaldref00_List.l0 : Nat → Int → Int → List Int → Int → Option (List Int)
 | 0, _, _, _, _ => none
 | k + 1, x0, x1, x5, x6 => if x6 < x1 then ((skewbaldref00_Of.f x0 x6).bind fun t217 => (if t217 = true then (if x5.length < 17592186044416 then (skewbaldref00_List.l0 k x0 x1 (x5 ++ [x6]) (wrap64 (x6 + 1))) else (none)) else (skewbaldref00_List.l0 k x0 x1 x5 (wrap64 (x6 + 1))))) else (some x5)
def skewbaldref00_List.f (k : Nat) (a0 : Int) (a1 : Int) : Option (List Int) := skewbaldref00_List.l0 k a0 a1 (([] : List Int)) 0
set_option maxHeartbeats 8000000 in
set_option maxRecDepth 100000 in
theorem skewbaldref00_List.calls (k : Nat) (a0 : Int) (a1 : Int) (r : List Int) (w : World) (h : skewbaldref00_List.f k a0 a1 = some r) :
  Calls Tryd.prog 40 #[.int .i64 a0, .int .i64 a1] w fun e w' => ∃ v0_ : Value, e = .returned (v0_) ∧ Kd.R (Kd.int .i64) 3 w' w.heap.size (fun _ => True) v0_ r ∧ Below w.heap.size w w' := by
 have HB := Aside0.mk (Below.refl w.heap.size w)
 have H : (skewbaldref00_List.l0 k a0 a1 (([] : List Int)) 0) = some r := h
 clear h
 obtain ⟨y214, hy214⟩ : ∃ y_ : List Int, y_ = (([] : List Int)) := ⟨_, rfl⟩
 replace H : (skewbaldref00_List.l0 k a0 a1 y214 0) = some r := tr H hy214
 have Ny214 := Aside0.mk hy214; clear hy214; have H' := Aside0.mk H; clear H
 go_enter Tryd.func40, Tryd.ntmps40
 go_wp2_with (first | ((with_reducible refine gate_dst (N := 7) rfl ?_); refine Kd.R_lit (Kd.int .i64) _ 3 ?hg (N := 7) ?hd (xs := ([] : List Int)) (inner := []) (ok := fun _ => True) (okp := fun _ => True) ?hr ?hp (fun _ hk => hk) trivial (Below.refl _ _) (Nat.le_refl _) (by simp) ?_; (case hd => rfl); (case hg => rfl); (case hr => first | (go_simp; done) | (go_simp; rfl)); (case hp => exact (Reps.none _ _)); intro v215 w3 ho4 hb hg_ hnew_; clear hg_ hnew_; (first | rw [← Ny214.out] at ho4 | (simp only [Int.reduceToNat] at ho4; rw [← Ny214.out] at ho4)); have HO216 := Aside0.mk (Kd.R_lower ho4 (below_size bl)); replace HB := hs HB hb; clear hb ho4))
 go_loopg [5, 6] k (fun kq v5 v6 w' => ∃ (x5_1 : List Int) (x6_1 : Int), v6 = .int .i64 x6_1 ∧ Aside0 (skewbaldref00_List.l0 kq a0 a1 x5_1 x6_1 = some r) ∧ Aside0 (kq ≤ k) ∧ Aside0 (Kd.R (Kd.int .i64) 3 w' w.heap.size (fun _ => True) v5 x5_1) ∧ Aside0 (Below w.heap.size w w'))
 case atStart => exact ⟨(y214), (0), sm, H', ⟨Nat.le_refl _⟩, ⟨bR HO216⟩, ⟨bl⟩⟩
 case round =>
  clear H'; (try clear p2); (try clear c4); obtain ⟨x5_1, x6_1, rfl, HA, HK1, HO_5, HB⟩ := hrel
  cases gk with
  | zero => exact absurd HA.out (by simp [skewbaldref00_List.l0])
  | succ k1 =>
   have H := HA.out; clear HA
   simp only [skewbaldref00_List.l0] at H
   by_cases c5 : x6_1 < a1
   ·rw [if_pos c5] at H; have c5b0 := decide_eq_true c5; clear c5; obtain ⟨t217, A6, H⟩ := ob H
    by_cases c7 : t217 = true
    ·subst c7; rw [if_pos rfl] at H
     by_cases c8 : x5_1.length < 17592186044416
     ·rw [if_pos c8] at H; have LMc8 := Aside0.mk c8; clear c8
      obtain ⟨y218, hy218⟩ : ∃ y_ : List Int, y_ = (x5_1 ++ [x6_1]) := ⟨_, rfl⟩
      replace H : (skewbaldref00_List.l0 k1 a0 a1 y218 (wrap64 (x6_1 + 1))) = some r := tr H hy218
      have Ny218 := Aside0.mk hy218; clear hy218; have H' := Aside0.mk H; clear H
      go_wp2_with (first | ((with_reducible refine gate_callee (f := 95) rfl ?_); refine gl (some 15) Tryd.func95 #[.int .i64 a0, .int .i64 x6_1] ?_; (with_reducible refine (skewbaldref00_Of.calls a0 x6_1 true _ A6.out).mono ?_); rintro e w' ⟨rfl, ⟨nd, rfl⟩⟩; refine ⟨_, rfl, ?_⟩) | ((with_reducible refine gate_builtin (b := .append) (xs := #[.tmp 16, .tmp 18]) rfl ?_); at_builtin; refine Kd.R_append (Kd.int .i64) (w0 := w) w.heap.size rfl (.tmp 16) (.tmp 18) 31 3 (.int .i64 0) 8 rfl Tryd.underlying31 info3 rfl (by decide) (by omega) u5 x5_1 x6_1 [.int .i64 x6_1] (fun _ => True) (fun _ => False) rfl rfl ?aP (fun _ hk => hk.elim) ?aF ?aO ?aB ?aS ?aL ?_; (case aP => exact rfl); (case aB => exact bl); (case aF => exact (fun _ _ => trivial)); (case aO => exact (bR HO_5)); (case aS => exact (below_size bl)); (case aL => have := LMc8.out; omega); intro v219 w9 ho hb hg hat; rw [← Ny218.out] at ho; replace HB := Aside0.mk hb; have HO220 := Aside0.mk ho; clear HO_5; clear ho hb hg hat))
      go_roundg k1
      case measure => have := HK1.out; omega
      case rel => exact ⟨(y218), (wrap64 (x6_1 + 1)), sm, H', ⟨lo HK1⟩, ⟨bR HO220⟩, ⟨bl⟩⟩
     ·rw [if_neg c8] at H
      exact absurd H (by simp)
    ·replace c7 := Bool.eq_false_iff.mpr c7; subst c7
     rw [if_neg (show ¬ (false = true) by decide)] at H
     have H' := Aside0.mk H; clear H
     go_wp2_with (first | ((with_reducible refine gate_callee (f := 95) rfl ?_); refine gl (some 15) Tryd.func95 #[.int .i64 a0, .int .i64 x6_1] ?_; (with_reducible refine (skewbaldref00_Of.calls a0 x6_1 false _ A6.out).mono ?_); rintro e w' ⟨rfl, ⟨nd, rfl⟩⟩; refine ⟨_, rfl, ?_⟩))
     go_roundg k1
     case measure => have := HK1.out; omega
     case rel => exact ⟨(x5_1), (wrap64 (x6_1 + 1)), sm, H', ⟨lo HK1⟩, ⟨bR HO_5⟩, ⟨bl⟩⟩
   ·rw [if_neg c5] at H
    have c5b0 : decide (x6_1 < a1) = false := decide_eq_false c5
    clear c5; obtain rfl := Option.some.inj H
    go_wp2
    go_ret
    exact ⟨_, by first | rfl | (simp [errW_none, errW_some] <;> rfl) | (simp [*, errW_none, errW_some] <;> rfl), by (with_reducible repeat (first | apply Kd.R_alloc | apply Kd.R_drewN | apply Kd.R_drew)); exact HO_5.out, bl⟩
mutual
def skewbaldref00_Less.l0 : Nat → List Int → List Int → Int → Option (Bool)
 | 0, _, _, _ => none
 | k + 1, x0, x1, x5 => if x5 < (x0.length : Int) then (skewbaldref00_Less.j1 k x0 x1 x5 (decide (x5 < (x1.length : Int)))) else (skewbaldref00_Less.j1 k x0 x1 x5 false)
def skewbaldref00_Less.j1 : Nat → List Int → List Int → Int → Bool → Option (Bool)
 | 0, _, _, _, _ => none
 | k + 1, x0, x1, x5, x15 => if x15 = true then (if 0 ≤ x5 then (if x5 < (x0.length : Int) then (if x5 < (x1.length : Int) then (if (rd x0 x5) = (rd x1 x5) then (skewbaldref00_Less.l0 k x0 x1 (wrap64 (x5 + 1))) else (some (decide ((rd x0 x5) < (rd x1 x5))))) else (none)) else (none)) else (none)) else (some (decide ((x0.length : Int) < (x1.length : Int))))
end
def skewbaldref00_Less.f (k : Nat) (l0 : List Int) (l1 : List Int) : Option (Bool) := skewbaldref00_Less.l0 k l0 l1 0
set_option maxHeartbeats 8000000 in
set_option maxRecDepth 100000 in
theorem skewbaldref00_Less.calls (k : Nat) (A0 : Option Addr) (c0 : Nat) (l0 : List Int) (A1 : Option Addr) (c1 : Nat) (l1 : List Int) (r : Bool) (w : World) (hr0 : Kd.C (Kd.int .i64) w A0 l0.length l0) (hc0 : l0.length ≤ c0) (hr1 : Kd.C (Kd.int .i64) w A1 l1.length l1) (hc1 : l1.length ≤ c1) (h : skewbaldref00_Less.f k l0 l1 = some r) :
  Calls Tryd.prog 44 #[.slice A0 l0.length c0, .slice A1 l1.length c1] w fun e w' => e = .returned (.bool r) ∧ Drawn0 w w' := by
 have HR0 := Aside0.mk hr0; have HC0 := Aside0.mk hc0; clear hr0 hc0; have HR1 := Aside0.mk hr1; have HC1 := Aside0.mk hc1; clear hr1 hc1
 have H : (skewbaldref00_Less.l0 k l0 l1 0) = some r := h
 clear h; have H' := Aside0.mk H; clear H
 go_enter Tryd.func44, Tryd.ntmps44
 go_wp2
 repeat (go_quiet (fail); try go_wp2)
 go_loopg [5] k (fun kq v5 w' => ∃ (x5_1 : Int), v5 = .int .i64 x5_1 ∧ Aside0 (skewbaldref00_Less.l0 kq l0 l1 x5_1 = some r) ∧ Aside0 (kq ≤ k) ∧ Drawn0 w w')
 case atStart => exact ⟨(0), sm, H', ⟨Nat.le_refl _⟩, by repeat (first | exact Drawn0.refl _ | apply Drawn0.step)⟩
 case round =>
  clear H'; (try clear c1); (try clear p2); obtain ⟨x5_1, rfl, HA, HK1, ⟨m1, rfl⟩⟩ := hrel
  cases gk with
  | zero => exact absurd HA.out (by simp [skewbaldref00_Less.l0])
  | succ k1 =>
   have H := HA.out; clear HA
   simp only [skewbaldref00_Less.l0] at H
   have HC3 := Aside0.mk H; clear H
   go_upto_region 2 with (fail)
   repeat (go_quiet (fail); go_upto_region 2 with (fail))
   go_cut [15] (fun v15 wc => ∃ (kq : Nat) (x15_2 : Bool), v15 = .bool x15_2 ∧ Aside0 (skewbaldref00_Less.j1 kq l0 l1 x5_1 x15_2 = some r) ∧ Aside0 (kq ≤ k1) ∧ Drawn0 w wc)
   case first =>
    have H := HC3.out; clear HC3
    by_cases c4 : x5_1 < (l0.length : Int)
    ·rw [if_pos c4] at H; have c4b0 := decide_eq_true c4; clear c4
     (first | rw [c4b0] | (simp only [i64_w, i32_w]; rw [c4b0]) | skip)
     have H' := Aside0.mk H; clear H
     go_wp2
     repeat (go_quiet (fail); try go_wp2)
     go_meet
     case rel => exact ⟨_, (decide (x5_1 < (l1.length : Int))), sm, H', ⟨lo HK1⟩, by repeat (first | exact Drawn0.refl _ | apply Drawn0.step)⟩
    ·rw [if_neg c4] at H
     have c4b0 : decide (x5_1 < (l0.length : Int)) = false := decide_eq_false c4
     clear c4
     (first | rw [c4b0] | (simp only [i64_w, i32_w]; rw [c4b0]) | skip)
     have H' := Aside0.mk H; clear H
     go_wp2
     repeat (go_quiet (fail); try go_wp2)
     go_meet
     case rel => exact ⟨_, (false), sm, H', ⟨lo HK1⟩, by repeat (first | exact Drawn0.refl _ | apply Drawn0.step)⟩
   case rest =>
    clear HC3; (try clear c1); (try clear p2); (try clear c4); (try clear c4b0); obtain ⟨kq, x15_2, rfl, HA, HJ2, ⟨mc2, rfl⟩⟩ := hcut
    cases kq with
    | zero => exact absurd HA.out (by simp [skewbaldref00_Less.j1])
    | succ kj2 =>
     have H := HA.out; clear HA
     simp only [skewbaldref00_Less.j1] at H
     by_cases c5 : x15_2 = true
     ·subst c5; rw [if_pos rfl] at H
      by_cases c6 : 0 ≤ x5_1
      ·rw [if_pos c6] at H; have c6b0 := decide_eq_true c6; clear c6
       by_cases c7 : x5_1 < (l0.length : Int)
       ·rw [if_pos c7] at H; have c7b0 := decide_eq_true c7; clear c7
        by_cases c8 : x5_1 < (l1.length : Int)
        ·rw [if_pos c8] at H; have c8b0 := decide_eq_true c8; clear c8
         by_cases c9 : (rd l0 x5_1) = (rd l1 x5_1)
         ·rw [if_pos c9] at H
          have c9b0 : ((rd l0 x5_1) == (rd l1 x5_1)) = true := beq_iff_eq.mpr c9
          have c9b1 : ((rd l0 x5_1) != (rd l1 x5_1)) = false := bne_eq_false_iff_eq.mpr c9
          clear c9; have H' := Aside0.mk H; clear H
          have p221 : 0 ≤ (x5_1 : Int) := od
          have q221 : x5_1 < (l0.length : Int) := od
          obtain ⟨ad221, e221, hx221_0⟩ := Kd.at_int HR0.out x5_1 p221 q221
          cases e221
          replace p221 := eq_true p221; replace q221 := eq_true q221
          have p222 : 0 ≤ (x5_1 : Int) := od
          have q222 : x5_1 < (l1.length : Int) := od
          obtain ⟨ad222, e222, hx222_0⟩ := Kd.at_int HR1.out x5_1 p222 q222
          cases e222
          replace p222 := eq_true p222; replace q222 := eq_true q222
          go_wp2
          repeat (go_quiet (fail); try go_wp2)
          go_roundg kj2
          case measure => have := HK1.out; have := HJ2.out; omega
          case rel => exact ⟨(wrap64 (x5_1 + 1)), sm, H', ⟨lp HK1 HJ2⟩, by repeat (first | exact Drawn0.refl _ | apply Drawn0.step)⟩
         ·rw [if_neg c9] at H
          have c9b0 : ((rd l0 x5_1) == (rd l1 x5_1)) = false := beq_eq_false_iff_ne.mpr c9
          have c9b1 : ((rd l0 x5_1) != (rd l1 x5_1)) = true := bne_iff_ne.mpr c9
          obtain rfl := Option.some.inj H
          have p221 : 0 ≤ (x5_1 : Int) := od
          have q221 : x5_1 < (l0.length : Int) := od
          obtain ⟨ad221, e221, hx221_0⟩ := Kd.at_int HR0.out x5_1 p221 q221
          cases e221
          replace p221 := eq_true p221; replace q221 := eq_true q221
          have p222 : 0 ≤ (x5_1 : Int) := od
          have q222 : x5_1 < (l1.length : Int) := od
          obtain ⟨ad222, e222, hx222_0⟩ := Kd.at_int HR1.out x5_1 p222 q222
          cases e222
          replace p222 := eq_true p222; replace q222 := eq_true q222
          have p223 : 0 ≤ (x5_1 : Int) := od
          have q223 : x5_1 < (l0.length : Int) := od
          obtain ⟨ad223, e223, hx223_0⟩ := Kd.at_int HR0.out x5_1 p223 q223
          obtain rfl : ad221 = ad223 := (by injection e223)
          replace p223 := eq_true p223; replace q223 := eq_true q223
          have p224 : 0 ≤ (x5_1 : Int) := od
          have q224 : x5_1 < (l1.length : Int) := od
          obtain ⟨ad224, e224, hx224_0⟩ := Kd.at_int HR1.out x5_1 p224 q224
          obtain rfl : ad222 = ad224 := (by injection e224)
          replace p224 := eq_true p224; replace q224 := eq_true q224
          go_wp2
          repeat (go_quiet (fail); try go_wp2)
          go_ret
          exact ⟨sm, by repeat (first | exact Drawn0.refl _ | apply Drawn0.step)⟩
        ·rw [if_neg c8] at H
         exact absurd H (by simp)
       ·rw [if_neg c7] at H
        exact absurd H (by simp)
      ·rw [if_neg c6] at H
       exact absurd H (by simp)
     ·replace c5 := Bool.eq_false_iff.mpr c5; subst c5
      rw [if_neg (show ¬ (false = true) by decide)] at H
      obtain rfl := Option.some.inj H
      go_wp2
      repeat (go_quiet (fail); try go_wp2)
      go_ret
      exact ⟨sm, by repeat (first | exact Drawn0.refl _ | apply Drawn0.step)⟩
def skewbaldref00_Shorter.f (k : Nat) (l0 : List Int) (l1 : List Int) : Option (Bool) := if (l0.length : Int) = (l1.length : Int) then ((skewbaldref00_Less.f k l0 l1).bind fun t225 => (some t225)) else (some (decide ((l0.length : Int) < (l1.length : Int))))
set_option maxHeartbeats 8000000 in
set_option maxRecDepth 100000 in
theorem skewbaldref00_Shorter.calls (k : Nat) (A0 : Option Addr) (c0 : Nat) (l0 : List Int) (A1 : Option Addr) (c1 : Nat) (l1 : List Int) (r : Bool) (w : World) (hr0 : Kd.C (Kd.int .i64) w A0 l0.length l0) (hc0 : l0.length ≤ c0) (hr1 : Kd.C (Kd.int .i64) w A1 l1.length l1) (hc1 : l1.length ≤ c1) (h : skewbaldref00_Shorter.f k l0 l1 = some r) :
  Calls Tryd.prog 47 #[.slice A0 l0.length c0, .slice A1 l1.length c1] w fun e w' => e = .returned (.bool r) ∧ Drawn0 w w' := by
 have HR0 := Aside0.mk hr0; have HC0 := Aside0.mk hc0; clear hr0 hc0; have HR1 := Aside0.mk hr1; have HC1 := Aside0.mk hc1; clear hr1 hc1
 have H : (if (l0.length : Int) = (l1.length : Int) then ((skewbaldref00_Less.f k l0 l1).bind fun t225 => (some t225)) else (some (decide ((l0.length : Int) < (l1.length : Int))))) = some r := h
 clear h
 by_cases c3 : (l0.length : Int) = (l1.length : Int)
 ·rw [if_pos c3] at H
  have c3b0 : ((l0.length : Int) == (l1.length : Int)) = true := beq_iff_eq.mpr c3
  have c3b1 : ((l0.length : Int) != (l1.length : Int)) = false := bne_eq_false_iff_eq.mpr c3
  have c3b2 : (l0.length == l1.length) = true := by first | simpa using c3 | (simp at c3 ⊢; omega)
  clear c3; obtain ⟨t225, A4, H⟩ := ob H; obtain rfl := Option.some.inj H
  go_enter Tryd.func47, Tryd.ntmps47
  go_wp2_with (first | ((with_reducible refine gate_callee (f := 44) rfl ?_); refine gl (some 17) Tryd.func44 #[.slice A0 l0.length c0, .slice A1 l1.length c1] ?_; (with_reducible refine (skewbaldref00_Less.calls k _ _ l0 _ _ l1 t225 _ ?side1 ?side2 ?side3 ?side4 A4.out).mono ?_); (case side1 => repeat (first | exact HR0.out | (with_reducible refine Kd.C_alloc ?_ _) | (with_reducible refine Kd.C_drewN ?_ _) | (with_reducible refine Kd.C_drew ?_))); (case side2 => exact HC0.out); (case side3 => repeat (first | exact HR1.out | (with_reducible refine Kd.C_alloc ?_ _) | (with_reducible refine Kd.C_drewN ?_ _) | (with_reducible refine Kd.C_drew ?_))); (case side4 => exact HC1.out); rintro e w' ⟨rfl, ⟨nd, rfl⟩⟩; refine ⟨_, rfl, ?_⟩))
  go_ret
  exact ⟨sm, by repeat (first | exact Drawn0.refl _ | apply Drawn0.step)⟩
 ·rw [if_neg c3] at H
  have c3b0 : ((l0.length : Int) == (l1.length : Int)) = false := beq_eq_false_iff_ne.mpr c3
  have c3b1 : ((l0.length : Int) != (l1.length : Int)) = true := bne_iff_ne.mpr c3
  have c3b2 : (l0.length == l1.length) = false := by first | simpa using c3 | (simp at c3 ⊢; omega)
  obtain rfl := Option.some.inj H
  go_enter Tryd.func47, Tryd.ntmps47
  go_wp2
  go_ret
  exact ⟨sm, by repeat (first | exact Drawn0.refl _ | apply Drawn0.step)⟩
def skewbaldref01_lies.f (l0_0 : List (S48)) (l0_1 : List (S50)) (a1 : Int) (a2 : Int) (a3 : Int) : Option (Bool) := if 0 ≤ a1 then (if a1 < (l0_0.length : Int) then (if 0 ≤ a2 then (if a2 < (l0_1.length : Int) then ((skewbaldref00_In.f a3 0 (wrap64 (((rd_T48 l0_0 a1).f0) - ((rd_T50 l0_1 a2).f0)))).bind fun t128 => (some t128)) else (none)) else (none)) else (none)) else (none)
set_option maxHeartbeats 8000000 in
set_option maxRecDepth 100000 in
theorem skewbaldref01_lies.calls (A0_0 : Option Addr) (c0_0 : Nat) (l0_0 : List (S48)) (A0_1 : Option Addr) (c0_1 : Nat) (l0_1 : List (S50)) (a1 : Int) (a2 : Int) (a3 : Int) (r : Bool) (w : World) (hr0_0 : Kd.C k48 w A0_0 l0_0.length l0_0) (hc0_0 : l0_0.length ≤ c0_0) (hr0_1 : Kd.C k50 w A0_1 l0_1.length l0_1) (hc0_1 : l0_1.length ≤ c0_1) (h : skewbaldref01_lies.f l0_0 l0_1 a1 a2 a3 = some r) :
  Calls Tryd.prog 68 #[.agg #[.slice A0_0 l0_0.length c0_0, .slice A0_1 l0_1.length c0_1], .int .i64 a1, .int .i64 a2, .int .i64 a3] w fun e w' => e = .returned (.bool r) ∧ Below w.heap.size w w' := by
 have hu25 := Tryd.underlying25; have HR0_0 := Aside0.mk hr0_0; have HC0_0 := Aside0.mk hc0_0; clear hr0_0 hc0_0; have HR0_1 := Aside0.mk hr0_1; have HC0_1 := Aside0.mk hc0_1; clear hr0_1 hc0_1; have HB := Aside0.mk (Below.refl w.heap.size w)
 have H : (if 0 ≤ a1 then (if a1 < (l0_0.length : Int) then (if 0 ≤ a2 then (if a2 < (l0_1.length : Int) then ((skewbaldref00_In.f a3 0 (wrap64 (((rd_T48 l0_0 a1).f0) - ((rd_T50 l0_1 a2).f0)))).bind fun t128 => (some t128)) else (none)) else (none)) else (none)) else (none)) = some r := h
 clear h
 by_cases c5 : 0 ≤ a1
 ·rw [if_pos c5] at H; have c5b0 := decide_eq_true c5; clear c5
  by_cases c6 : a1 < (l0_0.length : Int)
  ·rw [if_pos c6] at H; have c6b0 := decide_eq_true c6; clear c6
   by_cases c7 : 0 ≤ a2
   ·rw [if_pos c7] at H; have c7b0 := decide_eq_true c7; clear c7
    by_cases c8 : a2 < (l0_1.length : Int)
    ·rw [if_pos c8] at H; have c8b0 := decide_eq_true c8; clear c8; obtain ⟨t128, A9, H⟩ := ob H; obtain rfl := Option.some.inj H
     go_enter Tryd.func68, Tryd.ntmps68
     go_wp2_with (first | (refine bx 4 #[.slice A0_0 l0_0.length c0_0, .slice A0_1 l0_1.length c0_1] 25 ?_; intro gb125 hg w10 hbox hb; have BK125 := Aside0.mk hbox; have GW125 := gw hg HB; have GE125 := gw hg HB; replace HB := hs HB hb; clear hb hbox hg; obtain ⟨hcz11_0, hcz11_1, hfz11_0, hfz11_1⟩ := b2 (w := w10) BK125; have p126 : 0 ≤ (a1 : Int) := od; have q126 : a1 < (l0_0.length : Int) := od; obtain ⟨ad126, A126_1, c126_1, e126, hx126_0, hx126_1, hl126_1, hi126_1⟩ := at_T48 HR0_0.out a1 p126 q126; cases e126; replace hx126_0 := cm HB hx126_0; replace hx126_1 := cm HB hx126_1; have HR126_1 := Aside0.mk hi126_1; have HC126_1 := Aside0.mk hl126_1; clear hi126_1 hl126_1; replace p126 := eq_true p126; replace q126 := eq_true q126; have p127 : 0 ≤ (a2 : Int) := od; have q127 : a2 < (l0_1.length : Int) := od; obtain ⟨ad127, A127_1, c127_1, e127, hx127_0, hx127_1, hx127_2, hl127_1, hi127_1⟩ := at_T50 HR0_1.out a2 p127 q127; cases e127; replace hx127_0 := cm HB hx127_0; replace hx127_1 := cm HB hx127_1; replace hx127_2 := cm HB hx127_2; have HR127_1 := Aside0.mk hi127_1; have HC127_1 := Aside0.mk hl127_1; clear hi127_1 hl127_1; replace p127 := eq_true p127; replace q127 := eq_true q127) | (go_at_call 38; (with_reducible refine (skewbaldref00_In.calls a3 0 (wrap64 (((rd_T48 l0_0 a1).f0) - ((rd_T50 l0_1 a2).f0))) t128 _ A9.out).mono ?_); rintro e w' ⟨rfl, ⟨nd, rfl⟩⟩; (try first | exact ⟨rfl, _, World.drewN_drewN _ _ _⟩ | exact ⟨rfl, _, Eq.trans (World.drewN_drewN _ _ _) (congrArg (World.drewN _) (Nat.add_assoc _ _ _))⟩)))
     repeat (go_quiet (first | (refine bx 4 #[.slice A0_0 l0_0.length c0_0, .slice A0_1 l0_1.length c0_1] 25 ?_; intro gb125 hg w10 hbox hb; have BK125 := Aside0.mk hbox; have GW125 := gw hg HB; have GE125 := gw hg HB; replace HB := hs HB hb; clear hb hbox hg; obtain ⟨hcz11_0, hcz11_1, hfz11_0, hfz11_1⟩ := b2 (w := w10) BK125; have p126 : 0 ≤ (a1 : Int) := od; have q126 : a1 < (l0_0.length : Int) := od; obtain ⟨ad126, A126_1, c126_1, e126, hx126_0, hx126_1, hl126_1, hi126_1⟩ := at_T48 HR0_0.out a1 p126 q126; cases e126; replace hx126_0 := cm HB hx126_0; replace hx126_1 := cm HB hx126_1; have HR126_1 := Aside0.mk hi126_1; have HC126_1 := Aside0.mk hl126_1; clear hi126_1 hl126_1; replace p126 := eq_true p126; replace q126 := eq_true q126; have p127 : 0 ≤ (a2 : Int) := od; have q127 : a2 < (l0_1.length : Int) := od; obtain ⟨ad127, A127_1, c127_1, e127, hx127_0, hx127_1, hx127_2, hl127_1, hi127_1⟩ := at_T50 HR0_1.out a2 p127 q127; cases e127; replace hx127_0 := cm HB hx127_0; replace hx127_1 := cm HB hx127_1; replace hx127_2 := cm HB hx127_2; have HR127_1 := Aside0.mk hi127_1; have HC127_1 := Aside0.mk hl127_1; clear hi127_1 hl127_1; replace p127 := eq_true p127; replace q127 := eq_true q127) | (go_at_call 38; (with_reducible refine (skewbaldref00_In.calls a3 0 (wrap64 (((rd_T48 l0_0 a1).f0) - ((rd_T50 l0_1 a2).f0))) t128 _ A9.out).mono ?_); rintro e w' ⟨rfl, ⟨nd, rfl⟩⟩; (try first | exact ⟨rfl, _, World.drewN_drewN _ _ _⟩ | exact ⟨rfl, _, Eq.trans (World.drewN_drewN _ _ _) (congrArg (World.drewN _) (Nat.add_assoc _ _ _))⟩))); try go_wp2_with (first | (refine bx 4 #[.slice A0_0 l0_0.length c0_0, .slice A0_1 l0_1.length c0_1] 25 ?_; intro gb125 hg w10 hbox hb; have BK125 := Aside0.mk hbox; have GW125 := gw hg HB; have GE125 := gw hg HB; replace HB := hs HB hb; clear hb hbox hg; obtain ⟨hcz11_0, hcz11_1, hfz11_0, hfz11_1⟩ := b2 (w := w10) BK125; have p126 : 0 ≤ (a1 : Int) := od; have q126 : a1 < (l0_0.length : Int) := od; obtain ⟨ad126, A126_1, c126_1, e126, hx126_0, hx126_1, hl126_1, hi126_1⟩ := at_T48 HR0_0.out a1 p126 q126; cases e126; replace hx126_0 := cm HB hx126_0; replace hx126_1 := cm HB hx126_1; have HR126_1 := Aside0.mk hi126_1; have HC126_1 := Aside0.mk hl126_1; clear hi126_1 hl126_1; replace p126 := eq_true p126; replace q126 := eq_true q126; have p127 : 0 ≤ (a2 : Int) := od; have q127 : a2 < (l0_1.length : Int) := od; obtain ⟨ad127, A127_1, c127_1, e127, hx127_0, hx127_1, hx127_2, hl127_1, hi127_1⟩ := at_T50 HR0_1.out a2 p127 q127; cases e127; replace hx127_0 := cm HB hx127_0; replace hx127_1 := cm HB hx127_1; replace hx127_2 := cm HB hx127_2; have HR127_1 := Aside0.mk hi127_1; have HC127_1 := Aside0.mk hl127_1; clear hi127_1 hl127_1; replace p127 := eq_true p127; replace q127 := eq_true q127) | (go_at_call 38; (with_reducible refine (skewbaldref00_In.calls a3 0 (wrap64 (((rd_T48 l0_0 a1).f0) - ((rd_T50 l0_1 a2).f0))) t128 _ A9.out).mono ?_); rintro e w' ⟨rfl, ⟨nd, rfl⟩⟩; (try first | exact ⟨rfl, _, World.drewN_drewN _ _ _⟩ | exact ⟨rfl, _, Eq.trans (World.drewN_drewN _ _ _) (congrArg (World.drewN _) (Nat.add_assoc _ _ _))⟩))))
     go_ret
     exact ⟨by first | rfl | (simp [errW_none, errW_some] <;> rfl) | (simp [*, errW_none, errW_some] <;> rfl), bl⟩
    ·rw [if_neg c8] at H
     exact absurd H (by simp)
   ·rw [if_neg c7] at H
    exact absurd H (by simp)
  ·rw [if_neg c6] at H
   exact absurd H (by simp)
 ·rw [if_neg c5] at H
  exact absurd H (by simp)
def skewbaldref01_joints.l0 : Nat → Int → Bool → List Int → Int → Int → List Int → Bool → Option (List Int)
 | 0, _, _, _, _, _, _, _ => none
 | k + 1, x1, x2, x7, x8, x130000, x130001, x130002 => if x8 < (x130001.length : Int) then (if 0 ≤ x8 then (if x2 = true then (if x7.length < 17592186044416 then (skewbaldref01_joints.l0 k x1 x2 (x7 ++ [wrap64 (x1 + (wrap64 ((wrap64 (x130000 - 1)) - (rd x130001 x8))))]) (wrap64 (x8 + 1)) x130000 x130001 x130002) else (none)) else (if x7.length < 17592186044416 then (skewbaldref01_joints.l0 k x1 x2 (x7 ++ [wrap64 (x1 + (rd x130001 x8))]) (wrap64 (x8 + 1)) x130000 x130001 x130002) else (none))) else (none)) else (some x7)
def skewbaldref01_joints.f (k : Nat) (a0_0 : Int) (l0_1 : List Int) (a0_2 : Bool) (a1 : Int) (a2 : Bool) : Option (List Int) := skewbaldref01_joints.l0 k a1 a2 (([] : List Int)) 0 a0_0 l0_1 a0_2
set_option maxHeartbeats 8000000 in
set_option maxRecDepth 100000 in
theorem skewbaldref01_joints.calls (k : Nat) (a0_0 : Int) (A0_1 : Option Addr) (c0_1 : Nat) (l0_1 : List Int) (a0_2 : Bool) (a1 : Int) (a2 : Bool) (r : List Int) (w : World) (hr0_1 : Kd.C (Kd.int .i64) w A0_1 l0_1.length l0_1) (hc0_1 : l0_1.length ≤ c0_1) (h : skewbaldref01_joints.f k a0_0 l0_1 a0_2 a1 a2 = some r) :
  Calls Tryd.prog 99 #[.agg #[.int .i64 a0_0, .slice A0_1 l0_1.length c0_1, .bool a0_2], .int .i64 a1, .bool a2] w fun e w' => ∃ v0_ : Value, e = .returned (v0_) ∧ Kd.R (Kd.int .i64) 3 w' w.heap.size (fun _ => True) v0_ r ∧ Below w.heap.size w w' := by
 have hu50 := Tryd.underlying50; have HR0_1 := Aside0.mk hr0_1; have HC0_1 := Aside0.mk hc0_1; clear hr0_1 hc0_1; have HB := Aside0.mk (Below.refl w.heap.size w)
 have H : (skewbaldref01_joints.l0 k a1 a2 (([] : List Int)) 0 a0_0 l0_1 a0_2) = some r := h
 clear h
 obtain ⟨y130, hy130⟩ : ∃ y_ : List Int, y_ = (([] : List Int)) := ⟨_, rfl⟩
 replace H : (skewbaldref01_joints.l0 k a1 a2 y130 0 a0_0 l0_1 a0_2) = some r := tr H hy130
 have Ny130 := Aside0.mk hy130; clear hy130; have H' := Aside0.mk H; clear H
 go_enter Tryd.func99, Tryd.ntmps99
 go_wp2_with (first | (refine bx 3 #[.int .i64 a0_0, .slice A0_1 l0_1.length c0_1, .bool a0_2] 50 ?_; intro gb129 hg w4 hbox hb; have BK129 := Aside0.mk hbox; have GW129 := gw hg HB; have GE129 := gw hg HB; replace HB := hs HB hb; clear hb hbox hg) | ((with_reducible refine gate_dst (N := 10) rfl ?_); refine Kd.R_lit (Kd.int .i64) _ 3 ?hg (N := 10) ?hd (xs := ([] : List Int)) (inner := []) (ok := fun _ => True) (okp := fun _ => True) ?hr ?hp (fun _ hk => hk) trivial (Below.refl _ _) (Nat.le_refl _) (by simp) ?_; (case hd => rfl); (case hg => rfl); (case hr => first | (go_simp; done) | (go_simp; rfl)); (case hp => exact (Reps.none _ _)); intro v131 w5 ho6 hb hg_ hnew_; clear hg_ hnew_; (first | rw [← Ny130.out] at ho6 | (simp only [Int.reduceToNat] at ho6; rw [← Ny130.out] at ho6)); have HO132 := Aside0.mk (Kd.R_lower ho6 (below_size bl)); replace BK129 := nb BK129 hb; replace HB := hs HB hb; clear hb ho6))
 go_loopg [7, 8] k (fun kq v7 v8 w' => ∃ (x7_1 : List Int) (x8_1 : Int), v8 = .int .i64 x8_1 ∧ Aside0 (skewbaldref01_joints.l0 kq a1 a2 x7_1 x8_1 a0_0 l0_1 a0_2 = some r) ∧ Aside0 (kq ≤ k) ∧ Aside0 (Kd.R (Kd.int .i64) 3 w' w.heap.size (fun _ => True) v7 x7_1) ∧ Aside0 (w'.heap[gb129]? = some (.cells #[.int .i64 a0_0, (.slice A0_1 l0_1.length c0_1), .bool a0_2] 50 (0, 0))) ∧ Aside0 (Below w.heap.size w w'))
 case atStart => exact ⟨(y130), (0), sm, H', ⟨Nat.le_refl _⟩, ⟨bR HO132⟩, ⟨bk⟩, ⟨bl⟩⟩
 case round =>
  clear H'; (try clear p2); obtain ⟨x7_1, x8_1, rfl, HA, HK1, HO_7, BK129, HB⟩ := hrel
  cases gk with
  | zero => exact absurd HA.out (by simp [skewbaldref01_joints.l0])
  | succ k1 =>
   have H := HA.out; clear HA
   simp only [skewbaldref01_joints.l0] at H
   by_cases c7 : x8_1 < (l0_1.length : Int)
   ·rw [if_pos c7] at H; have c7b0 := decide_eq_true c7; clear c7
    by_cases c8 : 0 ≤ x8_1
    ·rw [if_pos c8] at H; have c8b0 := decide_eq_true c8; clear c8
     by_cases c9 : a2 = true
     ·subst c9; rw [if_pos rfl] at H
      by_cases c10 : x7_1.length < 17592186044416
      ·rw [if_pos c10] at H; have LMc10 := Aside0.mk c10; clear c10
       obtain ⟨y134, hy134⟩ : ∃ y_ : List Int, y_ = (x7_1 ++ [wrap64 (a1 + (wrap64 ((wrap64 (a0_0 - 1)) - (rd l0_1 x8_1))))]) := ⟨_, rfl⟩
       replace H : (skewbaldref01_joints.l0 k1 a1 true y134 (wrap64 (x8_1 + 1)) a0_0 l0_1 a0_2) = some r := tr H hy134
       have Ny134 := Aside0.mk hy134; clear hy134; have H' := Aside0.mk H; clear H; obtain ⟨hcz11_0, hcz11_1, hcz11_2, hfz11_0, hfz11_1, hfz11_2⟩ := b3 (w := wr) BK129
       have p133 : 0 ≤ (x8_1 : Int) := od
       have q133 : x8_1 < (l0_1.length : Int) := od
       obtain ⟨ad133, e133, hx133_0⟩ := Kd.at_int HR0_1.out x8_1 p133 q133
       cases e133
       replace hx133_0 := cm HB hx133_0; replace p133 := eq_true p133; replace q133 := eq_true q133
       go_wp2_with (first | ((with_reducible refine gate_builtin (b := .append) (xs := #[.tmp 29, .tmp 33]) rfl ?_); at_builtin; refine Kd.R_append (Kd.int .i64) (w0 := w) w.heap.size rfl (.tmp 29) (.tmp 33) 31 3 (.int .i64 0) 8 rfl Tryd.underlying31 info3 rfl (by decide) (by omega) u7 x7_1 (wrap64 (a1 + (wrap64 ((wrap64 (a0_0 - 1)) - (rd l0_1 x8_1))))) [.int .i64 (wrap64 (a1 + (wrap64 ((wrap64 (a0_0 - 1)) - (rd l0_1 x8_1)))))] (fun _ => True) (fun _ => False) rfl rfl ?aP (fun _ hk => hk.elim) ?aF ?aO ?aB ?aS ?aL ?_; (case aP => exact rfl); (case aB => exact bl); (case aF => exact (fun _ _ => trivial)); (case aO => exact (bR HO_7)); (case aS => exact (below_size bl)); (case aL => have := LMc10.out; omega); intro v135 w12 ho hb hg hat; rw [← Ny134.out] at ho; replace BK129 := Aside0.mk (blk_grown (g := gb129) (o := .cells #[.int .i64 a0_0, .slice (some ad133) l0_1.length c0_1, .bool a0_2] 50 (0, 0)) bk hg (Kd.R_ne HO_7.out BK129.out (by decide))); replace HB := Aside0.mk hb; have HO136 := Aside0.mk ho; clear HO_7; clear ho hb hg hat))
       go_roundg k1
       case measure => have := HK1.out; omega
       case rel => exact ⟨(y134), (wrap64 (x8_1 + 1)), sm, H', ⟨lo HK1⟩, ⟨bR HO136⟩, ⟨bk⟩, ⟨bl⟩⟩
      ·rw [if_neg c10] at H
       exact absurd H (by simp)
     ·replace c9 := Bool.eq_false_iff.mpr c9; subst c9
      rw [if_neg (show ¬ (false = true) by decide)] at H
      by_cases c13 : x7_1.length < 17592186044416
      ·rw [if_pos c13] at H; have LMc13 := Aside0.mk c13; clear c13
       obtain ⟨y137, hy137⟩ : ∃ y_ : List Int, y_ = (x7_1 ++ [wrap64 (a1 + (rd l0_1 x8_1))]) := ⟨_, rfl⟩
       replace H : (skewbaldref01_joints.l0 k1 a1 false y137 (wrap64 (x8_1 + 1)) a0_0 l0_1 a0_2) = some r := tr H hy137
       have Ny137 := Aside0.mk hy137; clear hy137; have H' := Aside0.mk H; clear H; obtain ⟨hcz14_0, hcz14_1, hcz14_2, hfz14_0, hfz14_1, hfz14_2⟩ := b3 (w := wr) BK129
       have p133 : 0 ≤ (x8_1 : Int) := od
       have q133 : x8_1 < (l0_1.length : Int) := od
       obtain ⟨ad133, e133, hx133_0⟩ := Kd.at_int HR0_1.out x8_1 p133 q133
       cases e133
       replace hx133_0 := cm HB hx133_0; replace p133 := eq_true p133; replace q133 := eq_true q133
       go_wp2_with (first | ((with_reducible refine gate_builtin (b := .append) (xs := #[.tmp 29, .tmp 33]) rfl ?_); at_builtin; refine Kd.R_append (Kd.int .i64) (w0 := w) w.heap.size rfl (.tmp 29) (.tmp 33) 31 3 (.int .i64 0) 8 rfl Tryd.underlying31 info3 rfl (by decide) (by omega) u7 x7_1 (wrap64 (a1 + (rd l0_1 x8_1))) [.int .i64 (wrap64 (a1 + (rd l0_1 x8_1)))] (fun _ => True) (fun _ => False) rfl rfl ?aP (fun _ hk => hk.elim) ?aF ?aO ?aB ?aS ?aL ?_; (case aP => exact rfl); (case aB => exact bl); (case aF => exact (fun _ _ => trivial)); (case aO => exact (bR HO_7)); (case aS => exact (below_size bl)); (case aL => have := LMc13.out; omega); intro v138 w15 ho hb hg hat; rw [← Ny137.out] at ho; replace BK129 := Aside0.mk (blk_grown (g := gb129) (o := .cells #[.int .i64 a0_0, .slice (some ad133) l0_1.length c0_1, .bool a0_2] 50 (0, 0)) bk hg (Kd.R_ne HO_7.out BK129.out (by decide))); replace HB := Aside0.mk hb; have HO139 := Aside0.mk ho; clear HO_7; clear ho hb hg hat))
       go_roundg k1
       case measure => have := HK1.out; omega
       case rel => exact ⟨(y137), (wrap64 (x8_1 + 1)), sm, H', ⟨lo HK1⟩, ⟨bR HO139⟩, ⟨bk⟩, ⟨bl⟩⟩
      ·rw [if_neg c13] at H
       exact absurd H (by simp)
    ·rw [if_neg c8] at H
     exact absurd H (by simp)
   ·rw [if_neg c7] at H
    have c7b0 : decide (x8_1 < (l0_1.length : Int)) = false := decide_eq_false c7
    clear c7; obtain rfl := Option.some.inj H; obtain ⟨hcz16_0, hcz16_1, hcz16_2, hfz16_0, hfz16_1, hfz16_2⟩ := b3 (w := wr) BK129
    go_wp2
    go_ret
    exact ⟨_, by first | rfl | (simp [errW_none, errW_some] <;> rfl) | (simp [*, errW_none, errW_some] <;> rfl), by (with_reducible repeat (first | apply Kd.R_alloc | apply Kd.R_drewN | apply Kd.R_drew)); exact HO_7.out, bl⟩
def skewbaldref00_Find.l0 : Nat → List Int → Int → Int → Option (Int)
 | 0, _, _, _ => none
 | k + 1, x0, x1, x5 => if x5 < (x0.length : Int) then (if 0 ≤ x5 then (if (rd x0 x5) = x1 then (some x5) else (skewbaldref00_Find.l0 k x0 x1 (wrap64 (x5 + 1)))) else (none)) else (some (-1))
def skewbaldref00_Find.f (k : Nat) (l0 : List Int) (a1 : Int) : Option (Int) := skewbaldref00_Find.l0 k l0 a1 0
set_option maxHeartbeats 8000000 in
set_option maxRecDepth 100000 in
theorem skewbaldref00_Find.calls (k : Nat) (A0 : Option Addr) (c0 : Nat) (l0 : List Int) (a1 : Int) (r : Int) (w : World) (hr0 : Kd.C (Kd.int .i64) w A0 l0.length l0) (hc0 : l0.length ≤ c0) (h : skewbaldref00_Find.f k l0 a1 = some r) :
  Calls Tryd.prog 42 #[.slice A0 l0.length c0, .int .i64 a1] w fun e w' => e = .returned (.int .i64 r) ∧ Drawn0 w w' := by
 have HR0 := Aside0.mk hr0; have HC0 := Aside0.mk hc0; clear hr0 hc0
 have H : (skewbaldref00_Find.l0 k l0 a1 0) = some r := h
 clear h; have H' := Aside0.mk H; clear H
 go_enter Tryd.func42, Tryd.ntmps42
 go_wp2
 go_loopg [5] k (fun kq v5 w' => ∃ (x5_1 : Int), v5 = .int .i64 x5_1 ∧ Aside0 (skewbaldref00_Find.l0 kq l0 a1 x5_1 = some r) ∧ Aside0 (kq ≤ k) ∧ Drawn0 w w')
 case atStart => exact ⟨(0), sm, H', ⟨Nat.le_refl _⟩, by repeat (first | exact Drawn0.refl _ | apply Drawn0.step)⟩
 case round =>
  clear H'; (try clear p2); obtain ⟨x5_1, rfl, HA, HK1, ⟨m1, rfl⟩⟩ := hrel
  cases gk with
  | zero => exact absurd HA.out (by simp [skewbaldref00_Find.l0])
  | succ k1 =>
   have H := HA.out; clear HA
   simp only [skewbaldref00_Find.l0] at H
   by_cases c3 : x5_1 < (l0.length : Int)
   ·rw [if_pos c3] at H; have c3b0 := decide_eq_true c3; clear c3
    by_cases c4 : 0 ≤ x5_1
    ·rw [if_pos c4] at H; have c4b0 := decide_eq_true c4; clear c4
     by_cases c5 : (rd l0 x5_1) = a1
     ·rw [if_pos c5] at H
      have c5b0 : ((rd l0 x5_1) == a1) = true := beq_iff_eq.mpr c5
      have c5b1 : ((rd l0 x5_1) != a1) = false := bne_eq_false_iff_eq.mpr c5
      clear c5; obtain rfl := Option.some.inj H
      have p140 : 0 ≤ (x5_1 : Int) := od
      have q140 : x5_1 < (l0.length : Int) := od
      obtain ⟨ad140, e140, hx140_0⟩ := Kd.at_int HR0.out x5_1 p140 q140
      cases e140
      replace p140 := eq_true p140; replace q140 := eq_true q140
      go_wp2
      go_ret
      exact ⟨sm, by repeat (first | exact Drawn0.refl _ | apply Drawn0.step)⟩
     ·rw [if_neg c5] at H
      have c5b0 : ((rd l0 x5_1) == a1) = false := beq_eq_false_iff_ne.mpr c5
      have c5b1 : ((rd l0 x5_1) != a1) = true := bne_iff_ne.mpr c5
      have H' := Aside0.mk H; clear H
      have p140 : 0 ≤ (x5_1 : Int) := od
      have q140 : x5_1 < (l0.length : Int) := od
      obtain ⟨ad140, e140, hx140_0⟩ := Kd.at_int HR0.out x5_1 p140 q140
      cases e140
      replace p140 := eq_true p140; replace q140 := eq_true q140
      go_wp2
      go_roundg k1
      case measure => have := HK1.out; omega
      case rel => exact ⟨(wrap64 (x5_1 + 1)), sm, H', ⟨lo HK1⟩, by repeat (first | exact Drawn0.refl _ | apply Drawn0.step)⟩
    ·rw [if_neg c4] at H
     exact absurd H (by simp)
   ·rw [if_neg c3] at H
    have c3b0 : decide (x5_1 < (l0.length : Int)) = false := decide_eq_false c3
    clear c3; obtain rfl := Option.some.inj H
    go_wp2
    go_ret
    exact ⟨sm, by repeat (first | exact Drawn0.refl _ | apply Drawn0.step)⟩
mutual
def skewbaldref01_sure.l0 : Nat → List Int → Int → Int → List (S60) → Option (Bool)
 | 0, _, _, _, _ => none
 | k + 1, x1, x5, x142000, x142001 => if x5 < (x142001.length : Int) then (if 0 ≤ x5 then (skewbaldref01_sure.l1 k x1 x5 ((rd_T60 x142001 x5).f0) x142000 x142001) else (none)) else (some true)
def skewbaldref01_sure.l1 : Nat → List Int → Int → Int → Int → List (S60) → Option (Bool)
 | 0, _, _, _, _, _ => none
 | k + 1, x1, x5, x6, x142000, x142001 => if 0 ≤ x5 then (if x5 < (x142001.length : Int) then (if x6 ≤ ((rd_T60 x142001 x5).f1) then ((skewbaldref00_Find.f k x1 x6).bind fun t144 => (if t144 ≥ 0 then (some false) else (skewbaldref01_sure.l1 k x1 x5 (wrap64 (x6 + 1)) x142000 x142001))) else (skewbaldref01_sure.l0 k x1 (wrap64 (x5 + 1)) x142000 x142001)) else (none)) else (none)
end
def skewbaldref01_sure.f (k : Nat) (a0_0 : Int) (l0_1 : List (S60)) (l1 : List Int) : Option (Bool) := skewbaldref01_sure.l0 k l1 0 a0_0 l0_1
set_option maxHeartbeats 8000000 in
set_option maxRecDepth 100000 in
theorem skewbaldref01_sure.calls (k : Nat) (a0_0 : Int) (A0_1 : Option Addr) (c0_1 : Nat) (l0_1 : List (S60)) (A1 : Option Addr) (c1 : Nat) (l1 : List Int) (r : Bool) (w : World) (hr0_1 : Kd.C k60 w A0_1 l0_1.length l0_1) (hc0_1 : l0_1.length ≤ c0_1) (hr1 : Kd.C (Kd.int .i64) w A1 l1.length l1) (hc1 : l1.length ≤ c1) (h : skewbaldref01_sure.f k a0_0 l0_1 l1 = some r) :
  Calls Tryd.prog 100 #[.agg #[.int .i64 a0_0, .slice A0_1 l0_1.length c0_1], .slice A1 l1.length c1] w fun e w' => e = .returned (.bool r) ∧ Below w.heap.size w w' := by
 have hu48 := Tryd.underlying48; have HR0_1 := Aside0.mk hr0_1; have HC0_1 := Aside0.mk hc0_1; clear hr0_1 hc0_1; have HR1 := Aside0.mk hr1; have HC1 := Aside0.mk hc1; clear hr1 hc1; have HB := Aside0.mk (Below.refl w.heap.size w)
 have H : (skewbaldref01_sure.l0 k l1 0 a0_0 l0_1) = some r := h
 clear h; have H' := Aside0.mk H; clear H
 go_enter Tryd.func100, Tryd.ntmps100
 go_wp2_with (first | (refine bx 2 #[.int .i64 a0_0, .slice A0_1 l0_1.length c0_1] 48 ?_; intro gb141 hg w3 hbox hb; have BK141 := Aside0.mk hbox; have GW141 := gw hg HB; have GE141 := gw hg HB; replace HB := hs HB hb; clear hb hbox hg))
 go_loopg [5] k (fun kq v5 w' => ∃ (x5_1 : Int), v5 = .int .i64 x5_1 ∧ Aside0 (skewbaldref01_sure.l0 kq l1 x5_1 a0_0 l0_1 = some r) ∧ Aside0 (kq ≤ k) ∧ Aside0 (w'.heap[gb141]? = some (.cells #[.int .i64 a0_0, (.slice A0_1 l0_1.length c0_1)] 48 (0, 0))) ∧ Aside0 (Below w.heap.size w w'))
 case atStart => exact ⟨(0), sm, H', ⟨Nat.le_refl _⟩, ⟨bk⟩, ⟨bl⟩⟩
 case round =>
  clear H'; (try clear c1); (try clear p2); obtain ⟨x5_1, rfl, HA, HK1, BK141, HB⟩ := hrel
  cases gk with
  | zero => exact absurd HA.out (by simp [skewbaldref01_sure.l0])
  | succ k1 =>
   have H := HA.out; clear HA
   simp only [skewbaldref01_sure.l0] at H
   by_cases c4 : x5_1 < (l0_1.length : Int)
   ·rw [if_pos c4] at H; have c4b0 := decide_eq_true c4; clear c4
    by_cases c5 : 0 ≤ x5_1
    ·rw [if_pos c5] at H; have c5b0 := decide_eq_true c5; clear c5; have H' := Aside0.mk H; clear H; obtain ⟨hcz6_0, hcz6_1, hfz6_0, hfz6_1⟩ := b2 (w := wr) BK141
     have p142 : 0 ≤ (x5_1 : Int) := od
     have q142 : x5_1 < (l0_1.length : Int) := od
     obtain ⟨ad142, e142, hx142_0, hx142_1⟩ := at_T60 HR0_1.out x5_1 p142 q142
     cases e142
     replace hx142_0 := cm HB hx142_0; replace hx142_1 := cm HB hx142_1; replace p142 := eq_true p142; replace q142 := eq_true q142
     go_wp2
     go_loopg [6] k1 (fun kq v6 w' => ∃ (x6_2 : Int), v6 = .int .i64 x6_2 ∧ Aside0 (skewbaldref01_sure.l1 kq l1 x5_1 x6_2 a0_0 l0_1 = some r) ∧ Aside0 (kq ≤ k1) ∧ Aside0 (w'.heap[gb141]? = some (.cells #[.int .i64 a0_0, (.slice (some ad142) l0_1.length c0_1)] 48 (0, 0))) ∧ Aside0 (Below w.heap.size w w'))
     case atStart => exact ⟨((rd_T60 l0_1 x5_1).f0), sm, H', ⟨Nat.le_refl _⟩, ⟨bk⟩, ⟨bl⟩⟩
     case round =>
      clear H'; (try clear c1); (try clear p1); (try clear q1); (try clear hx1); (try clear p2); (try clear c4); (try clear c4b0); (try clear c5); (try clear c5b0); (try clear hcz6_0); (try clear hcz6_1); (try clear hfz6_0); (try clear hfz6_1); (try clear hx142_0); (try clear hx142_1); (try clear p142); (try clear q142); obtain ⟨x6_2, rfl, HA, HK2, BK141, HB⟩ := hrel
      cases gk with
      | zero => exact absurd HA.out (by simp [skewbaldref01_sure.l1])
      | succ k2 =>
       have H := HA.out; clear HA
       simp only [skewbaldref01_sure.l1] at H
       by_cases c7 : 0 ≤ x5_1
       ·rw [if_pos c7] at H; have c7b0 := decide_eq_true c7; clear c7
        by_cases c8 : x5_1 < (l0_1.length : Int)
        ·rw [if_pos c8] at H; have c8b0 := decide_eq_true c8; clear c8
         by_cases c9 : x6_2 ≤ ((rd_T60 l0_1 x5_1).f1)
         ·rw [if_pos c9] at H; have c9b0 := decide_eq_true c9; clear c9; obtain ⟨t144, A10, H⟩ := ob H
          by_cases c11 : t144 ≥ 0
          ·rw [if_pos c11] at H; have c11b0 := decide_eq_true c11; clear c11; obtain rfl := Option.some.inj H; obtain ⟨hcz12_0, hcz12_1, hfz12_0, hfz12_1⟩ := b2 (w := wr) BK141
           have p143 : 0 ≤ (x5_1 : Int) := od
           have q143 : x5_1 < (l0_1.length : Int) := od
           obtain ⟨ad143, e143, hx143_0, hx143_1⟩ := at_T60 HR0_1.out x5_1 p143 q143
           obtain rfl : ad142 = ad143 := (by injection e143)
           replace hx143_0 := cm HB hx143_0; replace hx143_1 := cm HB hx143_1; replace p143 := eq_true p143; replace q143 := eq_true q143
           go_wp2_with (first | ((with_reducible refine gate_callee (f := 42) rfl ?_); refine gl (some 32) Tryd.func42 #[.slice A1 l1.length c1, .int .i64 x6_2] ?_; (with_reducible refine (skewbaldref00_Find.calls k2 _ _ l1 x6_2 t144 _ ?side1 ?side2 A10.out).mono ?_); (case side1 => repeat (first | exact (Kd.C_below HR1.out HB.out) | (with_reducible refine Kd.C_alloc ?_ _) | (with_reducible refine Kd.C_drewN ?_ _) | (with_reducible refine Kd.C_drew ?_))); (case side2 => exact HC1.out); rintro e w' ⟨rfl, ⟨nd, rfl⟩⟩; refine ⟨_, rfl, ?_⟩))
           go_ret
           exact ⟨by first | rfl | (simp [errW_none, errW_some] <;> rfl) | (simp [*, errW_none, errW_some] <;> rfl), bl⟩
          ·rw [if_neg c11] at H
           have c11b0 : decide (0 ≤ t144) = false := decide_eq_false c11
           clear c11; have H' := Aside0.mk H; clear H; obtain ⟨hcz13_0, hcz13_1, hfz13_0, hfz13_1⟩ := b2 (w := wr) BK141
           have p143 : 0 ≤ (x5_1 : Int) := od
           have q143 : x5_1 < (l0_1.length : Int) := od
           obtain ⟨ad143, e143, hx143_0, hx143_1⟩ := at_T60 HR0_1.out x5_1 p143 q143
           obtain rfl : ad142 = ad143 := (by injection e143)
           replace hx143_0 := cm HB hx143_0; replace hx143_1 := cm HB hx143_1; replace p143 := eq_true p143; replace q143 := eq_true q143
           go_wp2_with (first | ((with_reducible refine gate_callee (f := 42) rfl ?_); refine gl (some 32) Tryd.func42 #[.slice A1 l1.length c1, .int .i64 x6_2] ?_; (with_reducible refine (skewbaldref00_Find.calls k2 _ _ l1 x6_2 t144 _ ?side1 ?side2 A10.out).mono ?_); (case side1 => repeat (first | exact (Kd.C_below HR1.out HB.out) | (with_reducible refine Kd.C_alloc ?_ _) | (with_reducible refine Kd.C_drewN ?_ _) | (with_reducible refine Kd.C_drew ?_))); (case side2 => exact HC1.out); rintro e w' ⟨rfl, ⟨nd, rfl⟩⟩; refine ⟨_, rfl, ?_⟩))
           go_roundg k2
           case measure => have := HK1.out; have := HK2.out; omega
           case rel => exact ⟨(wrap64 (x6_2 + 1)), sm, H', ⟨lp HK1 HK2⟩, ⟨bk⟩, ⟨bl⟩⟩
         ·rw [if_neg c9] at H
          have c9b0 : decide (x6_2 ≤ ((rd_T60 l0_1 x5_1).f1)) = false := decide_eq_false c9
          clear c9; have H' := Aside0.mk H; clear H; obtain ⟨hcz14_0, hcz14_1, hfz14_0, hfz14_1⟩ := b2 (w := wr) BK141
          have p143 : 0 ≤ (x5_1 : Int) := od
          have q143 : x5_1 < (l0_1.length : Int) := od
          obtain ⟨ad143, e143, hx143_0, hx143_1⟩ := at_T60 HR0_1.out x5_1 p143 q143
          obtain rfl : ad142 = ad143 := (by injection e143)
          replace hx143_0 := cm HB hx143_0; replace hx143_1 := cm HB hx143_1; replace p143 := eq_true p143; replace q143 := eq_true q143
          go_wp2
          go_roundg k2
          case measure => have := HK1.out; have := HK2.out; omega
          case rel => exact ⟨(wrap64 (x5_1 + 1)), sm, H', ⟨lp HK1 HK2⟩, ⟨bk⟩, ⟨bl⟩⟩
        ·rw [if_neg c8] at H
         exact absurd H (by simp)
       ·rw [if_neg c7] at H
        exact absurd H (by simp)
    ·rw [if_neg c5] at H
     exact absurd H (by simp)
   ·rw [if_neg c4] at H
    have c4b0 : decide (x5_1 < (l0_1.length : Int)) = false := decide_eq_false c4
    clear c4; obtain rfl := Option.some.inj H; obtain ⟨hcz15_0, hcz15_1, hfz15_0, hfz15_1⟩ := b2 (w := wr) BK141
    go_wp2
    go_ret
    exact ⟨by first | rfl | (simp [errW_none, errW_some] <;> rfl) | (simp [*, errW_none, errW_some] <;> rfl), bl⟩
mutual
def skewbaldref01_may.l0 : Nat → List Int → Int → Int → List (S60) → Option (Bool)
 | 0, _, _, _, _ => none
 | k + 1, x1, x5, x146000, x146001 => if x5 < (x146001.length : Int) then (if 0 ≤ x5 then (skewbaldref01_may.l1 k x1 x5 false ((rd_T60 x146001 x5).f0) x146000 x146001) else (none)) else (some true)
def skewbaldref01_may.l1 : Nat → List Int → Int → Bool → Int → Int → List (S60) → Option (Bool)
 | 0, _, _, _, _, _, _ => none
 | k + 1, x1, x5, x6, x7, x146000, x146001 => if 0 ≤ x5 then (if x5 < (x146001.length : Int) then (if x7 ≤ ((rd_T60 x146001 x5).f1) then (if x6 = true then (skewbaldref01_may.l1 k x1 x5 true (wrap64 (x7 + 1)) x146000 x146001) else ((skewbaldref00_Find.f k x1 x7).bind fun t148 => (skewbaldref01_may.l1 k x1 x5 (decide (t148 < 0)) (wrap64 (x7 + 1)) x146000 x146001))) else (if x6 = true then (skewbaldref01_may.l0 k x1 (wrap64 (x5 + 1)) x146000 x146001) else (some false))) else (none)) else (none)
end
def skewbaldref01_may.f (k : Nat) (a0_0 : Int) (l0_1 : List (S60)) (l1 : List Int) : Option (Bool) := skewbaldref01_may.l0 k l1 0 a0_0 l0_1
set_option maxHeartbeats 8000000 in
set_option maxRecDepth 100000 in
theorem skewbaldref01_may.calls (k : Nat) (a0_0 : Int) (A0_1 : Option Addr) (c0_1 : Nat) (l0_1 : List (S60)) (A1 : Option Addr) (c1 : Nat) (l1 : List Int) (r : Bool) (w : World) (hr0_1 : Kd.C k60 w A0_1 l0_1.length l0_1) (hc0_1 : l0_1.length ≤ c0_1) (hr1 : Kd.C (Kd.int .i64) w A1 l1.length l1) (hc1 : l1.length ≤ c1) (h : skewbaldref01_may.f k a0_0 l0_1 l1 = some r) :
  Calls Tryd.prog 101 #[.agg #[.int .i64 a0_0, .slice A0_1 l0_1.length c0_1], .slice A1 l1.length c1] w fun e w' => e = .returned (.bool r) ∧ Below w.heap.size w w' := by
 have hu48 := Tryd.underlying48; have HR0_1 := Aside0.mk hr0_1; have HC0_1 := Aside0.mk hc0_1; clear hr0_1 hc0_1; have HR1 := Aside0.mk hr1; have HC1 := Aside0.mk hc1; clear hr1 hc1; have HB := Aside0.mk (Below.refl w.heap.size w)
 have H : (skewbaldref01_may.l0 k l1 0 a0_0 l0_1) = some r := h
 clear h; have H' := Aside0.mk H; clear H
 go_enter Tryd.func101, Tryd.ntmps101
 go_wp2_with (first | (refine bx 2 #[.int .i64 a0_0, .slice A0_1 l0_1.length c0_1] 48 ?_; intro gb145 hg w3 hbox hb; have BK145 := Aside0.mk hbox; have GW145 := gw hg HB; have GE145 := gw hg HB; replace HB := hs HB hb; clear hb hbox hg))
 go_loopg [5] k (fun kq v5 w' => ∃ (x5_1 : Int), v5 = .int .i64 x5_1 ∧ Aside0 (skewbaldref01_may.l0 kq l1 x5_1 a0_0 l0_1 = some r) ∧ Aside0 (kq ≤ k) ∧ Aside0 (w'.heap[gb145]? = some (.cells #[.int .i64 a0_0, (.slice A0_1 l0_1.length c0_1)] 48 (0, 0))) ∧ Aside0 (Below w.heap.size w w'))
 case atStart => exact ⟨(0), sm, H', ⟨Nat.le_refl _⟩, ⟨bk⟩, ⟨bl⟩⟩
 case round =>
  clear H'; (try clear c1); (try clear p2); obtain ⟨x5_1, rfl, HA, HK1, BK145, HB⟩ := hrel
  cases gk with
  | zero => exact absurd HA.out (by simp [skewbaldref01_may.l0])
  | succ k1 =>
   have H := HA.out; clear HA
   simp only [skewbaldref01_may.l0] at H
   by_cases c4 : x5_1 < (l0_1.length : Int)
   ·rw [if_pos c4] at H; have c4b0 := decide_eq_true c4; clear c4
    by_cases c5 : 0 ≤ x5_1
    ·rw [if_pos c5] at H; have c5b0 := decide_eq_true c5; clear c5; have H' := Aside0.mk H; clear H; obtain ⟨hcz6_0, hcz6_1, hfz6_0, hfz6_1⟩ := b2 (w := wr) BK145
     have p146 : 0 ≤ (x5_1 : Int) := od
     have q146 : x5_1 < (l0_1.length : Int) := od
     obtain ⟨ad146, e146, hx146_0, hx146_1⟩ := at_T60 HR0_1.out x5_1 p146 q146
     cases e146
     replace hx146_0 := cm HB hx146_0; replace hx146_1 := cm HB hx146_1; replace p146 := eq_true p146; replace q146 := eq_true q146
     go_wp2
     go_loopg [6, 7] k1 (fun kq v6 v7 w' => ∃ (x6_2 : Bool) (x7_2 : Int), v6 = .bool x6_2 ∧ v7 = .int .i64 x7_2 ∧ Aside0 (skewbaldref01_may.l1 kq l1 x5_1 x6_2 x7_2 a0_0 l0_1 = some r) ∧ Aside0 (kq ≤ k1) ∧ Aside0 (w'.heap[gb145]? = some (.cells #[.int .i64 a0_0, (.slice (some ad146) l0_1.length c0_1)] 48 (0, 0))) ∧ Aside0 (Below w.heap.size w w'))
     case atStart => exact ⟨(false), ((rd_T60 l0_1 x5_1).f0), sm, sm, H', ⟨Nat.le_refl _⟩, ⟨bk⟩, ⟨bl⟩⟩
     case round =>
      clear H'; (try clear c1); (try clear p1); (try clear q1); (try clear hx1); (try clear p2); (try clear c4); (try clear c4b0); (try clear c5); (try clear c5b0); (try clear hcz6_0); (try clear hcz6_1); (try clear hfz6_0); (try clear hfz6_1); (try clear hx146_0); (try clear hx146_1); (try clear p146); (try clear q146); obtain ⟨x6_2, x7_2, rfl, rfl, HA, HK2, BK145, HB⟩ := hrel
      cases gk with
      | zero => exact absurd HA.out (by simp [skewbaldref01_may.l1])
      | succ k2 =>
       have H := HA.out; clear HA
       simp only [skewbaldref01_may.l1] at H
       by_cases c7 : 0 ≤ x5_1
       ·rw [if_pos c7] at H; have c7b0 := decide_eq_true c7; clear c7
        by_cases c8 : x5_1 < (l0_1.length : Int)
        ·rw [if_pos c8] at H; have c8b0 := decide_eq_true c8; clear c8
         by_cases c9 : x7_2 ≤ ((rd_T60 l0_1 x5_1).f1)
         ·rw [if_pos c9] at H; have c9b0 := decide_eq_true c9; clear c9
          by_cases c10 : x6_2 = true
          ·subst c10; rw [if_pos rfl] at H; have H' := Aside0.mk H; clear H; obtain ⟨hcz11_0, hcz11_1, hfz11_0, hfz11_1⟩ := b2 (w := wr) BK145
           have p147 : 0 ≤ (x5_1 : Int) := od
           have q147 : x5_1 < (l0_1.length : Int) := od
           obtain ⟨ad147, e147, hx147_0, hx147_1⟩ := at_T60 HR0_1.out x5_1 p147 q147
           obtain rfl : ad146 = ad147 := (by injection e147)
           replace hx147_0 := cm HB hx147_0; replace hx147_1 := cm HB hx147_1; replace p147 := eq_true p147; replace q147 := eq_true q147
           go_wp2
           go_roundg k2
           case measure => have := HK1.out; have := HK2.out; omega
           case rel => exact ⟨(true), (wrap64 (x7_2 + 1)), sm, sm, H', ⟨lp HK1 HK2⟩, ⟨bk⟩, ⟨bl⟩⟩
          ·replace c10 := Bool.eq_false_iff.mpr c10; subst c10
           rw [if_neg (show ¬ (false = true) by decide)] at H
           obtain ⟨t148, A12, H⟩ := ob H; have H' := Aside0.mk H; clear H; obtain ⟨hcz13_0, hcz13_1, hfz13_0, hfz13_1⟩ := b2 (w := wr) BK145
           have p147 : 0 ≤ (x5_1 : Int) := od
           have q147 : x5_1 < (l0_1.length : Int) := od
           obtain ⟨ad147, e147, hx147_0, hx147_1⟩ := at_T60 HR0_1.out x5_1 p147 q147
           obtain rfl : ad146 = ad147 := (by injection e147)
           replace hx147_0 := cm HB hx147_0; replace hx147_1 := cm HB hx147_1; replace p147 := eq_true p147; replace q147 := eq_true q147
           go_wp2_with (first | (go_at_call 42; (with_reducible refine (skewbaldref00_Find.calls k2 _ _ l1 x7_2 t148 _ ?side1 ?side2 A12.out).mono ?_); (case side1 => repeat (first | exact (Kd.C_below HR1.out HB.out) | (with_reducible refine Kd.C_alloc ?_ _) | (with_reducible refine Kd.C_drewN ?_ _) | (with_reducible refine Kd.C_drew ?_))); (case side2 => exact HC1.out); rintro e w' ⟨rfl, ⟨nd, rfl⟩⟩))
           go_roundg k2
           case measure => have := HK1.out; have := HK2.out; omega
           case rel => exact ⟨(decide (t148 < 0)), (wrap64 (x7_2 + 1)), sm, sm, H', ⟨lp HK1 HK2⟩, ⟨bk⟩, ⟨bl⟩⟩
         ·rw [if_neg c9] at H
          have c9b0 : decide (x7_2 ≤ ((rd_T60 l0_1 x5_1).f1)) = false := decide_eq_false c9
          clear c9
          by_cases c14 : x6_2 = true
          ·subst c14; rw [if_pos rfl] at H; have H' := Aside0.mk H; clear H; obtain ⟨hcz15_0, hcz15_1, hfz15_0, hfz15_1⟩ := b2 (w := wr) BK145
           have p147 : 0 ≤ (x5_1 : Int) := od
           have q147 : x5_1 < (l0_1.length : Int) := od
           obtain ⟨ad147, e147, hx147_0, hx147_1⟩ := at_T60 HR0_1.out x5_1 p147 q147
           obtain rfl : ad146 = ad147 := (by injection e147)
           replace hx147_0 := cm HB hx147_0; replace hx147_1 := cm HB hx147_1; replace p147 := eq_true p147; replace q147 := eq_true q147
           go_wp2
           go_roundg k2
           case measure => have := HK1.out; have := HK2.out; omega
           case rel => exact ⟨(wrap64 (x5_1 + 1)), sm, H', ⟨lp HK1 HK2⟩, ⟨bk⟩, ⟨bl⟩⟩
          ·replace c14 := Bool.eq_false_iff.mpr c14; subst c14
           rw [if_neg (show ¬ (false = true) by decide)] at H
           obtain rfl := Option.some.inj H; obtain ⟨hcz16_0, hcz16_1, hfz16_0, hfz16_1⟩ := b2 (w := wr) BK145
           have p147 : 0 ≤ (x5_1 : Int) := od
           have q147 : x5_1 < (l0_1.length : Int) := od
           obtain ⟨ad147, e147, hx147_0, hx147_1⟩ := at_T60 HR0_1.out x5_1 p147 q147
           obtain rfl : ad146 = ad147 := (by injection e147)
           replace hx147_0 := cm HB hx147_0; replace hx147_1 := cm HB hx147_1; replace p147 := eq_true p147; replace q147 := eq_true q147
           go_wp2
           go_ret
           exact ⟨by first | rfl | (simp [errW_none, errW_some] <;> rfl) | (simp [*, errW_none, errW_some] <;> rfl), bl⟩
        ·rw [if_neg c8] at H
         exact absurd H (by simp)
       ·rw [if_neg c7] at H
        exact absurd H (by simp)
    ·rw [if_neg c5] at H
     exact absurd H (by simp)
   ·rw [if_neg c4] at H
    have c4b0 : decide (x5_1 < (l0_1.length : Int)) = false := decide_eq_false c4
    clear c4; obtain rfl := Option.some.inj H; obtain ⟨hcz17_0, hcz17_1, hfz17_0, hfz17_1⟩ := b2 (w := wr) BK145
    go_wp2
    go_ret
    exact ⟨by first | rfl | (simp [errW_none, errW_some] <;> rfl) | (simp [*, errW_none, errW_some] <;> rfl), bl⟩
end Go.Proofs.YtekjlpldooihhaaDoor.PT
