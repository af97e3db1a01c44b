/- Printed by a program (prx.py). -/
import Derived.Test.YtekjlpldooihhaaDoorWNEv
import Derived.Test.YtekjlpldooihhaaDoorPv
namespace Go.Proofs.YtekjlpldooihhaaDoor.PT
open Go.Proofs.YtekjlpldooihhaaDoorSh
open Go.Proofs.YtekjlpldooihhaaDoor.PA (S48 S50 S60 at_L2 at_L4 at_T48 at_T50 at_T60 errW errW_none errW_some k48 k48_mk k48_mkM k48_open k48_openM k50 k50_mk k50_mkM k50_open k50_openM k60 k60_mk k60_mkM k60_open k60_openM rd_L2 rd_L4 rd_T48 rd_T50 rd_T60 z48 z50 z60)
open Go.Proofs.YtekjlpldooihhaaDoorP Go.Proofs.YtekjlpldooihhaaDoorA Go.Proofs.YtekjlpldooihhaaDoorK
open Go.RowKit Go.Proofs.YtekjlpldooihhaaDoorW.PrintWords Go.Proofs.YtekjlpldooihhaaDoorW.PrintLast Go.Proofs.YtekjlpldooihhaaDoorW.PrintMore
attribute [local go_sem] max2_int min2_int max_two min_two max_three min_three max_four min_four
set_option linter.unusedVariables false
set_option linter.unusedSimpArgs false
mutual
def skewbaldlaw01_sound.j0 : Nat → Bool → List (S48) → List (S50) → Option (Bool)
 | 0, _, _, _ => none
 | k + 1, x3, x339000, x339001 => skewbaldlaw01_sound.l0 k x3 0 x339000 x339001
def skewbaldlaw01_sound.l0 : Nat → Bool → Int → List (S48) → List (S50) → Option (Bool)
 | 0, _, _, _, _ => none
 | k + 1, x3, x4, x339000, x339001 => if x3 = true then (skewbaldlaw01_sound.j2 k x3 x4 (decide (x4 < (x339000.length : Int))) x339000 x339001) else (skewbaldlaw01_sound.j2 k x3 x4 false x339000 x339001)
def skewbaldlaw01_sound.j2 : Nat → Bool → Int → Bool → List (S48) → List (S50) → Option (Bool)
 | 0, _, _, _, _, _ => none
 | k + 1, x3, x4, x31, x339000, x339001 => if x31 = true then (if 0 ≤ x4 then (if x4 < (x339000.length : Int) then ((skewbaldref00_In.f ((rd_T48 x339000 x4).f0) 1 16).bind fun t344 => (if t344 = true then (skewbaldlaw01_sound.j3 k (decide ((((rd_T48 x339000 x4).f1).length : Int) ≤ 3)) x4 x339000 x339001 ((rd_T48 x339000 x4).f0) ((rd_T48 x339000 x4).f1)) else (skewbaldlaw01_sound.j3 k false x4 x339000 x339001 ((rd_T48 x339000 x4).f0) ((rd_T48 x339000 x4).f1)))) else (none)) else (none)) else (skewbaldlaw01_sound.l2 k x3 0 x339000 x339001)
def skewbaldlaw01_sound.j3 : Nat → Bool → Int → List (S48) → List (S50) → Int → List (S60) → Option (Bool)
 | 0, _, _, _, _, _, _ => none
 | k + 1, x3, x4, x339000, x339001, x344000, x344001 => skewbaldlaw01_sound.l1 k x3 x4 0 x339000 x339001 x344000 x344001
def skewbaldlaw01_sound.l1 : Nat → Bool → Int → Int → List (S48) → List (S50) → Int → List (S60) → Option (Bool)
 | 0, _, _, _, _, _, _, _ => none
 | k + 1, x3, x4, x6, x339000, x339001, x344000, x344001 => if x3 = true then (if x6 < (x344001.length : Int) then (if 0 ≤ x6 then ((skewbaldref00_Ordered.f ((rd_T60 x344001 x6).f0) ((rd_T60 x344001 x6).f1) 0 (wrap64 (x344000 - 1))).bind fun t346 => (skewbaldlaw01_sound.l1 k t346 x4 (wrap64 (x6 + 1)) x339000 x339001 x344000 x344001)) else (none)) else (skewbaldlaw01_sound.l0 k x3 (wrap64 (x4 + 1)) x339000 x339001)) else (skewbaldlaw01_sound.l0 k x3 (wrap64 (x4 + 1)) x339000 x339001)
def skewbaldlaw01_sound.l2 : Nat → Bool → Int → List (S48) → List (S50) → Option (Bool)
 | 0, _, _, _, _ => none
 | k + 1, x3, x7, x339000, x339001 => if x3 = true then (skewbaldlaw01_sound.j6 k x3 x7 (decide (x7 < (x339001.length : Int))) x339000 x339001) else (skewbaldlaw01_sound.j6 k x3 x7 false x339000 x339001)
def skewbaldlaw01_sound.j6 : Nat → Bool → Int → Bool → List (S48) → List (S50) → Option (Bool)
 | 0, _, _, _, _, _ => none
 | k + 1, x3, x7, x74, x339000, x339001 => if x74 = true then (if 0 ≤ x7 then (if x7 < (x339001.length : Int) then ((skewbaldref00_In.f ((rd_T50 x339001 x7).f0) 1 12).bind fun t349 => (if t349 = true then (if (((rd_T50 x339001 x7).f1).length : Int) ≤ 3 then ((skewbaldref00_Grows.f k ((rd_T50 x339001 x7).f1) ((rd_T50 x339001 x7).f0)).bind fun t350 => (skewbaldlaw01_sound.l2 k t350 (wrap64 (x7 + 1)) x339000 x339001)) else (skewbaldlaw01_sound.l2 k false (wrap64 (x7 + 1)) x339000 x339001)) else (skewbaldlaw01_sound.l2 k false (wrap64 (x7 + 1)) x339000 x339001))) else (none)) else (none)) else (some x3)
end
def skewbaldlaw01_sound.f (k : Nat) (l0_0 : List (S48)) (l0_1 : List (S50)) : Option (Bool) := (plank_Check.f l0_0 l0_1).bind fun t339 => (if t339 = 0 then ((skewbaldref00_In.f (l0_0.length : Int) 1 3).bind fun t340 => (if t340 = true then ((skewbaldref00_In.f (l0_1.length : Int) 1 5).bind fun t341 => (skewbaldlaw01_sound.j0 k t341 l0_0 l0_1)) else (skewbaldlaw01_sound.j0 k false l0_0 l0_1))) else (skewbaldlaw01_sound.j0 k false l0_0 l0_1))
def skewbaldlaw01_sound.T10 : Bool × List (List Nat × List Nat) := (true, [([], []), ([0], [0]), ([], []), ([1, 2], [1, 2]), ([3], [3]), ([], []), ([5], [5]), ([6], [6]), ([4, 7], [4, 7]), ([8, 8, 0, 1, 2, 3, 4, 5, 6, 7, 8], [8])])
def skewbaldlaw01_sound.B10 : List Nat := [0, 1, 0, 7, 15, 0, 32, 96, 255, 511]
theorem skewbaldlaw01_sound.tab10 : rtab .any (opsOf Tryd.f34 10) = skewbaldlaw01_sound.T10 := by kernel_rfl
theorem skewbaldlaw01_sound.bits10 : waitsOk skewbaldlaw01_sound.T10.2 skewbaldlaw01_sound.B10 = true := by kernel_rfl
set_option maxHeartbeats 8000000 in
set_option maxRecDepth 100000 in
theorem skewbaldlaw01_sound.calls (k : Nat) (A0_0 : Option Addr) (c0_0 : Nat) (l0_0 : List (S48)) (A0_1 : Option Addr) (c0_1 : Nat) (l0_1 : List (S50)) (r : Bool) (w : World) (hr0_0 : Kd.C k48 w A0_0 l0_0.length l0_0) (hc0_0 : l0_0.length ≤ c0_0) (hr0_1 : Kd.C k50 w A0_1 l0_1.length l0_1) (hc0_1 : l0_1.length ≤ c0_1) (h : skewbaldlaw01_sound.f k l0_0 l0_1 = some r) :
  Calls Tryd.prog 34 #[.agg #[.slice A0_0 l0_0.length c0_0, .slice A0_1 l0_1.length c0_1]] w fun e w' => e = .returned (.bool r) ∧ Below w.heap.size w w' := by
 have hu25 := Tryd.underlying25; have hu48 := Tryd.underlying48; have hu60 := Tryd.underlying60; have hu50 := Tryd.underlying50; have HR0_0 := Aside0.mk hr0_0; have HC0_0 := Aside0.mk hc0_0; clear hr0_0 hc0_0; have HR0_1 := Aside0.mk hr0_1; have HC0_1 := Aside0.mk hc0_1; clear hr0_1 hc0_1; have HB := Aside0.mk (Below.refl w.heap.size w)
 have H : ((plank_Check.f l0_0 l0_1).bind fun t339 => (if t339 = 0 then ((skewbaldref00_In.f (l0_0.length : Int) 1 3).bind fun t340 => (if t340 = true then ((skewbaldref00_In.f (l0_1.length : Int) 1 5).bind fun t341 => (skewbaldlaw01_sound.j0 k t341 l0_0 l0_1)) else (skewbaldlaw01_sound.j0 k false l0_0 l0_1))) else (skewbaldlaw01_sound.j0 k false l0_0 l0_1))) = some r := h
 clear h; have HC2 := Aside0.mk H; clear H
 go_enter Tryd.func34, Tryd.ntmps34
 go_upto_region 1 with (first | ((with_reducible refine gate_dst (N := 1) rfl ?_); (try (refine gate_guard (by rfl) ?_; dsimp only)); refine bx 1 #[.slice A0_0 l0_0.length c0_0, .slice A0_1 l0_1.length c0_1] 25 ?_; intro gb338 hg w3 hbox hb; have BK338 := Aside0.mk hbox; have GW338 := gw hg HB; have GE338 := gw hg HB; replace HB := hs HB hb; clear hb hbox hg))
 (try simp only [Act.put, List.setIfInBounds_toArray, List.set_cons_zero, List.set_cons_succ])
 go_cut [3] (fun v3 wc => ∃ (kq : Nat) (x3_1 : Bool), v3 = .bool x3_1 ∧ Aside0 (skewbaldlaw01_sound.j0 kq x3_1 l0_0 l0_1 = some r) ∧ Aside0 (kq ≤ k) ∧ Aside0 (wc.heap[gb338]? = some (.cells #[(.slice A0_0 l0_0.length c0_0), (.slice A0_1 l0_1.length c0_1)] 25 (0, 0))) ∧ Aside0 (Below w.heap.size w wc))
 case first =>
  have H := HC2.out; clear HC2; obtain ⟨t339, A4, H⟩ := ob H
  by_cases c5 : t339 = 0
  ·rw [if_pos c5] at H
   have c5b0 : (t339 == 0) = true := beq_iff_eq.mpr c5
   have c5b1 : (t339 != 0) = false := bne_eq_false_iff_eq.mpr c5
   clear c5
   (first | rw [c5b0] | (simp only [i64_w, i32_w]; rw [c5b0]) | skip)
   obtain ⟨t340, A6, H⟩ := ob H
   by_cases c7 : t340 = true
   ·subst c7; rw [if_pos rfl] at H; obtain ⟨t341, A8, H⟩ := ob H; have H' := Aside0.mk H; clear H; obtain ⟨hcz9_0, hcz9_1, hfz9_0, hfz9_1⟩ := b2 (w := w3) BK338
    go_wp2_with (first | ((with_reducible refine gate_callee (f := 18) rfl ?_); refine gl (some 10) Tryd.func18 #[.agg #[.slice A0_0 l0_0.length c0_0, .slice A0_1 l0_1.length c0_1]] ?_; (with_reducible refine (plank_Check.calls _ _ l0_0 _ _ l0_1 t339 _ cl HC0_0.out cl HC0_1.out A4.out).mono ?_); rintro e w10 ⟨rfl, hb⟩; refine ⟨_, rfl, ?_⟩; replace BK338 := nb BK338 hb; replace HB := hs HB hb; (try clear hb); (try clear hb2); (try clear hk); (try clear hi); obtain ⟨hcz11_0, hcz11_1, hfz11_0, hfz11_1⟩ := b2 (w := w10) BK338) | (go_at_call 38; (with_reducible refine (skewbaldref00_In.calls (l0_0.length : Int) 1 3 true _ A6.out).mono ?_); rintro e w' ⟨rfl, ⟨nd, rfl⟩⟩) | (go_at_call 38; (with_reducible refine (skewbaldref00_In.calls (l0_1.length : Int) 1 5 t341 _ A8.out).mono ?_); rintro e w' ⟨rfl, ⟨nd, rfl⟩⟩))
    go_meet
    case rel => exact ⟨_, (t341), sm, H', ⟨by first | omega | exact Nat.le_refl _⟩, ⟨bk⟩, ⟨bl⟩⟩
   ·replace c7 := Bool.eq_false_iff.mpr c7; subst c7
    rw [if_neg (show ¬ (false = true) by decide)] at H
    have H' := Aside0.mk H; clear H; obtain ⟨hcz12_0, hcz12_1, hfz12_0, hfz12_1⟩ := b2 (w := w3) BK338
    go_wp2_with (first | ((with_reducible refine gate_callee (f := 18) rfl ?_); refine gl (some 10) Tryd.func18 #[.agg #[.slice A0_0 l0_0.length c0_0, .slice A0_1 l0_1.length c0_1]] ?_; (with_reducible refine (plank_Check.calls _ _ l0_0 _ _ l0_1 t339 _ cl HC0_0.out cl HC0_1.out A4.out).mono ?_); rintro e w13 ⟨rfl, hb⟩; refine ⟨_, rfl, ?_⟩; replace BK338 := nb BK338 hb; replace HB := hs HB hb; (try clear hb); (try clear hb2); (try clear hk); (try clear hi); obtain ⟨hcz14_0, hcz14_1, hfz14_0, hfz14_1⟩ := b2 (w := w13) BK338) | (go_at_call 38; (with_reducible refine (skewbaldref00_In.calls (l0_0.length : Int) 1 3 false _ A6.out).mono ?_); rintro e w' ⟨rfl, ⟨nd, rfl⟩⟩))
    go_meet
    case rel => exact ⟨_, (false), sm, H', ⟨by first | omega | exact Nat.le_refl _⟩, ⟨bk⟩, ⟨bl⟩⟩
  ·rw [if_neg c5] at H
   have c5b0 : (t339 == 0) = false := beq_eq_false_iff_ne.mpr c5
   have c5b1 : (t339 != 0) = true := bne_iff_ne.mpr c5
   (first | rw [c5b0] | (simp only [i64_w, i32_w]; rw [c5b0]) | skip)
   have H' := Aside0.mk H; clear H; obtain ⟨hcz15_0, hcz15_1, hfz15_0, hfz15_1⟩ := b2 (w := w3) BK338
   go_wp2_with (first | ((with_reducible refine gate_callee (f := 18) rfl ?_); refine gl (some 10) Tryd.func18 #[.agg #[.slice A0_0 l0_0.length c0_0, .slice A0_1 l0_1.length c0_1]] ?_; (with_reducible refine (plank_Check.calls _ _ l0_0 _ _ l0_1 t339 _ cl HC0_0.out cl HC0_1.out A4.out).mono ?_); rintro e w16 ⟨rfl, hb⟩; refine ⟨_, rfl, ?_⟩; replace BK338 := nb BK338 hb; replace HB := hs HB hb; (try clear hb); (try clear hb2); (try clear hk); (try clear hi)))
   go_meet
   case rel => exact ⟨_, (false), sm, H', ⟨by first | omega | exact Nat.le_refl _⟩, ⟨bk⟩, ⟨bl⟩⟩
 case rest =>
  clear HC2; (try clear c1); (try clear p2); (try clear c3); (try clear c5); (try clear c5b0); (try clear c5b1); (try clear c7); (try clear hcz11_0); (try clear hcz11_1); (try clear hcz12_0); (try clear hcz12_1); (try clear hcz14_0); (try clear hcz14_1); (try clear hcz15_0); (try clear hcz15_1); (try clear hcz9_0); (try clear hcz9_1); (try clear hfz11_0); (try clear hfz11_1); (try clear hfz12_0); (try clear hfz12_1); (try clear hfz14_0); (try clear hfz14_1); (try clear hfz15_0); (try clear hfz15_1); (try clear hfz9_0); (try clear hfz9_1); obtain ⟨kq, x3_1, rfl, HA, HJ1, BK338, HB⟩ := hcut
  cases kq with
  | zero => exact absurd HA.out (by simp [skewbaldlaw01_sound.j0])
  | succ kj1 =>
   have H := HA.out; clear HA
   simp only [skewbaldlaw01_sound.j0] at H
   have H' := Aside0.mk H; clear H
   go_wp2
   go_loopg [3, 4] kj1 (fun kq v3 v4 w' => ∃ (x3_2 : Bool) (x4_2 : Int), v3 = .bool x3_2 ∧ v4 = .int .i64 x4_2 ∧ Aside0 (skewbaldlaw01_sound.l0 kq x3_2 x4_2 l0_0 l0_1 = some r) ∧ Aside0 (kq ≤ kj1) ∧ Aside0 (w'.heap[gb338]? = some (.cells #[(.slice A0_0 l0_0.length c0_0), (.slice A0_1 l0_1.length c0_1)] 25 (0, 0))) ∧ Aside0 (Below w.heap.size w w'))
   case atStart => exact ⟨(x3_1), (0), sm, sm, H', ⟨Nat.le_refl _⟩, ⟨bk⟩, ⟨bl⟩⟩
   case round =>
    clear H'; (try clear c1); (try clear p2); (try clear c3); (try clear c5); (try clear c5b0); (try clear c5b1); (try clear c7); (try clear hcz11_0); (try clear hcz11_1); (try clear hcz12_0); (try clear hcz12_1); (try clear hcz14_0); (try clear hcz14_1); (try clear hcz15_0); (try clear hcz15_1); (try clear hcz9_0); (try clear hcz9_1); (try clear hfz11_0); (try clear hfz11_1); (try clear hfz12_0); (try clear hfz12_1); (try clear hfz14_0); (try clear hfz14_1); (try clear hfz15_0); (try clear hfz15_1); (try clear hfz9_0); (try clear hfz9_1); obtain ⟨x3_2, x4_2, rfl, rfl, HA, HK2, BK338, HB⟩ := hrel
    cases gk with
    | zero => exact absurd HA.out (by simp [skewbaldlaw01_sound.l0])
    | succ k2 =>
     have H := HA.out; clear HA
     simp only [skewbaldlaw01_sound.l0] at H
     have HC17 := Aside0.mk H; clear H
     go_upto_region 3 with (fail)
     go_cut [31] (fun v31 wc => ∃ (kq : Nat) (x31_16 : Bool), v31 = .bool x31_16 ∧ Aside0 (skewbaldlaw01_sound.j2 kq x3_2 x4_2 x31_16 l0_0 l0_1 = some r) ∧ Aside0 (kq ≤ k2) ∧ Aside0 (wc.heap[gb338]? = some (.cells #[(.slice A0_0 l0_0.length c0_0), (.slice A0_1 l0_1.length c0_1)] 25 (0, 0))) ∧ Aside0 (Below w.heap.size w wc))
     case first =>
      have H := HC17.out; clear HC17
      by_cases c18 : x3_2 = true
      ·subst c18; rw [if_pos rfl] at H; have H' := Aside0.mk H; clear H; obtain ⟨hcz19_0, hcz19_1, hfz19_0, hfz19_1⟩ := b2 (w := wr) BK338
       go_wp2
       go_meet
       case rel => exact ⟨_, (decide (x4_2 < (l0_0.length : Int))), sm, H', ⟨lp HJ1 HK2⟩, ⟨bk⟩, ⟨bl⟩⟩
      ·replace c18 := Bool.eq_false_iff.mpr c18; subst c18
       rw [if_neg (show ¬ (false = true) by decide)] at H
       have H' := Aside0.mk H; clear H
       go_wp2
       go_meet
       case rel => exact ⟨_, (false), sm, H', ⟨lp HJ1 HK2⟩, ⟨bk⟩, ⟨bl⟩⟩
     case rest =>
      clear HC17; (try clear c1); (try clear p2); (try clear c3); (try clear c5); (try clear c5b0); (try clear c5b1); (try clear c7); (try clear c18); (try clear hcz11_0); (try clear hcz11_1); (try clear hcz12_0); (try clear hcz12_1); (try clear hcz14_0); (try clear hcz14_1); (try clear hcz15_0); (try clear hcz15_1); (try clear hcz19_0); (try clear hcz19_1); (try clear hcz9_0); (try clear hcz9_1); (try clear hfz11_0); (try clear hfz11_1); (try clear hfz12_0); (try clear hfz12_1); (try clear hfz14_0); (try clear hfz14_1); (try clear hfz15_0); (try clear hfz15_1); (try clear hfz19_0); (try clear hfz19_1); (try clear hfz9_0); (try clear hfz9_1)
      obtain ⟨kq, x31_16, rfl, HA, HJ16, BK338, HB⟩ := hcut
      cases kq with
      | zero => exact absurd HA.out (by simp [skewbaldlaw01_sound.j2])
      | succ kj16 =>
       have H := HA.out; clear HA
       simp only [skewbaldlaw01_sound.j2] at H
       by_cases c20 : x31_16 = true
       ·subst c20; rw [if_pos rfl] at H
        by_cases c21 : 0 ≤ x4_2
        ·rw [if_pos c21] at H; have c21b0 := decide_eq_true c21; clear c21
         by_cases c22 : x4_2 < (l0_0.length : Int)
         ·rw [if_pos c22] at H; have c22b0 := decide_eq_true c22; clear c22; have HC23 := Aside0.mk H; clear H; obtain ⟨hcz24_0, hcz24_1, hfz24_0, hfz24_1⟩ := b2 (w := wc) BK338
          have p342 : 0 ≤ (x4_2 : Int) := od
          have q342 : x4_2 < (l0_0.length : Int) := od
          obtain ⟨ad342, A342_1, c342_1, e342, hx342_0, hx342_1, hl342_1, hi342_1⟩ := at_T48 HR0_0.out x4_2 p342 q342
          cases e342
          replace hx342_0 := cm HB hx342_0; replace hx342_1 := cm HB hx342_1; have HR342_1 := Aside0.mk hi342_1; have HC342_1 := Aside0.mk hl342_1; clear hi342_1 hl342_1; replace p342 := eq_true p342; replace q342 := eq_true q342
          go_upto_region 6 with (first | ((with_reducible refine gate_dst (N := 5) rfl ?_); (try (refine gate_guard (by rfl) ?_; dsimp only)); refine bx 5 #[.int .i64 0, .slice none 0 0] 48 ?_; intro gb343 hg w25 hbox hb; have BK343 := Aside0.mk hbox; have GW343 := gw hg HB; have GE343 := gw hg HB; replace HB := hs HB hb; have NB338_343 := nl hg BK338; have NB343_338 := ng hg BK338; replace BK338 := nb BK338 hb; clear hb hbox hg; have hnb26 := NB343_338.out; have hnc26 := NB338_343.out; obtain ⟨hcz27_0, hcz27_1, hfz27_0, hfz27_1⟩ := b2 (w := w25) BK343))
          (try simp only [Act.put, List.setIfInBounds_toArray, List.set_cons_zero, List.set_cons_succ])
          go_cut [3] (fun v3 wc => ∃ (kq : Nat) (x3_22 : Bool), v3 = .bool x3_22 ∧ Aside0 (skewbaldlaw01_sound.j3 kq x3_22 x4_2 l0_0 l0_1 ((rd_T48 l0_0 x4_2).f0) ((rd_T48 l0_0 x4_2).f1) = some r) ∧ Aside0 (kq ≤ kj16) ∧ Aside0 (wc.heap[gb338]? = some (.cells #[(.slice (some ad342) l0_0.length c0_0), (.slice A0_1 l0_1.length c0_1)] 25 (0, 0))) ∧ Aside0 (wc.heap[gb343]? = some (.cells #[.int .i64 ((rd_T48 l0_0 x4_2).f0), (.slice A342_1 ((rd_T48 l0_0 x4_2).f1).length c342_1)] 48 (0, 0))) ∧ Aside0 (Below w.heap.size w wc))
          case first =>
           have H := HC23.out; clear HC23; obtain ⟨t344, A28, H⟩ := ob H
           by_cases c29 : t344 = true
           ·subst c29; rw [if_pos rfl] at H; have H' := Aside0.mk H; clear H; have hnb30 := NB343_338.out; have hnc30 := NB338_343.out; obtain ⟨hcz31_0, hcz31_1, hfz31_0, hfz31_1⟩ := b2 (w := w25) BK343
            go_wp2_with (first | ((with_reducible refine gate_callee (f := 38) rfl ?_); refine gl (some 41) Tryd.func38 #[.int .i64 ((rd_T48 l0_0 x4_2).f0), .int .i64 1, .int .i64 16] ?_; (with_reducible refine (skewbaldref00_In.calls ((rd_T48 l0_0 x4_2).f0) 1 16 true _ A28.out).mono ?_); rintro e w' ⟨rfl, ⟨nd, rfl⟩⟩; refine ⟨_, rfl, ?_⟩))
            go_meet
            case rel => exact ⟨_, (decide ((((rd_T48 l0_0 x4_2).f1).length : Int) ≤ 3)), sm, H', ⟨by have := HJ1.out; have := HK2.out; have := HJ16.out; first | omega | exact Nat.le_refl _⟩, ⟨by (with_reducible repeat (first | refine blk_drewN ?_ _ | refine blk_drew ?_ | refine blk_alloc ?_ _)); refine blk_far ?_ NB338_343.out _; (with_reducible repeat (first | refine blk_drewN ?_ _ | refine blk_drew ?_ | refine blk_alloc ?_ _)); refine blk_far ?_ NB338_343.out _; (with_reducible repeat (first | refine blk_drewN ?_ _ | refine blk_drew ?_ | refine blk_alloc ?_ _)); exact BK338.out⟩, ⟨by (with_reducible repeat (first | refine blk_drewN ?_ _ | refine blk_drew ?_ | refine blk_alloc ?_ _)); refine blk_put (cs := #[.int .i64 ((rd_T48 l0_0 x4_2).f0), .slice none 0 0]) ?_ 1 _ rfl; (with_reducible repeat (first | refine blk_drewN ?_ _ | refine blk_drew ?_ | refine blk_alloc ?_ _)); refine blk_put (cs := #[.int .i64 0, .slice none 0 0]) ?_ 0 _ rfl; (with_reducible repeat (first | refine blk_drewN ?_ _ | refine blk_drew ?_ | refine blk_alloc ?_ _)); exact BK343.out⟩, ⟨bl⟩⟩
           ·replace c29 := Bool.eq_false_iff.mpr c29; subst c29
            rw [if_neg (show ¬ (false = true) by decide)] at H
            have H' := Aside0.mk H; clear H; have hnb32 := NB343_338.out; have hnc32 := NB338_343.out; obtain ⟨hcz33_0, hcz33_1, hfz33_0, hfz33_1⟩ := b2 (w := w25) BK343
            go_wp2_with (first | ((with_reducible refine gate_callee (f := 38) rfl ?_); refine gl (some 41) Tryd.func38 #[.int .i64 ((rd_T48 l0_0 x4_2).f0), .int .i64 1, .int .i64 16] ?_; (with_reducible refine (skewbaldref00_In.calls ((rd_T48 l0_0 x4_2).f0) 1 16 false _ A28.out).mono ?_); rintro e w' ⟨rfl, ⟨nd, rfl⟩⟩; refine ⟨_, rfl, ?_⟩))
            go_meet
            case rel => exact ⟨_, (false), sm, H', ⟨by have := HJ1.out; have := HK2.out; have := HJ16.out; first | omega | exact Nat.le_refl _⟩, ⟨by (with_reducible repeat (first | refine blk_drewN ?_ _ | refine blk_drew ?_ | refine blk_alloc ?_ _)); refine blk_far ?_ NB338_343.out _; (with_reducible repeat (first | refine blk_drewN ?_ _ | refine blk_drew ?_ | refine blk_alloc ?_ _)); refine blk_far ?_ NB338_343.out _; (with_reducible repeat (first | refine blk_drewN ?_ _ | refine blk_drew ?_ | refine blk_alloc ?_ _)); exact BK338.out⟩, ⟨by (with_reducible repeat (first | refine blk_drewN ?_ _ | refine blk_drew ?_ | refine blk_alloc ?_ _)); refine blk_put (cs := #[.int .i64 ((rd_T48 l0_0 x4_2).f0), .slice none 0 0]) ?_ 1 _ rfl; (with_reducible repeat (first | refine blk_drewN ?_ _ | refine blk_drew ?_ | refine blk_alloc ?_ _)); refine blk_put (cs := #[.int .i64 0, .slice none 0 0]) ?_ 0 _ rfl; (with_reducible repeat (first | refine blk_drewN ?_ _ | refine blk_drew ?_ | refine blk_alloc ?_ _)); exact BK343.out⟩, ⟨bl⟩⟩
          case rest =>
           clear HC23; (try clear c1); (try clear c2); (try clear p2); (try clear c3); (try clear p3); (try clear q3); (try clear hx3); (try clear c5); (try clear c5b0); (try clear c5b1); (try clear c7); (try clear c18); (try clear c20); (try clear c21); (try clear c21b0); (try clear c22); (try clear c22b0); (try clear c26); (try clear c29); (try clear c30); (try clear c32); (try clear hcz11_0); (try clear hcz11_1); (try clear hcz12_0); (try clear hcz12_1); (try clear hcz14_0); (try clear hcz14_1); (try clear hcz15_0); (try clear hcz15_1); (try clear hcz19_0); (try clear hcz19_1); (try clear hcz24_0); (try clear hcz24_1); (try clear hcz27_0); (try clear hcz27_1); (try clear hcz31_0); (try clear hcz31_1); (try clear hcz33_0); (try clear hcz33_1); (try clear hcz9_0); (try clear hcz9_1); (try clear hfz11_0); (try clear hfz11_1); (try clear hfz12_0); (try clear hfz12_1); (try clear hfz14_0); (try clear hfz14_1); (try clear hfz15_0); (try clear hfz15_1); (try clear hfz19_0); (try clear hfz19_1); (try clear hfz24_0); (try clear hfz24_1); (try clear hfz27_0); (try clear hfz27_1); (try clear hfz31_0); (try clear hfz31_1); (try clear hfz33_0); (try clear hfz33_1); (try clear hfz9_0); (try clear hfz9_1); (try clear hx342_0); (try clear hx342_1); (try clear p342); (try clear q342)
           obtain ⟨kq, x3_22, rfl, HA, HJ22, BK338, BK343, HB⟩ := hcut
           cases kq with
           | zero => exact absurd HA.out (by simp [skewbaldlaw01_sound.j3])
           | succ kj22 =>
            have H := HA.out; clear HA
            simp only [skewbaldlaw01_sound.j3] at H
            have H' := Aside0.mk H; clear H
            go_wp2
            go_loopg [3, 6] kj22 (fun kq v3 v6 w' => ∃ (x3_5 : Bool) (x6_5 : Int), v3 = .bool x3_5 ∧ v6 = .int .i64 x6_5 ∧ Aside0 (skewbaldlaw01_sound.l1 kq x3_5 x4_2 x6_5 l0_0 l0_1 ((rd_T48 l0_0 x4_2).f0) ((rd_T48 l0_0 x4_2).f1) = some r) ∧ Aside0 (kq ≤ kj22) ∧ Aside0 (w'.heap[gb338]? = some (.cells #[(.slice (some ad342) l0_0.length c0_0), (.slice A0_1 l0_1.length c0_1)] 25 (0, 0))) ∧ Aside0 (w'.heap[gb343]? = some (.cells #[.int .i64 ((rd_T48 l0_0 x4_2).f0), (.slice A342_1 ((rd_T48 l0_0 x4_2).f1).length c342_1)] 48 (0, 0))) ∧ Aside0 (Below w.heap.size w w'))
            case atStart => exact ⟨(x3_22), (0), sm, sm, H', ⟨Nat.le_refl _⟩, ⟨bk⟩, ⟨bk⟩, ⟨bl⟩⟩
            case round =>
             clear H'; (try clear c1); (try clear c2); (try clear p2); (try clear c3); (try clear p3); (try clear q3); (try clear hx3); (try clear c5); (try clear c5b0); (try clear c5b1); (try clear c7); (try clear c18); (try clear c20); (try clear c21); (try clear c21b0); (try clear c22); (try clear c22b0); (try clear c26); (try clear c29); (try clear c30); (try clear c32); (try clear hcz11_0); (try clear hcz11_1); (try clear hcz12_0); (try clear hcz12_1); (try clear hcz14_0); (try clear hcz14_1); (try clear hcz15_0); (try clear hcz15_1); (try clear hcz19_0); (try clear hcz19_1); (try clear hcz24_0); (try clear hcz24_1); (try clear hcz27_0); (try clear hcz27_1); (try clear hcz31_0); (try clear hcz31_1); (try clear hcz33_0); (try clear hcz33_1); (try clear hcz9_0); (try clear hcz9_1); (try clear hfz11_0); (try clear hfz11_1); (try clear hfz12_0); (try clear hfz12_1); (try clear hfz14_0); (try clear hfz14_1); (try clear hfz15_0); (try clear hfz15_1); (try clear hfz19_0); (try clear hfz19_1); (try clear hfz24_0); (try clear hfz24_1); (try clear hfz27_0); (try clear hfz27_1); (try clear hfz31_0); (try clear hfz31_1); (try clear hfz33_0); (try clear hfz33_1); (try clear hfz9_0); (try clear hfz9_1); (try clear hx342_0); (try clear hx342_1); (try clear p342); (try clear q342)
             obtain ⟨x3_5, x6_5, rfl, rfl, HA, HK5, BK338, BK343, HB⟩ := hrel
             cases gk with
             | zero => exact absurd HA.out (by simp [skewbaldlaw01_sound.l1])
             | succ k5 =>
              have H := HA.out; clear HA
              simp only [skewbaldlaw01_sound.l1] at H
              by_cases c34 : x3_5 = true
              ·subst c34; rw [if_pos rfl] at H
               by_cases c35 : x6_5 < (((rd_T48 l0_0 x4_2).f1).length : Int)
               ·rw [if_pos c35] at H; have c35b0 := decide_eq_true c35; clear c35
                by_cases c36 : 0 ≤ x6_5
                ·rw [if_pos c36] at H; have c36b0 := decide_eq_true c36; clear c36; obtain ⟨t346, A37, H⟩ := ob H; have H' := Aside0.mk H; clear H; have hnb38 := NB343_338.out; have hnc38 := NB338_343.out; obtain ⟨hcz39_0, hcz39_1, hfz39_0, hfz39_1⟩ := b2 (w := wr) BK343
                 try go_wp2
                 replace BK338 := Aside0.mk (blk_drew BK338.out); replace BK343 := Aside0.mk (blk_drew BK343.out); replace HB := Aside0.mk (below_drew1 HB.out)
                 have p345 : 0 ≤ (x6_5 : Int) := od
                 have q345 : x6_5 < (((rd_T48 l0_0 x4_2).f1).length : Int) := od
                 obtain ⟨ad345, e345, hx345_0, hx345_1⟩ := at_T60 HR342_1.out x6_5 p345 q345; have hw345_1 := hx345_1; have hw345_0 := hx345_0
                 cases e345
                 replace hx345_0 := cm HB hx345_0; replace hx345_1 := cm HB hx345_1; replace p345 := eq_true p345; replace q345 := eq_true q345
                 refine start_ (n := 10) (S := fun w' => w'.cell? ⟨gb343, 0, none⟩ = some (.int .i64 ((rd_T48 l0_0 x4_2).f0)) ∧ w'.cell? ⟨gb343, 1, none⟩ = some (.slice (some ad345) ((rd_T48 l0_0 x4_2).f1).length c342_1) ∧ w'.cell? (ad345.add ((x6_5).toNat * 2)) = some (.int .i64 ((rd_T60 ((rd_T48 l0_0 x4_2).f1) x6_5).f0)) ∧ w'.cell? ⟨(ad345.add ((x6_5).toNat * 2)).block, (ad345.add ((x6_5).toNat * 2)).off + 1, none⟩ = some (.int .i64 ((rd_T60 ((rd_T48 l0_0 x4_2).f1) x6_5).f1))) (ds := []) #[false, false, false, false, false, false, false, false, false, false] (by kernel_rfl) rfl rfl ⟨bq BK343 0, bq BK343 1, (cm HB hw345_0 :), (cm HB hw345_1 :)⟩ (fun hHeld => ?_); refine with_tabW skewbaldlaw01_sound.tab10 skewbaldlaw01_sound.bits10 (fun HT_ HW_ => ?_)
                 generalize wr.drew = w40 at BK338 BK343 HB hx345_0 hx345_1 hHeld ⊢
                 refine pu_ (i := 0) (N := some 58) (qa_ 10 1) ?_
                 refine pu_ (i := 2) (N := some 60) (qa_ 10 5) ?_
                 refine pu_ (i := 5) (N := some 63) (qa_ 10 37) ?_
                 refine tk_ (i := 1) (N := some 59) (qa_ 10 39) hHeld ?_
                 refine pu_ (i := 3) (N := some 61) (qa_ 10 47) ?_
                 refine tk_ (i := 4) (N := some 62) (qa_ 10 63) hHeld ?_
                 refine tk_ (i := 6) (N := some 64) (qa_ 10 127) hHeld ?_
                 refine pu_ (i := 7) (N := some 65) (qa_ 10 255) ?_
                 refine on_ (i := 8) (N := some 66) (qa_ 10 511) (fun K hK => ?_)
                 refine goes_ Tryd.func73 (by kernel_rfl) rfl #[.agg #[.int .i64 ((rd_T60 ((rd_T48 l0_0 x4_2).f1) x6_5).f0), .int .i64 ((rd_T60 ((rd_T48 l0_0 x4_2).f1) x6_5).f1)], .int .i64 0, .int .i64 (wrap64 (((rd_T48 l0_0 x4_2).f0) - 1))] (by rfl) rfl rfl (by (try simp only [List.map_toArray, List.map_cons, List.map_nil]); first | done | rfl | (simp only [List.length_drop, List.length_take]; rfl)) ?_
                 with_reducible refine (skewbaldref00_Ordered.calls ((rd_T60 ((rd_T48 l0_0 x4_2).f1) x6_5).f0) ((rd_T60 ((rd_T48 l0_0 x4_2).f1) x6_5).f1) 0 (wrap64 (((rd_T48 l0_0 x4_2).f0) - 1)) t346 _ A37.out).mono ?_
                 rintro e w41 ⟨rfl, hb⟩
                 refine ⟨_, rfl, ?_⟩
                 replace BK338 := nb BK338 hb; replace BK343 := nb BK343 hb; replace HB := hs HB hb; (try clear hb); (try clear hb2); (try clear hk); (try clear hi)
                 refine hK.out _ _ ⟨bq BK343 0, bq BK343 1, (cm HB hw345_0 :), (cm HB hw345_1 :)⟩ (fun hHeld => ?_)
                 clear hK K
                 refine nm_ (some 66) ?_
                 refine pu_ (i := 9) (N := some 3) (qa_ 10 1023) ?_
                 refine done_ (done_of HT_.out (by kernel_rfl)) ?_
                 try go_wp2
                 go_roundg k5
                 case measure => have := HJ1.out; have := HK2.out; have := HJ16.out; have := HJ22.out; have := HK5.out; omega
                 case rel => exact ⟨(t346), (wrap64 (x6_5 + 1)), sm, sm, H', ⟨by have := HJ1.out; have := HK2.out; have := HJ16.out; have := HJ22.out; have := HK5.out; omega⟩, ⟨bk⟩, ⟨bk⟩, ⟨bl⟩⟩
                ·rw [if_neg c36] at H
                 exact absurd H (by simp)
               ·rw [if_neg c35] at H
                have c35b0 : decide (x6_5 < (((rd_T48 l0_0 x4_2).f1).length : Int)) = false := decide_eq_false c35
                clear c35; have H' := Aside0.mk H; clear H; have hnb42 := NB343_338.out; have hnc42 := NB338_343.out; obtain ⟨hcz43_0, hcz43_1, hfz43_0, hfz43_1⟩ := b2 (w := wr) BK343
                go_wp2
                go_roundg k5
                case measure => have := HJ1.out; have := HK2.out; have := HJ16.out; have := HJ22.out; have := HK5.out; omega
                case rel => exact ⟨(true), (wrap64 (x4_2 + 1)), sm, sm, H', ⟨by have := HJ1.out; have := HK2.out; have := HJ16.out; have := HJ22.out; have := HK5.out; omega⟩, ⟨bk⟩, ⟨bl⟩⟩
              ·replace c34 := Bool.eq_false_iff.mpr c34; subst c34
               rw [if_neg (show ¬ (false = true) by decide)] at H
               have H' := Aside0.mk H; clear H
               go_wp2
               go_roundg k5
               case measure => have := HJ1.out; have := HK2.out; have := HJ16.out; have := HJ22.out; have := HK5.out; omega
               case rel => exact ⟨(false), (wrap64 (x4_2 + 1)), sm, sm, H', ⟨by have := HJ1.out; have := HK2.out; have := HJ16.out; have := HJ22.out; have := HK5.out; omega⟩, ⟨bk⟩, ⟨bl⟩⟩
         ·rw [if_neg c22] at H
          exact absurd H (by simp)
        ·rw [if_neg c21] at H
         exact absurd H (by simp)
       ·replace c20 := Bool.eq_false_iff.mpr c20; subst c20
        rw [if_neg (show ¬ (false = true) by decide)] at H
        have H' := Aside0.mk H; clear H
        go_wp2
        go_loopg [3, 7] kj16 (fun kq v3 v7 w' => ∃ (x3_4 : Bool) (x7_4 : Int), v3 = .bool x3_4 ∧ v7 = .int .i64 x7_4 ∧ Aside0 (skewbaldlaw01_sound.l2 kq x3_4 x7_4 l0_0 l0_1 = some r) ∧ Aside0 (kq ≤ kj16) ∧ Aside0 (w'.heap[gb338]? = some (.cells #[(.slice A0_0 l0_0.length c0_0), (.slice A0_1 l0_1.length c0_1)] 25 (0, 0))) ∧ Aside0 (Below w.heap.size w w'))
        case atStart => exact ⟨(x3_2), (0), sm, sm, H', ⟨Nat.le_refl _⟩, ⟨bk⟩, ⟨bl⟩⟩
        case round =>
         clear H'; (try clear c1); (try clear c2); (try clear p2); (try clear c3); (try clear p3); (try clear q3); (try clear hx3); (try clear c4); (try clear c5); (try clear c5b0); (try clear c5b1); (try clear p6); (try clear c7); (try clear c18); (try clear c20); (try clear c21); (try clear c21b0); (try clear c22); (try clear c22b0); (try clear c26); (try clear c29); (try clear c30); (try clear c32); (try clear c34); (try clear p34); (try clear q34); (try clear hx34); (try clear c35); (try clear c35b0); (try clear c36); (try clear c36b0); (try clear c38); (try clear c42); (try clear hcz11_0); (try clear hcz11_1); (try clear hcz12_0); (try clear hcz12_1); (try clear hcz14_0); (try clear hcz14_1); (try clear hcz15_0); (try clear hcz15_1); (try clear hcz19_0); (try clear hcz19_1); (try clear hcz24_0); (try clear hcz24_1); (try clear hcz27_0); (try clear hcz27_1); (try clear hcz31_0); (try clear hcz31_1); (try clear hcz33_0); (try clear hcz33_1); (try clear hcz39_0); (try clear hcz39_1); (try clear hcz43_0); (try clear hcz43_1); (try clear hcz9_0); (try clear hcz9_1); (try clear hfz11_0); (try clear hfz11_1); (try clear hfz12_0); (try clear hfz12_1); (try clear hfz14_0); (try clear hfz14_1); (try clear hfz15_0); (try clear hfz15_1); (try clear hfz19_0); (try clear hfz19_1); (try clear hfz24_0); (try clear hfz24_1); (try clear hfz27_0); (try clear hfz27_1); (try clear hfz31_0); (try clear hfz31_1); (try clear hfz33_0); (try clear hfz33_1); (try clear hfz39_0); (try clear hfz39_1); (try clear hfz43_0); (try clear hfz43_1); (try clear hfz9_0); (try clear hfz9_1); (try clear hx342_0); (try clear hx342_1); (try clear hx345_0); (try clear hx345_1); (try clear p342); (try clear p345); (try clear q342); (try clear q345)
         obtain ⟨x3_4, x7_4, rfl, rfl, HA, HK4, BK338, HB⟩ := hrel
         cases gk with
         | zero => exact absurd HA.out (by simp [skewbaldlaw01_sound.l2])
         | succ k4 =>
          have H := HA.out; clear HA
          simp only [skewbaldlaw01_sound.l2] at H
          have HC44 := Aside0.mk H; clear H
          go_upto_region 12 with (fail)
          go_cut [74] (fun v74 wc => ∃ (kq : Nat) (x74_43 : Bool), v74 = .bool x74_43 ∧ Aside0 (skewbaldlaw01_sound.j6 kq x3_4 x7_4 x74_43 l0_0 l0_1 = some r) ∧ Aside0 (kq ≤ k4) ∧ Aside0 (wc.heap[gb338]? = some (.cells #[(.slice A0_0 l0_0.length c0_0), (.slice A0_1 l0_1.length c0_1)] 25 (0, 0))) ∧ Aside0 (Below w.heap.size w wc))
          case first =>
           have H := HC44.out; clear HC44
           by_cases c45 : x3_4 = true
           ·subst c45; rw [if_pos rfl] at H; have H' := Aside0.mk H; clear H; obtain ⟨hcz46_0, hcz46_1, hfz46_0, hfz46_1⟩ := b2 (w := wr) BK338
            go_wp2
            go_meet
            case rel => exact ⟨_, (decide (x7_4 < (l0_1.length : Int))), sm, H', ⟨by have := HJ1.out; have := HK2.out; have := HJ16.out; have := HK4.out; first | omega | exact Nat.le_refl _⟩, ⟨bk⟩, ⟨bl⟩⟩
           ·replace c45 := Bool.eq_false_iff.mpr c45; subst c45
            rw [if_neg (show ¬ (false = true) by decide)] at H
            have H' := Aside0.mk H; clear H
            go_wp2
            go_meet
            case rel => exact ⟨_, (false), sm, H', ⟨by have := HJ1.out; have := HK2.out; have := HJ16.out; have := HK4.out; first | omega | exact Nat.le_refl _⟩, ⟨bk⟩, ⟨bl⟩⟩
          case rest =>
           clear HC44; (try clear c1); (try clear c2); (try clear p2); (try clear c3); (try clear p3); (try clear q3); (try clear hx3); (try clear c4); (try clear c5); (try clear c5b0); (try clear c5b1); (try clear p6); (try clear c7); (try clear c18); (try clear c20); (try clear c21); (try clear c21b0); (try clear c22); (try clear c22b0); (try clear c26); (try clear c29); (try clear c30); (try clear c32); (try clear c34); (try clear p34); (try clear q34); (try clear hx34); (try clear c35); (try clear c35b0); (try clear c36); (try clear c36b0); (try clear c38); (try clear c42); (try clear c45); (try clear hcz11_0); (try clear hcz11_1); (try clear hcz12_0); (try clear hcz12_1); (try clear hcz14_0); (try clear hcz14_1); (try clear hcz15_0); (try clear hcz15_1); (try clear hcz19_0); (try clear hcz19_1); (try clear hcz24_0); (try clear hcz24_1); (try clear hcz27_0); (try clear hcz27_1); (try clear hcz31_0); (try clear hcz31_1); (try clear hcz33_0); (try clear hcz33_1); (try clear hcz39_0); (try clear hcz39_1); (try clear hcz43_0); (try clear hcz43_1); (try clear hcz46_0); (try clear hcz46_1); (try clear hcz9_0); (try clear hcz9_1); (try clear hfz11_0); (try clear hfz11_1); (try clear hfz12_0); (try clear hfz12_1); (try clear hfz14_0); (try clear hfz14_1); (try clear hfz15_0); (try clear hfz15_1); (try clear hfz19_0); (try clear hfz19_1); (try clear hfz24_0); (try clear hfz24_1); (try clear hfz27_0); (try clear hfz27_1); (try clear hfz31_0); (try clear hfz31_1); (try clear hfz33_0); (try clear hfz33_1); (try clear hfz39_0); (try clear hfz39_1); (try clear hfz43_0); (try clear hfz43_1); (try clear hfz46_0); (try clear hfz46_1); (try clear hfz9_0); (try clear hfz9_1); (try clear hx342_0); (try clear hx342_1); (try clear hx345_0); (try clear hx345_1); (try clear p342); (try clear p345); (try clear q342); (try clear q345)
           obtain ⟨kq, x74_43, rfl, HA, HJ43, BK338, HB⟩ := hcut
           cases kq with
           | zero => exact absurd HA.out (by simp [skewbaldlaw01_sound.j6])
           | succ kj43 =>
            have H := HA.out; clear HA
            simp only [skewbaldlaw01_sound.j6] at H
            by_cases c47 : x74_43 = true
            ·subst c47; rw [if_pos rfl] at H
             by_cases c48 : 0 ≤ x7_4
             ·rw [if_pos c48] at H; have c48b0 := decide_eq_true c48; clear c48
              by_cases c49 : x7_4 < (l0_1.length : Int)
              ·rw [if_pos c49] at H; have c49b0 := decide_eq_true c49; clear c49; obtain ⟨t349, A50, H⟩ := ob H
               by_cases c51 : t349 = true
               ·subst c51; rw [if_pos rfl] at H
                by_cases c52 : (((rd_T50 l0_1 x7_4).f1).length : Int) ≤ 3
                ·rw [if_pos c52] at H; have c52b0 := decide_eq_true c52
                 have c52b1 : decide (((rd_T50 l0_1 x7_4).f1).length ≤ 3) = true := decide_eq_true (by omega)
                 clear c52; obtain ⟨t350, A53, H⟩ := ob H; have H' := Aside0.mk H; clear H; obtain ⟨hcz54_0, hcz54_1, hfz54_0, hfz54_1⟩ := b2 (w := wc) BK338
                 have p347 : 0 ≤ (x7_4 : Int) := od
                 have q347 : x7_4 < (l0_1.length : Int) := od
                 obtain ⟨ad347, A347_1, c347_1, e347, hx347_0, hx347_1, hx347_2, hl347_1, hi347_1⟩ := at_T50 HR0_1.out x7_4 p347 q347
                 cases e347
                 replace hx347_0 := cm HB hx347_0; replace hx347_1 := cm HB hx347_1; replace hx347_2 := cm HB hx347_2; have HR347_1 := Aside0.mk hi347_1; have HC347_1 := Aside0.mk hl347_1; clear hi347_1 hl347_1; replace p347 := eq_true p347; replace q347 := eq_true q347
                 go_wp2_with (first | ((with_reducible refine gate_dst (N := 8) rfl ?_); (try (refine gate_guard (by rfl) ?_; dsimp only)); refine bx 8 #[.int .i64 0, .slice none 0 0, .bool false] 50 ?_; intro gb348 hg w55 hbox hb; have BK348 := Aside0.mk hbox; have GW348 := gw hg HB; have GE348 := gw hg HB; replace HB := hs HB hb; have NB338_348 := nl hg BK338; have NB348_338 := ng hg BK338; replace BK338 := nb BK338 hb; clear hb hbox hg; have hnb56 := NB348_338.out; have hnc56 := NB338_348.out; obtain ⟨hcz57_0, hcz57_1, hcz57_2, hfz57_0, hfz57_1, hfz57_2⟩ := b3 (w := w55) BK348) | ((with_reducible refine gate_callee (f := 38) rfl ?_); refine gl (some 84) Tryd.func38 #[.int .i64 ((rd_T50 l0_1 x7_4).f0), .int .i64 1, .int .i64 12] ?_; (with_reducible refine (skewbaldref00_In.calls ((rd_T50 l0_1 x7_4).f0) 1 12 true _ A50.out).mono ?_); rintro e w' ⟨rfl, ⟨nd, rfl⟩⟩; refine ⟨_, rfl, ?_⟩) | (go_at_call 39; (with_reducible refine (skewbaldref00_Grows.calls kj43 _ _ ((rd_T50 l0_1 x7_4).f1) ((rd_T50 l0_1 x7_4).f0) t350 _ ?side1 ?side2 A53.out).mono ?_); (case side1 => exact Kd.C_below HR347_1.out bl); (case side2 => exact HC347_1.out); rintro e w' ⟨rfl, ⟨nd, rfl⟩⟩))
                 go_roundg kj43
                 case measure => have := HJ1.out; have := HK2.out; have := HJ16.out; have := HK4.out; have := HJ43.out; omega
                 case rel => exact ⟨(t350), (wrap64 (x7_4 + 1)), sm, sm, H', ⟨by have := HJ1.out; have := HK2.out; have := HJ16.out; have := HK4.out; have := HJ43.out; omega⟩, ⟨by (with_reducible repeat (first | refine blk_drewN ?_ _ | refine blk_drew ?_ | refine blk_alloc ?_ _)); refine blk_far ?_ NB338_348.out _; (with_reducible repeat (first | refine blk_drewN ?_ _ | refine blk_drew ?_ | refine blk_alloc ?_ _)); refine blk_far ?_ NB338_348.out _; (with_reducible repeat (first | refine blk_drewN ?_ _ | refine blk_drew ?_ | refine blk_alloc ?_ _)); refine blk_far ?_ NB338_348.out _; (with_reducible repeat (first | refine blk_drewN ?_ _ | refine blk_drew ?_ | refine blk_alloc ?_ _)); exact BK338.out⟩, ⟨bl⟩⟩
                ·rw [if_neg c52] at H
                 have c52b0 : decide ((((rd_T50 l0_1 x7_4).f1).length : Int) ≤ 3) = false := decide_eq_false c52
                 have c52b1 : decide (((rd_T50 l0_1 x7_4).f1).length ≤ 3) = false := decide_eq_false (by omega)
                 clear c52; have H' := Aside0.mk H; clear H; obtain ⟨hcz58_0, hcz58_1, hfz58_0, hfz58_1⟩ := b2 (w := wc) BK338
                 have p347 : 0 ≤ (x7_4 : Int) := od
                 have q347 : x7_4 < (l0_1.length : Int) := od
                 obtain ⟨ad347, A347_1, c347_1, e347, hx347_0, hx347_1, hx347_2, hl347_1, hi347_1⟩ := at_T50 HR0_1.out x7_4 p347 q347
                 cases e347
                 replace hx347_0 := cm HB hx347_0; replace hx347_1 := cm HB hx347_1; replace hx347_2 := cm HB hx347_2; have HR347_1 := Aside0.mk hi347_1; have HC347_1 := Aside0.mk hl347_1; clear hi347_1 hl347_1; replace p347 := eq_true p347; replace q347 := eq_true q347
                 go_wp2_with (first | ((with_reducible refine gate_dst (N := 8) rfl ?_); (try (refine gate_guard (by rfl) ?_; dsimp only)); refine bx 8 #[.int .i64 0, .slice none 0 0, .bool false] 50 ?_; intro gb348 hg w59 hbox hb; have BK348 := Aside0.mk hbox; have GW348 := gw hg HB; have GE348 := gw hg HB; replace HB := hs HB hb; have NB338_348 := nl hg BK338; have NB348_338 := ng hg BK338; replace BK338 := nb BK338 hb; clear hb hbox hg; have hnb60 := NB348_338.out; have hnc60 := NB338_348.out; obtain ⟨hcz61_0, hcz61_1, hcz61_2, hfz61_0, hfz61_1, hfz61_2⟩ := b3 (w := w59) BK348) | ((with_reducible refine gate_callee (f := 38) rfl ?_); refine gl (some 84) Tryd.func38 #[.int .i64 ((rd_T50 l0_1 x7_4).f0), .int .i64 1, .int .i64 12] ?_; (with_reducible refine (skewbaldref00_In.calls ((rd_T50 l0_1 x7_4).f0) 1 12 true _ A50.out).mono ?_); rintro e w' ⟨rfl, ⟨nd, rfl⟩⟩; refine ⟨_, rfl, ?_⟩))
                 go_roundg kj43
                 case measure => have := HJ1.out; have := HK2.out; have := HJ16.out; have := HK4.out; have := HJ43.out; omega
                 case rel => exact ⟨(false), (wrap64 (x7_4 + 1)), sm, sm, H', ⟨by have := HJ1.out; have := HK2.out; have := HJ16.out; have := HK4.out; have := HJ43.out; omega⟩, ⟨by (with_reducible repeat (first | refine blk_drewN ?_ _ | refine blk_drew ?_ | refine blk_alloc ?_ _)); refine blk_far ?_ NB338_348.out _; (with_reducible repeat (first | refine blk_drewN ?_ _ | refine blk_drew ?_ | refine blk_alloc ?_ _)); refine blk_far ?_ NB338_348.out _; (with_reducible repeat (first | refine blk_drewN ?_ _ | refine blk_drew ?_ | refine blk_alloc ?_ _)); refine blk_far ?_ NB338_348.out _; (with_reducible repeat (first | refine blk_drewN ?_ _ | refine blk_drew ?_ | refine blk_alloc ?_ _)); exact BK338.out⟩, ⟨bl⟩⟩
               ·replace c51 := Bool.eq_false_iff.mpr c51; subst c51
                rw [if_neg (show ¬ (false = true) by decide)] at H
                have H' := Aside0.mk H; clear H; obtain ⟨hcz62_0, hcz62_1, hfz62_0, hfz62_1⟩ := b2 (w := wc) BK338
                have p347 : 0 ≤ (x7_4 : Int) := od
                have q347 : x7_4 < (l0_1.length : Int) := od
                obtain ⟨ad347, A347_1, c347_1, e347, hx347_0, hx347_1, hx347_2, hl347_1, hi347_1⟩ := at_T50 HR0_1.out x7_4 p347 q347
                cases e347
                replace hx347_0 := cm HB hx347_0; replace hx347_1 := cm HB hx347_1; replace hx347_2 := cm HB hx347_2; have HR347_1 := Aside0.mk hi347_1; have HC347_1 := Aside0.mk hl347_1; clear hi347_1 hl347_1; replace p347 := eq_true p347; replace q347 := eq_true q347
                go_wp2_with (first | ((with_reducible refine gate_dst (N := 8) rfl ?_); (try (refine gate_guard (by rfl) ?_; dsimp only)); refine bx 8 #[.int .i64 0, .slice none 0 0, .bool false] 50 ?_; intro gb348 hg w63 hbox hb; have BK348 := Aside0.mk hbox; have GW348 := gw hg HB; have GE348 := gw hg HB; replace HB := hs HB hb; have NB338_348 := nl hg BK338; have NB348_338 := ng hg BK338; replace BK338 := nb BK338 hb; clear hb hbox hg; have hnb64 := NB348_338.out; have hnc64 := NB338_348.out; obtain ⟨hcz65_0, hcz65_1, hcz65_2, hfz65_0, hfz65_1, hfz65_2⟩ := b3 (w := w63) BK348) | ((with_reducible refine gate_callee (f := 38) rfl ?_); refine gl (some 84) Tryd.func38 #[.int .i64 ((rd_T50 l0_1 x7_4).f0), .int .i64 1, .int .i64 12] ?_; (with_reducible refine (skewbaldref00_In.calls ((rd_T50 l0_1 x7_4).f0) 1 12 false _ A50.out).mono ?_); rintro e w' ⟨rfl, ⟨nd, rfl⟩⟩; refine ⟨_, rfl, ?_⟩))
                go_roundg kj43
                case measure => have := HJ1.out; have := HK2.out; have := HJ16.out; have := HK4.out; have := HJ43.out; omega
                case rel => exact ⟨(false), (wrap64 (x7_4 + 1)), sm, sm, H', ⟨by have := HJ1.out; have := HK2.out; have := HJ16.out; have := HK4.out; have := HJ43.out; omega⟩, ⟨by (with_reducible repeat (first | refine blk_drewN ?_ _ | refine blk_drew ?_ | refine blk_alloc ?_ _)); refine blk_far ?_ NB338_348.out _; (with_reducible repeat (first | refine blk_drewN ?_ _ | refine blk_drew ?_ | refine blk_alloc ?_ _)); refine blk_far ?_ NB338_348.out _; (with_reducible repeat (first | refine blk_drewN ?_ _ | refine blk_drew ?_ | refine blk_alloc ?_ _)); refine blk_far ?_ NB338_348.out _; (with_reducible repeat (first | refine blk_drewN ?_ _ | refine blk_drew ?_ | refine blk_alloc ?_ _)); exact BK338.out⟩, ⟨bl⟩⟩
              ·rw [if_neg c49] at H
               exact absurd H (by simp)
             ·rw [if_neg c48] at H
              exact absurd H (by simp)
            ·replace c47 := Bool.eq_false_iff.mpr c47; subst c47
             rw [if_neg (show ¬ (false = true) by decide)] at H
             obtain rfl := Option.some.inj H
             go_wp2
             go_ret
             exact ⟨by first | rfl | (simp [errW_none, errW_some] <;> rfl) | (simp [*, errW_none, errW_some] <;> rfl), bl⟩
mutual
def skewbaldref01_Check.j0 : Nat → Bool → List (S48) → List (S50) → Option (Int)
 | 0, _, _, _ => none
 | k + 1, x3, x106000, x106001 => skewbaldref01_Check.l0 k x3 0 x106000 x106001
def skewbaldref01_Check.l0 : Nat → Bool → Int → List (S48) → List (S50) → Option (Int)
 | 0, _, _, _, _ => none
 | k + 1, x3, x4, x106000, x106001 => if x3 = true then (skewbaldref01_Check.j2 k x3 x4 (decide (x4 < (x106000.length : Int))) x106000 x106001) else (skewbaldref01_Check.j2 k x3 x4 false x106000 x106001)
def skewbaldref01_Check.j2 : Nat → Bool → Int → Bool → List (S48) → List (S50) → Option (Int)
 | 0, _, _, _, _, _ => none
 | k + 1, x3, x4, x26, x106000, x106001 => if x26 = true then (if 0 ≤ x4 then (if x4 < (x106000.length : Int) then ((skewbaldref00_In.f ((rd_T48 x106000 x4).f0) 1 16).bind fun t110 => (if t110 = true then (skewbaldref01_Check.j3 k (decide ((((rd_T48 x106000 x4).f1).length : Int) ≤ 3)) x4 x106000 x106001 ((rd_T48 x106000 x4).f0) ((rd_T48 x106000 x4).f1)) else (skewbaldref01_Check.j3 k false x4 x106000 x106001 ((rd_T48 x106000 x4).f0) ((rd_T48 x106000 x4).f1)))) else (none)) else (none)) else (skewbaldref01_Check.l2 k x3 0 x106000 x106001)
def skewbaldref01_Check.j3 : Nat → Bool → Int → List (S48) → List (S50) → Int → List (S60) → Option (Int)
 | 0, _, _, _, _, _, _ => none
 | k + 1, x3, x4, x106000, x106001, x110000, x110001 => skewbaldref01_Check.l1 k x3 x4 0 x106000 x106001 x110000 x110001
def skewbaldref01_Check.l1 : Nat → Bool → Int → Int → List (S48) → List (S50) → Int → List (S60) → Option (Int)
 | 0, _, _, _, _, _, _, _ => none
 | k + 1, x3, x4, x6, x106000, x106001, x110000, x110001 => if x3 = true then (if x6 < (x110001.length : Int) then (if 0 ≤ x6 then ((skewbaldref00_Ordered.f ((rd_T60 x110001 x6).f0) ((rd_T60 x110001 x6).f1) 0 (wrap64 (x110000 - 1))).bind fun t112 => (if t112 = true then (skewbaldref01_Check.l1 k (decide ((wrap64 (((rd_T60 x110001 x6).f1) - ((rd_T60 x110001 x6).f0))) ≤ 6)) x4 (wrap64 (x6 + 1)) x106000 x106001 x110000 x110001) else (skewbaldref01_Check.l1 k false x4 (wrap64 (x6 + 1)) x106000 x106001 x110000 x110001))) else (none)) else (skewbaldref01_Check.l0 k x3 (wrap64 (x4 + 1)) x106000 x106001)) else (skewbaldref01_Check.l0 k x3 (wrap64 (x4 + 1)) x106000 x106001)
def skewbaldref01_Check.l2 : Nat → Bool → Int → List (S48) → List (S50) → Option (Int)
 | 0, _, _, _, _ => none
 | k + 1, x3, x7, x106000, x106001 => if x3 = true then (skewbaldref01_Check.j6 k x3 x7 (decide (x7 < (x106001.length : Int))) x106000 x106001) else (skewbaldref01_Check.j6 k x3 x7 false x106000 x106001)
def skewbaldref01_Check.j6 : Nat → Bool → Int → Bool → List (S48) → List (S50) → Option (Int)
 | 0, _, _, _, _, _ => none
 | k + 1, x3, x7, x85, x106000, x106001 => if x85 = true then (if 0 ≤ x7 then (if x7 < (x106001.length : Int) then ((skewbaldref00_In.f ((rd_T50 x106001 x7).f0) 1 12).bind fun t117 => (if t117 = true then (if (((rd_T50 x106001 x7).f1).length : Int) ≤ 3 then ((skewbaldref00_Grows.f k ((rd_T50 x106001 x7).f1) ((rd_T50 x106001 x7).f0)).bind fun t118 => (skewbaldref01_Check.l2 k t118 (wrap64 (x7 + 1)) x106000 x106001)) else (skewbaldref01_Check.l2 k false (wrap64 (x7 + 1)) x106000 x106001)) else (skewbaldref01_Check.l2 k false (wrap64 (x7 + 1)) x106000 x106001))) else (none)) else (none)) else (if x3 = true then (some 0) else (some 10))
end
def skewbaldref01_Check.f (k : Nat) (l0_0 : List (S48)) (l0_1 : List (S50)) : Option (Int) := (skewbaldref00_In.f (l0_0.length : Int) 1 3).bind fun t106 => (if t106 = true then ((skewbaldref00_In.f (l0_1.length : Int) 1 5).bind fun t107 => (skewbaldref01_Check.j0 k t107 l0_0 l0_1)) else (skewbaldref01_Check.j0 k false l0_0 l0_1))
def skewbaldref01_Check.T10 : Bool × List (List Nat × List Nat) := (true, [([], []), ([0], [0]), ([], []), ([1, 2], [1, 2]), ([3], [3]), ([], []), ([5], [5]), ([6], [6]), ([4, 7], [4, 7]), ([8, 8], [8]), ([9], [9]), ([10, 9], [9, 10]), ([9], [9]), ([11, 12, 9], [9, 11, 12]), ([13, 9], [9, 13]), ([14, 9], [9, 14]), ([9], [9]), ([16, 9], [9, 16]), ([9], [9]), ([17, 18, 9], [9, 17, 18]), ([19, 9], [9, 19]), ([20, 9], [9, 20]), ([15, 21, 9], [9, 15, 21]), ([22, 9], [9, 22]), ([9, 23], [9, 23]), ([24, 9, 0, 1, 2, 3, 4, 5, 6, 7, 8, 9, 10, 11, 12, 13, 14, 15, 16, 17, 18, 19, 20, 21, 22, 23, 24], [24])])
def skewbaldref01_Check.B10 : List Nat := [0, 1, 0, 7, 15, 0, 32, 96, 255, 511, 1023, 2047, 1023, 8191, 16383, 32767, 1023, 66559, 1023, 459775, 984063, 2032639, 4194303, 8388607, 16777215, 33554431]
theorem skewbaldref01_Check.tab10 : rtab .any (opsOf Tryd.f19 10) = skewbaldref01_Check.T10 := by kernel_rfl
theorem skewbaldref01_Check.bits10 : waitsOk skewbaldref01_Check.T10.2 skewbaldref01_Check.B10 = true := by kernel_rfl
def skewbaldref01_asked.f (k : Nat) (l0_0 : List (S48)) (l0_1 : List (S50)) (a1 : Bool) : Option (Int) := (skewbaldref01_Check.f k l0_0 l0_1).bind fun t120 => (if t120 = 0 then (if a1 = true then (some 0) else (some 11)) else (some t120))
def skewbaldref01_isPlank.f (l0_0 : List (S48)) (l0_1 : List (S50)) (a1 : Int) : Option (Bool) := (skewbaldref00_In.f a1 0 (wrap64 ((l0_0.length : Int) - 1))).bind fun t122 => (some t122)
def skewbaldref01_lies.f (l0_0 : List (S48)) (l0_1 : List (S50)) (a1 : Int) (a2 : Int) (a3 : Int) : Option (Bool) := if 0 ≤ a1 then (if a1 < (l0_0.length : Int) then (if 0 ≤ a2 then (if a2 < (l0_1.length : Int) then ((skewbaldref00_In.f a3 0 (wrap64 (((rd_T48 l0_0 a1).f0) - ((rd_T50 l0_1 a2).f0)))).bind fun t128 => (some t128)) else (none)) else (none)) else (none)) else (none)
def skewbaldref01_joints.l0 : Nat → Int → Bool → List Int → Int → Int → List Int → Bool → Option (List Int)
 | 0, _, _, _, _, _, _, _ => none
 | k + 1, x1, x2, x7, x8, x130000, x130001, x130002 => if x8 < (x130001.length : Int) then (if 0 ≤ x8 then (if x2 = true then (if x7.length < 17592186044416 then (skewbaldref01_joints.l0 k x1 x2 (x7 ++ [wrap64 (x1 + (wrap64 ((wrap64 (x130000 - 1)) - (rd x130001 x8))))]) (wrap64 (x8 + 1)) x130000 x130001 x130002) else (none)) else (if x7.length < 17592186044416 then (skewbaldref01_joints.l0 k x1 x2 (x7 ++ [wrap64 (x1 + (rd x130001 x8))]) (wrap64 (x8 + 1)) x130000 x130001 x130002) else (none))) else (none)) else (some x7)
def skewbaldref01_joints.f (k : Nat) (a0_0 : Int) (l0_1 : List Int) (a0_2 : Bool) (a1 : Int) (a2 : Bool) : Option (List Int) := skewbaldref01_joints.l0 k a1 a2 (([] : List Int)) 0 a0_0 l0_1 a0_2
def skewbaldref00_Find.l0 : Nat → List Int → Int → Int → Option (Int)
 | 0, _, _, _ => none
 | k + 1, x0, x1, x5 => if x5 < (x0.length : Int) then (if 0 ≤ x5 then (if (rd x0 x5) = x1 then (some x5) else (skewbaldref00_Find.l0 k x0 x1 (wrap64 (x5 + 1)))) else (none)) else (some (-1))
def skewbaldref00_Find.f (k : Nat) (l0 : List Int) (a1 : Int) : Option (Int) := skewbaldref00_Find.l0 k l0 a1 0
mutual
def skewbaldref01_sure.l0 : Nat → List Int → Int → Int → List (S60) → Option (Bool)
 | 0, _, _, _, _ => none
 | k + 1, x1, x5, x142000, x142001 => if x5 < (x142001.length : Int) then (if 0 ≤ x5 then (skewbaldref01_sure.l1 k x1 x5 ((rd_T60 x142001 x5).f0) x142000 x142001) else (none)) else (some true)
def skewbaldref01_sure.l1 : Nat → List Int → Int → Int → Int → List (S60) → Option (Bool)
 | 0, _, _, _, _, _ => none
 | k + 1, x1, x5, x6, x142000, x142001 => if 0 ≤ x5 then (if x5 < (x142001.length : Int) then (if x6 ≤ ((rd_T60 x142001 x5).f1) then ((skewbaldref00_Find.f k x1 x6).bind fun t144 => (if t144 ≥ 0 then (some false) else (skewbaldref01_sure.l1 k x1 x5 (wrap64 (x6 + 1)) x142000 x142001))) else (skewbaldref01_sure.l0 k x1 (wrap64 (x5 + 1)) x142000 x142001)) else (none)) else (none)
end
def skewbaldref01_sure.f (k : Nat) (a0_0 : Int) (l0_1 : List (S60)) (l1 : List Int) : Option (Bool) := skewbaldref01_sure.l0 k l1 0 a0_0 l0_1
def skewbaldref00_Round.f (a0 : Int) (a1 : Int) : Option (Int) := if a1 < 1 then (some 0) else (if a1 = 0 then (none) else (if (Int.tmod a0 a1) < 0 then (some (wrap64 ((Int.tmod a0 a1) + a1))) else (some (Int.tmod a0 a1))))
set_option maxHeartbeats 8000000 in
set_option maxRecDepth 100000 in
theorem skewbaldref00_Round.calls (a0 : Int) (a1 : Int) (r : Int) (w : World) (h : skewbaldref00_Round.f a0 a1 = some r) :
  Calls Tryd.prog 35 #[.int .i64 a0, .int .i64 a1] w fun e w' => e = .returned (.int .i64 r) ∧ Drawn0 w w' := by
 have H : (if a1 < 1 then (some 0) else (if a1 = 0 then (none) else (if (Int.tmod a0 a1) < 0 then (some (wrap64 ((Int.tmod a0 a1) + a1))) else (some (Int.tmod a0 a1))))) = some r := h
 clear h
 by_cases c3 : a1 < 1
 ·rw [if_pos c3] at H; have c3b0 := decide_eq_true c3; clear c3; obtain rfl := Option.some.inj H
  go_enter Tryd.func35, Tryd.ntmps35
  go_wp2
  go_ret
  exact ⟨sm, by repeat (first | exact Drawn0.refl _ | apply Drawn0.step)⟩
 ·rw [if_neg c3] at H
  have c3b0 : decide (a1 < 1) = false := decide_eq_false c3
  clear c3
  by_cases c4 : a1 = 0
  ·rw [if_pos c4] at H
   exact absurd H (by simp)
  ·rw [if_neg c4] at H
   have c4b0 : (a1 == 0) = false := beq_eq_false_iff_ne.mpr c4
   have c4b1 : (a1 != 0) = true := bne_iff_ne.mpr c4
   by_cases c5 : (Int.tmod a0 a1) < 0
   ·rw [if_pos c5] at H; have c5b0 := decide_eq_true c5; clear c5; obtain rfl := Option.some.inj H
    go_enter Tryd.func35, Tryd.ntmps35
    go_wp2
    go_ret
    exact ⟨sm, by repeat (first | exact Drawn0.refl _ | apply Drawn0.step)⟩
   ·rw [if_neg c5] at H
    have c5b0 : decide ((Int.tmod a0 a1) < 0) = false := decide_eq_false c5
    clear c5; obtain rfl := Option.some.inj H
    go_enter Tryd.func35, Tryd.ntmps35
    go_wp2
    go_ret
    exact ⟨sm, by repeat (first | exact Drawn0.refl _ | apply Drawn0.step)⟩
def skewbaldref00_Take.f (l0 : List Int) (a1 : Int) : Option (Int) := if (l0.length : Int) = 0 then (some 0) else ((skewbaldref00_Round.f a1 (l0.length : Int)).bind fun t351 => (if 0 ≤ t351 then (if t351 < (l0.length : Int) then (some (rd l0 t351)) else (none)) else (none)))
def skewbaldlaw01_clear.l0 : Nat → Int → Bool → List Int → Int → Int → List Int → Bool → Option (Bool)
 | 0, _, _, _, _, _, _, _ => none
 | k + 1, x1, x2, x3, x9, x366000, x366001, x366002 => if x9 < (x366001.length : Int) then (if 0 ≤ x9 then (if x2 = true then ((skewbaldref00_Find.f k x3 (wrap64 ((wrap64 ((wrap64 (x1 + x366000)) - 1)) - (rd x366001 x9)))).bind fun t368 => (if t368 ≥ 0 then (some false) else (skewbaldlaw01_clear.l0 k x1 x2 x3 (wrap64 (x9 + 1)) x366000 x366001 x366002))) else ((skewbaldref00_Find.f k x3 (wrap64 (x1 + (rd x366001 x9)))).bind fun t369 => (if t369 ≥ 0 then (some false) else (skewbaldlaw01_clear.l0 k x1 x2 x3 (wrap64 (x9 + 1)) x366000 x366001 x366002)))) else (none)) else (some true)
def skewbaldlaw01_clear.f (k : Nat) (a0_0 : Int) (l0_1 : List Int) (a0_2 : Bool) (a1 : Int) (a2 : Bool) (l3 : List Int) : Option (Bool) := skewbaldlaw01_clear.l0 k a1 a2 l3 0 a0_0 l0_1 a0_2
def skewbaldref00_From.f (a0 : Int) (a1 : Int) : Option (Int × Int) := some (a0, a1)
set_option maxHeartbeats 8000000 in
set_option maxRecDepth 100000 in
theorem skewbaldref00_From.calls (a0 : Int) (a1 : Int) (r1 : Int) (r2 : Int) (w : World) (h : skewbaldref00_From.f a0 a1 = some (r1, r2)) :
  Calls Tryd.prog 56 #[.int .i64 a0, .int .i64 a1] w fun e w' => e = .returned (.agg #[.int .i64 r1, .int .i64 r2]) ∧ Below w.heap.size w w' := by
 have hu60 := Tryd.underlying60; have HB := Aside0.mk (Below.refl w.heap.size w)
 have H : (some (a0, a1)) = some (r1, r2) := h
 clear h
 simp only [Option.some.injEq, Prod.mk.injEq] at H
 obtain ⟨rfl, rfl⟩ := H
 go_enter Tryd.func56, Tryd.ntmps56
 go_wp2_with (first | (refine bx 4 #[.int .i64 0, .int .i64 0] 60 ?_; intro gb719 hg w3 hbox hb; have BK719 := Aside0.mk hbox; have GW719 := gw hg HB; have GE719 := gw hg HB; replace HB := hs HB hb; clear hb hbox hg; obtain ⟨hcz4_0, hcz4_1, hfz4_0, hfz4_1⟩ := b2 (w := w3) BK719))
 refine bodyPost_ret (results_cell_row rfl _ _ gb719 60 #[.int .i64 a0, .int .i64 a1] (0, 0) _ rfl (by (with_reducible repeat (first | refine blk_drewN ?_ _ | refine blk_drew ?_ | refine blk_alloc ?_ _)); refine blk_put (cs := #[.int .i64 a0, .int .i64 0]) ?_ 1 _ rfl; (with_reducible repeat (first | refine blk_drewN ?_ _ | refine blk_drew ?_ | refine blk_alloc ?_ _)); refine blk_put (cs := #[.int .i64 0, .int .i64 0]) ?_ 0 _ rfl; (with_reducible repeat (first | refine blk_drewN ?_ _ | refine blk_drew ?_ | refine blk_alloc ?_ _)); exact BK719.out) Tryd.underlying60 rfl (by kernel_rfl)) rfl ?_
 exact ⟨by first | rfl | (simp [errW_none, errW_some] <;> rfl) | (simp [*, errW_none, errW_some] <;> rfl), bl⟩
mutual
def skewbaldlaw01_mirror.l0 : Nat → Int → List (S48) → List (S50) → List (S48) → List (S50) → Option ((List (S48)) × (List (S50)))
 | 0, _, _, _, _, _ => none
 | k + 1, x4, x721000, x721001, x723000, x723001 => if x4 < (x721000.length : Int) then (if 0 ≤ x4 then (skewbaldlaw01_mirror.l1 k x4 0 x721000 x721001 x723000 x723001 ((rd_T48 x721000 x4).f0) ([] : List (S60))) else (none)) else (some (x723000, x723001))
def skewbaldlaw01_mirror.l1 : Nat → Int → Int → List (S48) → List (S50) → List (S48) → List (S50) → Int → List (S60) → Option ((List (S48)) × (List (S50)))
 | 0, _, _, _, _, _, _, _, _ => none
 | k + 1, x4, x6, x721000, x721001, x723000, x723001, x725000, x725001 => if 0 ≤ x4 then (if x4 < (x721000.length : Int) then (if x6 < (((rd_T48 x721000 x4).f1).length : Int) then (if 0 ≤ x6 then ((skewbaldref00_From.f (wrap64 ((wrap64 (x725000 - 1)) - ((rd_T60 ((rd_T48 x721000 x4).f1) x6).f1))) (wrap64 ((wrap64 (x725000 - 1)) - ((rd_T60 ((rd_T48 x721000 x4).f1) x6).f0)))).bind fun bt729 => (if x725001.length < 8796093022208 then (skewbaldlaw01_mirror.l1 k x4 (wrap64 (x6 + 1)) x721000 x721001 x723000 x723001 x725000 (x725001 ++ [(⟨bt729.1, bt729.2⟩ : S60)])) else (none))) else (none)) else (if x723000.length < 4398046511104 then (skewbaldlaw01_mirror.l0 k (wrap64 (x4 + 1)) x721000 x721001 (x723000 ++ [(⟨x725000, x725001⟩ : S48)]) x723001) else (none))) else (none)) else (none)
end
def skewbaldlaw01_mirror.f (k : Nat) (l0_0 : List (S48)) (l0_1 : List (S50)) : Option ((List (S48)) × (List (S50))) := skewbaldlaw01_mirror.l0 k 0 l0_0 l0_1 ([] : List (S48)) l0_1
def skewbaldlaw01_mirror.T11 : Bool × List (List Nat × List Nat) := (true, [([], []), ([0], [0]), ([], []), ([2], [2]), ([3], [3]), ([], []), ([5], [5]), ([4, 6], [4, 6]), ([], []), ([8], [8]), ([9], [9]), ([], []), ([11], [11]), ([10, 12], [10, 12]), ([7, 13], [7, 13]), ([14], [14]), ([1, 15, 14], [1, 15]), ([0, 1, 2, 3, 4, 5, 6, 7, 8, 9, 10, 11, 12, 13, 14, 15, 16], []), ([17, 16, 16, 0, 1, 2, 3, 4, 5, 6, 7, 8, 9, 10, 11, 12, 13, 14, 15, 16], [16, 17])])
def skewbaldlaw01_mirror.B11 : List Nat := [0, 1, 0, 4, 12, 0, 32, 124, 0, 256, 768, 0, 2048, 7936, 16380, 32764, 65535, 131071, 262143]
theorem skewbaldlaw01_mirror.tab11 : rtab .any (opsOf Tryd.f53 11) = skewbaldlaw01_mirror.T11 := by kernel_rfl
theorem skewbaldlaw01_mirror.bits11 : waitsOk skewbaldlaw01_mirror.T11.2 skewbaldlaw01_mirror.B11 = true := by kernel_rfl
set_option maxHeartbeats 8000000 in
set_option maxRecDepth 100000 in
theorem skewbaldlaw01_mirror.calls (k : Nat) (A0_0 : Option Addr) (c0_0 : Nat) (l0_0 : List (S48)) (P0_1_ : Nat → Prop) (A0_1 : Option Addr) (c0_1 : Nat) (l0_1 : List (S50)) (r1 : List (S48)) (r2 : List (S50)) (w : World) (hr0_0 : Kd.C k48 w A0_0 l0_0.length l0_0) (hc0_0 : l0_0.length ≤ c0_0) (hs0_1 : Kd.V k50 50 w w.heap.size (fun k_ => P0_1_ k_) (.slice A0_1 l0_1.length c0_1) l0_1) (h : skewbaldlaw01_mirror.f k l0_0 l0_1 = some (r1, r2)) :
  Calls Tryd.prog 53 #[.agg #[.slice A0_0 l0_0.length c0_0, .slice A0_1 l0_1.length c0_1]] w fun e w' => ∃ v0_ v1_ : Value, e = .returned (.agg #[v0_, v1_]) ∧ Kd.S k48 48 w' w.heap.size (fun k_ => (w.heap.size ≤ k_)) v0_ r1 ∧ Kd.V k50 50 w' w.heap.size (fun k_ => (P0_1_ k_ ∨ w.heap.size ≤ k_) ∧ some k_ ≠ (v0_ : Value).ownBlock) v1_ r2 ∧ Below w.heap.size w w' := by
 have hu25 := Tryd.underlying25; have hu48 := Tryd.underlying48; have hu60 := Tryd.underlying60; have HR0_0 := Aside0.mk hr0_0; have HC0_0 := Aside0.mk hc0_0; clear hr0_0 hc0_0
 have HO0_1 := Aside0.mk (show Kd.V k50 50 w w.heap.size (fun k_ => (P0_1_ k_ ∨ w.heap.size ≤ k_)) (.slice A0_1 l0_1.length c0_1) l0_1 from Kd.V_mono hs0_1 (fun k_ hk => .inl hk))
 have HB := Aside0.mk (Below.refl w.heap.size w)
 have H : (skewbaldlaw01_mirror.l0 k 0 l0_0 l0_1 ([] : List (S48)) l0_1) = some (r1, r2) := h
 clear h; have H' := Aside0.mk H; clear H
 go_enter Tryd.func53, Tryd.ntmps53
 go_wp2_with (first | (refine bx 1 #[.slice A0_0 l0_0.length c0_0, .slice A0_1 l0_1.length c0_1] 25 ?_; intro gb720 hg w2 hbox hb; replace HO0_1 := Aside0.mk (Kd.V_below (Kd.V_elderB (by (with_reducible repeat (first | apply Kd.V_alloc | apply Kd.V_drewN | apply Kd.V_drew)); exact HO0_1.out) gb720 (Nat.le_of_eq hg.symm)) hb); have BK720 := Aside0.mk hbox; have GW720 := gw hg HB; have GE720 := gw hg HB; replace HB := hs HB hb; clear hb hbox hg) | (refine bx 2 #[.slice none 0 0, .slice none 0 0] 25 ?_; intro gb721 hg w3 hbox hb; replace HO0_1 := Aside0.mk (Kd.V_below (Kd.V_elderB (by (with_reducible repeat (first | apply Kd.V_alloc | apply Kd.V_drewN | apply Kd.V_drew)); exact HO0_1.out) gb721 (Nat.le_of_eq hg.symm)) hb); have BK721 := Aside0.mk hbox; have GW721 := gw hg HB; have GE721 := gw hg HB; replace HB := hs HB hb; have NB720_721 := nl hg BK720; have NB721_720 := ng hg BK720; replace BK720 := nb BK720 hb; clear hb hbox hg; have hnb4 := NB720_721.out; have hnc4 := NB721_720.out; obtain ⟨hcz5_0, hcz5_1, hfz5_0, hfz5_1⟩ := b2 (w := w3) BK720) | (refine bx 3 #[.slice none 0 0, .slice none 0 0] 25 ?_; intro gb722 hg w6 hbox hb; replace HO0_1 := Aside0.mk (Kd.V_below (Kd.V_elderB (by (with_reducible repeat (first | apply Kd.V_alloc | apply Kd.V_drewN | apply Kd.V_drew)); exact HO0_1.out) gb722 (Nat.le_of_eq hg.symm)) hb); have BK722 := Aside0.mk hbox; have GW722 := gw hg HB; have GE722 := gw hg HB; replace HB := hs HB hb; have NB720_722 := nl hg BK720; have NB722_720 := ng hg BK720; replace BK720 := nb BK720 hb; have NB721_722 := nl hg BK721; have NB722_721 := ng hg BK721; replace BK721 := nb BK721 hb; clear hb hbox hg; have hnb7 := NB722_720.out; have hnc7 := NB720_722.out; have hnb8 := NB722_721.out; have hnc8 := NB721_722.out; obtain ⟨hcz9_0, hcz9_1, hfz9_0, hfz9_1⟩ := b2 (w := w6) BK722))
 go_loopg [4] k (fun kq v4 w' => ∃ (x4_1 : Int) (x723000_1 : List (S48)) (u723000 : Value), v4 = .int .i64 x4_1 ∧ Aside0 (skewbaldlaw01_mirror.l0 kq x4_1 l0_0 l0_1 x723000_1 l0_1 = some (r1, r2)) ∧ Aside0 (kq ≤ k) ∧ Aside0 (Kd.V k50 50 w' w.heap.size (fun k_ => (P0_1_ k_ ∨ w.heap.size ≤ k_) ∧ some k_ ≠ (u723000 : Value).ownBlock ∧ k_ ≠ gb720 ∧ k_ ≠ gb721 ∧ k_ ≠ gb722) (.slice A0_1 l0_1.length c0_1) l0_1) ∧ Aside0 (Kd.S k48 48 w' w.heap.size (fun k_ => (w.heap.size ≤ k_)) u723000 x723000_1) ∧ Aside0 (Kd.V k50 50 w' w.heap.size (fun k_ => (P0_1_ k_ ∨ w.heap.size ≤ k_) ∧ some k_ ≠ (u723000 : Value).ownBlock ∧ k_ ≠ gb720 ∧ k_ ≠ gb721 ∧ k_ ≠ gb722) (.slice A0_1 l0_1.length c0_1) l0_1) ∧ Aside0 (w'.heap[gb720]? = some (.cells #[(.slice A0_0 l0_0.length c0_0), (.slice A0_1 l0_1.length c0_1)] 25 (0, 0))) ∧ Aside0 (w'.heap[gb721]? = some (.cells #[(.slice none 0 0), (.slice none 0 0)] 25 (0, 0))) ∧ Aside0 (w'.heap[gb722]? = some (.cells #[u723000, (.slice A0_1 l0_1.length c0_1)] 25 (0, 0))) ∧ Aside0 (Below w.heap.size w w'))
 case atStart => exact ⟨(0), (([] : List (S48))), (.slice none 0 0), sm, H', ⟨Nat.le_refl _⟩, ⟨by (with_reducible repeat (first | apply Kd.V_alloc | apply Kd.V_drewN | apply Kd.V_drew)); exact Kd.V_mono (Kd.V_far (p := ⟨gb722, 0, none⟩) (Kd.V_far (p := ⟨gb722, 1, none⟩) (Kd.V_far (p := ⟨gb722, 0, none⟩) (Kd.V_mono HO0_1.out (fun k_ hk => (⟨hk, hk.2⟩ : _ ∧ k_ ≠ gb722))) (fun _ hk => hk.2) (.slice A0_0 l0_0.length c0_0)) (fun _ hk => hk.2) (.slice A0_1 l0_1.length c0_1)) (fun _ hk => hk.2) (.slice none 0 0)) (fun _ hk => ⟨hk.1.1.1.1, ⟨(by simp [Value.ownBlock]), ⟨hk.1.1.1.2, ⟨hk.1.1.2, hk.1.2⟩⟩⟩⟩)⟩, ⟨by first | exact Kd.S_nil _ _ _ _ _ | exact Kd.N_nil _ _ _ _ _ | exact Kd.V_nil _ _ _ _ _ | exact Kd.Q_nil _ _ _ _ _ | exact Kd.R_nil _ _ _ _ _⟩, ⟨by (with_reducible repeat (first | apply Kd.V_alloc | apply Kd.V_drewN | apply Kd.V_drew)); exact Kd.V_mono (Kd.V_far (p := ⟨gb722, 0, none⟩) (Kd.V_far (p := ⟨gb722, 1, none⟩) (Kd.V_far (p := ⟨gb722, 0, none⟩) (Kd.V_mono HO0_1.out (fun k_ hk => (⟨hk, hk.2⟩ : _ ∧ k_ ≠ gb722))) (fun _ hk => hk.2) (.slice A0_0 l0_0.length c0_0)) (fun _ hk => hk.2) (.slice A0_1 l0_1.length c0_1)) (fun _ hk => hk.2) (.slice none 0 0)) (fun _ hk => ⟨hk.1.1.1.1, ⟨(by simp [Value.ownBlock]), ⟨hk.1.1.1.2, ⟨hk.1.1.2, hk.1.2⟩⟩⟩⟩)⟩, ⟨by (with_reducible repeat (first | refine blk_drewN ?_ _ | refine blk_drew ?_ | refine blk_alloc ?_ _)); refine blk_far ?_ NB720_722.out _; (with_reducible repeat (first | refine blk_drewN ?_ _ | refine blk_drew ?_ | refine blk_alloc ?_ _)); refine blk_far ?_ NB720_722.out _; (with_reducible repeat (first | refine blk_drewN ?_ _ | refine blk_drew ?_ | refine blk_alloc ?_ _)); refine blk_far ?_ NB720_722.out _; (with_reducible repeat (first | refine blk_drewN ?_ _ | refine blk_drew ?_ | refine blk_alloc ?_ _)); exact BK720.out⟩, ⟨by (with_reducible repeat (first | refine blk_drewN ?_ _ | refine blk_drew ?_ | refine blk_alloc ?_ _)); refine blk_far ?_ NB721_722.out _; (with_reducible repeat (first | refine blk_drewN ?_ _ | refine blk_drew ?_ | refine blk_alloc ?_ _)); refine blk_far ?_ NB721_722.out _; (with_reducible repeat (first | refine blk_drewN ?_ _ | refine blk_drew ?_ | refine blk_alloc ?_ _)); refine blk_far ?_ NB721_722.out _; (with_reducible repeat (first | refine blk_drewN ?_ _ | refine blk_drew ?_ | refine blk_alloc ?_ _)); exact BK721.out⟩, ⟨by (with_reducible repeat (first | refine blk_drewN ?_ _ | refine blk_drew ?_ | refine blk_alloc ?_ _)); refine blk_put (cs := #[.slice A0_0 l0_0.length c0_0, .slice A0_1 l0_1.length c0_1]) ?_ 0 _ rfl; (with_reducible repeat (first | refine blk_drewN ?_ _ | refine blk_drew ?_ | refine blk_alloc ?_ _)); refine blk_put (cs := #[.slice A0_0 l0_0.length c0_0, .slice none 0 0]) ?_ 1 _ rfl; (with_reducible repeat (first | refine blk_drewN ?_ _ | refine blk_drew ?_ | refine blk_alloc ?_ _)); refine blk_put (cs := #[.slice none 0 0, .slice none 0 0]) ?_ 0 _ rfl; (with_reducible repeat (first | refine blk_drewN ?_ _ | refine blk_drew ?_ | refine blk_alloc ?_ _)); exact BK722.out⟩, ⟨bl⟩⟩
 case round =>
  clear H'; (try clear p2); (try clear c4); (try clear c5); (try clear c7); (try clear c8); (try clear hcz5_0); (try clear hcz5_1); (try clear hcz9_0); (try clear hcz9_1); (try clear hfz5_0); (try clear hfz5_1); (try clear hfz9_0); (try clear hfz9_1); obtain ⟨x4_1, x723000_1, u723000, rfl, HA, HK1, HO_721001, HO_723000, HO_723001, BK720, BK721, BK722, HB⟩ := hrel
  cases gk with
  | zero => exact absurd HA.out (by simp [skewbaldlaw01_mirror.l0])
  | succ k1 =>
   have H := HA.out; clear HA
   simp only [skewbaldlaw01_mirror.l0] at H
   by_cases c10 : x4_1 < (l0_0.length : Int)
   ·rw [if_pos c10] at H; have c10b0 := decide_eq_true c10; clear c10
    by_cases c11 : 0 ≤ x4_1
    ·rw [if_pos c11] at H; have c11b0 := decide_eq_true c11; clear c11; have H' := Aside0.mk H; clear H; have hnb12 := NB720_721.out; have hnc12 := NB721_720.out; have hnb13 := NB720_722.out; have hnc13 := NB722_720.out; obtain ⟨hcz14_0, hcz14_1, hfz14_0, hfz14_1⟩ := b2 (w := wr) BK720
     have p723 : 0 ≤ (x4_1 : Int) := od
     have q723 : x4_1 < (l0_0.length : Int) := od
     obtain ⟨ad723, A723_1, c723_1, e723, hx723_0, hx723_1, hl723_1, hi723_1⟩ := at_T48 HR0_0.out x4_1 p723 q723
     cases e723
     replace hx723_0 := cm HB hx723_0; replace hx723_1 := cm HB hx723_1; have HR723_1 := Aside0.mk hi723_1; have HC723_1 := Aside0.mk hl723_1; clear hi723_1 hl723_1; replace p723 := eq_true p723; replace q723 := eq_true q723
     go_wp2_with (first | (refine bx 5 #[.int .i64 0, .slice none 0 0] 48 ?_; intro gb724 hg w15 hbox hb; replace HO_723000 := Aside0.mk (Kd.S_below (Kd.S_elderB (bS HO_723000) gb724 (Nat.le_of_eq hg.symm)) hb); replace HO_721001 := Aside0.mk (Kd.V_below (Kd.V_elderB (by (with_reducible repeat (first | apply Kd.V_alloc | apply Kd.V_drewN | apply Kd.V_drew)); exact HO_721001.out) gb724 (Nat.le_of_eq hg.symm)) hb); replace HO_723001 := Aside0.mk (Kd.V_below (Kd.V_elderB (by (with_reducible repeat (first | apply Kd.V_alloc | apply Kd.V_drewN | apply Kd.V_drew)); exact HO_723001.out) gb724 (Nat.le_of_eq hg.symm)) hb); have BK724 := Aside0.mk hbox; have GW724 := gw hg HB; have GE724 := gw hg HB; replace HB := hs HB hb; have NB720_724 := nl hg BK720; have NB724_720 := ng hg BK720; replace BK720 := nb BK720 hb; have NB721_724 := nl hg BK721; have NB724_721 := ng hg BK721; replace BK721 := nb BK721 hb; have NB722_724 := nl hg BK722; have NB724_722 := ng hg BK722; replace BK722 := nb BK722 hb; clear hb hbox hg; have hnb16 := NB724_720.out; have hnc16 := NB720_724.out; have hnb17 := NB724_721.out; have hnc17 := NB721_724.out; have hnb18 := NB724_722.out; have hnc18 := NB722_724.out; obtain ⟨hcz19_0, hcz19_1, hfz19_0, hfz19_1⟩ := b2 (w := w15) BK724))
     go_loopg [6] k1 (fun kq v6 w' => ∃ (x6_2 : Int) (x725001_2 : List (S60)) (u725001 : Value), v6 = .int .i64 x6_2 ∧ Aside0 (skewbaldlaw01_mirror.l1 kq x4_1 x6_2 l0_0 l0_1 x723000_1 l0_1 ((rd_T48 l0_0 x4_1).f0) x725001_2 = some (r1, r2)) ∧ Aside0 (kq ≤ k1) ∧ Aside0 (Kd.V k50 50 w' w.heap.size (fun k_ => (P0_1_ k_ ∨ w.heap.size ≤ k_) ∧ some k_ ≠ (u723000 : Value).ownBlock ∧ some k_ ≠ (u725001 : Value).ownBlock ∧ k_ ≠ gb720 ∧ k_ ≠ gb721 ∧ k_ ≠ gb722 ∧ k_ ≠ gb724) (.slice A0_1 l0_1.length c0_1) l0_1) ∧ Aside0 (Kd.S k48 48 w' w.heap.size (fun k_ => (w.heap.size ≤ k_) ∧ some k_ ≠ (u725001 : Value).ownBlock ∧ k_ ≠ gb724) u723000 x723000_1) ∧ Aside0 (Kd.V k50 50 w' w.heap.size (fun k_ => (P0_1_ k_ ∨ w.heap.size ≤ k_) ∧ some k_ ≠ (u723000 : Value).ownBlock ∧ some k_ ≠ (u725001 : Value).ownBlock ∧ k_ ≠ gb720 ∧ k_ ≠ gb721 ∧ k_ ≠ gb722 ∧ k_ ≠ gb724) (.slice A0_1 l0_1.length c0_1) l0_1) ∧ Aside0 (Kd.R k60 60 w' w.heap.size (fun k_ => (w.heap.size ≤ k_)) u725001 x725001_2) ∧ Aside0 (w'.heap[gb720]? = some (.cells #[(.slice (some ad723) l0_0.length c0_0), (.slice A0_1 l0_1.length c0_1)] 25 (0, 0))) ∧ Aside0 (w'.heap[gb721]? = some (.cells #[(.slice none 0 0), (.slice none 0 0)] 25 (0, 0))) ∧ Aside0 (w'.heap[gb722]? = some (.cells #[u723000, (.slice A0_1 l0_1.length c0_1)] 25 (0, 0))) ∧ Aside0 (w'.heap[gb724]? = some (.cells #[.int .i64 ((rd_T48 l0_0 x4_1).f0), u725001] 48 (0, 0))) ∧ Aside0 (Below w.heap.size w w'))
     case atStart => exact ⟨(0), (([] : List (S60))), (.slice none 0 0), sm, H', ⟨Nat.le_refl _⟩, ⟨by (with_reducible repeat (first | apply Kd.V_alloc | apply Kd.V_drewN | apply Kd.V_drew)); exact Kd.V_mono (Kd.V_far (p := ⟨gb724, 1, none⟩) (Kd.V_far (p := ⟨gb724, 0, none⟩) (Kd.V_mono HO_721001.out (fun k_ hk => (⟨hk, hk.2⟩ : _ ∧ k_ ≠ gb724))) (fun _ hk => hk.2) (.int .i64 ((rd_T48 l0_0 x4_1).f0))) (fun _ hk => hk.2) (.slice none 0 0)) (fun _ hk => ⟨hk.1.1.1, ⟨hk.1.1.2.1, ⟨(by simp [Value.ownBlock]), ⟨hk.1.1.2.2.1, ⟨hk.1.1.2.2.2.1, ⟨hk.1.1.2.2.2.2, hk.1.2⟩⟩⟩⟩⟩⟩)⟩, ⟨by (with_reducible repeat (first | apply Kd.S_alloc | apply Kd.S_drewN | apply Kd.S_drew)); exact Kd.S_mono (Kd.S_far (p := ⟨gb724, 1, none⟩) (Kd.S_far (p := ⟨gb724, 0, none⟩) (Kd.S_mono HO_723000.out (fun k_ hk => (⟨hk, hk.2⟩ : _ ∧ k_ ≠ gb724))) (fun _ hk => hk.2) (.int .i64 ((rd_T48 l0_0 x4_1).f0))) (fun _ hk => hk.2) (.slice none 0 0)) (fun _ hk => ⟨hk.1.1, ⟨(by simp [Value.ownBlock]), hk.1.2⟩⟩)⟩, ⟨by (with_reducible repeat (first | apply Kd.V_alloc | apply Kd.V_drewN | apply Kd.V_drew)); exact Kd.V_mono (Kd.V_far (p := ⟨gb724, 1, none⟩) (Kd.V_far (p := ⟨gb724, 0, none⟩) (Kd.V_mono HO_723001.out (fun k_ hk => (⟨hk, hk.2⟩ : _ ∧ k_ ≠ gb724))) (fun _ hk => hk.2) (.int .i64 ((rd_T48 l0_0 x4_1).f0))) (fun _ hk => hk.2) (.slice none 0 0)) (fun _ hk => ⟨hk.1.1.1, ⟨hk.1.1.2.1, ⟨(by simp [Value.ownBlock]), ⟨hk.1.1.2.2.1, ⟨hk.1.1.2.2.2.1, ⟨hk.1.1.2.2.2.2, hk.1.2⟩⟩⟩⟩⟩⟩)⟩, ⟨by first | exact Kd.R_nil _ _ _ _ _ | exact Kd.N_nil _ _ _ _ _ | exact Kd.V_nil _ _ _ _ _ | exact Kd.Q_nil _ _ _ _ _ | exact Kd.S_nil _ _ _ _ _⟩, ⟨by (with_reducible repeat (first | refine blk_drewN ?_ _ | refine blk_drew ?_ | refine blk_alloc ?_ _)); refine blk_far ?_ NB720_724.out _; (with_reducible repeat (first | refine blk_drewN ?_ _ | refine blk_drew ?_ | refine blk_alloc ?_ _)); refine blk_far ?_ NB720_724.out _; (with_reducible repeat (first | refine blk_drewN ?_ _ | refine blk_drew ?_ | refine blk_alloc ?_ _)); exact BK720.out⟩, ⟨by (with_reducible repeat (first | refine blk_drewN ?_ _ | refine blk_drew ?_ | refine blk_alloc ?_ _)); refine blk_far ?_ NB721_724.out _; (with_reducible repeat (first | refine blk_drewN ?_ _ | refine blk_drew ?_ | refine blk_alloc ?_ _)); refine blk_far ?_ NB721_724.out _; (with_reducible repeat (first | refine blk_drewN ?_ _ | refine blk_drew ?_ | refine blk_alloc ?_ _)); exact BK721.out⟩, ⟨by (with_reducible repeat (first | refine blk_drewN ?_ _ | refine blk_drew ?_ | refine blk_alloc ?_ _)); refine blk_far ?_ NB722_724.out _; (with_reducible repeat (first | refine blk_drewN ?_ _ | refine blk_drew ?_ | refine blk_alloc ?_ _)); refine blk_far ?_ NB722_724.out _; (with_reducible repeat (first | refine blk_drewN ?_ _ | refine blk_drew ?_ | refine blk_alloc ?_ _)); exact BK722.out⟩, ⟨by (with_reducible repeat (first | refine blk_drewN ?_ _ | refine blk_drew ?_ | refine blk_alloc ?_ _)); refine blk_put (cs := #[.int .i64 ((rd_T48 l0_0 x4_1).f0), .slice none 0 0]) ?_ 1 _ rfl; (with_reducible repeat (first | refine blk_drewN ?_ _ | refine blk_drew ?_ | refine blk_alloc ?_ _)); refine blk_put (cs := #[.int .i64 0, .slice none 0 0]) ?_ 0 _ rfl; (with_reducible repeat (first | refine blk_drewN ?_ _ | refine blk_drew ?_ | refine blk_alloc ?_ _)); exact BK724.out⟩, ⟨bl⟩⟩
     case round =>
      clear H'; (try clear c1); (try clear p2); (try clear c4); (try clear c5); (try clear c7); (try clear p7); (try clear q7); (try clear hx7); (try clear c8); (try clear c10); (try clear c10b0); (try clear c11); (try clear c11b0); (try clear c12); (try clear c13); (try clear c16); (try clear c17); (try clear c18); (try clear hcz14_0); (try clear hcz14_1); (try clear hcz19_0); (try clear hcz19_1); (try clear hcz5_0); (try clear hcz5_1); (try clear hcz9_0); (try clear hcz9_1); (try clear hfz14_0); (try clear hfz14_1); (try clear hfz19_0); (try clear hfz19_1); (try clear hfz5_0); (try clear hfz5_1); (try clear hfz9_0); (try clear hfz9_1); (try clear hx723_0); (try clear hx723_1); (try clear p723); (try clear q723)
      obtain ⟨x6_2, x725001_2, u725001, rfl, HA, HK2, HO_721001, HO_723000, HO_723001, HO_725001, BK720, BK721, BK722, BK724, HB⟩ := hrel
      cases gk with
      | zero => exact absurd HA.out (by simp [skewbaldlaw01_mirror.l1])
      | succ k2 =>
       have H := HA.out; clear HA
       simp only [skewbaldlaw01_mirror.l1] at H
       by_cases c20 : 0 ≤ x4_1
       ·rw [if_pos c20] at H; have c20b0 := decide_eq_true c20; clear c20
        by_cases c21 : x4_1 < (l0_0.length : Int)
        ·rw [if_pos c21] at H; have c21b0 := decide_eq_true c21; clear c21
         by_cases c22 : x6_2 < (((rd_T48 l0_0 x4_1).f1).length : Int)
         ·rw [if_pos c22] at H; have c22b0 := decide_eq_true c22; clear c22
          by_cases c23 : 0 ≤ x6_2
          ·rw [if_pos c23] at H; have c23b0 := decide_eq_true c23; clear c23; replace H := Option.bind_eq_some_iff.mp H; obtain ⟨⟨t729, t730⟩, A240, H⟩ := H
           replace H : (if x725001_2.length < 8796093022208 then (skewbaldlaw01_mirror.l1 k2 x4_1 (wrap64 (x6_2 + 1)) l0_0 l0_1 x723000_1 l0_1 ((rd_T48 l0_0 x4_1).f0) (x725001_2 ++ [(⟨t729, t730⟩ : S60)])) else (none)) = some (r1, r2) := H
           have A24 := Aside0.mk A240; clear A240
           by_cases c25 : x725001_2.length < 8796093022208
           ·rw [if_pos c25] at H; have LMc25 := Aside0.mk c25; clear c25
            obtain ⟨y731, hy731⟩ : ∃ y_ : List (S60), y_ = (x725001_2 ++ [(⟨t729, t730⟩ : S60)]) := ⟨_, rfl⟩
            replace H : (skewbaldlaw01_mirror.l1 k2 x4_1 (wrap64 (x6_2 + 1)) l0_0 l0_1 x723000_1 l0_1 ((rd_T48 l0_0 x4_1).f0) y731) = some (r1, r2) := tr H hy731
            have Ny731 := Aside0.mk hy731; clear hy731; have H' := Aside0.mk H; clear H; have hnb26 := NB720_721.out; have hnc26 := NB721_720.out; have hnb27 := NB720_722.out; have hnc27 := NB722_720.out; have hnb28 := NB720_724.out; have hnc28 := NB724_720.out; obtain ⟨hcz29_0, hcz29_1, hfz29_0, hfz29_1⟩ := b2 (w := wr) BK720
            have p725 : 0 ≤ (x4_1 : Int) := od
            have q725 : x4_1 < (l0_0.length : Int) := od
            obtain ⟨ad725, A725_1, c725_1, e725, hx725_0, hx725_1, hl725_1, hi725_1⟩ := at_T48 HR0_0.out x4_1 p725 q725
            obtain rfl : ad723 = ad725 := (by injection e725)
            replace hx725_0 := cm HB hx725_0; replace hx725_1 := cm HB hx725_1; have HR725_1 := Aside0.mk hi725_1; have HC725_1 := Aside0.mk hl725_1; clear hi725_1 hl725_1; replace p725 := eq_true p725; replace q725 := eq_true q725
            have p726 : 0 ≤ (x4_1 : Int) := od
            have q726 : x4_1 < (l0_0.length : Int) := od
            obtain ⟨ad726, A726_1, c726_1, e726, hx726_0, hx726_1, hl726_1, hi726_1⟩ := at_T48 HR0_0.out x4_1 p726 q726
            obtain rfl : ad723 = ad726 := (by injection e726)
            replace hx726_0 := cm HB hx726_0; replace hx726_1 := cm HB hx726_1; have HR726_1 := Aside0.mk hi726_1; have HC726_1 := Aside0.mk hl726_1; clear hi726_1 hl726_1; replace p726 := eq_true p726; replace q726 := eq_true q726; have ea_ := Option.some.inj (hx725_1.symm.trans hx726_1)
            injection ea_ with ea_ en_ ec_
            subst ea_; subst ec_; clear en_
            have p727 : 0 ≤ (x6_2 : Int) := od
            have q727 : x6_2 < (((rd_T48 l0_0 x4_1).f1).length : Int) := od
            obtain ⟨ad727, e727, hx727_0, hx727_1⟩ := at_T60 HR726_1.out x6_2 p727 q727
            cases e727
            replace hx727_0 := cm HB hx727_0; replace hx727_1 := cm HB hx727_1; replace p727 := eq_true p727; replace q727 := eq_true q727
            try go_wp2_with (first | (refine bx 7 #[.int .i64 0, .int .i64 0] 60 ?_; intro gb728 hg w30 hbox hb; replace HO_723000 := Aside0.mk (Kd.S_below (Kd.S_elderB (bS HO_723000) gb728 (Nat.le_of_eq hg.symm)) hb); replace HO_721001 := Aside0.mk (Kd.V_below (Kd.V_elderB (by (with_reducible repeat (first | apply Kd.V_alloc | apply Kd.V_drewN | apply Kd.V_drew)); exact HO_721001.out) gb728 (Nat.le_of_eq hg.symm)) hb); replace HO_723001 := Aside0.mk (Kd.V_below (Kd.V_elderB (by (with_reducible repeat (first | apply Kd.V_alloc | apply Kd.V_drewN | apply Kd.V_drew)); exact HO_723001.out) gb728 (Nat.le_of_eq hg.symm)) hb); replace HO_725001 := Aside0.mk (Kd.R_below (Kd.R_elderB (bR HO_725001) gb728 (Nat.le_of_eq hg.symm)) hb); have BK728 := Aside0.mk hbox; have GW728 := gw hg HB; have GE728 := gw hg HB; replace HB := hs HB hb; have NB720_728 := nl hg BK720; have NB728_720 := ng hg BK720; replace BK720 := nb BK720 hb; have NB721_728 := nl hg BK721; have NB728_721 := ng hg BK721; replace BK721 := nb BK721 hb; have NB722_728 := nl hg BK722; have NB728_722 := ng hg BK722; replace BK722 := nb BK722 hb; have NB724_728 := nl hg BK724; have NB728_724 := ng hg BK724; replace BK724 := nb BK724 hb; clear hb hbox hg; have hnb31 := NB728_720.out; have hnc31 := NB720_728.out; have hnb32 := NB728_721.out; have hnc32 := NB721_728.out; have hnb33 := NB728_722.out; have hnc33 := NB722_728.out; have hnb34 := NB728_724.out; have hnc34 := NB724_728.out; obtain ⟨hcz35_0, hcz35_1, hfz35_0, hfz35_1⟩ := b2 (w := w30) BK728))
            have n0_ : Aside0 (Kd.V k50 50 ((w30.setCell ⟨gb728, 0, none⟩ (.int .i64 ((rd_T60 ((rd_T48 l0_0 x4_1).f1) x6_2).f0))).setCell ⟨gb728, 1, none⟩ (.int .i64 ((rd_T60 ((rd_T48 l0_0 x4_1).f1) x6_2).f1))) w.heap.size (fun k_ => (P0_1_ k_ ∨ w.heap.size ≤ k_) ∧ some k_ ≠ (u723000 : Value).ownBlock ∧ some k_ ≠ (u725001 : Value).ownBlock ∧ k_ ≠ gb720 ∧ k_ ≠ gb721 ∧ k_ ≠ gb722 ∧ k_ ≠ gb724 ∧ k_ ≠ gb728) (.slice A0_1 l0_1.length c0_1) l0_1) := ⟨by (with_reducible repeat (first | apply Kd.V_alloc | apply Kd.V_drewN | apply Kd.V_drew)); exact Kd.V_mono (Kd.V_far (p := ⟨gb728, 1, none⟩) (Kd.V_far (p := ⟨gb728, 0, none⟩) (Kd.V_mono HO_721001.out (fun k_ hk => (⟨hk, hk.2⟩ : _ ∧ k_ ≠ gb728))) (fun _ hk => hk.2) (.int .i64 ((rd_T60 ((rd_T48 l0_0 x4_1).f1) x6_2).f0))) (fun _ hk => hk.2) (.int .i64 ((rd_T60 ((rd_T48 l0_0 x4_1).f1) x6_2).f1))) (fun _ hk => ⟨hk.1.1.1, ⟨hk.1.1.2.1, ⟨hk.1.1.2.2.1, ⟨hk.1.1.2.2.2.1, ⟨hk.1.1.2.2.2.2.1, ⟨hk.1.1.2.2.2.2.2.1, ⟨hk.1.1.2.2.2.2.2.2, hk.1.2⟩⟩⟩⟩⟩⟩⟩)⟩
            have n1_ : Aside0 (Kd.S k48 48 ((w30.setCell ⟨gb728, 0, none⟩ (.int .i64 ((rd_T60 ((rd_T48 l0_0 x4_1).f1) x6_2).f0))).setCell ⟨gb728, 1, none⟩ (.int .i64 ((rd_T60 ((rd_T48 l0_0 x4_1).f1) x6_2).f1))) w.heap.size (fun k_ => (w.heap.size ≤ k_) ∧ some k_ ≠ (u725001 : Value).ownBlock ∧ k_ ≠ gb724 ∧ k_ ≠ gb728) u723000 x723000_1) := ⟨by (with_reducible repeat (first | apply Kd.S_alloc | apply Kd.S_drewN | apply Kd.S_drew)); exact Kd.S_mono (Kd.S_far (p := ⟨gb728, 1, none⟩) (Kd.S_far (p := ⟨gb728, 0, none⟩) (Kd.S_mono HO_723000.out (fun k_ hk => (⟨hk, hk.2⟩ : _ ∧ k_ ≠ gb728))) (fun _ hk => hk.2) (.int .i64 ((rd_T60 ((rd_T48 l0_0 x4_1).f1) x6_2).f0))) (fun _ hk => hk.2) (.int .i64 ((rd_T60 ((rd_T48 l0_0 x4_1).f1) x6_2).f1))) (fun _ hk => ⟨hk.1.1.1, ⟨hk.1.1.2.1, ⟨hk.1.1.2.2, hk.1.2⟩⟩⟩)⟩
            have n2_ : Aside0 (Kd.V k50 50 ((w30.setCell ⟨gb728, 0, none⟩ (.int .i64 ((rd_T60 ((rd_T48 l0_0 x4_1).f1) x6_2).f0))).setCell ⟨gb728, 1, none⟩ (.int .i64 ((rd_T60 ((rd_T48 l0_0 x4_1).f1) x6_2).f1))) w.heap.size (fun k_ => (P0_1_ k_ ∨ w.heap.size ≤ k_) ∧ some k_ ≠ (u723000 : Value).ownBlock ∧ some k_ ≠ (u725001 : Value).ownBlock ∧ k_ ≠ gb720 ∧ k_ ≠ gb721 ∧ k_ ≠ gb722 ∧ k_ ≠ gb724 ∧ k_ ≠ gb728) (.slice A0_1 l0_1.length c0_1) l0_1) := ⟨by (with_reducible repeat (first | apply Kd.V_alloc | apply Kd.V_drewN | apply Kd.V_drew)); exact Kd.V_mono (Kd.V_far (p := ⟨gb728, 1, none⟩) (Kd.V_far (p := ⟨gb728, 0, none⟩) (Kd.V_mono HO_723001.out (fun k_ hk => (⟨hk, hk.2⟩ : _ ∧ k_ ≠ gb728))) (fun _ hk => hk.2) (.int .i64 ((rd_T60 ((rd_T48 l0_0 x4_1).f1) x6_2).f0))) (fun _ hk => hk.2) (.int .i64 ((rd_T60 ((rd_T48 l0_0 x4_1).f1) x6_2).f1))) (fun _ hk => ⟨hk.1.1.1, ⟨hk.1.1.2.1, ⟨hk.1.1.2.2.1, ⟨hk.1.1.2.2.2.1, ⟨hk.1.1.2.2.2.2.1, ⟨hk.1.1.2.2.2.2.2.1, ⟨hk.1.1.2.2.2.2.2.2, hk.1.2⟩⟩⟩⟩⟩⟩⟩)⟩
            have n3_ : Aside0 (Kd.R k60 60 ((w30.setCell ⟨gb728, 0, none⟩ (.int .i64 ((rd_T60 ((rd_T48 l0_0 x4_1).f1) x6_2).f0))).setCell ⟨gb728, 1, none⟩ (.int .i64 ((rd_T60 ((rd_T48 l0_0 x4_1).f1) x6_2).f1))) w.heap.size (fun k_ => (w.heap.size ≤ k_) ∧ k_ ≠ gb728) u725001 x725001_2) := ⟨by (with_reducible repeat (first | apply Kd.R_alloc | apply Kd.R_drewN | apply Kd.R_drew)); exact Kd.R_mono (Kd.R_far (p := ⟨gb728, 1, none⟩) (Kd.R_far (p := ⟨gb728, 0, none⟩) (Kd.R_mono HO_725001.out (fun k_ hk => (⟨hk, hk.2⟩ : _ ∧ k_ ≠ gb728))) (fun _ hk => hk.2) (.int .i64 ((rd_T60 ((rd_T48 l0_0 x4_1).f1) x6_2).f0))) (fun _ hk => hk.2) (.int .i64 ((rd_T60 ((rd_T48 l0_0 x4_1).f1) x6_2).f1))) (fun _ hk => ⟨hk.1.1, hk.1.2⟩)⟩
            have n4_ : Aside0 (((w30.setCell ⟨gb728, 0, none⟩ (.int .i64 ((rd_T60 ((rd_T48 l0_0 x4_1).f1) x6_2).f0))).setCell ⟨gb728, 1, none⟩ (.int .i64 ((rd_T60 ((rd_T48 l0_0 x4_1).f1) x6_2).f1))).heap[gb720]? = some (.cells #[.slice (some ad723) l0_0.length c0_0, .slice A0_1 l0_1.length c0_1] 25 (0, 0))) := ⟨by (with_reducible repeat (first | refine blk_drewN ?_ _ | refine blk_drew ?_ | refine blk_alloc ?_ _)); refine blk_far ?_ NB720_728.out _; (with_reducible repeat (first | refine blk_drewN ?_ _ | refine blk_drew ?_ | refine blk_alloc ?_ _)); refine blk_far ?_ NB720_728.out _; (with_reducible repeat (first | refine blk_drewN ?_ _ | refine blk_drew ?_ | refine blk_alloc ?_ _)); exact BK720.out⟩
            have n5_ : Aside0 (((w30.setCell ⟨gb728, 0, none⟩ (.int .i64 ((rd_T60 ((rd_T48 l0_0 x4_1).f1) x6_2).f0))).setCell ⟨gb728, 1, none⟩ (.int .i64 ((rd_T60 ((rd_T48 l0_0 x4_1).f1) x6_2).f1))).heap[gb721]? = some (.cells #[.slice none 0 0, .slice none 0 0] 25 (0, 0))) := ⟨by (with_reducible repeat (first | refine blk_drewN ?_ _ | refine blk_drew ?_ | refine blk_alloc ?_ _)); refine blk_far ?_ NB721_728.out _; (with_reducible repeat (first | refine blk_drewN ?_ _ | refine blk_drew ?_ | refine blk_alloc ?_ _)); refine blk_far ?_ NB721_728.out _; (with_reducible repeat (first | refine blk_drewN ?_ _ | refine blk_drew ?_ | refine blk_alloc ?_ _)); exact BK721.out⟩
            have n6_ : Aside0 (((w30.setCell ⟨gb728, 0, none⟩ (.int .i64 ((rd_T60 ((rd_T48 l0_0 x4_1).f1) x6_2).f0))).setCell ⟨gb728, 1, none⟩ (.int .i64 ((rd_T60 ((rd_T48 l0_0 x4_1).f1) x6_2).f1))).heap[gb722]? = some (.cells #[u723000, .slice A0_1 l0_1.length c0_1] 25 (0, 0))) := ⟨by (with_reducible repeat (first | refine blk_drewN ?_ _ | refine blk_drew ?_ | refine blk_alloc ?_ _)); refine blk_far ?_ NB722_728.out _; (with_reducible repeat (first | refine blk_drewN ?_ _ | refine blk_drew ?_ | refine blk_alloc ?_ _)); refine blk_far ?_ NB722_728.out _; (with_reducible repeat (first | refine blk_drewN ?_ _ | refine blk_drew ?_ | refine blk_alloc ?_ _)); exact BK722.out⟩
            have n7_ : Aside0 (((w30.setCell ⟨gb728, 0, none⟩ (.int .i64 ((rd_T60 ((rd_T48 l0_0 x4_1).f1) x6_2).f0))).setCell ⟨gb728, 1, none⟩ (.int .i64 ((rd_T60 ((rd_T48 l0_0 x4_1).f1) x6_2).f1))).heap[gb724]? = some (.cells #[.int .i64 ((rd_T48 l0_0 x4_1).f0), u725001] 48 (0, 0))) := ⟨by (with_reducible repeat (first | refine blk_drewN ?_ _ | refine blk_drew ?_ | refine blk_alloc ?_ _)); refine blk_far ?_ NB724_728.out _; (with_reducible repeat (first | refine blk_drewN ?_ _ | refine blk_drew ?_ | refine blk_alloc ?_ _)); refine blk_far ?_ NB724_728.out _; (with_reducible repeat (first | refine blk_drewN ?_ _ | refine blk_drew ?_ | refine blk_alloc ?_ _)); exact BK724.out⟩
            have n8_ : Aside0 (((w30.setCell ⟨gb728, 0, none⟩ (.int .i64 ((rd_T60 ((rd_T48 l0_0 x4_1).f1) x6_2).f0))).setCell ⟨gb728, 1, none⟩ (.int .i64 ((rd_T60 ((rd_T48 l0_0 x4_1).f1) x6_2).f1))).heap[gb728]? = some (.cells #[.int .i64 ((rd_T60 ((rd_T48 l0_0 x4_1).f1) x6_2).f0), .int .i64 ((rd_T60 ((rd_T48 l0_0 x4_1).f1) x6_2).f1)] 60 (0, 0))) := ⟨by (with_reducible repeat (first | refine blk_drewN ?_ _ | refine blk_drew ?_ | refine blk_alloc ?_ _)); refine blk_put (cs := #[.int .i64 ((rd_T60 ((rd_T48 l0_0 x4_1).f1) x6_2).f0), .int .i64 0]) ?_ 1 _ rfl; (with_reducible repeat (first | refine blk_drewN ?_ _ | refine blk_drew ?_ | refine blk_alloc ?_ _)); refine blk_put (cs := #[.int .i64 0, .int .i64 0]) ?_ 0 _ rfl; (with_reducible repeat (first | refine blk_drewN ?_ _ | refine blk_drew ?_ | refine blk_alloc ?_ _)); exact BK728.out⟩
            have n9_ : Aside0 (Below w.heap.size w ((w30.setCell ⟨gb728, 0, none⟩ (.int .i64 ((rd_T60 ((rd_T48 l0_0 x4_1).f1) x6_2).f0))).setCell ⟨gb728, 1, none⟩ (.int .i64 ((rd_T60 ((rd_T48 l0_0 x4_1).f1) x6_2).f1)))) := ⟨bl⟩
            (try clear HO_721001); (try clear HO_723000); (try clear HO_723001); (try clear HO_725001); (try clear BK720); (try clear BK721); (try clear BK722); (try clear BK724); (try clear BK728); (try clear HB)
            generalize ((w30.setCell ⟨gb728, 0, none⟩ (.int .i64 ((rd_T60 ((rd_T48 l0_0 x4_1).f1) x6_2).f0))).setCell ⟨gb728, 1, none⟩ (.int .i64 ((rd_T60 ((rd_T48 l0_0 x4_1).f1) x6_2).f1))) = w36 at n0_ n1_ n2_ n3_ n4_ n5_ n6_ n7_ n8_ n9_ ⊢
            have HO_721001 := n0_; have HO_723000 := n1_; have HO_723001 := n2_; have HO_725001 := n3_; have BK720 := n4_; have BK721 := n5_; have BK722 := n6_; have BK724 := n7_; have BK728 := n8_; have HB := n9_; clear n0_ n1_ n2_ n3_ n4_ n5_ n6_ n7_ n8_ n9_; replace HO_721001 := Aside0.mk (Kd.V_drew HO_721001.out); replace HO_723000 := Aside0.mk (Kd.S_drew HO_723000.out); replace HO_723001 := Aside0.mk (Kd.V_drew HO_723001.out); replace HO_725001 := Aside0.mk (Kd.R_drew HO_725001.out); replace BK720 := Aside0.mk (blk_drew BK720.out); replace BK721 := Aside0.mk (blk_drew BK721.out); replace BK722 := Aside0.mk (blk_drew BK722.out)
            replace BK724 := Aside0.mk (blk_drew BK724.out); replace BK728 := Aside0.mk (blk_drew BK728.out); replace HB := Aside0.mk (below_drew1 HB.out)
            refine start_ (n := 19) (S := fun w' => w'.cell? ⟨gb724, 0, none⟩ = some (.int .i64 ((rd_T48 l0_0 x4_1).f0)) ∧ w'.cell? ⟨gb724, 1, none⟩ = some (u725001) ∧ w'.cell? ⟨gb728, 0, none⟩ = some (.int .i64 ((rd_T60 ((rd_T48 l0_0 x4_1).f1) x6_2).f0)) ∧ w'.cell? ⟨gb728, 1, none⟩ = some (.int .i64 ((rd_T60 ((rd_T48 l0_0 x4_1).f1) x6_2).f1))) (ds := [18]) #[false, false, false, false, false, false, false, false, false, false, false, false, false, false, false, false, false, false, false] (by kernel_rfl) rfl rfl ⟨bq BK724 0, bq BK724 1, bq BK728 0, bq BK728 1⟩ (fun hHeld => ?_); refine with_tabW skewbaldlaw01_mirror.tab11 skewbaldlaw01_mirror.bits11 (fun HT_ HW_ => ?_)
            generalize w36.drew = w37 at HO_721001 HO_723000 HO_723001 HO_725001 BK720 BK721 BK722 BK724 BK728 HB hHeld ⊢
            refine pu_ (i := 0) (N := some 44) (qa_ 19 1) ?_
            refine pu_ (i := 2) (N := some 46) (qa_ 19 5) ?_
            refine pu_ (i := 5) (N := some 49) (qa_ 19 37) ?_
            refine pu_ (i := 8) (N := some 52) (qa_ 19 293) ?_
            refine pu_ (i := 11) (N := some 55) (qa_ 19 2341) ?_
            refine tk_ (i := 1) (N := some 45) (qa_ 19 2343) hHeld ?_
            refine tk_ (i := 3) (N := some 47) (qa_ 19 2351) hHeld ?_
            refine pu_ (i := 4) (N := some 48) (qa_ 19 2367) ?_
            refine tk_ (i := 6) (N := some 50) (qa_ 19 2431) hHeld ?_
            refine pu_ (i := 7) (N := some 51) (qa_ 19 2559) ?_
            refine tk_ (i := 9) (N := some 53) (qa_ 19 3071) hHeld ?_
            refine pu_ (i := 10) (N := some 54) (qa_ 19 4095) ?_
            refine tk_ (i := 12) (N := some 56) (qa_ 19 8191) hHeld ?_
            refine pu_ (i := 13) (N := some 57) (qa_ 19 16383) ?_
            refine on_ (i := 14) (N := some 58) (qa_ 19 32767) (fun K hK => ?_)
            refine goes_ Tryd.func56 (by kernel_rfl) rfl #[.int .i64 (wrap64 ((wrap64 (((rd_T48 l0_0 x4_1).f0) - 1)) - ((rd_T60 ((rd_T48 l0_0 x4_1).f1) x6_2).f1))), .int .i64 (wrap64 ((wrap64 (((rd_T48 l0_0 x4_1).f0) - 1)) - ((rd_T60 ((rd_T48 l0_0 x4_1).f1) x6_2).f0)))] (by rfl) rfl rfl (by (try simp only [List.map_toArray, List.map_cons, List.map_nil]); first | done | rfl | (simp only [List.length_drop, List.length_take]; rfl)) ?_
            with_reducible refine (skewbaldref00_From.calls (wrap64 ((wrap64 (((rd_T48 l0_0 x4_1).f0) - 1)) - ((rd_T60 ((rd_T48 l0_0 x4_1).f1) x6_2).f1))) (wrap64 ((wrap64 (((rd_T48 l0_0 x4_1).f0) - 1)) - ((rd_T60 ((rd_T48 l0_0 x4_1).f1) x6_2).f0))) t729 t730 _ A24.out).mono ?_
            rintro e w38 ⟨rfl, hb⟩
            refine ⟨_, rfl, ?_⟩
            replace HO_723000 := Aside0.mk (Kd.S_below (bS HO_723000) hb)
            replace HO_721001 := Aside0.mk (Kd.V_below (by (with_reducible repeat (first | apply Kd.V_alloc | apply Kd.V_drewN | apply Kd.V_drew)); exact HO_721001.out) hb)
            replace HO_723001 := Aside0.mk (Kd.V_below (by (with_reducible repeat (first | apply Kd.V_alloc | apply Kd.V_drewN | apply Kd.V_drew)); exact HO_723001.out) hb)
            replace HO_725001 := Aside0.mk (Kd.R_below (bR HO_725001) hb); replace BK720 := nb BK720 hb; replace BK721 := nb BK721 hb; replace BK722 := nb BK722 hb; replace BK724 := nb BK724 hb; replace BK728 := nb BK728 hb; replace HB := hs HB hb; (try clear hb); (try clear hb2); (try clear hk); (try clear hi)
            refine hK.out _ _ ⟨bq BK724 0, bq BK724 1, bq BK728 0, bq BK728 1⟩ (fun hHeld => ?_)
            clear hK K
            refine nm_ (some 58) ?_
            refine on_ (i := 15) (N := some 59) (qa_ 19 65535) (fun K hK => ?_)
            refine value_ (w1 := ?_) (v := ?_) (by rfl) rfl ?_ ?_
            rotate_left 2
            ·go_simp
             constructor
             ·rfl
             ·rfl
            refine hK.out _ _ ⟨(blk_cell (blk_alloc BK724.out _) 0).trans rfl, (blk_cell (blk_alloc BK724.out _) 1).trans rfl, (blk_cell (blk_alloc BK728.out _) 0).trans rfl, (blk_cell (blk_alloc BK728.out _) 1).trans rfl⟩ (fun hHeld => ?_)
            clear hK K
            refine nm_ (some 59) ?_
            refine on_ (i := 16) (N := some 60) (qa_ 19 131071) (fun K hK => ?_)
            refine Kd.R_append_step k60 (w0 := w) w.heap.size (by rfl) (.tmp 45) (.tmp 59) 46 60 (.agg #[(.int .i64 0), (.int .i64 0)]) 16 rfl Tryd.underlying46 info60 rfl (by decide) (by omega) u725001 x725001_2 (⟨t729, t730⟩ : S60) [.int .i64 t729, .int .i64 t730] (fun k_ => (w.heap.size ≤ k_) ∧ k_ ≠ gb728) (fun _ => False) rfl rfl ?aP (fun _ hk => hk.elim) ?aF ?aO ?aB ?aS ?aL ?_
            (case aP => exact k60_mkM _ _ _ (⟨t729, t730⟩ : S60))
            (case aB => exact bl)
            (case aF => exact (fun k_ hk => ⟨(Nat.le_trans (below_size bl) hk), Kd.freshB (g := gb728) (o := .cells #[.int .i64 ((rd_T60 ((rd_T48 l0_0 x4_1).f1) x6_2).f0), .int .i64 ((rd_T60 ((rd_T48 l0_0 x4_1).f1) x6_2).f1)] 60 (0, 0)) bk k_ hk⟩))
            (case aO => exact (bR HO_725001))
            (case aS => exact (below_size bl))
            (case aL => have := LMc25.out; omega)
            intro v732 w39 ho hb hg hat
            rw [← Ny731.out] at ho
            have n0_ := Aside0.mk (Kd.V_afterv (ok := (fun k_ => (P0_1_ k_ ∨ w.heap.size ≤ k_) ∧ some k_ ≠ (u723000 : Value).ownBlock ∧ k_ ≠ gb720 ∧ k_ ≠ gb721 ∧ k_ ≠ gb722 ∧ k_ ≠ gb724 ∧ k_ ≠ gb728)) (by (with_reducible repeat (first | apply Kd.V_alloc | apply Kd.V_drewN | apply Kd.V_drew)); exact Kd.V_mono HO_721001.out (fun _ hk => ⟨⟨hk.1, ⟨hk.2.1, ⟨hk.2.2.2.1, ⟨hk.2.2.2.2.1, ⟨hk.2.2.2.2.2.1, ⟨hk.2.2.2.2.2.2.1, hk.2.2.2.2.2.2.2⟩⟩⟩⟩⟩⟩, hk.2.2.1⟩)) hg hat)
            have n1_ := Aside0.mk (Kd.S_after (ok := (fun k_ => (w.heap.size ≤ k_) ∧ k_ ≠ gb724 ∧ k_ ≠ gb728)) (by (with_reducible repeat (first | apply Kd.S_alloc | apply Kd.S_drewN | apply Kd.S_drew)); exact Kd.S_mono HO_723000.out (fun _ hk => ⟨⟨hk.1, ⟨hk.2.2.1, hk.2.2.2⟩⟩, hk.2.1⟩)) hg hat)
            have n2_ := Aside0.mk (Kd.V_afterv (ok := (fun k_ => (P0_1_ k_ ∨ w.heap.size ≤ k_) ∧ some k_ ≠ (u723000 : Value).ownBlock ∧ k_ ≠ gb720 ∧ k_ ≠ gb721 ∧ k_ ≠ gb722 ∧ k_ ≠ gb724 ∧ k_ ≠ gb728)) (by (with_reducible repeat (first | apply Kd.V_alloc | apply Kd.V_drewN | apply Kd.V_drew)); exact Kd.V_mono HO_723001.out (fun _ hk => ⟨⟨hk.1, ⟨hk.2.1, ⟨hk.2.2.2.1, ⟨hk.2.2.2.2.1, ⟨hk.2.2.2.2.2.1, ⟨hk.2.2.2.2.2.2.1, hk.2.2.2.2.2.2.2⟩⟩⟩⟩⟩⟩, hk.2.2.1⟩)) hg hat)
            have n3_ := Aside0.mk (blk_grown (g := gb720) (o := .cells #[.slice (some ad723) l0_0.length c0_0, .slice A0_1 l0_1.length c0_1] 25 (0, 0)) bk hg (Kd.R_ne HO_725001.out BK720.out (by decide)))
            have n4_ := Aside0.mk (blk_grown (g := gb721) (o := .cells #[.slice none 0 0, .slice none 0 0] 25 (0, 0)) bk hg (Kd.R_ne HO_725001.out BK721.out (by decide)))
            have n5_ := Aside0.mk (blk_grown (g := gb722) (o := .cells #[u723000, .slice A0_1 l0_1.length c0_1] 25 (0, 0)) bk hg (Kd.R_ne HO_725001.out BK722.out (by decide)))
            have n6_ := Aside0.mk (blk_grown (g := gb724) (o := .cells #[.int .i64 ((rd_T48 l0_0 x4_1).f0), u725001] 48 (0, 0)) bk hg (Kd.R_ne HO_725001.out BK724.out (by decide)))
            have n7_ := Aside0.mk (blk_grown (g := gb728) (o := .cells #[.int .i64 ((rd_T60 ((rd_T48 l0_0 x4_1).f1) x6_2).f0), .int .i64 ((rd_T60 ((rd_T48 l0_0 x4_1).f1) x6_2).f1)] 60 (0, 0)) bk hg (Kd.R_away HO_725001.out (fun _ hk => hk.2)))
            have n8_ := Aside0.mk (hb); have n9_ := Aside0.mk (ho); clear HO_721001; clear HO_723000; clear HO_723001; clear BK720; clear BK721; clear BK722; clear BK724; clear BK728; clear HB; clear HO_725001; have HO_721001 := n0_; have HO_723000 := n1_; have HO_723001 := n2_; have BK720 := n3_; have BK721 := n4_; have BK722 := n5_; have BK724 := n6_; have BK728 := n7_; have HB := n8_; have HO733 := n9_; clear n0_ n1_ n2_ n3_ n4_ n5_ n6_ n7_ n8_ n9_; clear ho hb hg hat; obtain ⟨Ao40, co40, eo40⟩ := Kd.R_slice HO733.out
            (first | subst eo40 | (injection eo40 with f1_ f2_ f3_; have f4_ := f1_.symm; have f5_ := f3_.symm; clear f1_ f2_ f3_; subst f4_; subst f5_))
            refine hK.out _ _ ⟨bq BK724 0, bq BK724 1, bq BK728 0, bq BK728 1⟩ (fun hHeld => ?_)
            clear hK K
            refine nm_ (some 60) ?_
            refine pu_ (i := 17) (N := some 61) (qa_ 19 262143) ?_
            refine last_ (i := 18) (N := none) (qa_ 19 524287) rfl rfl (one_of HT_.out (by kernel_rfl)) (by decide) (fun K hK => ?_)
            have hs41 : w39.cell? ⟨gb724, 1, none⟩ = some (u725001) := (blk_cell BK724.out 1).trans rfl
            have hfs41 := blk_frozen BK724.out 1; have hns41_0 := NB720_724.out; have hns41_1 := NB721_724.out; have hns41_2 := NB722_724.out; have hns41_4 := NB728_724.out; have hms41_0 := NB724_720.out; have hms41_1 := NB724_721.out; have hms41_2 := NB724_722.out; have hms41_4 := NB724_728.out
            refine skip_ (w1 := ?_) (by rfl) rfl ?_ ?_
            rotate_left
            ·go_simp
             rfl
            refine hK.out _ _ ?_
            clear hK K
            refine done_ (done_of HT_.out (by kernel_rfl)) ?_
            try go_wp2
            go_roundg k2
            case measure => have := HK1.out; have := HK2.out; omega
            case rel => exact ⟨(wrap64 (x6_2 + 1)), (y731), (.slice Ao40 y731.length co40), sm, H', ⟨lp HK1 HK2⟩, ⟨by (with_reducible repeat (first | apply Kd.V_alloc | apply Kd.V_drewN | apply Kd.V_drew)); exact Kd.V_mono (Kd.V_far (p := ⟨gb724, 1, none⟩) (Kd.V_mono HO_721001.out (fun k_ hk => (⟨hk, hk.1.2.2.2.2.2.1⟩ : _ ∧ k_ ≠ gb724))) (fun _ hk => hk.2) (.slice Ao40 y731.length co40)) (fun _ hk => ⟨hk.1.1.1, ⟨hk.1.1.2.1, ⟨hk.1.2, ⟨hk.1.1.2.2.1, ⟨hk.1.1.2.2.2.1, ⟨hk.1.1.2.2.2.2.1, hk.1.1.2.2.2.2.2.1⟩⟩⟩⟩⟩⟩)⟩, ⟨by (with_reducible repeat (first | apply Kd.S_alloc | apply Kd.S_drewN | apply Kd.S_drew)); exact Kd.S_mono (Kd.S_far (p := ⟨gb724, 1, none⟩) (Kd.S_mono HO_723000.out (fun k_ hk => (⟨hk, hk.1.2.1⟩ : _ ∧ k_ ≠ gb724))) (fun _ hk => hk.2) (.slice Ao40 y731.length co40)) (fun _ hk => ⟨hk.1.1.1, ⟨hk.1.2, hk.1.1.2.1⟩⟩)⟩, ⟨by (with_reducible repeat (first | apply Kd.V_alloc | apply Kd.V_drewN | apply Kd.V_drew)); exact Kd.V_mono (Kd.V_far (p := ⟨gb724, 1, none⟩) (Kd.V_mono HO_723001.out (fun k_ hk => (⟨hk, hk.1.2.2.2.2.2.1⟩ : _ ∧ k_ ≠ gb724))) (fun _ hk => hk.2) (.slice Ao40 y731.length co40)) (fun _ hk => ⟨hk.1.1.1, ⟨hk.1.1.2.1, ⟨hk.1.2, ⟨hk.1.1.2.2.1, ⟨hk.1.1.2.2.2.1, ⟨hk.1.1.2.2.2.2.1, hk.1.1.2.2.2.2.2.1⟩⟩⟩⟩⟩⟩)⟩, ⟨by (with_reducible repeat (first | apply Kd.R_alloc | apply Kd.R_drewN | apply Kd.R_drew)); exact Kd.R_mono (Kd.R_far (p := ⟨gb724, 1, none⟩) (Kd.R_types HO733.out BK724.out (by decide)) (fun _ hk => hk.2) (.slice Ao40 y731.length co40)) (fun _ hk => hk.1.1)⟩, ⟨by (with_reducible repeat (first | refine blk_drewN ?_ _ | refine blk_drew ?_ | refine blk_alloc ?_ _)); refine blk_far ?_ NB720_724.out _; (with_reducible repeat (first | refine blk_drewN ?_ _ | refine blk_drew ?_ | refine blk_alloc ?_ _)); exact BK720.out⟩, ⟨by (with_reducible repeat (first | refine blk_drewN ?_ _ | refine blk_drew ?_ | refine blk_alloc ?_ _)); refine blk_far ?_ NB721_724.out _; (with_reducible repeat (first | refine blk_drewN ?_ _ | refine blk_drew ?_ | refine blk_alloc ?_ _)); exact BK721.out⟩, ⟨by (with_reducible repeat (first | refine blk_drewN ?_ _ | refine blk_drew ?_ | refine blk_alloc ?_ _)); refine blk_far ?_ NB722_724.out _; (with_reducible repeat (first | refine blk_drewN ?_ _ | refine blk_drew ?_ | refine blk_alloc ?_ _)); exact BK722.out⟩, ⟨by (with_reducible repeat (first | refine blk_drewN ?_ _ | refine blk_drew ?_ | refine blk_alloc ?_ _)); refine blk_put (cs := #[.int .i64 ((rd_T48 l0_0 x4_1).f0), u725001]) ?_ 1 _ rfl; (with_reducible repeat (first | refine blk_drewN ?_ _ | refine blk_drew ?_ | refine blk_alloc ?_ _)); exact BK724.out⟩, ⟨bl⟩⟩
           ·rw [if_neg c25] at H
            exact absurd H (by simp)
          ·rw [if_neg c23] at H
           exact absurd H (by simp)
         ·rw [if_neg c22] at H
          have c22b0 : decide (x6_2 < (((rd_T48 l0_0 x4_1).f1).length : Int)) = false := decide_eq_false c22
          clear c22
          by_cases c42 : x723000_1.length < 4398046511104
          ·rw [if_pos c42] at H; have LMc42 := Aside0.mk c42; clear c42
           obtain ⟨y734, hy734⟩ : ∃ y_ : List (S48), y_ = (x723000_1 ++ [(⟨((rd_T48 l0_0 x4_1).f0), x725001_2⟩ : S48)]) := ⟨_, rfl⟩
           replace H : (skewbaldlaw01_mirror.l0 k2 (wrap64 (x4_1 + 1)) l0_0 l0_1 y734 l0_1) = some (r1, r2) := tr H hy734
           have Ny734 := Aside0.mk hy734; clear hy734; have H' := Aside0.mk H; clear H; have hnb43 := NB720_721.out; have hnc43 := NB721_720.out; have hnb44 := NB720_722.out; have hnc44 := NB722_720.out; have hnb45 := NB720_724.out; have hnc45 := NB724_720.out; obtain ⟨hcz46_0, hcz46_1, hfz46_0, hfz46_1⟩ := b2 (w := wr) BK720
           have p725 : 0 ≤ (x4_1 : Int) := od
           have q725 : x4_1 < (l0_0.length : Int) := od
           obtain ⟨ad725, A725_1, c725_1, e725, hx725_0, hx725_1, hl725_1, hi725_1⟩ := at_T48 HR0_0.out x4_1 p725 q725
           obtain rfl : ad723 = ad725 := (by injection e725)
           replace hx725_0 := cm HB hx725_0; replace hx725_1 := cm HB hx725_1; have HR725_1 := Aside0.mk hi725_1; have HC725_1 := Aside0.mk hl725_1; clear hi725_1 hl725_1; replace p725 := eq_true p725; replace q725 := eq_true q725; have hnb47 := NB722_721.out; have hnc47 := NB721_722.out; have hnb48 := NB722_724.out; have hnc48 := NB724_722.out; obtain ⟨hcz49_0, hcz49_1, hfz49_0, hfz49_1⟩ := b2 (w := wr) BK722; have hnb50 := NB724_721.out; have hnc50 := NB721_724.out; obtain ⟨hcz51_0, hcz51_1, hfz51_0, hfz51_1⟩ := b2 (w := wr) BK724; obtain ⟨Ao53, co53, eo53⟩ := Kd.R_slice HO_725001.out; subst eo53
           go_wp2_with (first | ((with_reducible refine gate_builtin (b := .append) (xs := #[.tmp 63, .tmp 65]) rfl ?_); at_builtin; refine Kd.S_append k48 (w0 := w) w.heap.size rfl (.tmp 63) (.tmp 65) 22 48 (.agg #[(.int .i64 0), (.slice none 0 0)]) 32 rfl Tryd.underlying22 info48 rfl (by decide) (by omega) u723000 x723000_1 (⟨((rd_T48 l0_0 x4_1).f0), x725001_2⟩ : S48) [.int .i64 ((rd_T48 l0_0 x4_1).f0), .slice Ao53 x725001_2.length co53] (fun k_ => (w.heap.size ≤ k_) ∧ k_ ≠ gb724) (fun k_ => some k_ = (.slice Ao53 x725001_2.length co53 : Value).ownBlock) rfl rfl ?aP (fun k_ hk_ => ((Kd.R_mono (ok' := fun k_ => ((fun k_ => (w.heap.size ≤ k_) ∧ k_ ≠ gb724)) k_ ∧ some k_ ≠ (u723000 : Value).ownBlock) (Kd.R_types (Kd.R_apart' (HO_725001.out) (Kd.S_typed HO_723000.out) (by decide)) BK724.out (by decide)) (fun k_ hk => ⟨⟨hk.1.1, hk.2⟩, hk.1.2⟩))).1 k_ hk_.symm) ?aF ?aO ?aB ?aS ?aL ?_; (case aP => exact k48_mkM _ _ _ (⟨((rd_T48 l0_0 x4_1).f0), x725001_2⟩ : S48) (Kd.R_mono (Kd.R_tight rfl (Kd.R_mono (ok' := fun k_ => ((fun k_ => (w.heap.size ≤ k_) ∧ k_ ≠ gb724)) k_ ∧ some k_ ≠ (u723000 : Value).ownBlock) (Kd.R_types (Kd.R_apart' (HO_725001.out) (Kd.S_typed HO_723000.out) (by decide)) BK724.out (by decide)) (fun k_ hk => ⟨⟨hk.1.1, hk.2⟩, hk.1.2⟩))) (fun _ h_ => h_))); (case aB => exact bl); (case aF => exact (fun k_ hk => ⟨(Nat.le_trans (below_size bl) hk), Kd.freshB (g := gb724) (o := .cells #[.int .i64 ((rd_T48 l0_0 x4_1).f0), .slice Ao53 x725001_2.length co53] 48 (0, 0)) bk k_ hk⟩)); (case aO => exact (by (with_reducible repeat (first | apply Kd.S_alloc | apply Kd.S_drewN | apply Kd.S_drew)); exact Kd.S_mono HO_723000.out (fun k_ hk => ⟨⟨hk.1, hk.2.2⟩, fun e_ => hk.2.1 e_⟩))); (case aS => exact (below_size bl)); (case aL => have := LMc42.out; omega); intro v735 w52 ho hb hg hat; rw [← Ny734.out] at ho; have n0_ := Aside0.mk (Kd.V_afterv (ok := (fun k_ => (P0_1_ k_ ∨ w.heap.size ≤ k_) ∧ some k_ ≠ (.slice Ao53 x725001_2.length co53 : Value).ownBlock ∧ k_ ≠ gb720 ∧ k_ ≠ gb721 ∧ k_ ≠ gb722 ∧ k_ ≠ gb724)) (by (with_reducible repeat (first | apply Kd.V_alloc | apply Kd.V_drewN | apply Kd.V_drew)); exact Kd.V_mono HO_721001.out (fun _ hk => ⟨⟨hk.1, ⟨hk.2.2.1, ⟨hk.2.2.2.1, ⟨hk.2.2.2.2.1, ⟨hk.2.2.2.2.2.1, hk.2.2.2.2.2.2⟩⟩⟩⟩⟩, hk.2.1⟩)) hg hat); have n1_ := Aside0.mk (Kd.V_afterv (ok := (fun k_ => (P0_1_ k_ ∨ w.heap.size ≤ k_) ∧ some k_ ≠ (.slice Ao53 x725001_2.length co53 : Value).ownBlock ∧ k_ ≠ gb720 ∧ k_ ≠ gb721 ∧ k_ ≠ gb722 ∧ k_ ≠ gb724)) (by (with_reducible repeat (first | apply Kd.V_alloc | apply Kd.V_drewN | apply Kd.V_drew)); exact Kd.V_mono HO_723001.out (fun _ hk => ⟨⟨hk.1, ⟨hk.2.2.1, ⟨hk.2.2.2.1, ⟨hk.2.2.2.2.1, ⟨hk.2.2.2.2.2.1, hk.2.2.2.2.2.2⟩⟩⟩⟩⟩, hk.2.1⟩)) hg hat); have n2_ := Aside0.mk (blk_grown (g := gb720) (o := .cells #[.slice (some ad723) l0_0.length c0_0, .slice A0_1 l0_1.length c0_1] 25 (0, 0)) bk hg (Kd.S_ne HO_723000.out BK720.out (by decide))); have n3_ := Aside0.mk (blk_grown (g := gb721) (o := .cells #[.slice none 0 0, .slice none 0 0] 25 (0, 0)) bk hg (Kd.S_ne HO_723000.out BK721.out (by decide))); have n4_ := Aside0.mk (blk_grown (g := gb722) (o := .cells #[u723000, .slice A0_1 l0_1.length c0_1] 25 (0, 0)) bk hg (Kd.S_ne HO_723000.out BK722.out (by decide))); have n5_ := Aside0.mk (blk_grown (g := gb724) (o := .cells #[.int .i64 ((rd_T48 l0_0 x4_1).f0), .slice Ao53 x725001_2.length co53] 48 (0, 0)) bk hg (Kd.S_away HO_723000.out (fun _ hk => hk.2.2))); have n6_ := Aside0.mk (hb); have n7_ := Aside0.mk (ho); clear HO_721001; clear HO_723001; clear BK720; clear BK721; clear BK722; clear BK724; clear HB; clear HO_723000; clear HO_725001; have HO_721001 := n0_; have HO_723001 := n1_; have BK720 := n2_; have BK721 := n3_; have BK722 := n4_; have BK724 := n5_; have HB := n6_; have HO736 := n7_; clear n0_ n1_ n2_ n3_ n4_ n5_ n6_ n7_; clear ho hb hg hat; obtain ⟨Ao54, co54, eo54⟩ := Kd.S_slice HO736.out; subst eo54; obtain ⟨hcz55_0, hcz55_1, hfz55_0, hfz55_1⟩ := b2 (w := w52) BK722))
           go_roundg k2
           case measure => have := HK1.out; have := HK2.out; omega
           case rel => exact ⟨(wrap64 (x4_1 + 1)), (y734), (.slice Ao54 y734.length co54), sm, H', ⟨lp HK1 HK2⟩, ⟨by (with_reducible repeat (first | apply Kd.V_alloc | apply Kd.V_drewN | apply Kd.V_drew)); exact Kd.V_mono (Kd.V_far (p := ⟨gb722, 0, none⟩) (Kd.V_mono HO_721001.out (fun k_ hk => (⟨hk, hk.1.2.2.2.2.1⟩ : _ ∧ k_ ≠ gb722))) (fun _ hk => hk.2) (.slice Ao54 y734.length co54)) (fun _ hk => ⟨hk.1.1.1, ⟨hk.1.2, ⟨hk.1.1.2.2.1, ⟨hk.1.1.2.2.2.1, hk.1.1.2.2.2.2.1⟩⟩⟩⟩)⟩, ⟨by (with_reducible repeat (first | apply Kd.S_alloc | apply Kd.S_drewN | apply Kd.S_drew)); exact Kd.S_mono (Kd.S_far (p := ⟨gb722, 0, none⟩) (Kd.S_types HO736.out BK722.out (by decide)) (fun _ hk => hk.2) (.slice Ao54 y734.length co54)) (fun _ hk => hk.1.1)⟩, ⟨by (with_reducible repeat (first | apply Kd.V_alloc | apply Kd.V_drewN | apply Kd.V_drew)); exact Kd.V_mono (Kd.V_far (p := ⟨gb722, 0, none⟩) (Kd.V_mono HO_723001.out (fun k_ hk => (⟨hk, hk.1.2.2.2.2.1⟩ : _ ∧ k_ ≠ gb722))) (fun _ hk => hk.2) (.slice Ao54 y734.length co54)) (fun _ hk => ⟨hk.1.1.1, ⟨hk.1.2, ⟨hk.1.1.2.2.1, ⟨hk.1.1.2.2.2.1, hk.1.1.2.2.2.2.1⟩⟩⟩⟩)⟩, ⟨by (with_reducible repeat (first | refine blk_drewN ?_ _ | refine blk_drew ?_ | refine blk_alloc ?_ _)); refine blk_far ?_ NB720_722.out _; (with_reducible repeat (first | refine blk_drewN ?_ _ | refine blk_drew ?_ | refine blk_alloc ?_ _)); exact BK720.out⟩, ⟨by (with_reducible repeat (first | refine blk_drewN ?_ _ | refine blk_drew ?_ | refine blk_alloc ?_ _)); refine blk_far ?_ NB721_722.out _; (with_reducible repeat (first | refine blk_drewN ?_ _ | refine blk_drew ?_ | refine blk_alloc ?_ _)); exact BK721.out⟩, ⟨by (with_reducible repeat (first | refine blk_drewN ?_ _ | refine blk_drew ?_ | refine blk_alloc ?_ _)); refine blk_put (cs := #[u723000, .slice A0_1 l0_1.length c0_1]) ?_ 0 _ rfl; (with_reducible repeat (first | refine blk_drewN ?_ _ | refine blk_drew ?_ | refine blk_alloc ?_ _)); exact BK722.out⟩, ⟨bl⟩⟩
          ·rw [if_neg c42] at H
           exact absurd H (by simp)
        ·rw [if_neg c21] at H
         exact absurd H (by simp)
       ·rw [if_neg c20] at H
        exact absurd H (by simp)
    ·rw [if_neg c11] at H
     exact absurd H (by simp)
   ·rw [if_neg c10] at H
    have c10b0 : decide (x4_1 < (l0_0.length : Int)) = false := decide_eq_false c10
    clear c10
    simp only [Option.some.injEq, Prod.mk.injEq] at H
    obtain ⟨rfl, rfl⟩ := H; have hnb56 := NB720_721.out; have hnc56 := NB721_720.out; have hnb57 := NB720_722.out; have hnc57 := NB722_720.out; obtain ⟨hcz58_0, hcz58_1, hfz58_0, hfz58_1⟩ := b2 (w := wr) BK720; have hnb59 := NB722_721.out; have hnc59 := NB721_722.out; obtain ⟨hcz60_0, hcz60_1, hfz60_0, hfz60_1⟩ := b2 (w := wr) BK722; obtain ⟨Ao61, co61, eo61⟩ := Kd.S_slice HO_723000.out; subst eo61; obtain ⟨hcz62_0, hcz62_1, hfz62_0, hfz62_1⟩ := b2 (w := wr) BK721
    go_wp2
    refine bodyPost_ret (results_cell_row rfl _ _ gb721 25 #[.slice Ao61 x723000_1.length co61, .slice A0_1 l0_1.length c0_1] (0, 0) _ rfl (by (with_reducible repeat (first | refine blk_drewN ?_ _ | refine blk_drew ?_ | refine blk_alloc ?_ _)); refine blk_put (cs := #[.slice Ao61 x723000_1.length co61, .slice none 0 0]) ?_ 1 _ rfl; (with_reducible repeat (first | refine blk_drewN ?_ _ | refine blk_drew ?_ | refine blk_alloc ?_ _)); refine blk_put (cs := #[.slice none 0 0, .slice none 0 0]) ?_ 0 _ rfl; (with_reducible repeat (first | refine blk_drewN ?_ _ | refine blk_drew ?_ | refine blk_alloc ?_ _)); exact BK721.out) Tryd.underlying25 rfl (by kernel_rfl)) rfl ?_
    exact ⟨_, _, by first | rfl | (simp [errW_none, errW_some] <;> rfl) | (simp [*, errW_none, errW_some] <;> rfl), by (with_reducible repeat (first | apply Kd.S_alloc | apply Kd.S_drewN | apply Kd.S_drew)); exact Kd.S_mono (Kd.S_far (p := ⟨gb721, 1, none⟩) (Kd.S_far (p := ⟨gb721, 0, none⟩) (Kd.S_types HO_723000.out BK721.out (by decide)) (fun _ hk => hk.2) (.slice Ao61 x723000_1.length co61)) (fun _ hk => hk.2) (.slice A0_1 l0_1.length c0_1)) (fun _ hk => hk.1), by (with_reducible repeat (first | apply Kd.V_alloc | apply Kd.V_drewN | apply Kd.V_drew)); exact Kd.V_mono (Kd.V_far (p := ⟨gb721, 1, none⟩) (Kd.V_far (p := ⟨gb721, 0, none⟩) (Kd.V_mono HO_723001.out (fun k_ hk => (⟨hk, hk.2.2.2.1⟩ : _ ∧ k_ ≠ gb721))) (fun _ hk => hk.2) (.slice Ao61 x723000_1.length co61)) (fun _ hk => hk.2) (.slice A0_1 l0_1.length c0_1)) (fun _ hk => ⟨hk.1.1, hk.1.2.1⟩), bl⟩
end Go.Proofs.YtekjlpldooihhaaDoor.PT
