/- Printed by a program (prx.py). -/
import Derived.Test.YtekjlpldooihhaaDoorRw
import Derived.Test.YtekjlpldooihhaaDoorKn
import Derived.Test.YtekjlpldooihhaaDoorPTx2
import Derived.Test.YtekjlpldooihhaaDoorPTx5
namespace Go.Proofs.YtekjlpldooihhaaDoor.PT
open Go.Proofs.YtekjlpldooihhaaDoorSh
open Go.Proofs.YtekjlpldooihhaaDoor.PA (S48 S50 S60 at_L2 at_L4 at_T48 at_T50 at_T60 errW errW_none errW_some k48 k48_mk k48_mkM k48_open k48_openM k50 k50_mk k50_mkM k50_open k50_openM k60 k60_mk k60_mkM k60_open k60_openM rd_L2 rd_L4 rd_T48 rd_T50 rd_T60 z48 z50 z60)
open Go.Proofs.YtekjlpldooihhaaDoorP Go.Proofs.YtekjlpldooihhaaDoorK
open Go.RowKit Go.Proofs.YtekjlpldooihhaaDoorW.PrintWords Go.Proofs.YtekjlpldooihhaaDoorW.PrintLast Go.Proofs.YtekjlpldooihhaaDoorW.PrintMore
attribute [local go_sem] max2_int min2_int max_two min_two max_three min_three max_four min_four
set_option linter.unusedVariables false
set_option linter.unusedSimpArgs false
def skewbaldref01_Lacks.l0 : Nat → List (List Int) → Int → List (S48) → List (S50) → Option (Int × Int)
 | 0, _, _, _, _ => none
 | k + 1, x5, x6, x275000, x275001 => if x6 < (x275001.length : Int) then ((skewbaldref01_every.f k x275000 x275001).bind fun t279 => (if 0 ≤ (wrap64 (x6 + 1)) then ((skewbaldref01_given.f k x5 t279 (wrap64 ((shl .i64 1 (wrap64 (x6 + 1))) - 1))).bind fun t282 => (if t282 = true then (skewbaldref01_Lacks.l0 k x5 (wrap64 (x6 + 1)) x275000 x275001) else (some (x6, 0)))) else (none))) else (some (0, 4))
def skewbaldref01_Lacks.f (k : Nat) (l0_0 : List (S48)) (l0_1 : List (S50)) : Option (Int × Int) := (skewbaldref01_Check.f k l0_0 l0_1).bind fun t275 => (if t275 = 0 then ((skewbaldref01_tables.f k l0_0 l0_1).bind fun t276 => (skewbaldref01_Lacks.l0 k t276 0 l0_0 l0_1)) else (some (0, t275)))
def skewbaldref01_Lacks.T8 : Bool × List (List Nat × List Nat) := (true, [([], []), ([], []), ([1], [1]), ([], []), ([3], [3]), ([4], [4]), ([5], [5]), ([0, 2, 6, 2], [0, 2, 6]), ([7], [7])])
def skewbaldref01_Lacks.B8 : List Nat := [0, 0, 2, 0, 8, 24, 56, 127, 255]
theorem skewbaldref01_Lacks.tab8 : rtab .any (opsOf Tryd.f31 8) = skewbaldref01_Lacks.T8 := by kernel_rfl
theorem skewbaldref01_Lacks.bits8 : waitsOk skewbaldref01_Lacks.T8.2 skewbaldref01_Lacks.B8 = true := by kernel_rfl
set_option maxHeartbeats 8000000 in
set_option maxRecDepth 100000 in
theorem skewbaldref01_Lacks.calls (k : Nat) (A0_0 : Option Addr) (c0_0 : Nat) (l0_0 : List (S48)) (A0_1 : Option Addr) (c0_1 : Nat) (l0_1 : List (S50)) (r1 : Int) (r2 : Int) (w : World) (hr0_0 : Kd.C k48 w A0_0 l0_0.length l0_0) (hc0_0 : l0_0.length ≤ c0_0) (hr0_1 : Kd.C k50 w A0_1 l0_1.length l0_1) (hc0_1 : l0_1.length ≤ c0_1) (h : skewbaldref01_Lacks.f k l0_0 l0_1 = some (r1, r2)) :
  Calls Tryd.prog 31 #[.agg #[.slice A0_0 l0_0.length c0_0, .slice A0_1 l0_1.length c0_1]] w fun e w' => e = .returned (.tuple #[.int .i64 r1, .int .i64 r2]) ∧ Below w.heap.size w w' := by
 have hu25 := Tryd.underlying25; have HR0_0 := Aside0.mk hr0_0; have HC0_0 := Aside0.mk hc0_0; clear hr0_0 hc0_0; have HR0_1 := Aside0.mk hr0_1; have HC0_1 := Aside0.mk hc0_1; clear hr0_1 hc0_1; have HB := Aside0.mk (Below.refl w.heap.size w)
 have H : ((skewbaldref01_Check.f k l0_0 l0_1).bind fun t275 => (if t275 = 0 then ((skewbaldref01_tables.f k l0_0 l0_1).bind fun t276 => (skewbaldref01_Lacks.l0 k t276 0 l0_0 l0_1)) else (some (0, t275)))) = some (r1, r2) := h
 clear h; obtain ⟨t275, A2, H⟩ := ob H
 replace H : (if t275 = 0 then ((skewbaldref01_tables.f k l0_0 l0_1).bind fun t276 => (skewbaldref01_Lacks.l0 k t276 0 l0_0 l0_1)) else (some (0, t275))) = some (r1, r2) := H
 by_cases c3 : t275 = 0
 ·rw [if_pos c3] at H
  have c3b0 : (t275 == 0) = true := beq_iff_eq.mpr c3
  have c3b1 : (t275 != 0) = false := bne_eq_false_iff_eq.mpr c3
  clear c3; obtain ⟨t276, A4, H⟩ := ob H
  replace H : (skewbaldref01_Lacks.l0 k t276 0 l0_0 l0_1) = some (r1, r2) := H
  have H' := Aside0.mk H; clear H
  go_enter Tryd.func31, Tryd.ntmps31
  go_wp2_with (first | (refine bx 1 #[.slice A0_0 l0_0.length c0_0, .slice A0_1 l0_1.length c0_1] 25 ?_; intro gb274 hg w5 hbox hb; have BK274 := Aside0.mk hbox; have GW274 := gw hg HB; have GE274 := gw hg HB; replace HB := hs HB hb; clear hb hbox hg; obtain ⟨hcz6_0, hcz6_1, hfz6_0, hfz6_1⟩ := b2 (w := w5) BK274) | ((with_reducible refine gate_callee (f := 19) rfl ?_); refine gl (some 8) Tryd.func19 #[.agg #[.slice A0_0 l0_0.length c0_0, .slice A0_1 l0_1.length c0_1]] ?_; (with_reducible refine (skewbaldref01_Check.calls k _ _ l0_0 _ _ l0_1 t275 _ cl HC0_0.out cl HC0_1.out A2.out).mono ?_); rintro e w7 ⟨rfl, hb⟩; refine ⟨_, rfl, ?_⟩; replace BK274 := nb BK274 hb; replace HB := hs HB hb; (try clear hb); (try clear hb2); (try clear hk); (try clear hi); obtain ⟨hcz8_0, hcz8_1, hfz8_0, hfz8_1⟩ := b2 (w := w7) BK274) | ((with_reducible refine gate_callee (f := 87) rfl ?_); refine gl (some 13) Tryd.func87 #[.agg #[.slice A0_0 l0_0.length c0_0, .slice A0_1 l0_1.length c0_1]] ?_; (with_reducible refine (skewbaldref01_tables.calls k _ _ l0_0 _ _ l0_1 t276 _ cl HC0_0.out cl HC0_1.out A4.out).mono ?_); rintro e w9 ⟨v277, rfl, ho0, hb⟩; refine ⟨_, rfl, ?_⟩; have HO278 := Aside0.mk (Kd.S_lower ho0 (below_size bl)); replace BK274 := nb BK274 hb; replace HB := hs HB hb; (try clear hb); (try clear hb2); (try clear hk); (try clear hi); (try clear ho0)))
  go_loopg [6] k (fun kq v6 w' => ∃ (x6_1 : Int), v6 = .int .i64 x6_1 ∧ Aside0 (skewbaldref01_Lacks.l0 kq t276 x6_1 l0_0 l0_1 = some (r1, r2)) ∧ Aside0 (kq ≤ k) ∧ Aside0 (Kd.S (Kd.slice 3 (Kd.int .i64)) 31 w' w.heap.size (fun _ => True) v277 t276) ∧ Aside0 (w'.heap[gb274]? = some (.cells #[(.slice A0_0 l0_0.length c0_0), (.slice A0_1 l0_1.length c0_1)] 25 (0, 0))) ∧ Aside0 (Below w.heap.size w w'))
  case atStart => exact ⟨(0), sm, H', ⟨Nat.le_refl _⟩, ⟨bS HO278⟩, ⟨bk⟩, ⟨bl⟩⟩
  case round =>
   clear H'; (try clear c1); (try clear p2); (try clear c3); (try clear c3b0); (try clear c3b1); (try clear c8); (try clear hcz6_0); (try clear hcz6_1); (try clear hcz8_0); (try clear hcz8_1); (try clear hfz6_0); (try clear hfz6_1); (try clear hfz8_0); (try clear hfz8_1); obtain ⟨x6_1, rfl, HA, HK1, HO_5, BK274, HB⟩ := hrel
   cases gk with
   | zero => exact absurd HA.out (by simp [skewbaldref01_Lacks.l0])
   | succ k1 =>
    have H := HA.out; clear HA
    simp only [skewbaldref01_Lacks.l0] at H
    by_cases c10 : x6_1 < (l0_1.length : Int)
    ·rw [if_pos c10] at H; have c10b0 := decide_eq_true c10; clear c10; obtain ⟨t279, A11, H⟩ := ob H
     replace H : (if 0 ≤ (wrap64 (x6_1 + 1)) then ((skewbaldref01_given.f k1 t276 t279 (wrap64 ((shl .i64 1 (wrap64 (x6_1 + 1))) - 1))).bind fun t282 => (if t282 = true then (skewbaldref01_Lacks.l0 k1 t276 (wrap64 (x6_1 + 1)) l0_0 l0_1) else (some (x6_1, 0)))) else (none)) = some (r1, r2) := H
     obtain ⟨ji12, hji12⟩ : ∃ j_ : Int, (wrap64 (x6_1 + 1)) = j_ := ⟨_, rfl⟩
     replace H : (if 0 ≤ (ji12) then ((skewbaldref01_given.f k1 t276 t279 (wrap64 ((shl .i64 1 (ji12)) - 1))).bind fun t282 => (if t282 = true then (skewbaldref01_Lacks.l0 k1 t276 ji12 l0_0 l0_1) else (some (x6_1, 0)))) else (none)) = some (r1, r2) := by first | (rw [hji12] at H; exact H) | (simp only [hji12] at H ⊢; exact H)
     (try rw [hji12] at A11)
     have hji12w : (IntKind.i64.wrap (x6_1 + 1)) = ji12 := (i64_w _).trans hji12
     by_cases c13 : 0 ≤ (ji12)
     ·rw [if_pos c13] at H; have c13b0 := eq_true c13; have c13b1 := decide_eq_true c13; clear c13
      obtain ⟨ji14, hji14⟩ : ∃ j_ : Int, (shl .i64 1 (ji12)) = j_ := ⟨_, rfl⟩
      replace H : ((skewbaldref01_given.f k1 t276 t279 (wrap64 ((ji14) - 1))).bind fun t282 => (if t282 = true then (skewbaldref01_Lacks.l0 k1 t276 ji12 l0_0 l0_1) else (some (x6_1, 0)))) = some (r1, r2) := by first | (rw [hji14] at H; exact H) | (simp only [hji14] at H ⊢; exact H)
      (try rw [hji14] at A11)
      have hji14_ : (IntKind.i64.wrap (1 * 2 ^ min (ji12).toNat 64)) = ji14 := hji14
      have hji14z : (ji12) ≤ 64 → (IntKind.i64.wrap (1 * 2 ^ (ji12).toNat)) = ji14 := shl_small hji14
      have hji14u : (IntKind.i64.wrap (2 ^ min (ji12).toNat 64)) = ji14 := by have h_ := hji14_; rw [Int.one_mul] at h_; exact h_
      have hji14v : (ji12) ≤ 64 → (IntKind.i64.wrap (2 ^ (ji12).toNat)) = ji14 := fun hle_ => by have h_ := hji14z hle_; rw [Int.one_mul] at h_; exact h_
      have hji14y : (wrap64 (1 * 2 ^ min (ji12).toNat 64)) = ji14 := (i64_w _).symm.trans hji14_
      have hji14x : (ji12) ≤ 64 → (wrap64 (1 * 2 ^ (ji12).toNat)) = ji14 := fun h_ => (i64_w _).symm.trans (hji14z h_)
      have hji14A : (wrap64 (2 ^ min (ji12).toNat 64)) = ji14 := (i64_w _).symm.trans hji14u
      have hji14B : (ji12) ≤ 64 → (wrap64 (2 ^ (ji12).toNat)) = ji14 := fun h_ => (i64_w _).symm.trans (hji14v h_)
      obtain ⟨t282, A15, H⟩ := ob H
      replace H : (if t282 = true then (skewbaldref01_Lacks.l0 k1 t276 ji12 l0_0 l0_1) else (some (x6_1, 0))) = some (r1, r2) := H
      by_cases c16 : t282 = true
      ·subst c16
       have H1 : (skewbaldref01_Lacks.l0 k1 t276 ji12 l0_0 l0_1) = some (r1, r2) := by rw [if_pos rfl] at H; exact H
       clear H; have H := H1; clear H1; have H' := Aside0.mk H; clear H; obtain ⟨hcz17_0, hcz17_1, hfz17_0, hfz17_1⟩ := b2 (w := wr) BK274
       try go_wp2
       replace HO_5 := Aside0.mk (Kd.S_drew HO_5.out); replace BK274 := Aside0.mk (blk_drew BK274.out); replace HB := Aside0.mk (below_drew1 HB.out)
       refine start_ (n := 9) (S := fun w' => w'.cell? ⟨gb274, 0, none⟩ = some (.slice A0_0 l0_0.length c0_0) ∧ w'.cell? ⟨gb274, 1, none⟩ = some (.slice A0_1 l0_1.length c0_1)) (ds := []) #[false, false, false, false, false, false, false, false, false] (by kernel_rfl) rfl rfl ⟨bq BK274 0, bq BK274 1⟩ (fun hHeld => ?_); refine with_tabW skewbaldref01_Lacks.tab8 skewbaldref01_Lacks.bits8 (fun HT_ HW_ => ?_)
       generalize wr.drew = w18 at HO_5 BK274 HB hHeld ⊢
       refine pu_ (i := 0) (N := some 21) (qa_ 9 1) ?_
       refine pu_ (i := 3) (N := some 24) (qa_ 9 9) ?_
       refine pu_ (i := 4) (N := some 25) (qa_ 9 25) ?_
       refine pu_ (i := 5) (N := some 26) (qa_ 9 57) ?_
       refine pu_ (i := 6) (N := some 27) (qa_ 9 121) ?_
       refine tk_ (i := 1) (N := some 22) (qa_ 9 123) hHeld ?_
       refine on_ (i := 2) (N := some 23) (qa_ 9 127) (fun K hK => ?_)
       refine goes_ Tryd.func88 (by kernel_rfl) rfl #[.agg #[.slice A0_0 l0_0.length c0_0, .slice A0_1 l0_1.length c0_1]] (by rfl) rfl rfl (by (try simp only [List.map_toArray, List.map_cons, List.map_nil]); first | done | rfl | (simp only [List.length_drop, List.length_take]; rfl)) ?_
       with_reducible refine (skewbaldref01_every.calls k1 _ _ l0_0 _ _ l0_1 t279 _ ?side1 ?side2 ?side3 ?side4 A11.out).mono ?_
       (case side1 => exact cl)
       (case side2 => exact HC0_0.out)
       (case side3 => exact cl)
       (case side4 => exact HC0_1.out)
       rintro e w19 ⟨v280, rfl, ho0, hb⟩
       refine ⟨_, rfl, ?_⟩
       replace HO_5 := Aside0.mk (Kd.S_elder' (bS HO_5) (Kd.R_base ho0) hb); have HO281 := Aside0.mk (Kd.R_lower ho0 (below_size bl)); replace BK274 := nb BK274 hb; replace HB := hs HB hb; (try clear hb); (try clear hb2); (try clear hk); (try clear hi); (try clear ho0); obtain ⟨Ao20, co20, eo20⟩ := Kd.S_slice HO_5.out
       (first | subst eo20 | (injection eo20 with f1_ f2_ f3_; have f4_ := f1_.symm; have f5_ := f3_.symm; clear f1_ f2_ f3_; subst f4_; subst f5_))
       obtain ⟨Ao21, co21, eo21⟩ := Kd.R_slice HO281.out
       (first | subst eo21 | (injection eo21 with f1_ f2_ f3_; have f4_ := f1_.symm; have f5_ := f3_.symm; clear f1_ f2_ f3_; subst f4_; subst f5_))
       refine hK.out _ _ ⟨bq BK274 0, bq BK274 1⟩ (fun hHeld => ?_)
       clear hK K
       refine nm_ (some 23) ?_
       refine on_ (i := 7) (N := some 28) (qa_ 9 255) (fun K hK => ?_)
       refine goes_ Tryd.func89 (by kernel_rfl) rfl #[.slice Ao20 t276.length co20, .slice Ao21 t279.length co21, .int .i64 (wrap64 ((ji14) - 1))] (by rfl) rfl rfl (by (try simp only [List.map_toArray, List.map_cons, List.map_nil]); first | done | (simp only [hji14]; rfl) | rfl | (simp only [List.length_drop, List.length_take]; rfl)) ?_
       with_reducible refine (skewbaldref01_given.calls k1 _ _ t276 _ _ t279 (wrap64 ((ji14) - 1)) true _ ?side1 ?side2 ?side3 ?side4 A15.out).mono ?_
       (case side1 => repeat (first | exact (Kd.S_reads' HO_5.out).2.2 | (with_reducible refine Kd.C_alloc ?_ _) | (with_reducible refine Kd.C_drewN ?_ _) | (with_reducible refine Kd.C_drew ?_)))
       (case side2 => exact (Kd.S_reads' HO_5.out).2.1)
       (case side3 => repeat (first | exact (Kd.R_reads' HO281.out).2.2 | (with_reducible refine Kd.C_alloc ?_ _) | (with_reducible refine Kd.C_drewN ?_ _) | (with_reducible refine Kd.C_drew ?_)))
       (case side4 => exact (Kd.R_reads' HO281.out).2.1)
       rintro e w' ⟨rfl, ⟨nd, rfl⟩⟩
       refine ⟨_, rfl, ?_⟩
       refine hK.out _ _ ⟨bq BK274 0, bq BK274 1⟩ (fun hHeld => ?_)
       clear hK K
       refine nm_ (some 28) ?_
       refine pu_ (i := 8) (N := some 29) (qa_ 9 511) ?_
       refine done_ (done_of HT_.out (by kernel_rfl)) ?_
       try go_wp2
       go_roundg k1
       case measure => have := HK1.out; omega
       case rel => exact ⟨(ji12), (by first | rfl | (simp; done) | (simp only [← hji12] <;> (first | rfl | simp)) | (simp [*]; done)), H', ⟨lo HK1⟩, ⟨by (with_reducible repeat (first | apply Kd.S_alloc | apply Kd.S_drewN | apply Kd.S_drew)); exact Kd.S_mono HO_5.out (fun _ hk => trivial)⟩, ⟨bk⟩, ⟨bl⟩⟩
      ·replace c16 := Bool.eq_false_iff.mpr c16; subst c16
       have H1 : (some (x6_1, 0)) = some (r1, r2) := by rw [if_neg (show ¬ (false = true) by decide)] at H; exact H
       clear H; have H := H1; clear H1
       simp only [Option.some.injEq, Prod.mk.injEq] at H
       obtain ⟨rfl, rfl⟩ := H; obtain ⟨hcz22_0, hcz22_1, hfz22_0, hfz22_1⟩ := b2 (w := wr) BK274
       try go_wp2
       replace HO_5 := Aside0.mk (Kd.S_drew HO_5.out); replace BK274 := Aside0.mk (blk_drew BK274.out); replace HB := Aside0.mk (below_drew1 HB.out)
       refine start_ (n := 9) (S := fun w' => w'.cell? ⟨gb274, 0, none⟩ = some (.slice A0_0 l0_0.length c0_0) ∧ w'.cell? ⟨gb274, 1, none⟩ = some (.slice A0_1 l0_1.length c0_1)) (ds := []) #[false, false, false, false, false, false, false, false, false] (by kernel_rfl) rfl rfl ⟨bq BK274 0, bq BK274 1⟩ (fun hHeld => ?_); refine with_tabW skewbaldref01_Lacks.tab8 skewbaldref01_Lacks.bits8 (fun HT_ HW_ => ?_)
       generalize wr.drew = w23 at HO_5 BK274 HB hHeld ⊢
       refine pu_ (i := 0) (N := some 21) (qa_ 9 1) ?_
       refine pu_ (i := 3) (N := some 24) (qa_ 9 9) ?_
       refine pu_ (i := 4) (N := some 25) (qa_ 9 25) ?_
       refine pu_ (i := 5) (N := some 26) (qa_ 9 57) ?_
       refine pu_ (i := 6) (N := some 27) (qa_ 9 121) ?_
       refine tk_ (i := 1) (N := some 22) (qa_ 9 123) hHeld ?_
       refine on_ (i := 2) (N := some 23) (qa_ 9 127) (fun K hK => ?_)
       refine goes_ Tryd.func88 (by kernel_rfl) rfl #[.agg #[.slice A0_0 l0_0.length c0_0, .slice A0_1 l0_1.length c0_1]] (by rfl) rfl rfl (by (try simp only [List.map_toArray, List.map_cons, List.map_nil]); first | done | rfl | (simp only [List.length_drop, List.length_take]; rfl)) ?_
       with_reducible refine (skewbaldref01_every.calls k1 _ _ l0_0 _ _ l0_1 t279 _ ?side1 ?side2 ?side3 ?side4 A11.out).mono ?_
       (case side1 => exact cl)
       (case side2 => exact HC0_0.out)
       (case side3 => exact cl)
       (case side4 => exact HC0_1.out)
       rintro e w24 ⟨v280, rfl, ho0, hb⟩
       refine ⟨_, rfl, ?_⟩
       replace HO_5 := Aside0.mk (Kd.S_elder' (bS HO_5) (Kd.R_base ho0) hb); have HO281 := Aside0.mk (Kd.R_lower ho0 (below_size bl)); replace BK274 := nb BK274 hb; replace HB := hs HB hb; (try clear hb); (try clear hb2); (try clear hk); (try clear hi); (try clear ho0); obtain ⟨Ao25, co25, eo25⟩ := Kd.S_slice HO_5.out
       (first | subst eo25 | (injection eo25 with f1_ f2_ f3_; have f4_ := f1_.symm; have f5_ := f3_.symm; clear f1_ f2_ f3_; subst f4_; subst f5_))
       obtain ⟨Ao26, co26, eo26⟩ := Kd.R_slice HO281.out
       (first | subst eo26 | (injection eo26 with f1_ f2_ f3_; have f4_ := f1_.symm; have f5_ := f3_.symm; clear f1_ f2_ f3_; subst f4_; subst f5_))
       refine hK.out _ _ ⟨bq BK274 0, bq BK274 1⟩ (fun hHeld => ?_)
       clear hK K
       refine nm_ (some 23) ?_
       refine on_ (i := 7) (N := some 28) (qa_ 9 255) (fun K hK => ?_)
       refine goes_ Tryd.func89 (by kernel_rfl) rfl #[.slice Ao25 t276.length co25, .slice Ao26 t279.length co26, .int .i64 (wrap64 ((ji14) - 1))] (by rfl) rfl rfl (by (try simp only [List.map_toArray, List.map_cons, List.map_nil]); first | done | (simp only [hji14]; rfl) | rfl | (simp only [List.length_drop, List.length_take]; rfl)) ?_
       with_reducible refine (skewbaldref01_given.calls k1 _ _ t276 _ _ t279 (wrap64 ((ji14) - 1)) false _ ?side1 ?side2 ?side3 ?side4 A15.out).mono ?_
       (case side1 => repeat (first | exact (Kd.S_reads' HO_5.out).2.2 | (with_reducible refine Kd.C_alloc ?_ _) | (with_reducible refine Kd.C_drewN ?_ _) | (with_reducible refine Kd.C_drew ?_)))
       (case side2 => exact (Kd.S_reads' HO_5.out).2.1)
       (case side3 => repeat (first | exact (Kd.R_reads' HO281.out).2.2 | (with_reducible refine Kd.C_alloc ?_ _) | (with_reducible refine Kd.C_drewN ?_ _) | (with_reducible refine Kd.C_drew ?_)))
       (case side4 => exact (Kd.R_reads' HO281.out).2.1)
       rintro e w' ⟨rfl, ⟨nd, rfl⟩⟩
       refine ⟨_, rfl, ?_⟩
       refine hK.out _ _ ⟨bq BK274 0, bq BK274 1⟩ (fun hHeld => ?_)
       clear hK K
       refine nm_ (some 28) ?_
       refine pu_ (i := 8) (N := some 29) (qa_ 9 511) ?_
       refine done_ (done_of HT_.out (by kernel_rfl)) ?_
       try go_wp2
       go_ret2
       exact ⟨by first | rfl | (simp [errW_none, errW_some] <;> rfl) | (simp only [← hji12, ← hji14]; first | rfl | (simp [errW_none, errW_some] <;> rfl)) | (simp [*, errW_none, errW_some] <;> rfl), bl⟩
     ·rw [if_neg c13] at H
      exact absurd H (by simp)
    ·rw [if_neg c10] at H
     have c10b0 : decide (x6_1 < (l0_1.length : Int)) = false := decide_eq_false c10
     clear c10
     simp only [Option.some.injEq, Prod.mk.injEq] at H
     obtain ⟨rfl, rfl⟩ := H; obtain ⟨hcz27_0, hcz27_1, hfz27_0, hfz27_1⟩ := b2 (w := wr) BK274
     go_wp2
     go_ret2
     exact ⟨by first | rfl | (simp [errW_none, errW_some] <;> rfl) | (simp [*, errW_none, errW_some] <;> rfl), bl⟩
 ·rw [if_neg c3] at H
  have c3b0 : (t275 == 0) = false := beq_eq_false_iff_ne.mpr c3
  have c3b1 : (t275 != 0) = true := bne_iff_ne.mpr c3
  simp only [Option.some.injEq, Prod.mk.injEq] at H
  obtain ⟨rfl, rfl⟩ := H
  go_enter Tryd.func31, Tryd.ntmps31
  go_wp2_with (first | (refine bx 1 #[.slice A0_0 l0_0.length c0_0, .slice A0_1 l0_1.length c0_1] 25 ?_; intro gb274 hg w28 hbox hb; have BK274 := Aside0.mk hbox; have GW274 := gw hg HB; have GE274 := gw hg HB; replace HB := hs HB hb; clear hb hbox hg; obtain ⟨hcz29_0, hcz29_1, hfz29_0, hfz29_1⟩ := b2 (w := w28) BK274) | ((with_reducible refine gate_callee (f := 19) rfl ?_); refine gl (some 8) Tryd.func19 #[.agg #[.slice A0_0 l0_0.length c0_0, .slice A0_1 l0_1.length c0_1]] ?_; (with_reducible refine (skewbaldref01_Check.calls k _ _ l0_0 _ _ l0_1 t275 _ cl HC0_0.out cl HC0_1.out A2.out).mono ?_); rintro e w30 ⟨rfl, hb⟩; refine ⟨_, rfl, ?_⟩; replace BK274 := nb BK274 hb; replace HB := hs HB hb; (try clear hb); (try clear hb2); (try clear hk); (try clear hi)))
  go_ret2
  exact ⟨by first | rfl | (simp [errW_none, errW_some] <;> rfl) | (simp [*, errW_none, errW_some] <;> rfl), bl⟩
def skewbaldref01_most.l0 : Nat → List (List Int) → List Int → Int → List (S48) → List (S50) → Option (List Int)
 | 0, _, _, _, _, _ => none
 | k + 1, x3, x4, x5, x284000, x284001 => if x5 < (shl .i64 1 (x284001.length : Int)) then ((skewbaldref00_List.f k x5 (x284001.length : Int)).bind fun t290 => (if (t290.length : Int) > (x4.length : Int) then ((skewbaldref01_every.f k x284000 x284001).bind fun t293 => ((skewbaldref01_given.f k x3 t293 x5).bind fun t296 => (if t296 = true then (skewbaldref01_most.l0 k x3 t290 (wrap64 (x5 + 1)) x284000 x284001) else (skewbaldref01_most.l0 k x3 x4 (wrap64 (x5 + 1)) x284000 x284001)))) else (if (t290.length : Int) = (x4.length : Int) then ((skewbaldref00_Less.f k t290 x4).bind fun t297 => (if t297 = true then ((skewbaldref01_every.f k x284000 x284001).bind fun t298 => ((skewbaldref01_given.f k x3 t298 x5).bind fun t301 => (if t301 = true then (skewbaldref01_most.l0 k x3 t290 (wrap64 (x5 + 1)) x284000 x284001) else (skewbaldref01_most.l0 k x3 x4 (wrap64 (x5 + 1)) x284000 x284001)))) else (skewbaldref01_most.l0 k x3 x4 (wrap64 (x5 + 1)) x284000 x284001))) else (skewbaldref01_most.l0 k x3 x4 (wrap64 (x5 + 1)) x284000 x284001)))) else (some x4)
def skewbaldref01_most.f (k : Nat) (l0_0 : List (S48)) (l0_1 : List (S50)) : Option (List Int) := (skewbaldref01_tables.f k l0_0 l0_1).bind fun t284 => (skewbaldref01_most.l0 k t284 (([] : List Int)) 0 l0_0 l0_1)
set_option maxHeartbeats 8000000 in
set_option maxRecDepth 100000 in
theorem skewbaldref01_most.calls (k : Nat) (A0_0 : Option Addr) (c0_0 : Nat) (l0_0 : List (S48)) (A0_1 : Option Addr) (c0_1 : Nat) (l0_1 : List (S50)) (r : List Int) (w : World) (hr0_0 : Kd.C k48 w A0_0 l0_0.length l0_0) (hc0_0 : l0_0.length ≤ c0_0) (hr0_1 : Kd.C k50 w A0_1 l0_1.length l0_1) (hc0_1 : l0_1.length ≤ c0_1) (h : skewbaldref01_most.f k l0_0 l0_1 = some r) :
  Calls Tryd.prog 80 #[.agg #[.slice A0_0 l0_0.length c0_0, .slice A0_1 l0_1.length c0_1]] w fun e w' => ∃ v0_ : Value, e = .returned (v0_) ∧ Kd.R (Kd.int .i64) 3 w' w.heap.size (fun _ => True) v0_ r ∧ Below w.heap.size w w' := by
 have hu25 := Tryd.underlying25; have HR0_0 := Aside0.mk hr0_0; have HC0_0 := Aside0.mk hc0_0; clear hr0_0 hc0_0; have HR0_1 := Aside0.mk hr0_1; have HC0_1 := Aside0.mk hc0_1; clear hr0_1 hc0_1; have HB := Aside0.mk (Below.refl w.heap.size w)
 have H : ((skewbaldref01_tables.f k l0_0 l0_1).bind fun t284 => (skewbaldref01_most.l0 k t284 (([] : List Int)) 0 l0_0 l0_1)) = some r := h
 clear h; obtain ⟨t284, A2, H⟩ := ob H
 obtain ⟨y287, hy287⟩ : ∃ y_ : List Int, y_ = (([] : List Int)) := ⟨_, rfl⟩
 replace H : (skewbaldref01_most.l0 k t284 y287 0 l0_0 l0_1) = some r := tr H hy287
 have Ny287 := Aside0.mk hy287; clear hy287; have H' := Aside0.mk H; clear H
 go_enter Tryd.func80, Tryd.ntmps80
 go_wp2_with (first | ((with_reducible refine gate_dst (N := 1) rfl ?_); (try (refine gate_guard (by rfl) ?_; dsimp only)); refine bx 1 #[.slice A0_0 l0_0.length c0_0, .slice A0_1 l0_1.length c0_1] 25 ?_; intro gb283 hg w3 hbox hb; have BK283 := Aside0.mk hbox; have GW283 := gw hg HB; have GE283 := gw hg HB; replace HB := hs HB hb; clear hb hbox hg; obtain ⟨hcz4_0, hcz4_1, hfz4_0, hfz4_1⟩ := b2 (w := w3) BK283) | ((with_reducible refine gate_callee (f := 87) rfl ?_); refine gl (some 8) Tryd.func87 #[.agg #[.slice A0_0 l0_0.length c0_0, .slice A0_1 l0_1.length c0_1]] ?_; (with_reducible refine (skewbaldref01_tables.calls k _ _ l0_0 _ _ l0_1 t284 _ cl HC0_0.out cl HC0_1.out A2.out).mono ?_); rintro e w5 ⟨v285, rfl, ho0, hb⟩; refine ⟨_, rfl, ?_⟩; have HO286 := Aside0.mk (Kd.S_lower ho0 (below_size bl)); replace BK283 := nb BK283 hb; replace HB := hs HB hb; (try clear hb); (try clear hb2); (try clear hk); (try clear hi); (try clear ho0)) | ((with_reducible refine gate_dst (N := 9) rfl ?_); (try (refine gate_guard (by rfl) ?_; dsimp only)); refine Kd.R_lit (Kd.int .i64) _ 3 ?hg (N := 9) ?hd (xs := ([] : List Int)) (inner := []) (ok := fun _ => True) (okp := fun _ => True) ?hr ?hp (fun _ hk => hk) trivial (Below.refl _ _) (Nat.le_refl _) (by simp) ?_; (case hd => rfl); (case hg => rfl); (case hr => first | (go_simp; done) | (go_simp; rfl)); (case hp => exact (Reps.none _ _)); intro v288 w6 ho7 hb hg_ hnew_; clear hg_ hnew_; (first | rw [← Ny287.out] at ho7 | (simp only [Int.reduceToNat] at ho7; rw [← Ny287.out] at ho7)); replace HO286 := Aside0.mk (Kd.S_elder' (bS HO286) (Kd.R_base ho7) hb); have HO289 := Aside0.mk (Kd.R_lower ho7 (below_size bl)); replace BK283 := nb BK283 hb; replace HB := hs HB hb; clear hb ho7))
 go_loopg [4, 5] k (fun kq v4 v5 w' => ∃ (x4_1 : List Int) (x5_1 : Int), v5 = .int .i64 x5_1 ∧ Aside0 (skewbaldref01_most.l0 kq t284 x4_1 x5_1 l0_0 l0_1 = some r) ∧ Aside0 (kq ≤ k) ∧ Aside0 (Kd.S (Kd.slice 3 (Kd.int .i64)) 31 w' w.heap.size (fun k_ => some k_ ≠ (v4 : Value).ownBlock) v285 t284) ∧ Aside0 (Kd.R (Kd.int .i64) 3 w' w.heap.size (fun _ => True) v4 x4_1) ∧ Aside0 (w'.heap[gb283]? = some (.cells #[(.slice A0_0 l0_0.length c0_0), (.slice A0_1 l0_1.length c0_1)] 25 (0, 0))) ∧ Aside0 (Below w.heap.size w w'))
 case atStart => exact ⟨(y287), (0), sm, H', ⟨Nat.le_refl _⟩, ⟨by (with_reducible repeat (first | apply Kd.S_alloc | apply Kd.S_drewN | apply Kd.S_drew)); exact Kd.S_mono HO286.out (fun _ hk => hk.2)⟩, ⟨bR HO289⟩, ⟨bk⟩, ⟨bl⟩⟩
 case round =>
  clear H'; (try clear p2); (try clear hcz4_0); (try clear hcz4_1); (try clear hfz4_0); (try clear hfz4_1); obtain ⟨x4_1, x5_1, rfl, HA, HK1, HO_3, HO_4, BK283, HB⟩ := hrel
  cases gk with
  | zero => exact absurd HA.out (by simp [skewbaldref01_most.l0])
  | succ k1 =>
   have H := HA.out; clear HA
   simp only [skewbaldref01_most.l0] at H
   obtain ⟨ji8, hji8⟩ : ∃ j_ : Int, (shl .i64 1 (l0_1.length : Int)) = j_ := ⟨_, rfl⟩
   replace H : (if x5_1 < (ji8) then ((skewbaldref00_List.f k1 x5_1 (l0_1.length : Int)).bind fun t290 => (if (t290.length : Int) > (x4_1.length : Int) then ((skewbaldref01_every.f k1 l0_0 l0_1).bind fun t293 => ((skewbaldref01_given.f k1 t284 t293 x5_1).bind fun t296 => (if t296 = true then (skewbaldref01_most.l0 k1 t284 t290 (wrap64 (x5_1 + 1)) l0_0 l0_1) else (skewbaldref01_most.l0 k1 t284 x4_1 (wrap64 (x5_1 + 1)) l0_0 l0_1)))) else (if (t290.length : Int) = (x4_1.length : Int) then ((skewbaldref00_Less.f k1 t290 x4_1).bind fun t297 => (if t297 = true then ((skewbaldref01_every.f k1 l0_0 l0_1).bind fun t298 => ((skewbaldref01_given.f k1 t284 t298 x5_1).bind fun t301 => (if t301 = true then (skewbaldref01_most.l0 k1 t284 t290 (wrap64 (x5_1 + 1)) l0_0 l0_1) else (skewbaldref01_most.l0 k1 t284 x4_1 (wrap64 (x5_1 + 1)) l0_0 l0_1)))) else (skewbaldref01_most.l0 k1 t284 x4_1 (wrap64 (x5_1 + 1)) l0_0 l0_1))) else (skewbaldref01_most.l0 k1 t284 x4_1 (wrap64 (x5_1 + 1)) l0_0 l0_1)))) else (some x4_1)) = some r := by first | (rw [hji8] at H; exact H) | (simp only [hji8] at H ⊢; exact H)
   have hji8_ : (IntKind.i64.wrap (1 * 2 ^ min (l0_1.length : Int).toNat 64)) = ji8 := hji8
   have hji8z : (l0_1.length : Int) ≤ 64 → (IntKind.i64.wrap (1 * 2 ^ (l0_1.length : Int).toNat)) = ji8 := shl_small hji8
   have hji8p : (IntKind.i64.wrap (1 * 2 ^ min l0_1.length 64)) = ji8 := hji8_
   have hji8q : (l0_1.length : Int) ≤ 64 → (IntKind.i64.wrap (1 * 2 ^ l0_1.length)) = ji8 := hji8z
   have hji8r : (IntKind.i64.wrap (2 ^ min l0_1.length 64)) = ji8 := by have h_ := hji8p; rw [Int.one_mul] at h_; exact h_
   have hji8s : (l0_1.length : Int) ≤ 64 → (IntKind.i64.wrap (2 ^ l0_1.length)) = ji8 := fun hle_ => by have h_ := hji8q hle_; rw [Int.one_mul] at h_; exact h_
   have hji8u : (IntKind.i64.wrap (2 ^ min (l0_1.length : Int).toNat 64)) = ji8 := by have h_ := hji8_; rw [Int.one_mul] at h_; exact h_
   have hji8v : (l0_1.length : Int) ≤ 64 → (IntKind.i64.wrap (2 ^ (l0_1.length : Int).toNat)) = ji8 := fun hle_ => by have h_ := hji8z hle_; rw [Int.one_mul] at h_; exact h_
   have hji8y : (wrap64 (1 * 2 ^ min (l0_1.length : Int).toNat 64)) = ji8 := (i64_w _).symm.trans hji8_
   have hji8x : (l0_1.length : Int) ≤ 64 → (wrap64 (1 * 2 ^ (l0_1.length : Int).toNat)) = ji8 := fun h_ => (i64_w _).symm.trans (hji8z h_)
   have hji8A : (wrap64 (2 ^ min (l0_1.length : Int).toNat 64)) = ji8 := (i64_w _).symm.trans hji8u
   have hji8B : (l0_1.length : Int) ≤ 64 → (wrap64 (2 ^ (l0_1.length : Int).toNat)) = ji8 := fun h_ => (i64_w _).symm.trans (hji8v h_)
   have hji8C : (wrap64 (2 ^ min l0_1.length 64)) = ji8 := (i64_w _).symm.trans hji8r
   have hji8D : (l0_1.length : Int) ≤ 64 → (wrap64 (2 ^ l0_1.length)) = ji8 := fun h_ => (i64_w _).symm.trans (hji8s h_)
   by_cases c9 : x5_1 < (ji8)
   ·rw [if_pos c9] at H; have c9b0 := decide_eq_true c9; clear c9; obtain ⟨t290, A10, H⟩ := ob H
    by_cases c11 : (t290.length : Int) > (x4_1.length : Int)
    ·rw [if_pos c11] at H; have c11b0 := decide_eq_true c11
     have c11b1 : decide (x4_1.length < t290.length) = true := decide_eq_true (Int.ofNat_lt.mp c11)
     clear c11; obtain ⟨t293, A12, H⟩ := ob H; obtain ⟨t296, A13, H⟩ := ob H
     by_cases c14 : t296 = true
     ·subst c14; rw [if_pos rfl] at H; have H' := Aside0.mk H; clear H; obtain ⟨hcz15_0, hcz15_1, hfz15_0, hfz15_1⟩ := b2 (w := wr) BK283
      go_wp2_with (first | ((with_reducible refine gate_callee (f := 40) rfl ?_); refine gl (some 22) Tryd.func40 #[.int .i64 x5_1, .int .i64 (l0_1.length : Int)] ?_; (with_reducible refine (skewbaldref00_List.calls k1 x5_1 (l0_1.length : Int) t290 _ A10.out).mono ?_); rintro e w16 ⟨v291, rfl, ho0, hb⟩; refine ⟨_, rfl, ?_⟩; replace HO_3 := Aside0.mk (Kd.S_elder' (bS HO_3) (Kd.R_base ho0) hb); have HO292 := Aside0.mk (Kd.R_lower (Kd.R_new' ho0 (Kd.R_lt (bR HO_4))) (below_size bl)); replace HO_4 := Aside0.mk (Kd.R_elder' (bR HO_4) (Kd.R_base ho0) hb); replace BK283 := nb BK283 hb; replace HB := hs HB hb; (try clear hb); (try clear hb2); (try clear hk); (try clear hi); (try clear ho0); obtain ⟨Ao17, co17, eo17⟩ := Kd.R_slice HO292.out; subst eo17; obtain ⟨Ao18, co18, eo18⟩ := Kd.R_slice HO_4.out; subst eo18; obtain ⟨hcz19_0, hcz19_1, hfz19_0, hfz19_1⟩ := b2 (w := w16) BK283) | (go_at_call 88; (with_reducible refine (skewbaldref01_every.calls k1 _ _ l0_0 _ _ l0_1 t293 _ cl HC0_0.out cl HC0_1.out A12.out).mono ?_); rintro e w20 ⟨v294, rfl, ho0, hb⟩; replace HO_3 := Aside0.mk (Kd.S_elder' (bS HO_3) (Kd.R_base ho0) hb); have HO295 := Aside0.mk (Kd.R_lower (Kd.R_new' (Kd.R_new' ho0 (Kd.R_lt (bR HO_4))) (Kd.R_lt (bR HO292))) (below_size bl)); replace HO_4 := Aside0.mk (Kd.R_elder' (bR HO_4) (Kd.R_base ho0) hb); replace HO292 := Aside0.mk (Kd.R_elder' (bR HO292) (Kd.R_base ho0) hb); replace BK283 := nb BK283 hb; replace HB := hs HB hb; (try clear hb); (try clear hb2); (try clear hk); (try clear hi); (try clear ho0); obtain ⟨Ao21, co21, eo21⟩ := Kd.S_slice HO_3.out; subst eo21; obtain ⟨Ao22, co22, eo22⟩ := Kd.R_slice HO295.out; subst eo22) | (go_at_call 89; (with_reducible refine (skewbaldref01_given.calls k1 _ _ t284 _ _ t293 x5_1 true _ ?side1 ?side2 ?side3 ?side4 A13.out).mono ?_); (case side1 => repeat (first | exact (Kd.S_reads' HO_3.out).2.2 | (with_reducible refine Kd.C_alloc ?_ _) | (with_reducible refine Kd.C_drewN ?_ _) | (with_reducible refine Kd.C_drew ?_))); (case side2 => exact (Kd.S_reads' HO_3.out).2.1); (case side3 => repeat (first | exact (Kd.R_reads' HO295.out).2.2 | (with_reducible refine Kd.C_alloc ?_ _) | (with_reducible refine Kd.C_drewN ?_ _) | (with_reducible refine Kd.C_drew ?_))); (case side4 => exact (Kd.R_reads' HO295.out).2.1); rintro e w' ⟨rfl, ⟨nd, rfl⟩⟩))
      go_roundg k1
      case measure => have := HK1.out; omega
      case rel => exact ⟨(t290), (wrap64 (x5_1 + 1)), sm, H', ⟨lo HK1⟩, ⟨by (with_reducible repeat (first | apply Kd.S_alloc | apply Kd.S_drewN | apply Kd.S_drew)); exact Kd.S_mono HO_3.out (fun _ hk => hk.1.2)⟩, ⟨by (with_reducible repeat (first | apply Kd.R_alloc | apply Kd.R_drewN | apply Kd.R_drew)); exact Kd.R_mono HO292.out (fun _ hk => trivial)⟩, ⟨bk⟩, ⟨bl⟩⟩
     ·replace c14 := Bool.eq_false_iff.mpr c14; subst c14
      rw [if_neg (show ¬ (false = true) by decide)] at H
      have H' := Aside0.mk H; clear H; obtain ⟨hcz23_0, hcz23_1, hfz23_0, hfz23_1⟩ := b2 (w := wr) BK283
      go_wp2_with (first | ((with_reducible refine gate_callee (f := 40) rfl ?_); refine gl (some 22) Tryd.func40 #[.int .i64 x5_1, .int .i64 (l0_1.length : Int)] ?_; (with_reducible refine (skewbaldref00_List.calls k1 x5_1 (l0_1.length : Int) t290 _ A10.out).mono ?_); rintro e w24 ⟨v291, rfl, ho0, hb⟩; refine ⟨_, rfl, ?_⟩; replace HO_3 := Aside0.mk (Kd.S_elder' (bS HO_3) (Kd.R_base ho0) hb); have HO292 := Aside0.mk (Kd.R_lower (Kd.R_new' ho0 (Kd.R_lt (bR HO_4))) (below_size bl)); replace HO_4 := Aside0.mk (Kd.R_elder' (bR HO_4) (Kd.R_base ho0) hb); replace BK283 := nb BK283 hb; replace HB := hs HB hb; (try clear hb); (try clear hb2); (try clear hk); (try clear hi); (try clear ho0); obtain ⟨Ao25, co25, eo25⟩ := Kd.R_slice HO292.out; subst eo25; obtain ⟨Ao26, co26, eo26⟩ := Kd.R_slice HO_4.out; subst eo26; obtain ⟨hcz27_0, hcz27_1, hfz27_0, hfz27_1⟩ := b2 (w := w24) BK283) | (go_at_call 88; (with_reducible refine (skewbaldref01_every.calls k1 _ _ l0_0 _ _ l0_1 t293 _ cl HC0_0.out cl HC0_1.out A12.out).mono ?_); rintro e w28 ⟨v294, rfl, ho0, hb⟩; replace HO_3 := Aside0.mk (Kd.S_elder' (bS HO_3) (Kd.R_base ho0) hb); have HO295 := Aside0.mk (Kd.R_lower (Kd.R_new' (Kd.R_new' ho0 (Kd.R_lt (bR HO_4))) (Kd.R_lt (bR HO292))) (below_size bl)); replace HO_4 := Aside0.mk (Kd.R_elder' (bR HO_4) (Kd.R_base ho0) hb); replace HO292 := Aside0.mk (Kd.R_elder' (bR HO292) (Kd.R_base ho0) hb); replace BK283 := nb BK283 hb; replace HB := hs HB hb; (try clear hb); (try clear hb2); (try clear hk); (try clear hi); (try clear ho0); obtain ⟨Ao29, co29, eo29⟩ := Kd.S_slice HO_3.out; subst eo29; obtain ⟨Ao30, co30, eo30⟩ := Kd.R_slice HO295.out; subst eo30) | (go_at_call 89; (with_reducible refine (skewbaldref01_given.calls k1 _ _ t284 _ _ t293 x5_1 false _ ?side1 ?side2 ?side3 ?side4 A13.out).mono ?_); (case side1 => repeat (first | exact (Kd.S_reads' HO_3.out).2.2 | (with_reducible refine Kd.C_alloc ?_ _) | (with_reducible refine Kd.C_drewN ?_ _) | (with_reducible refine Kd.C_drew ?_))); (case side2 => exact (Kd.S_reads' HO_3.out).2.1); (case side3 => repeat (first | exact (Kd.R_reads' HO295.out).2.2 | (with_reducible refine Kd.C_alloc ?_ _) | (with_reducible refine Kd.C_drewN ?_ _) | (with_reducible refine Kd.C_drew ?_))); (case side4 => exact (Kd.R_reads' HO295.out).2.1); rintro e w' ⟨rfl, ⟨nd, rfl⟩⟩))
      go_roundg k1
      case measure => have := HK1.out; omega
      case rel => exact ⟨(x4_1), (wrap64 (x5_1 + 1)), sm, H', ⟨lo HK1⟩, ⟨by (with_reducible repeat (first | apply Kd.S_alloc | apply Kd.S_drewN | apply Kd.S_drew)); exact Kd.S_mono HO_3.out (fun _ hk => hk.1.1)⟩, ⟨by (with_reducible repeat (first | apply Kd.R_alloc | apply Kd.R_drewN | apply Kd.R_drew)); exact Kd.R_mono HO_4.out (fun _ hk => trivial)⟩, ⟨bk⟩, ⟨bl⟩⟩
    ·rw [if_neg c11] at H
     have c11b0 : decide ((x4_1.length : Int) < (t290.length : Int)) = false := decide_eq_false c11
     have c11b1 : decide (x4_1.length < t290.length) = false := decide_eq_false (fun h => c11 (Int.ofNat_lt.mpr h))
     clear c11
     by_cases c31 : (t290.length : Int) = (x4_1.length : Int)
     ·rw [if_pos c31] at H
      have c31b0 : ((t290.length : Int) == (x4_1.length : Int)) = true := beq_iff_eq.mpr c31
      have c31b1 : ((t290.length : Int) != (x4_1.length : Int)) = false := bne_eq_false_iff_eq.mpr c31
      have c31b2 : (t290.length == x4_1.length) = true := by first | simpa using c31 | (simp at c31 ⊢; omega)
      clear c31; obtain ⟨t297, A32, H⟩ := ob H
      by_cases c33 : t297 = true
      ·subst c33; rw [if_pos rfl] at H; obtain ⟨t298, A34, H⟩ := ob H; obtain ⟨t301, A35, H⟩ := ob H
       by_cases c36 : t301 = true
       ·subst c36; rw [if_pos rfl] at H; have H' := Aside0.mk H; clear H; obtain ⟨hcz37_0, hcz37_1, hfz37_0, hfz37_1⟩ := b2 (w := wr) BK283
        go_wp2_with (first | ((with_reducible refine gate_callee (f := 40) rfl ?_); refine gl (some 22) Tryd.func40 #[.int .i64 x5_1, .int .i64 (l0_1.length : Int)] ?_; (with_reducible refine (skewbaldref00_List.calls k1 x5_1 (l0_1.length : Int) t290 _ A10.out).mono ?_); rintro e w38 ⟨v291, rfl, ho0, hb⟩; refine ⟨_, rfl, ?_⟩; replace HO_3 := Aside0.mk (Kd.S_elder' (bS HO_3) (Kd.R_base ho0) hb); have HO292 := Aside0.mk (Kd.R_lower (Kd.R_new' ho0 (Kd.R_lt (bR HO_4))) (below_size bl)); replace HO_4 := Aside0.mk (Kd.R_elder' (bR HO_4) (Kd.R_base ho0) hb); replace BK283 := nb BK283 hb; replace HB := hs HB hb; (try clear hb); (try clear hb2); (try clear hk); (try clear hi); (try clear ho0); obtain ⟨Ao39, co39, eo39⟩ := Kd.R_slice HO292.out; subst eo39; obtain ⟨Ao40, co40, eo40⟩ := Kd.R_slice HO_4.out; subst eo40) | (go_at_call 44; (with_reducible refine (skewbaldref00_Less.calls k1 _ _ t290 _ _ x4_1 true _ ?side1 ?side2 ?side3 ?side4 A32.out).mono ?_); (case side1 => repeat (first | exact (Kd.R_reads' HO292.out).2.2 | (with_reducible refine Kd.C_alloc ?_ _) | (with_reducible refine Kd.C_drewN ?_ _) | (with_reducible refine Kd.C_drew ?_))); (case side2 => exact (Kd.R_reads' HO292.out).2.1); (case side3 => repeat (first | exact (Kd.R_reads' HO_4.out).2.2 | (with_reducible refine Kd.C_alloc ?_ _) | (with_reducible refine Kd.C_drewN ?_ _) | (with_reducible refine Kd.C_drew ?_))); (case side4 => exact (Kd.R_reads' HO_4.out).2.1); rintro e w' ⟨rfl, ⟨nd, rfl⟩⟩; obtain ⟨hcz41_0, hcz41_1, hfz41_0, hfz41_1⟩ := b2 (w := w38) BK283) | (go_at_call 88; (with_reducible refine (skewbaldref01_every.calls k1 _ _ l0_0 _ _ l0_1 t298 _ ?side1 ?side2 ?side3 ?side4 A34.out).mono ?_); (case side1 => repeat (first | exact (Kd.C_below HR0_0.out bl) | (with_reducible refine Kd.C_alloc ?_ _) | (with_reducible refine Kd.C_drewN ?_ _) | (with_reducible refine Kd.C_drew ?_))); (case side2 => exact HC0_0.out); (case side3 => repeat (first | exact (Kd.C_below HR0_1.out bl) | (with_reducible refine Kd.C_alloc ?_ _) | (with_reducible refine Kd.C_drewN ?_ _) | (with_reducible refine Kd.C_drew ?_))); (case side4 => exact HC0_1.out); rintro e w42 ⟨v299, rfl, ho0, hb⟩; replace HO_3 := Aside0.mk (Kd.S_elder' (bS HO_3) (Kd.R_base ho0) hb); have HO300 := Aside0.mk (Kd.R_lower (Kd.R_new' (Kd.R_new' ho0 (Kd.R_lt (bR HO_4))) (Kd.R_lt (bR HO292))) (below_size bl)); replace HO_4 := Aside0.mk (Kd.R_elder' (bR HO_4) (Kd.R_base ho0) hb); replace HO292 := Aside0.mk (Kd.R_elder' (bR HO292) (Kd.R_base ho0) hb); replace BK283 := nb BK283 hb; replace HB := hs HB hb; (try clear hb); (try clear hb2); (try clear hk); (try clear hi); (try clear ho0); obtain ⟨Ao43, co43, eo43⟩ := Kd.S_slice HO_3.out; subst eo43; obtain ⟨Ao44, co44, eo44⟩ := Kd.R_slice HO300.out; subst eo44) | (go_at_call 89; (with_reducible refine (skewbaldref01_given.calls k1 _ _ t284 _ _ t298 x5_1 true _ ?side1 ?side2 ?side3 ?side4 A35.out).mono ?_); (case side1 => repeat (first | exact (Kd.S_reads' HO_3.out).2.2 | (with_reducible refine Kd.C_alloc ?_ _) | (with_reducible refine Kd.C_drewN ?_ _) | (with_reducible refine Kd.C_drew ?_))); (case side2 => exact (Kd.S_reads' HO_3.out).2.1); (case side3 => repeat (first | exact (Kd.R_reads' HO300.out).2.2 | (with_reducible refine Kd.C_alloc ?_ _) | (with_reducible refine Kd.C_drewN ?_ _) | (with_reducible refine Kd.C_drew ?_))); (case side4 => exact (Kd.R_reads' HO300.out).2.1); rintro e w' ⟨rfl, ⟨nd, rfl⟩⟩))
        go_roundg k1
        case measure => have := HK1.out; omega
        case rel => exact ⟨(t290), (wrap64 (x5_1 + 1)), sm, H', ⟨lo HK1⟩, ⟨by (with_reducible repeat (first | apply Kd.S_alloc | apply Kd.S_drewN | apply Kd.S_drew)); exact Kd.S_mono HO_3.out (fun _ hk => hk.1.2)⟩, ⟨by (with_reducible repeat (first | apply Kd.R_alloc | apply Kd.R_drewN | apply Kd.R_drew)); exact Kd.R_mono HO292.out (fun _ hk => trivial)⟩, ⟨bk⟩, ⟨bl⟩⟩
       ·replace c36 := Bool.eq_false_iff.mpr c36; subst c36
        rw [if_neg (show ¬ (false = true) by decide)] at H
        have H' := Aside0.mk H; clear H; obtain ⟨hcz45_0, hcz45_1, hfz45_0, hfz45_1⟩ := b2 (w := wr) BK283
        go_wp2_with (first | ((with_reducible refine gate_callee (f := 40) rfl ?_); refine gl (some 22) Tryd.func40 #[.int .i64 x5_1, .int .i64 (l0_1.length : Int)] ?_; (with_reducible refine (skewbaldref00_List.calls k1 x5_1 (l0_1.length : Int) t290 _ A10.out).mono ?_); rintro e w46 ⟨v291, rfl, ho0, hb⟩; refine ⟨_, rfl, ?_⟩; replace HO_3 := Aside0.mk (Kd.S_elder' (bS HO_3) (Kd.R_base ho0) hb); have HO292 := Aside0.mk (Kd.R_lower (Kd.R_new' ho0 (Kd.R_lt (bR HO_4))) (below_size bl)); replace HO_4 := Aside0.mk (Kd.R_elder' (bR HO_4) (Kd.R_base ho0) hb); replace BK283 := nb BK283 hb; replace HB := hs HB hb; (try clear hb); (try clear hb2); (try clear hk); (try clear hi); (try clear ho0); obtain ⟨Ao47, co47, eo47⟩ := Kd.R_slice HO292.out; subst eo47; obtain ⟨Ao48, co48, eo48⟩ := Kd.R_slice HO_4.out; subst eo48) | (go_at_call 44; (with_reducible refine (skewbaldref00_Less.calls k1 _ _ t290 _ _ x4_1 true _ ?side1 ?side2 ?side3 ?side4 A32.out).mono ?_); (case side1 => repeat (first | exact (Kd.R_reads' HO292.out).2.2 | (with_reducible refine Kd.C_alloc ?_ _) | (with_reducible refine Kd.C_drewN ?_ _) | (with_reducible refine Kd.C_drew ?_))); (case side2 => exact (Kd.R_reads' HO292.out).2.1); (case side3 => repeat (first | exact (Kd.R_reads' HO_4.out).2.2 | (with_reducible refine Kd.C_alloc ?_ _) | (with_reducible refine Kd.C_drewN ?_ _) | (with_reducible refine Kd.C_drew ?_))); (case side4 => exact (Kd.R_reads' HO_4.out).2.1); rintro e w' ⟨rfl, ⟨nd, rfl⟩⟩; obtain ⟨hcz49_0, hcz49_1, hfz49_0, hfz49_1⟩ := b2 (w := w46) BK283) | (go_at_call 88; (with_reducible refine (skewbaldref01_every.calls k1 _ _ l0_0 _ _ l0_1 t298 _ ?side1 ?side2 ?side3 ?side4 A34.out).mono ?_); (case side1 => repeat (first | exact (Kd.C_below HR0_0.out bl) | (with_reducible refine Kd.C_alloc ?_ _) | (with_reducible refine Kd.C_drewN ?_ _) | (with_reducible refine Kd.C_drew ?_))); (case side2 => exact HC0_0.out); (case side3 => repeat (first | exact (Kd.C_below HR0_1.out bl) | (with_reducible refine Kd.C_alloc ?_ _) | (with_reducible refine Kd.C_drewN ?_ _) | (with_reducible refine Kd.C_drew ?_))); (case side4 => exact HC0_1.out); rintro e w50 ⟨v299, rfl, ho0, hb⟩; replace HO_3 := Aside0.mk (Kd.S_elder' (bS HO_3) (Kd.R_base ho0) hb); have HO300 := Aside0.mk (Kd.R_lower (Kd.R_new' (Kd.R_new' ho0 (Kd.R_lt (bR HO_4))) (Kd.R_lt (bR HO292))) (below_size bl)); replace HO_4 := Aside0.mk (Kd.R_elder' (bR HO_4) (Kd.R_base ho0) hb); replace HO292 := Aside0.mk (Kd.R_elder' (bR HO292) (Kd.R_base ho0) hb); replace BK283 := nb BK283 hb; replace HB := hs HB hb; (try clear hb); (try clear hb2); (try clear hk); (try clear hi); (try clear ho0); obtain ⟨Ao51, co51, eo51⟩ := Kd.S_slice HO_3.out; subst eo51; obtain ⟨Ao52, co52, eo52⟩ := Kd.R_slice HO300.out; subst eo52) | (go_at_call 89; (with_reducible refine (skewbaldref01_given.calls k1 _ _ t284 _ _ t298 x5_1 false _ ?side1 ?side2 ?side3 ?side4 A35.out).mono ?_); (case side1 => repeat (first | exact (Kd.S_reads' HO_3.out).2.2 | (with_reducible refine Kd.C_alloc ?_ _) | (with_reducible refine Kd.C_drewN ?_ _) | (with_reducible refine Kd.C_drew ?_))); (case side2 => exact (Kd.S_reads' HO_3.out).2.1); (case side3 => repeat (first | exact (Kd.R_reads' HO300.out).2.2 | (with_reducible refine Kd.C_alloc ?_ _) | (with_reducible refine Kd.C_drewN ?_ _) | (with_reducible refine Kd.C_drew ?_))); (case side4 => exact (Kd.R_reads' HO300.out).2.1); rintro e w' ⟨rfl, ⟨nd, rfl⟩⟩))
        go_roundg k1
        case measure => have := HK1.out; omega
        case rel => exact ⟨(x4_1), (wrap64 (x5_1 + 1)), sm, H', ⟨lo HK1⟩, ⟨by (with_reducible repeat (first | apply Kd.S_alloc | apply Kd.S_drewN | apply Kd.S_drew)); exact Kd.S_mono HO_3.out (fun _ hk => hk.1.1)⟩, ⟨by (with_reducible repeat (first | apply Kd.R_alloc | apply Kd.R_drewN | apply Kd.R_drew)); exact Kd.R_mono HO_4.out (fun _ hk => trivial)⟩, ⟨bk⟩, ⟨bl⟩⟩
      ·replace c33 := Bool.eq_false_iff.mpr c33; subst c33
       rw [if_neg (show ¬ (false = true) by decide)] at H
       have H' := Aside0.mk H; clear H; obtain ⟨hcz53_0, hcz53_1, hfz53_0, hfz53_1⟩ := b2 (w := wr) BK283
       go_wp2_with (first | ((with_reducible refine gate_callee (f := 40) rfl ?_); refine gl (some 22) Tryd.func40 #[.int .i64 x5_1, .int .i64 (l0_1.length : Int)] ?_; (with_reducible refine (skewbaldref00_List.calls k1 x5_1 (l0_1.length : Int) t290 _ A10.out).mono ?_); rintro e w54 ⟨v291, rfl, ho0, hb⟩; refine ⟨_, rfl, ?_⟩; replace HO_3 := Aside0.mk (Kd.S_elder' (bS HO_3) (Kd.R_base ho0) hb); have HO292 := Aside0.mk (Kd.R_lower (Kd.R_new' ho0 (Kd.R_lt (bR HO_4))) (below_size bl)); replace HO_4 := Aside0.mk (Kd.R_elder' (bR HO_4) (Kd.R_base ho0) hb); replace BK283 := nb BK283 hb; replace HB := hs HB hb; (try clear hb); (try clear hb2); (try clear hk); (try clear hi); (try clear ho0); obtain ⟨Ao55, co55, eo55⟩ := Kd.R_slice HO292.out; subst eo55; obtain ⟨Ao56, co56, eo56⟩ := Kd.R_slice HO_4.out; subst eo56) | (go_at_call 44; (with_reducible refine (skewbaldref00_Less.calls k1 _ _ t290 _ _ x4_1 false _ ?side1 ?side2 ?side3 ?side4 A32.out).mono ?_); (case side1 => repeat (first | exact (Kd.R_reads' HO292.out).2.2 | (with_reducible refine Kd.C_alloc ?_ _) | (with_reducible refine Kd.C_drewN ?_ _) | (with_reducible refine Kd.C_drew ?_))); (case side2 => exact (Kd.R_reads' HO292.out).2.1); (case side3 => repeat (first | exact (Kd.R_reads' HO_4.out).2.2 | (with_reducible refine Kd.C_alloc ?_ _) | (with_reducible refine Kd.C_drewN ?_ _) | (with_reducible refine Kd.C_drew ?_))); (case side4 => exact (Kd.R_reads' HO_4.out).2.1); rintro e w' ⟨rfl, ⟨nd, rfl⟩⟩))
       go_roundg k1
       case measure => have := HK1.out; omega
       case rel => exact ⟨(x4_1), (wrap64 (x5_1 + 1)), sm, H', ⟨lo HK1⟩, ⟨by (with_reducible repeat (first | apply Kd.S_alloc | apply Kd.S_drewN | apply Kd.S_drew)); exact Kd.S_mono HO_3.out (fun _ hk => hk.1)⟩, ⟨by (with_reducible repeat (first | apply Kd.R_alloc | apply Kd.R_drewN | apply Kd.R_drew)); exact Kd.R_mono HO_4.out (fun _ hk => trivial)⟩, ⟨bk⟩, ⟨bl⟩⟩
     ·rw [if_neg c31] at H
      have c31b0 : ((t290.length : Int) == (x4_1.length : Int)) = false := beq_eq_false_iff_ne.mpr c31
      have c31b1 : ((t290.length : Int) != (x4_1.length : Int)) = true := bne_iff_ne.mpr c31
      have c31b2 : (t290.length == x4_1.length) = false := by first | simpa using c31 | (simp at c31 ⊢; omega)
      have H' := Aside0.mk H; clear H; obtain ⟨hcz57_0, hcz57_1, hfz57_0, hfz57_1⟩ := b2 (w := wr) BK283
      go_wp2_with (first | ((with_reducible refine gate_callee (f := 40) rfl ?_); refine gl (some 22) Tryd.func40 #[.int .i64 x5_1, .int .i64 (l0_1.length : Int)] ?_; (with_reducible refine (skewbaldref00_List.calls k1 x5_1 (l0_1.length : Int) t290 _ A10.out).mono ?_); rintro e w58 ⟨v291, rfl, ho0, hb⟩; refine ⟨_, rfl, ?_⟩; replace HO_3 := Aside0.mk (Kd.S_elder' (bS HO_3) (Kd.R_base ho0) hb); have HO292 := Aside0.mk (Kd.R_lower (Kd.R_new' ho0 (Kd.R_lt (bR HO_4))) (below_size bl)); replace HO_4 := Aside0.mk (Kd.R_elder' (bR HO_4) (Kd.R_base ho0) hb); replace BK283 := nb BK283 hb; replace HB := hs HB hb; (try clear hb); (try clear hb2); (try clear hk); (try clear hi); (try clear ho0); obtain ⟨Ao59, co59, eo59⟩ := Kd.R_slice HO292.out; subst eo59; obtain ⟨Ao60, co60, eo60⟩ := Kd.R_slice HO_4.out; subst eo60))
      go_roundg k1
      case measure => have := HK1.out; omega
      case rel => exact ⟨(x4_1), (wrap64 (x5_1 + 1)), sm, H', ⟨lo HK1⟩, ⟨by (with_reducible repeat (first | apply Kd.S_alloc | apply Kd.S_drewN | apply Kd.S_drew)); exact Kd.S_mono HO_3.out (fun _ hk => hk.1)⟩, ⟨by (with_reducible repeat (first | apply Kd.R_alloc | apply Kd.R_drewN | apply Kd.R_drew)); exact Kd.R_mono HO_4.out (fun _ hk => trivial)⟩, ⟨bk⟩, ⟨bl⟩⟩
   ·rw [if_neg c9] at H
    have c9b0 : decide (x5_1 < (ji8)) = false := decide_eq_false c9
    clear c9; obtain rfl := Option.some.inj H; obtain ⟨hcz61_0, hcz61_1, hfz61_0, hfz61_1⟩ := b2 (w := wr) BK283
    go_wp2
    go_ret
    exact ⟨_, by first | rfl | (simp [errW_none, errW_some] <;> rfl) | (simp only [← hji8]; first | rfl | (simp [errW_none, errW_some] <;> rfl)) | (simp [*, errW_none, errW_some] <;> rfl), by (with_reducible repeat (first | apply Kd.R_alloc | apply Kd.R_drewN | apply Kd.R_drew)); exact HO_4.out, bl⟩
mutual
def skewbaldref01_Look.l0 : Nat → Int → Int → Int → Int → List (S48) → List (S50) → Option (Int × Int × Int)
 | 0, _, _, _, _, _, _ => none
 | k + 1, x6, x7, x8, x9, x303000, x303001 => if x9 < (x303000.length : Int) then (skewbaldref01_Look.l1 k x6 x7 x8 x9 0 x303000 x303001) else (if x8 < 0 then (some (0, 0, 4)) else (some (x6, x7, 0)))
def skewbaldref01_Look.l1 : Nat → Int → Int → Int → Int → Int → List (S48) → List (S50) → Option (Int × Int × Int)
 | 0, _, _, _, _, _, _, _ => none
 | k + 1, x6, x7, x8, x9, x10, x303000, x303001 => if 0 ≤ x9 then (if x9 < (x303000.length : Int) then (if x10 < (((rd_T48 x303000 x9).f1).length : Int) then (if 0 ≤ x10 then (skewbaldref01_Look.l2 k x6 x7 x8 x9 x10 (x303001.length : Int) ((rd_T60 ((rd_T48 x303000 x9).f1) x10).f0) x303000 x303001 ((rd_T60 ((rd_T48 x303000 x9).f1) x10).f0) ((rd_T60 ((rd_T48 x303000 x9).f1) x10).f1)) else (none)) else (skewbaldref01_Look.l0 k x6 x7 x8 (wrap64 (x9 + 1)) x303000 x303001)) else (none)) else (none)
def skewbaldref01_Look.l2 : Nat → Int → Int → Int → Int → Int → Int → Int → List (S48) → List (S50) → Int → Int → Option (Int × Int × Int)
 | 0, _, _, _, _, _, _, _, _, _, _, _ => none
 | k + 1, x6, x7, x8, x9, x10, x12, x13, x303000, x303001, x308000, x308001 => if x13 ≤ x308001 then ((skewbaldref01_Known.f x303000 x303001 x9 x10 x13).bind fun bt308 => ((skewbaldref01_most.f k bt308.1 bt308.2).bind fun t314 => (skewbaldref01_Look.l2 k x6 x7 x8 x9 x10 (mn x12 (t314.length : Int)) (wrap64 (x13 + 1)) x303000 x303001 x308000 x308001))) else (if x12 > x8 then (skewbaldref01_Look.l1 k x9 x10 x12 x9 (wrap64 (x10 + 1)) x303000 x303001) else (skewbaldref01_Look.l1 k x6 x7 x8 x9 (wrap64 (x10 + 1)) x303000 x303001))
end
def skewbaldref01_Look.f (k : Nat) (l0_0 : List (S48)) (l0_1 : List (S50)) : Option (Int × Int × Int) := (skewbaldref01_Check.f k l0_0 l0_1).bind fun t303 => (if t303 = 0 then (skewbaldref01_Look.l0 k 0 0 (-1) 0 l0_0 l0_1) else (some (0, 0, t303)))
def skewbaldref01_Look.T11 : Bool × List (List Nat × List Nat) := (true, [([], []), ([0], [0]), ([], []), ([1, 2], [1, 2]), ([3], [3]), ([4], [4]), ([], []), ([5, 6], [5, 6]), ([7], [7]), ([], []), ([9], [9]), ([10], [10]), ([], []), ([12, 8, 0, 1, 2, 3, 4, 5, 6, 7, 8, 12], [8, 12]), ([11, 13, 0, 1, 2, 3, 4, 5, 6, 7, 8, 9, 10, 11, 12, 13], [11])])
def skewbaldref01_Look.B11 : List Nat := [0, 1, 0, 7, 15, 31, 0, 127, 255, 0, 512, 1536, 0, 4607, 16383]
theorem skewbaldref01_Look.tab11 : rtab .any (opsOf Tryd.f33 11) = skewbaldref01_Look.T11 := by kernel_rfl
theorem skewbaldref01_Look.bits11 : waitsOk skewbaldref01_Look.T11.2 skewbaldref01_Look.B11 = true := by kernel_rfl
set_option maxHeartbeats 8000000 in
set_option maxRecDepth 100000 in
theorem skewbaldref01_Look.calls (k : Nat) (A0_0 : Option Addr) (c0_0 : Nat) (l0_0 : List (S48)) (A0_1 : Option Addr) (c0_1 : Nat) (l0_1 : List (S50)) (r1 : Int) (r2 : Int) (r3 : Int) (w : World) (hr0_0 : Kd.C k48 w A0_0 l0_0.length l0_0) (hc0_0 : l0_0.length ≤ c0_0) (hr0_1 : Kd.C k50 w A0_1 l0_1.length l0_1) (hc0_1 : l0_1.length ≤ c0_1) (h : skewbaldref01_Look.f k l0_0 l0_1 = some (r1, r2, r3)) :
  Calls Tryd.prog 33 #[.agg #[.slice A0_0 l0_0.length c0_0, .slice A0_1 l0_1.length c0_1]] w fun e w' => e = .returned (.tuple #[.int .i64 r1, .int .i64 r2, .int .i64 r3]) ∧ Below w.heap.size w w' := by
 have hu25 := Tryd.underlying25; have hu60 := Tryd.underlying60; have HR0_0 := Aside0.mk hr0_0; have HC0_0 := Aside0.mk hc0_0; clear hr0_0 hc0_0; have HR0_1 := Aside0.mk hr0_1; have HC0_1 := Aside0.mk hc0_1; clear hr0_1 hc0_1; have HB := Aside0.mk (Below.refl w.heap.size w)
 have H : ((skewbaldref01_Check.f k l0_0 l0_1).bind fun t303 => (if t303 = 0 then (skewbaldref01_Look.l0 k 0 0 (-1) 0 l0_0 l0_1) else (some (0, 0, t303)))) = some (r1, r2, r3) := h
 clear h; obtain ⟨t303, A2, H⟩ := ob H
 replace H : (if t303 = 0 then (skewbaldref01_Look.l0 k 0 0 (-1) 0 l0_0 l0_1) else (some (0, 0, t303))) = some (r1, r2, r3) := H
 by_cases c3 : t303 = 0
 ·rw [if_pos c3] at H
  have c3b0 : (t303 == 0) = true := beq_iff_eq.mpr c3
  have c3b1 : (t303 != 0) = false := bne_eq_false_iff_eq.mpr c3
  clear c3; have H' := Aside0.mk H; clear H
  go_enter Tryd.func33, Tryd.ntmps33
  go_wp2_with (first | (refine bx 1 #[.slice A0_0 l0_0.length c0_0, .slice A0_1 l0_1.length c0_1] 25 ?_; intro gb302 hg w4 hbox hb; have BK302 := Aside0.mk hbox; have GW302 := gw hg HB; have GE302 := gw hg HB; replace HB := hs HB hb; clear hb hbox hg; obtain ⟨hcz5_0, hcz5_1, hfz5_0, hfz5_1⟩ := b2 (w := w4) BK302) | ((with_reducible refine gate_callee (f := 19) rfl ?_); refine gl (some 15) Tryd.func19 #[.agg #[.slice A0_0 l0_0.length c0_0, .slice A0_1 l0_1.length c0_1]] ?_; (with_reducible refine (skewbaldref01_Check.calls k _ _ l0_0 _ _ l0_1 t303 _ cl HC0_0.out cl HC0_1.out A2.out).mono ?_); rintro e w6 ⟨rfl, hb⟩; refine ⟨_, rfl, ?_⟩; replace BK302 := nb BK302 hb; replace HB := hs HB hb; (try clear hb); (try clear hb2); (try clear hk); (try clear hi)))
  go_loopg [6, 7, 8, 9] k (fun kq v6 v7 v8 v9 w' => ∃ (x6_1 : Int) (x7_1 : Int) (x8_1 : Int) (x9_1 : Int), v6 = .int .i64 x6_1 ∧ v7 = .int .i64 x7_1 ∧ v8 = .int .i64 x8_1 ∧ v9 = .int .i64 x9_1 ∧ Aside0 (skewbaldref01_Look.l0 kq x6_1 x7_1 x8_1 x9_1 l0_0 l0_1 = some (r1, r2, r3)) ∧ Aside0 (kq ≤ k) ∧ Aside0 (w'.heap[gb302]? = some (.cells #[(.slice A0_0 l0_0.length c0_0), (.slice A0_1 l0_1.length c0_1)] 25 (0, 0))) ∧ Aside0 (Below w.heap.size w w'))
  case atStart => exact ⟨(0), (0), ((-1)), (0), sm, sm, sm, sm, H', ⟨Nat.le_refl _⟩, ⟨bk⟩, ⟨bl⟩⟩
  case round =>
   clear H'; (try clear c1); (try clear p2); (try clear c3); (try clear c3b0); (try clear c3b1); (try clear hcz5_0); (try clear hcz5_1); (try clear hfz5_0); (try clear hfz5_1); obtain ⟨x6_1, x7_1, x8_1, x9_1, rfl, rfl, rfl, rfl, HA, HK1, BK302, HB⟩ := hrel
   cases gk with
   | zero => exact absurd HA.out (by simp [skewbaldref01_Look.l0])
   | succ k1 =>
    have H := HA.out; clear HA
    simp only [skewbaldref01_Look.l0] at H
    by_cases c7 : x9_1 < (l0_0.length : Int)
    ·rw [if_pos c7] at H; have c7b0 := decide_eq_true c7; clear c7; have H' := Aside0.mk H; clear H; obtain ⟨hcz8_0, hcz8_1, hfz8_0, hfz8_1⟩ := b2 (w := wr) BK302
     go_wp2
     go_loopg [6, 7, 8, 10] k1 (fun kq v6 v7 v8 v10 w' => ∃ (x6_2 : Int) (x7_2 : Int) (x8_2 : Int) (x10_2 : Int), v6 = .int .i64 x6_2 ∧ v7 = .int .i64 x7_2 ∧ v8 = .int .i64 x8_2 ∧ v10 = .int .i64 x10_2 ∧ Aside0 (skewbaldref01_Look.l1 kq x6_2 x7_2 x8_2 x9_1 x10_2 l0_0 l0_1 = some (r1, r2, r3)) ∧ Aside0 (kq ≤ k1) ∧ Aside0 (w'.heap[gb302]? = some (.cells #[(.slice A0_0 l0_0.length c0_0), (.slice A0_1 l0_1.length c0_1)] 25 (0, 0))) ∧ Aside0 (Below w.heap.size w w'))
     case atStart => exact ⟨(x6_1), (x7_1), (x8_1), (0), sm, sm, sm, sm, H', ⟨Nat.le_refl _⟩, ⟨bk⟩, ⟨bl⟩⟩
     case round =>
      clear H'; (try clear c1); (try clear p2); (try clear c3); (try clear c3b0); (try clear c3b1); (try clear c7); (try clear c7b0); (try clear hcz5_0); (try clear hcz5_1); (try clear hcz8_0); (try clear hcz8_1); (try clear hfz5_0); (try clear hfz5_1); (try clear hfz8_0); (try clear hfz8_1); obtain ⟨x6_2, x7_2, x8_2, x10_2, rfl, rfl, rfl, rfl, HA, HK2, BK302, HB⟩ := hrel
      cases gk with
      | zero => exact absurd HA.out (by simp [skewbaldref01_Look.l1])
      | succ k2 =>
       have H := HA.out; clear HA
       simp only [skewbaldref01_Look.l1] at H
       by_cases c9 : 0 ≤ x9_1
       ·rw [if_pos c9] at H; have c9b0 := decide_eq_true c9; clear c9
        by_cases c10 : x9_1 < (l0_0.length : Int)
        ·rw [if_pos c10] at H; have c10b0 := decide_eq_true c10; clear c10
         by_cases c11 : x10_2 < (((rd_T48 l0_0 x9_1).f1).length : Int)
         ·rw [if_pos c11] at H; have c11b0 := decide_eq_true c11; clear c11
          by_cases c12 : 0 ≤ x10_2
          ·rw [if_pos c12] at H; have c12b0 := decide_eq_true c12; clear c12; have H' := Aside0.mk H; clear H; obtain ⟨hcz13_0, hcz13_1, hfz13_0, hfz13_1⟩ := b2 (w := wr) BK302
           have p304 : 0 ≤ (x9_1 : Int) := od
           have q304 : x9_1 < (l0_0.length : Int) := od
           obtain ⟨ad304, A304_1, c304_1, e304, hx304_0, hx304_1, hl304_1, hi304_1⟩ := at_T48 HR0_0.out x9_1 p304 q304
           cases e304
           replace hx304_0 := cm HB hx304_0; replace hx304_1 := cm HB hx304_1; have HR304_1 := Aside0.mk hi304_1; have HC304_1 := Aside0.mk hl304_1; clear hi304_1 hl304_1; replace p304 := eq_true p304; replace q304 := eq_true q304
           try go_wp2
           replace BK302 := Aside0.mk (blk_drew BK302.out); replace HB := Aside0.mk (below_drew1 HB.out)
           have p305 : 0 ≤ (x9_1 : Int) := od
           have q305 : x9_1 < (l0_0.length : Int) := od
           obtain ⟨ad305, A305_1, c305_1, e305, hx305_0, hx305_1, hl305_1, hi305_1⟩ := at_T48 HR0_0.out x9_1 p305 q305; have hw305_1 := hx305_1; have hw305_0 := hx305_0
           obtain rfl : ad304 = ad305 := (by injection e305)
           replace hx305_0 := cm HB hx305_0; replace hx305_1 := cm HB hx305_1; have HR305_1 := Aside0.mk hi305_1; have HC305_1 := Aside0.mk hl305_1; clear hi305_1 hl305_1; replace p305 := eq_true p305; replace q305 := eq_true q305
           have p306 : 0 ≤ (x10_2 : Int) := od
           have q306 : x10_2 < (((rd_T48 l0_0 x9_1).f1).length : Int) := od
           obtain ⟨ad306, e306, hx306_0, hx306_1⟩ := at_T60 HR305_1.out x10_2 p306 q306; have hw306_1 := hx306_1; have hw306_0 := hx306_0
           cases e306
           replace hx306_0 := cm HB hx306_0; replace hx306_1 := cm HB hx306_1; replace p306 := eq_true p306; replace q306 := eq_true q306
           refine start_ (n := 15) (S := fun w' => w'.cell? ⟨gb302, 0, none⟩ = some (.slice (some ad304) l0_0.length c0_0) ∧ w'.cell? ⟨gb302, 1, none⟩ = some (.slice A0_1 l0_1.length c0_1) ∧ w'.cell? (ad304.add ((x9_1).toNat * 2)) = some (.int .i64 ((rd_T48 l0_0 x9_1).f0)) ∧ w'.cell? ⟨(ad304.add ((x9_1).toNat * 2)).block, (ad304.add ((x9_1).toNat * 2)).off + 1, none⟩ = some (.slice (some ad306) ((rd_T48 l0_0 x9_1).f1).length c305_1) ∧ w'.cell? (ad306.add ((x10_2).toNat * 2)) = some (.int .i64 ((rd_T60 ((rd_T48 l0_0 x9_1).f1) x10_2).f0)) ∧ w'.cell? ⟨(ad306.add ((x10_2).toNat * 2)).block, (ad306.add ((x10_2).toNat * 2)).off + 1, none⟩ = some (.int .i64 ((rd_T60 ((rd_T48 l0_0 x9_1).f1) x10_2).f1))) (ds := []) #[false, false, false, false, false, false, false, false, false, false, false, false, false, false, false] (by kernel_rfl) rfl rfl ⟨bq BK302 0, bq BK302 1, (cm HB hw305_0 :), (cm HB hw305_1 :), (cm HB hw306_0 :), (cm HB hw306_1 :)⟩ (fun hHeld => ?_); refine with_tabW skewbaldref01_Look.tab11 skewbaldref01_Look.bits11 (fun HT_ HW_ => ?_)
           generalize wr.drew = w14 at BK302 HB HR305_1 hx305_0 hx305_1 hx306_0 hx306_1 hHeld ⊢
           refine pu_ (i := 0) (N := some 37) (qa_ 15 1) ?_
           refine pu_ (i := 2) (N := some 39) (qa_ 15 5) ?_
           refine pu_ (i := 6) (N := some 43) (qa_ 15 69) ?_
           refine pu_ (i := 9) (N := some 46) (qa_ 15 581) ?_
           refine tk_ (i := 1) (N := some 38) (qa_ 15 583) hHeld ?_
           refine pu_ (i := 3) (N := some 40) (qa_ 15 591) ?_
           refine pu_ (i := 4) (N := some 41) (qa_ 15 607) ?_
           refine tk_ (i := 5) (N := some 42) (qa_ 15 639) hHeld ?_
           refine pu_ (i := 7) (N := some 44) (qa_ 15 767) ?_
           refine tk_ (i := 8) (N := some 45) (qa_ 15 1023) hHeld ?_
           refine tk_ (i := 10) (N := some 47) (qa_ 15 2047) hHeld ?_
           refine pu_ (i := 11) (N := some 48) (qa_ 15 4095) ?_
           refine on_ (i := 12) (N := some 11) (qa_ 15 8191) (fun K hK => ?_)
           refine box_step ?hg (N := 11) ?hd (cs := #[.int .i64 0, .int .i64 0]) (t := 60) ?hr ?_; (case hd => rfl); (case hg => rfl); (case hr => first | (go_simp; done) | (go_simp; rfl))
           intro gb307 hg w15 hbox hb
           have BK307 := Aside0.mk hbox; have GW307 := gw hg HB; have GE307 := gw hg HB; replace HB := hs HB hb; have NB302_307 := nl hg BK302; have NB307_302 := ng hg BK302; replace BK302 := nb BK302 hb; clear hb hbox hg
           refine hK.out _ _ ⟨bq BK302 0, bq BK302 1, (cm HB hw305_0 :), (cm HB hw305_1 :), (cm HB hw306_0 :), (cm HB hw306_1 :)⟩ (fun hHeld => ?_)
           clear hK K
           refine nm_ (some 11) ?_
           refine on_ (i := 13) (N := none) (qa_ 15 16383) (fun K hK => ?_)
           have hs16 : w15.cell? ⟨gb307, 0, none⟩ = some (.int .i64 0) := (blk_cell BK307.out 0).trans rfl
           have hfs16 := blk_frozen BK307.out 0; have hns16_0 := NB302_307.out; have hms16_0 := NB307_302.out
           have hs17 : w15.cell? ⟨gb307, 1, none⟩ = some (.int .i64 0) := (blk_cell BK307.out 1).trans rfl
           have hfs17 := blk_frozen BK307.out 1; have hns17_0 := NB302_307.out; have hms17_0 := NB307_302.out
           refine skip_ (w1 := ?_) (by rfl) rfl ?_ ?_
           rotate_left
           ·go_simp
            rfl
           refine hK.out _ _ ⟨(cx NB302_307.out (cx NB302_307.out hHeld.1)), (cx NB302_307.out (cx NB302_307.out hHeld.2.1)), (cx (fb hw305_0 GW307) (cx (fb hw305_0 GW307) hHeld.2.2.1)), (cx (fb hw305_1 GW307) (cx (fb hw305_1 GW307) hHeld.2.2.2.1)), (cx (fb hw306_0 GW307) (cx (fb hw306_0 GW307) hHeld.2.2.2.2.1)), (cx (fb hw306_1 GW307) (cx (fb hw306_1 GW307) hHeld.2.2.2.2.2))⟩ (fun hHeld => ?_)
           clear hK K
           refine pu_ (i := 14) (N := some 12) (qa_ 15 32767) ?_
           refine done_ (done_of HT_.out (by kernel_rfl)) ?_
           have hnb18 := NB307_302.out; have hnc18 := NB302_307.out; obtain ⟨hcz19_0, hcz19_1, hfz19_0, hfz19_1⟩ := b2 (w := w15) BK307
           try go_wp2
           go_loopg [12, 13] k2 (fun kq v12 v13 w' => ∃ (x12_3 : Int) (x13_3 : Int), v12 = .int .i64 x12_3 ∧ v13 = .int .i64 x13_3 ∧ Aside0 (skewbaldref01_Look.l2 kq x6_2 x7_2 x8_2 x9_1 x10_2 x12_3 x13_3 l0_0 l0_1 ((rd_T60 ((rd_T48 l0_0 x9_1).f1) x10_2).f0) ((rd_T60 ((rd_T48 l0_0 x9_1).f1) x10_2).f1) = some (r1, r2, r3)) ∧ Aside0 (kq ≤ k2) ∧ Aside0 (w'.heap[gb302]? = some (.cells #[(.slice (some ad304) l0_0.length c0_0), (.slice A0_1 l0_1.length c0_1)] 25 (0, 0))) ∧ Aside0 (w'.heap[gb307]? = some (.cells #[.int .i64 ((rd_T60 ((rd_T48 l0_0 x9_1).f1) x10_2).f0), .int .i64 ((rd_T60 ((rd_T48 l0_0 x9_1).f1) x10_2).f1)] 60 (0, 0))) ∧ Aside0 (Below w.heap.size w w'))
           case atStart => exact ⟨((l0_1.length : Int)), ((rd_T60 ((rd_T48 l0_0 x9_1).f1) x10_2).f0), sm, sm, H', ⟨Nat.le_refl _⟩, ⟨by (with_reducible repeat (first | refine blk_drewN ?_ _ | refine blk_drew ?_ | refine blk_alloc ?_ _)); refine blk_far ?_ NB302_307.out _; (with_reducible repeat (first | refine blk_drewN ?_ _ | refine blk_drew ?_ | refine blk_alloc ?_ _)); refine blk_far ?_ NB302_307.out _; (with_reducible repeat (first | refine blk_drewN ?_ _ | refine blk_drew ?_ | refine blk_alloc ?_ _)); exact BK302.out⟩, ⟨by (with_reducible repeat (first | refine blk_drewN ?_ _ | refine blk_drew ?_ | refine blk_alloc ?_ _)); refine blk_put (cs := #[.int .i64 ((rd_T60 ((rd_T48 l0_0 x9_1).f1) x10_2).f0), .int .i64 0]) ?_ 1 _ rfl; (with_reducible repeat (first | refine blk_drewN ?_ _ | refine blk_drew ?_ | refine blk_alloc ?_ _)); refine blk_put (cs := #[.int .i64 0, .int .i64 0]) ?_ 0 _ rfl; (with_reducible repeat (first | refine blk_drewN ?_ _ | refine blk_drew ?_ | refine blk_alloc ?_ _)); exact BK307.out⟩, ⟨bl⟩⟩
           case round =>
            clear H'; (try clear c1); (try clear p2); (try clear c3); (try clear c3b0); (try clear c3b1); (try clear p3); (try clear q3); (try clear hx3); (try clear c7); (try clear c7b0); (try clear c9); (try clear c9b0); (try clear c10); (try clear c10b0); (try clear c11); (try clear c11b0); (try clear c12); (try clear c12b0); (try clear c18); (try clear c19); (try clear hcz13_0); (try clear hcz13_1); (try clear hcz19_0); (try clear hcz19_1); (try clear hcz5_0); (try clear hcz5_1); (try clear hcz8_0); (try clear hcz8_1); (try clear hfz13_0); (try clear hfz13_1); (try clear hfz19_0); (try clear hfz19_1); (try clear hfz5_0); (try clear hfz5_1); (try clear hfz8_0); (try clear hfz8_1); (try clear hx304_0); (try clear hx304_1); (try clear hx305_0); (try clear hx305_1); (try clear hx306_0); (try clear hx306_1); (try clear p304); (try clear p305); (try clear p306); (try clear q304); (try clear q305); (try clear q306)
            obtain ⟨x12_3, x13_3, rfl, rfl, HA, HK3, BK302, BK307, HB⟩ := hrel
            cases gk with
            | zero => exact absurd HA.out (by simp [skewbaldref01_Look.l2])
            | succ k3 =>
             have H := HA.out; clear HA
             simp only [skewbaldref01_Look.l2] at H
             by_cases c20 : x13_3 ≤ ((rd_T60 ((rd_T48 l0_0 x9_1).f1) x10_2).f1)
             ·rw [if_pos c20] at H; have c20b0 := decide_eq_true c20; clear c20; replace H := Option.bind_eq_some_iff.mp H; obtain ⟨⟨t308, t311⟩, A210, H⟩ := H
              replace H : ((skewbaldref01_most.f k3 t308 t311).bind fun t314 => (skewbaldref01_Look.l2 k3 x6_2 x7_2 x8_2 x9_1 x10_2 (mn x12_3 (t314.length : Int)) (wrap64 (x13_3 + 1)) l0_0 l0_1 ((rd_T60 ((rd_T48 l0_0 x9_1).f1) x10_2).f0) ((rd_T60 ((rd_T48 l0_0 x9_1).f1) x10_2).f1))) = some (r1, r2, r3) := H
              have A21 := Aside0.mk A210; clear A210; obtain ⟨t314, A22, H⟩ := ob H
              replace H : (skewbaldref01_Look.l2 k3 x6_2 x7_2 x8_2 x9_1 x10_2 (mn x12_3 (t314.length : Int)) (wrap64 (x13_3 + 1)) l0_0 l0_1 ((rd_T60 ((rd_T48 l0_0 x9_1).f1) x10_2).f0) ((rd_T60 ((rd_T48 l0_0 x9_1).f1) x10_2).f1)) = some (r1, r2, r3) := H
              obtain ⟨ji23, hji23⟩ : ∃ j_ : Int, (mn x12_3 (t314.length : Int)) = j_ := ⟨_, rfl⟩
              replace H : (skewbaldref01_Look.l2 k3 x6_2 x7_2 x8_2 x9_1 x10_2 ji23 (wrap64 (x13_3 + 1)) l0_0 l0_1 ((rd_T60 ((rd_T48 l0_0 x9_1).f1) x10_2).f0) ((rd_T60 ((rd_T48 l0_0 x9_1).f1) x10_2).f1)) = some (r1, r2, r3) := by first | (rw [hji23] at H; exact H) | (simp only [hji23] at H ⊢; exact H)
              (try rw [hji23] at A21)
              (try rw [hji23] at A22)
              have hji23_ : (if (t314.length : Int) < x12_3 then (t314.length : Int) else x12_3) = ji23 := hji23
              have H' := Aside0.mk H; clear H; have hnb24 := NB307_302.out; have hnc24 := NB302_307.out; obtain ⟨hcz25_0, hcz25_1, hfz25_0, hfz25_1⟩ := b2 (w := wr) BK307; obtain ⟨hcz26_0, hcz26_1, hfz26_0, hfz26_1⟩ := b2 (w := wr) BK302
              go_wp2_with (first | ((with_reducible refine gate_callee (f := 94) rfl ?_); refine gl (some 62) Tryd.func94 #[.agg #[.slice (some ad304) l0_0.length c0_0, .slice A0_1 l0_1.length c0_1], .int .i64 x9_1, .int .i64 x10_2, .int .i64 x13_3] ?_; (with_reducible refine (skewbaldref01_Known.calls (fun k_ => k_ < w.heap.size) _ _ l0_0 (fun k_ => k_ < w.heap.size) _ _ l0_1 x9_1 x10_2 x13_3 t308 t311 _ ?side1 ?side2 A21.out).mono ?_); (case side1 => exact Kd.V_mk HC0_0.out (Kd.F_below (Kd.C_F k48_heap HR0_0.out) bl)); (case side2 => exact Kd.V_mk HC0_1.out (Kd.F_below (Kd.C_F k50_heap HR0_1.out) bl)); rintro e w27 ⟨v309, v312, rfl, ho0, ho1, hb⟩; refine ⟨_, rfl, ?_⟩; have HO310 := Aside0.mk (Kd.V_lower (Kd.V_mono (ok' := fun k_ => k_ ≠ gb302 ∧ k_ ≠ gb307) ho0 (fun k_ hk_ => ⟨Or.elim hk_ (fun hs_ => Or.elim hs_ (fun hs_ => fun e_ => Nat.not_le.2 hs_ (by rw [e_]; exact GW302.out)) (fun hs_ => fun e_ => Nat.not_le.2 hs_ (by rw [e_]; exact GW302.out))) (fun hn_ => (Kd.freshB (g := gb302) (o := .cells #[.slice (some ad304) l0_0.length c0_0, .slice A0_1 l0_1.length c0_1] 25 (0, 0)) bk k_ hn_)), Or.elim hk_ (fun hs_ => Or.elim hs_ (fun hs_ => fun e_ => Nat.not_le.2 hs_ (by rw [e_]; exact GW307.out)) (fun hs_ => fun e_ => Nat.not_le.2 hs_ (by rw [e_]; exact GW307.out))) (fun hn_ => (Kd.freshB (g := gb307) (o := .cells #[.int .i64 ((rd_T60 ((rd_T48 l0_0 x9_1).f1) x10_2).f0), .int .i64 ((rd_T60 ((rd_T48 l0_0 x9_1).f1) x10_2).f1)] 60 (0, 0)) bk k_ hn_))⟩)) (below_size bl)); have HO313 := Aside0.mk (Kd.V_lower (Kd.V_mono (ok' := fun k_ => k_ ≠ gb302 ∧ k_ ≠ gb307) ho1 (fun k_ hk_ => ⟨Or.elim hk_ (fun hs_ => Or.elim hs_ (fun hs_ => fun e_ => Nat.not_le.2 hs_ (by rw [e_]; exact GW302.out)) (fun hs_ => fun e_ => Nat.not_le.2 hs_ (by rw [e_]; exact GW302.out))) (fun hn_ => (Kd.freshB (g := gb302) (o := .cells #[.slice (some ad304) l0_0.length c0_0, .slice A0_1 l0_1.length c0_1] 25 (0, 0)) bk k_ hn_)), Or.elim hk_ (fun hs_ => Or.elim hs_ (fun hs_ => fun e_ => Nat.not_le.2 hs_ (by rw [e_]; exact GW307.out)) (fun hs_ => fun e_ => Nat.not_le.2 hs_ (by rw [e_]; exact GW307.out))) (fun hn_ => (Kd.freshB (g := gb307) (o := .cells #[.int .i64 ((rd_T60 ((rd_T48 l0_0 x9_1).f1) x10_2).f0), .int .i64 ((rd_T60 ((rd_T48 l0_0 x9_1).f1) x10_2).f1)] 60 (0, 0)) bk k_ hn_))⟩)) (below_size bl)); replace BK302 := nb BK302 hb; replace BK307 := nb BK307 hb; replace HB := hs HB hb; (try clear hb); (try clear hb2); (try clear hk); (try clear hi); (try clear ho0); (try clear ho1); obtain ⟨Ao28, co28, eo28⟩ := Kd.V_slice HO310.out; subst eo28; obtain ⟨Ao29, co29, eo29⟩ := Kd.V_slice HO313.out; subst eo29) | ((with_reducible refine gate_callee (f := 80) rfl ?_); refine gl (some 63) Tryd.func80 #[.agg #[.slice Ao28 t308.length co28, .slice Ao29 t311.length co29]] ?_; (with_reducible refine (skewbaldref01_most.calls k3 _ _ t308 _ _ t311 t314 _ ?side1 ?side2 ?side3 ?side4 A22.out).mono ?_); (case side1 => repeat (first | exact (Kd.V_reads' HO310.out).2.2 | (with_reducible refine Kd.C_alloc ?_ _) | (with_reducible refine Kd.C_drewN ?_ _) | (with_reducible refine Kd.C_drew ?_))); (case side2 => exact (Kd.V_reads' HO310.out).2.1); (case side3 => repeat (first | exact (Kd.V_reads' HO313.out).2.2 | (with_reducible refine Kd.C_alloc ?_ _) | (with_reducible refine Kd.C_drewN ?_ _) | (with_reducible refine Kd.C_drew ?_))); (case side4 => exact (Kd.V_reads' HO313.out).2.1); rintro e w30 ⟨v315, rfl, ho0, hb⟩; refine ⟨_, rfl, ?_⟩; replace HO310 := Aside0.mk (Kd.V_elder' (by (with_reducible repeat (first | apply Kd.V_alloc | apply Kd.V_drewN | apply Kd.V_drew)); exact HO310.out) (Kd.R_base ho0) hb); replace HO313 := Aside0.mk (Kd.V_elder' (by (with_reducible repeat (first | apply Kd.V_alloc | apply Kd.V_drewN | apply Kd.V_drew)); exact HO313.out) (Kd.R_base ho0) hb); have HO316 := Aside0.mk (Kd.R_lower ho0 (below_size bl)); replace BK302 := nb BK302 hb; replace BK307 := nb BK307 hb; replace HB := hs HB hb; (try clear hb); (try clear hb2); (try clear hk); (try clear hi); (try clear ho0); obtain ⟨Ao31, co31, eo31⟩ := Kd.R_slice HO316.out; subst eo31))
              go_roundg k3
              case measure => have := HK1.out; have := HK2.out; have := HK3.out; omega
              case rel => exact ⟨(ji23), (wrap64 (x13_3 + 1)), (by first | rfl | (simp; done) | (simp only [← hji23] <;> (first | rfl | simp)) | (simp [*]; done)), sm, H', ⟨by have := HK1.out; have := HK2.out; have := HK3.out; omega⟩, ⟨bk⟩, ⟨bk⟩, ⟨bl⟩⟩
             ·rw [if_neg c20] at H
              have c20b0 : decide (x13_3 ≤ ((rd_T60 ((rd_T48 l0_0 x9_1).f1) x10_2).f1)) = false := decide_eq_false c20
              clear c20
              by_cases c32 : x12_3 > x8_2
              ·rw [if_pos c32] at H; have c32b0 := decide_eq_true c32; clear c32; have H' := Aside0.mk H; clear H; have hnb33 := NB307_302.out; have hnc33 := NB302_307.out; obtain ⟨hcz34_0, hcz34_1, hfz34_0, hfz34_1⟩ := b2 (w := wr) BK307
               go_wp2
               go_roundg k3
               case measure => have := HK1.out; have := HK2.out; have := HK3.out; omega
               case rel => exact ⟨(x9_1), (x10_2), (x12_3), (wrap64 (x10_2 + 1)), sm, sm, sm, sm, H', ⟨by have := HK1.out; have := HK2.out; have := HK3.out; omega⟩, ⟨bk⟩, ⟨bl⟩⟩
              ·rw [if_neg c32] at H
               have c32b0 : decide (x8_2 < x12_3) = false := decide_eq_false c32
               clear c32; have H' := Aside0.mk H; clear H; have hnb35 := NB307_302.out; have hnc35 := NB302_307.out; obtain ⟨hcz36_0, hcz36_1, hfz36_0, hfz36_1⟩ := b2 (w := wr) BK307
               go_wp2
               go_roundg k3
               case measure => have := HK1.out; have := HK2.out; have := HK3.out; omega
               case rel => exact ⟨(x6_2), (x7_2), (x8_2), (wrap64 (x10_2 + 1)), sm, sm, sm, sm, H', ⟨by have := HK1.out; have := HK2.out; have := HK3.out; omega⟩, ⟨bk⟩, ⟨bl⟩⟩
          ·rw [if_neg c12] at H
           exact absurd H (by simp)
         ·rw [if_neg c11] at H
          have c11b0 : decide (x10_2 < (((rd_T48 l0_0 x9_1).f1).length : Int)) = false := decide_eq_false c11
          clear c11; have H' := Aside0.mk H; clear H; obtain ⟨hcz37_0, hcz37_1, hfz37_0, hfz37_1⟩ := b2 (w := wr) BK302
          have p304 : 0 ≤ (x9_1 : Int) := od
          have q304 : x9_1 < (l0_0.length : Int) := od
          obtain ⟨ad304, A304_1, c304_1, e304, hx304_0, hx304_1, hl304_1, hi304_1⟩ := at_T48 HR0_0.out x9_1 p304 q304
          cases e304
          replace hx304_0 := cm HB hx304_0; replace hx304_1 := cm HB hx304_1; have HR304_1 := Aside0.mk hi304_1; have HC304_1 := Aside0.mk hl304_1; clear hi304_1 hl304_1; replace p304 := eq_true p304; replace q304 := eq_true q304
          go_wp2
          go_roundg k2
          case measure => have := HK1.out; have := HK2.out; omega
          case rel => exact ⟨(x6_2), (x7_2), (x8_2), (wrap64 (x9_1 + 1)), sm, sm, sm, sm, H', ⟨lp HK1 HK2⟩, ⟨bk⟩, ⟨bl⟩⟩
        ·rw [if_neg c10] at H
         exact absurd H (by simp)
       ·rw [if_neg c9] at H
        exact absurd H (by simp)
    ·rw [if_neg c7] at H
     have c7b0 : decide (x9_1 < (l0_0.length : Int)) = false := decide_eq_false c7
     clear c7
     by_cases c38 : x8_1 < 0
     ·rw [if_pos c38] at H; have c38b0 := decide_eq_true c38; clear c38
      simp only [Option.some.injEq, Prod.mk.injEq] at H
      obtain ⟨rfl, rfl, rfl⟩ := H; obtain ⟨hcz39_0, hcz39_1, hfz39_0, hfz39_1⟩ := b2 (w := wr) BK302
      go_wp2
      go_ret3
      exact ⟨by first | rfl | (simp [errW_none, errW_some] <;> rfl) | (simp [*, errW_none, errW_some] <;> rfl), bl⟩
     ·rw [if_neg c38] at H
      have c38b0 : decide (x8_1 < 0) = false := decide_eq_false c38
      clear c38
      simp only [Option.some.injEq, Prod.mk.injEq] at H
      obtain ⟨rfl, rfl, rfl⟩ := H; obtain ⟨hcz40_0, hcz40_1, hfz40_0, hfz40_1⟩ := b2 (w := wr) BK302
      go_wp2
      go_ret3
      exact ⟨by first | rfl | (simp [errW_none, errW_some] <;> rfl) | (simp [*, errW_none, errW_some] <;> rfl), bl⟩
 ·rw [if_neg c3] at H
  have c3b0 : (t303 == 0) = false := beq_eq_false_iff_ne.mpr c3
  have c3b1 : (t303 != 0) = true := bne_iff_ne.mpr c3
  simp only [Option.some.injEq, Prod.mk.injEq] at H
  obtain ⟨rfl, rfl, rfl⟩ := H
  go_enter Tryd.func33, Tryd.ntmps33
  go_wp2_with (first | (refine bx 1 #[.slice A0_0 l0_0.length c0_0, .slice A0_1 l0_1.length c0_1] 25 ?_; intro gb302 hg w41 hbox hb; have BK302 := Aside0.mk hbox; have GW302 := gw hg HB; have GE302 := gw hg HB; replace HB := hs HB hb; clear hb hbox hg; obtain ⟨hcz42_0, hcz42_1, hfz42_0, hfz42_1⟩ := b2 (w := w41) BK302) | ((with_reducible refine gate_callee (f := 19) rfl ?_); refine gl (some 15) Tryd.func19 #[.agg #[.slice A0_0 l0_0.length c0_0, .slice A0_1 l0_1.length c0_1]] ?_; (with_reducible refine (skewbaldref01_Check.calls k _ _ l0_0 _ _ l0_1 t303 _ cl HC0_0.out cl HC0_1.out A2.out).mono ?_); rintro e w43 ⟨rfl, hb⟩; refine ⟨_, rfl, ?_⟩; replace BK302 := nb BK302 hb; replace HB := hs HB hb; (try clear hb); (try clear hb2); (try clear hk); (try clear hi)))
  go_ret3
  exact ⟨by first | rfl | (simp [errW_none, errW_some] <;> rfl) | (simp [*, errW_none, errW_some] <;> rfl), bl⟩
def skewbaldref00_Equal.l0 : Nat → List Int → List Int → Bool → Int → Option (Bool)
 | 0, _, _, _, _ => none
 | k + 1, x0, x1, x5, x6 => if x5 = true then (if x6 < (x0.length : Int) then (if 0 ≤ x6 then (if x6 < (x1.length : Int) then (skewbaldref00_Equal.l0 k x0 x1 ((rd x0 x6) == (rd x1 x6)) (wrap64 (x6 + 1))) else (none)) else (none)) else (some x5)) else (some x5)
def skewbaldref00_Equal.f (k : Nat) (l0 : List Int) (l1 : List Int) : Option (Bool) := skewbaldref00_Equal.l0 k l0 l1 ((l0.length : Int) == (l1.length : Int)) 0
set_option maxHeartbeats 8000000 in
set_option maxRecDepth 100000 in
theorem skewbaldref00_Equal.calls (k : Nat) (A0 : Option Addr) (c0 : Nat) (l0 : List Int) (A1 : Option Addr) (c1 : Nat) (l1 : List Int) (r : Bool) (w : World) (hr0 : Kd.C (Kd.int .i64) w A0 l0.length l0) (hc0 : l0.length ≤ c0) (hr1 : Kd.C (Kd.int .i64) w A1 l1.length l1) (hc1 : l1.length ≤ c1) (h : skewbaldref00_Equal.f k l0 l1 = some r) :
  Calls Tryd.prog 22 #[.slice A0 l0.length c0, .slice A1 l1.length c1] w fun e w' => e = .returned (.bool r) ∧ Drawn0 w w' := by
 have HR0 := Aside0.mk hr0; have HC0 := Aside0.mk hc0; clear hr0 hc0; have HR1 := Aside0.mk hr1; have HC1 := Aside0.mk hc1; clear hr1 hc1
 have H : (skewbaldref00_Equal.l0 k l0 l1 ((l0.length : Int) == (l1.length : Int)) 0) = some r := h
 clear h; have H' := Aside0.mk H; clear H
 go_enter Tryd.func22, Tryd.ntmps22
 go_wp2
 repeat (go_quiet (fail); try go_wp2)
 go_loopg [5, 6] k (fun kq v5 v6 w' => ∃ (x5_1 : Bool) (x6_1 : Int), v5 = .bool x5_1 ∧ v6 = .int .i64 x6_1 ∧ Aside0 (skewbaldref00_Equal.l0 kq l0 l1 x5_1 x6_1 = some r) ∧ Aside0 (kq ≤ k) ∧ Drawn0 w w')
 case atStart => exact ⟨(((l0.length : Int) == (l1.length : Int))), (0), sm, sm, H', ⟨Nat.le_refl _⟩, by repeat (first | exact Drawn0.refl _ | apply Drawn0.step)⟩
 case round =>
  clear H'; (try clear c1); (try clear c2); (try clear p2); obtain ⟨x5_1, x6_1, rfl, rfl, HA, HK1, ⟨m1, rfl⟩⟩ := hrel
  cases gk with
  | zero => exact absurd HA.out (by simp [skewbaldref00_Equal.l0])
  | succ k1 =>
   have H := HA.out; clear HA
   simp only [skewbaldref00_Equal.l0] at H
   by_cases c3 : x5_1 = true
   ·subst c3; rw [if_pos rfl] at H
    by_cases c4 : x6_1 < (l0.length : Int)
    ·rw [if_pos c4] at H; have c4b0 := decide_eq_true c4; clear c4
     by_cases c5 : 0 ≤ x6_1
     ·rw [if_pos c5] at H; have c5b0 := decide_eq_true c5; clear c5
      by_cases c6 : x6_1 < (l1.length : Int)
      ·rw [if_pos c6] at H; have c6b0 := decide_eq_true c6; clear c6; have H' := Aside0.mk H; clear H
       have p194 : 0 ≤ (x6_1 : Int) := od
       have q194 : x6_1 < (l0.length : Int) := od
       obtain ⟨ad194, e194, hx194_0⟩ := Kd.at_int HR0.out x6_1 p194 q194
       cases e194
       replace p194 := eq_true p194; replace q194 := eq_true q194
       have p195 : 0 ≤ (x6_1 : Int) := od
       have q195 : x6_1 < (l1.length : Int) := od
       obtain ⟨ad195, e195, hx195_0⟩ := Kd.at_int HR1.out x6_1 p195 q195
       cases e195
       replace p195 := eq_true p195; replace q195 := eq_true q195
       go_wp2
       repeat (go_quiet (fail); try go_wp2)
       go_roundg k1
       case measure => have := HK1.out; omega
       case rel => exact ⟨(((rd l0 x6_1) == (rd l1 x6_1))), (wrap64 (x6_1 + 1)), sm, sm, H', ⟨lo HK1⟩, by repeat (first | exact Drawn0.refl _ | apply Drawn0.step)⟩
      ·rw [if_neg c6] at H
       exact absurd H (by simp)
     ·rw [if_neg c5] at H
      exact absurd H (by simp)
    ·rw [if_neg c4] at H
     have c4b0 : decide (x6_1 < (l0.length : Int)) = false := decide_eq_false c4
     clear c4; obtain rfl := Option.some.inj H
     go_wp2
     repeat (go_quiet (fail); try go_wp2)
     go_ret
     exact ⟨sm, by repeat (first | exact Drawn0.refl _ | apply Drawn0.step)⟩
   ·replace c3 := Bool.eq_false_iff.mpr c3; subst c3
    rw [if_neg (show ¬ (false = true) by decide)] at H
    obtain rfl := Option.some.inj H
    go_wp2
    repeat (go_quiet (fail); try go_wp2)
    go_ret
    exact ⟨sm, by repeat (first | exact Drawn0.refl _ | apply Drawn0.step)⟩
def skewbaldref01_Fewest.l0 : Nat → List (List Int) → Int → List Int → Int → List (S48) → List (S50) → Option (List Int × Int)
 | 0, _, _, _, _, _, _ => none
 | k + 1, x5, x6, x7, x8, x261000, x261001 => if x8 < (shl .i64 1 (x261000.length : Int)) then ((skewbaldref00_List.f k x8 (x261000.length : Int)).bind fun t269 => ((skewbaldref00_Shorter.f k t269 x7).bind fun t272 => (if t272 = true then ((skewbaldref01_given.f k x5 t269 x6).bind fun t273 => (if t273 = true then (skewbaldref01_Fewest.l0 k x5 x6 t269 (wrap64 (x8 + 1)) x261000 x261001) else (skewbaldref01_Fewest.l0 k x5 x6 x7 (wrap64 (x8 + 1)) x261000 x261001))) else (skewbaldref01_Fewest.l0 k x5 x6 x7 (wrap64 (x8 + 1)) x261000 x261001)))) else (some (x7, 0))
def skewbaldref01_Fewest.f (k : Nat) (l0_0 : List (S48)) (l0_1 : List (S50)) : Option (List Int × Int) := (skewbaldref01_Check.f k l0_0 l0_1).bind fun t261 => (if t261 = 0 then ((skewbaldref01_tables.f k l0_0 l0_1).bind fun t262 => ((skewbaldref01_every.f k l0_0 l0_1).bind fun t265 => ((skewbaldref01_given.f k t262 t265 (wrap64 ((shl .i64 1 (l0_1.length : Int)) - 1))).bind fun t268 => (if t268 = true then (skewbaldref01_Fewest.l0 k t262 (wrap64 ((shl .i64 1 (l0_1.length : Int)) - 1)) t265 0 l0_0 l0_1) else (some (([] : List Int), 4)))))) else (some (([] : List Int), t261)))
def skewbaldref01_Fewest.T4 : Bool × List (List Nat × List Nat) := (true, [([], []), ([0], [0]), ([], []), ([2], [2]), ([3], [3]), ([4], [4]), ([5], [5]), ([1, 1, 0, 1], [1]), ([6, 7, 0, 1, 2, 3, 4, 5, 6, 7], [6])])
def skewbaldref01_Fewest.B4 : List Nat := [0, 1, 0, 4, 12, 28, 60, 3, 255]
theorem skewbaldref01_Fewest.tab4 : rtab .any (opsOf Tryd.f29 4) = skewbaldref01_Fewest.T4 := by kernel_rfl
theorem skewbaldref01_Fewest.bits4 : waitsOk skewbaldref01_Fewest.T4.2 skewbaldref01_Fewest.B4 = true := by kernel_rfl
set_option maxHeartbeats 8000000 in
set_option maxRecDepth 100000 in
theorem skewbaldref01_Fewest.calls (k : Nat) (A0_0 : Option Addr) (c0_0 : Nat) (l0_0 : List (S48)) (A0_1 : Option Addr) (c0_1 : Nat) (l0_1 : List (S50)) (r1 : List Int) (r2 : Int) (w : World) (hr0_0 : Kd.C k48 w A0_0 l0_0.length l0_0) (hc0_0 : l0_0.length ≤ c0_0) (hr0_1 : Kd.C k50 w A0_1 l0_1.length l0_1) (hc0_1 : l0_1.length ≤ c0_1) (h : skewbaldref01_Fewest.f k l0_0 l0_1 = some (r1, r2)) :
  Calls Tryd.prog 29 #[.agg #[.slice A0_0 l0_0.length c0_0, .slice A0_1 l0_1.length c0_1]] w fun e w' => ∃ v0_ : Value, e = .returned (.tuple #[v0_, .int .i64 r2]) ∧ Kd.R (Kd.int .i64) 3 w' w.heap.size (fun _ => True) v0_ r1 ∧ Below w.heap.size w w' := by
 have hu25 := Tryd.underlying25; have HR0_0 := Aside0.mk hr0_0; have HC0_0 := Aside0.mk hc0_0; clear hr0_0 hc0_0; have HR0_1 := Aside0.mk hr0_1; have HC0_1 := Aside0.mk hc0_1; clear hr0_1 hc0_1; have HB := Aside0.mk (Below.refl w.heap.size w)
 have H : ((skewbaldref01_Check.f k l0_0 l0_1).bind fun t261 => (if t261 = 0 then ((skewbaldref01_tables.f k l0_0 l0_1).bind fun t262 => ((skewbaldref01_every.f k l0_0 l0_1).bind fun t265 => ((skewbaldref01_given.f k t262 t265 (wrap64 ((shl .i64 1 (l0_1.length : Int)) - 1))).bind fun t268 => (if t268 = true then (skewbaldref01_Fewest.l0 k t262 (wrap64 ((shl .i64 1 (l0_1.length : Int)) - 1)) t265 0 l0_0 l0_1) else (some (([] : List Int), 4)))))) else (some (([] : List Int), t261)))) = some (r1, r2) := h
 clear h; obtain ⟨t261, A2, H⟩ := ob H
 replace H : (if t261 = 0 then ((skewbaldref01_tables.f k l0_0 l0_1).bind fun t262 => ((skewbaldref01_every.f k l0_0 l0_1).bind fun t265 => ((skewbaldref01_given.f k t262 t265 (wrap64 ((shl .i64 1 (l0_1.length : Int)) - 1))).bind fun t268 => (if t268 = true then (skewbaldref01_Fewest.l0 k t262 (wrap64 ((shl .i64 1 (l0_1.length : Int)) - 1)) t265 0 l0_0 l0_1) else (some (([] : List Int), 4)))))) else (some (([] : List Int), t261))) = some (r1, r2) := H
 by_cases c3 : t261 = 0
 ·rw [if_pos c3] at H
  have c3b0 : (t261 == 0) = true := beq_iff_eq.mpr c3
  have c3b1 : (t261 != 0) = false := bne_eq_false_iff_eq.mpr c3
  clear c3; obtain ⟨t262, A4, H⟩ := ob H
  replace H : ((skewbaldref01_every.f k l0_0 l0_1).bind fun t265 => ((skewbaldref01_given.f k t262 t265 (wrap64 ((shl .i64 1 (l0_1.length : Int)) - 1))).bind fun t268 => (if t268 = true then (skewbaldref01_Fewest.l0 k t262 (wrap64 ((shl .i64 1 (l0_1.length : Int)) - 1)) t265 0 l0_0 l0_1) else (some (([] : List Int), 4))))) = some (r1, r2) := H
  obtain ⟨ji5, hji5⟩ : ∃ j_ : Int, (shl .i64 1 (l0_1.length : Int)) = j_ := ⟨_, rfl⟩
  replace H : ((skewbaldref01_every.f k l0_0 l0_1).bind fun t265 => ((skewbaldref01_given.f k t262 t265 (wrap64 ((ji5) - 1))).bind fun t268 => (if t268 = true then (skewbaldref01_Fewest.l0 k t262 (wrap64 ((ji5) - 1)) t265 0 l0_0 l0_1) else (some (([] : List Int), 4))))) = some (r1, r2) := by first | (rw [hji5] at H; exact H) | (simp only [hji5] at H ⊢; exact H)
  (try rw [hji5] at A2)
  (try rw [hji5] at A4)
  have hji5_ : (IntKind.i64.wrap (1 * 2 ^ min (l0_1.length : Int).toNat 64)) = ji5 := hji5
  have hji5z : (l0_1.length : Int) ≤ 64 → (IntKind.i64.wrap (1 * 2 ^ (l0_1.length : Int).toNat)) = ji5 := shl_small hji5
  have hji5p : (IntKind.i64.wrap (1 * 2 ^ min l0_1.length 64)) = ji5 := hji5_
  have hji5q : (l0_1.length : Int) ≤ 64 → (IntKind.i64.wrap (1 * 2 ^ l0_1.length)) = ji5 := hji5z
  have hji5r : (IntKind.i64.wrap (2 ^ min l0_1.length 64)) = ji5 := by have h_ := hji5p; rw [Int.one_mul] at h_; exact h_
  have hji5s : (l0_1.length : Int) ≤ 64 → (IntKind.i64.wrap (2 ^ l0_1.length)) = ji5 := fun hle_ => by have h_ := hji5q hle_; rw [Int.one_mul] at h_; exact h_
  have hji5u : (IntKind.i64.wrap (2 ^ min (l0_1.length : Int).toNat 64)) = ji5 := by have h_ := hji5_; rw [Int.one_mul] at h_; exact h_
  have hji5v : (l0_1.length : Int) ≤ 64 → (IntKind.i64.wrap (2 ^ (l0_1.length : Int).toNat)) = ji5 := fun hle_ => by have h_ := hji5z hle_; rw [Int.one_mul] at h_; exact h_
  have hji5y : (wrap64 (1 * 2 ^ min (l0_1.length : Int).toNat 64)) = ji5 := (i64_w _).symm.trans hji5_
  have hji5x : (l0_1.length : Int) ≤ 64 → (wrap64 (1 * 2 ^ (l0_1.length : Int).toNat)) = ji5 := fun h_ => (i64_w _).symm.trans (hji5z h_)
  have hji5A : (wrap64 (2 ^ min (l0_1.length : Int).toNat 64)) = ji5 := (i64_w _).symm.trans hji5u
  have hji5B : (l0_1.length : Int) ≤ 64 → (wrap64 (2 ^ (l0_1.length : Int).toNat)) = ji5 := fun h_ => (i64_w _).symm.trans (hji5v h_)
  have hji5C : (wrap64 (2 ^ min l0_1.length 64)) = ji5 := (i64_w _).symm.trans hji5r
  have hji5D : (l0_1.length : Int) ≤ 64 → (wrap64 (2 ^ l0_1.length)) = ji5 := fun h_ => (i64_w _).symm.trans (hji5s h_)
  obtain ⟨t265, A6, H⟩ := ob H
  replace H : ((skewbaldref01_given.f k t262 t265 (wrap64 ((ji5) - 1))).bind fun t268 => (if t268 = true then (skewbaldref01_Fewest.l0 k t262 (wrap64 ((ji5) - 1)) t265 0 l0_0 l0_1) else (some (([] : List Int), 4)))) = some (r1, r2) := H
  obtain ⟨t268, A7, H⟩ := ob H
  replace H : (if t268 = true then (skewbaldref01_Fewest.l0 k t262 (wrap64 ((ji5) - 1)) t265 0 l0_0 l0_1) else (some (([] : List Int), 4))) = some (r1, r2) := H
  by_cases c8 : t268 = true
  ·subst c8
   have H1 : (skewbaldref01_Fewest.l0 k t262 (wrap64 ((ji5) - 1)) t265 0 l0_0 l0_1) = some (r1, r2) := by rw [if_pos rfl] at H; exact H
   clear H; have H := H1; clear H1; have H' := Aside0.mk H; clear H
   go_enter Tryd.func29, Tryd.ntmps29
   try go_wp2_with (first | (refine bx 1 #[.slice A0_0 l0_0.length c0_0, .slice A0_1 l0_1.length c0_1] 25 ?_; intro gb260 hg w9 hbox hb; have BK260 := Aside0.mk hbox; have GW260 := gw hg HB; have GE260 := gw hg HB; replace HB := hs HB hb; clear hb hbox hg; obtain ⟨hcz10_0, hcz10_1, hfz10_0, hfz10_1⟩ := b2 (w := w9) BK260) | ((with_reducible refine gate_callee (f := 19) rfl ?_); refine gl (some 11) Tryd.func19 #[.agg #[.slice A0_0 l0_0.length c0_0, .slice A0_1 l0_1.length c0_1]] ?_; (with_reducible refine (skewbaldref01_Check.calls k _ _ l0_0 _ _ l0_1 t261 _ cl HC0_0.out cl HC0_1.out A2.out).mono ?_); rintro e w11 ⟨rfl, hb⟩; refine ⟨_, rfl, ?_⟩; replace BK260 := nb BK260 hb; replace HB := hs HB hb; (try clear hb); (try clear hb2); (try clear hk); (try clear hi)))
   replace BK260 := Aside0.mk (blk_drew BK260.out); replace HB := Aside0.mk (below_drew1 HB.out)
   refine start_ (n := 9) (S := fun w' => w'.cell? ⟨gb260, 0, none⟩ = some (.slice A0_0 l0_0.length c0_0) ∧ w'.cell? ⟨gb260, 1, none⟩ = some (.slice A0_1 l0_1.length c0_1)) (ds := []) #[false, false, false, false, false, false, false, false, false] (by kernel_rfl) rfl rfl ⟨bq BK260 0, bq BK260 1⟩ (fun hHeld => ?_); refine with_tabW skewbaldref01_Fewest.tab4 skewbaldref01_Fewest.bits4 (fun HT_ HW_ => ?_)
   generalize w11.drew = w12 at BK260 HB hHeld ⊢
   refine pu_ (i := 2) (N := some 17) (qa_ 9 4) ?_
   refine tk_ (i := 0) (N := some 15) (qa_ 9 5) hHeld ?_
   refine tk_ (i := 3) (N := some 18) (qa_ 9 13) hHeld ?_
   refine pu_ (i := 4) (N := some 19) (qa_ 9 29) ?_
   refine pu_ (i := 5) (N := some 20) (qa_ 9 61) ?_
   refine pu_ (i := 6) (N := some 21) (qa_ 9 125) ?_
   refine on_ (i := 1) (N := some 16) (qa_ 9 127) (fun K hK => ?_)
   refine goes_ Tryd.func87 (by kernel_rfl) rfl #[.agg #[.slice A0_0 l0_0.length c0_0, .slice A0_1 l0_1.length c0_1]] (by rfl) rfl rfl (by (try simp only [List.map_toArray, List.map_cons, List.map_nil]); first | done | rfl | (simp only [List.length_drop, List.length_take]; rfl)) ?_
   with_reducible refine (skewbaldref01_tables.calls k _ _ l0_0 _ _ l0_1 t262 _ ?side1 ?side2 ?side3 ?side4 A4.out).mono ?_
   (case side1 => exact cl)
   (case side2 => exact HC0_0.out)
   (case side3 => exact cl)
   (case side4 => exact HC0_1.out)
   rintro e w13 ⟨v263, rfl, ho0, hb⟩
   refine ⟨_, rfl, ?_⟩
   have HO264 := Aside0.mk (Kd.S_lower ho0 (below_size bl)); replace BK260 := nb BK260 hb; replace HB := hs HB hb; (try clear hb); (try clear hb2); (try clear hk); (try clear hi); (try clear ho0)
   refine hK.out _ _ ⟨bq BK260 0, bq BK260 1⟩ (fun hHeld => ?_)
   clear hK K
   refine nm_ (some 16) ?_
   refine pu_ (i := 7) (N := some 5) (qa_ 9 255) ?_
   refine pu_ (i := 8) (N := some 6) (qa_ 9 511) ?_
   refine done_ (done_of HT_.out (by kernel_rfl)) ?_
   obtain ⟨hcz14_0, hcz14_1, hfz14_0, hfz14_1⟩ := b2 (w := w13) BK260
   try go_wp2_with (first | ((with_reducible refine gate_callee (f := 88) rfl ?_); refine gl (some 23) Tryd.func88 #[.agg #[.slice A0_0 l0_0.length c0_0, .slice A0_1 l0_1.length c0_1]] ?_; (with_reducible refine (skewbaldref01_every.calls k _ _ l0_0 _ _ l0_1 t265 _ cl HC0_0.out cl HC0_1.out A6.out).mono ?_); rintro e w15 ⟨v266, rfl, ho0, hb⟩; refine ⟨_, rfl, ?_⟩; replace HO264 := Aside0.mk (Kd.S_elder' (bS HO264) (Kd.R_base ho0) hb); have HO267 := Aside0.mk (Kd.R_lower ho0 (below_size bl)); replace BK260 := nb BK260 hb; replace HB := hs HB hb; (try clear hb); (try clear hb2); (try clear hk); (try clear hi); (try clear ho0); obtain ⟨Ao16, co16, eo16⟩ := Kd.S_slice HO264.out; subst eo16; obtain ⟨Ao17, co17, eo17⟩ := Kd.R_slice HO267.out; subst eo17) | ((with_reducible refine gate_callee (f := 89) rfl ?_); refine goesL_ (some 27) rfl rfl Tryd.func89 (by kernel_rfl) rfl #[.slice Ao16 t262.length co16, .slice Ao17 t265.length co17, .int .i64 (wrap64 ((ji5) - 1))] rfl (by (try simp only [List.map_toArray, List.map_cons, List.map_nil]); first | done | (simp only [hji5]; rfl) | rfl | (simp only [List.length_drop, List.length_take]; rfl)) ?_; (with_reducible refine (skewbaldref01_given.calls k _ _ t262 _ _ t265 (wrap64 ((ji5) - 1)) true _ ?side1 ?side2 ?side3 ?side4 A7.out).mono ?_); (case side1 => repeat (first | exact (Kd.S_reads' HO264.out).2.2 | (with_reducible refine Kd.C_alloc ?_ _) | (with_reducible refine Kd.C_drewN ?_ _) | (with_reducible refine Kd.C_drew ?_))); (case side2 => exact (Kd.S_reads' HO264.out).2.1); (case side3 => repeat (first | exact (Kd.R_reads' HO267.out).2.2 | (with_reducible refine Kd.C_alloc ?_ _) | (with_reducible refine Kd.C_drewN ?_ _) | (with_reducible refine Kd.C_drew ?_))); (case side4 => exact (Kd.R_reads' HO267.out).2.1); rintro e w' ⟨rfl, ⟨nd, rfl⟩⟩; refine ⟨_, rfl, ?_⟩))
   go_loopg [7, 8] k (fun kq v7 v8 w' => ∃ (x7_1 : List Int) (x8_1 : Int), v8 = .int .i64 x8_1 ∧ Aside0 (skewbaldref01_Fewest.l0 kq t262 (wrap64 ((ji5) - 1)) x7_1 x8_1 l0_0 l0_1 = some (r1, r2)) ∧ Aside0 (kq ≤ k) ∧ Aside0 (Kd.S (Kd.slice 3 (Kd.int .i64)) 31 w' w.heap.size (fun k_ => some k_ ≠ (v7 : Value).ownBlock) (.slice Ao16 t262.length co16) t262) ∧ Aside0 (Kd.R (Kd.int .i64) 3 w' w.heap.size (fun _ => True) v7 x7_1) ∧ Aside0 (w'.heap[gb260]? = some (.cells #[(.slice A0_0 l0_0.length c0_0), (.slice A0_1 l0_1.length c0_1)] 25 (0, 0))) ∧ Aside0 (Below w.heap.size w w'))
   case atStart => exact ⟨(t265), (0), sm, H', ⟨Nat.le_refl _⟩, ⟨by (with_reducible repeat (first | apply Kd.S_alloc | apply Kd.S_drewN | apply Kd.S_drew)); exact Kd.S_mono HO264.out (fun _ hk => hk.2)⟩, ⟨bR HO267⟩, ⟨bk⟩, ⟨bl⟩⟩
   case round =>
    clear H'; (try clear c1); (try clear c2); (try clear p2); (try clear c3); (try clear c3b0); (try clear c3b1); (try clear p6); (try clear c8); (try clear hcz10_0); (try clear hcz10_1); (try clear hcz14_0); (try clear hcz14_1); (try clear hfz10_0); (try clear hfz10_1); (try clear hfz14_0); (try clear hfz14_1); obtain ⟨x7_1, x8_1, rfl, HA, HK1, HO_5, HO_7, BK260, HB⟩ := hrel
    cases gk with
    | zero => exact absurd HA.out (by simp [skewbaldref01_Fewest.l0])
    | succ k1 =>
     have H := HA.out; clear HA
     simp only [skewbaldref01_Fewest.l0] at H
     obtain ⟨ji18, hji18⟩ : ∃ j_ : Int, (shl .i64 1 (l0_0.length : Int)) = j_ := ⟨_, rfl⟩
     replace H : (if x8_1 < (ji18) then ((skewbaldref00_List.f k1 x8_1 (l0_0.length : Int)).bind fun t269 => ((skewbaldref00_Shorter.f k1 t269 x7_1).bind fun t272 => (if t272 = true then ((skewbaldref01_given.f k1 t262 t269 (wrap64 ((ji5) - 1))).bind fun t273 => (if t273 = true then (skewbaldref01_Fewest.l0 k1 t262 (wrap64 ((ji5) - 1)) t269 (wrap64 (x8_1 + 1)) l0_0 l0_1) else (skewbaldref01_Fewest.l0 k1 t262 (wrap64 ((ji5) - 1)) x7_1 (wrap64 (x8_1 + 1)) l0_0 l0_1))) else (skewbaldref01_Fewest.l0 k1 t262 (wrap64 ((ji5) - 1)) x7_1 (wrap64 (x8_1 + 1)) l0_0 l0_1)))) else (some (x7_1, 0))) = some (r1, r2) := by first | (rw [hji18] at H; exact H) | (simp only [hji18] at H ⊢; exact H)
     have hji18_ : (IntKind.i64.wrap (1 * 2 ^ min (l0_0.length : Int).toNat 64)) = ji18 := hji18
     have hji18z : (l0_0.length : Int) ≤ 64 → (IntKind.i64.wrap (1 * 2 ^ (l0_0.length : Int).toNat)) = ji18 := shl_small hji18
     have hji18p : (IntKind.i64.wrap (1 * 2 ^ min l0_0.length 64)) = ji18 := hji18_
     have hji18q : (l0_0.length : Int) ≤ 64 → (IntKind.i64.wrap (1 * 2 ^ l0_0.length)) = ji18 := hji18z
     have hji18r : (IntKind.i64.wrap (2 ^ min l0_0.length 64)) = ji18 := by have h_ := hji18p; rw [Int.one_mul] at h_; exact h_
     have hji18s : (l0_0.length : Int) ≤ 64 → (IntKind.i64.wrap (2 ^ l0_0.length)) = ji18 := fun hle_ => by have h_ := hji18q hle_; rw [Int.one_mul] at h_; exact h_
     have hji18u : (IntKind.i64.wrap (2 ^ min (l0_0.length : Int).toNat 64)) = ji18 := by have h_ := hji18_; rw [Int.one_mul] at h_; exact h_
     have hji18v : (l0_0.length : Int) ≤ 64 → (IntKind.i64.wrap (2 ^ (l0_0.length : Int).toNat)) = ji18 := fun hle_ => by have h_ := hji18z hle_; rw [Int.one_mul] at h_; exact h_
     have hji18y : (wrap64 (1 * 2 ^ min (l0_0.length : Int).toNat 64)) = ji18 := (i64_w _).symm.trans hji18_
     have hji18x : (l0_0.length : Int) ≤ 64 → (wrap64 (1 * 2 ^ (l0_0.length : Int).toNat)) = ji18 := fun h_ => (i64_w _).symm.trans (hji18z h_)
     have hji18A : (wrap64 (2 ^ min (l0_0.length : Int).toNat 64)) = ji18 := (i64_w _).symm.trans hji18u
     have hji18B : (l0_0.length : Int) ≤ 64 → (wrap64 (2 ^ (l0_0.length : Int).toNat)) = ji18 := fun h_ => (i64_w _).symm.trans (hji18v h_)
     have hji18C : (wrap64 (2 ^ min l0_0.length 64)) = ji18 := (i64_w _).symm.trans hji18r
     have hji18D : (l0_0.length : Int) ≤ 64 → (wrap64 (2 ^ l0_0.length)) = ji18 := fun h_ => (i64_w _).symm.trans (hji18s h_)
     by_cases c19 : x8_1 < (ji18)
     ·rw [if_pos c19] at H; have c19b0 := decide_eq_true c19; clear c19; obtain ⟨t269, A20, H⟩ := ob H
      replace H : ((skewbaldref00_Shorter.f k1 t269 x7_1).bind fun t272 => (if t272 = true then ((skewbaldref01_given.f k1 t262 t269 (wrap64 ((ji5) - 1))).bind fun t273 => (if t273 = true then (skewbaldref01_Fewest.l0 k1 t262 (wrap64 ((ji5) - 1)) t269 (wrap64 (x8_1 + 1)) l0_0 l0_1) else (skewbaldref01_Fewest.l0 k1 t262 (wrap64 ((ji5) - 1)) x7_1 (wrap64 (x8_1 + 1)) l0_0 l0_1))) else (skewbaldref01_Fewest.l0 k1 t262 (wrap64 ((ji5) - 1)) x7_1 (wrap64 (x8_1 + 1)) l0_0 l0_1))) = some (r1, r2) := H
      obtain ⟨t272, A21, H⟩ := ob H
      replace H : (if t272 = true then ((skewbaldref01_given.f k1 t262 t269 (wrap64 ((ji5) - 1))).bind fun t273 => (if t273 = true then (skewbaldref01_Fewest.l0 k1 t262 (wrap64 ((ji5) - 1)) t269 (wrap64 (x8_1 + 1)) l0_0 l0_1) else (skewbaldref01_Fewest.l0 k1 t262 (wrap64 ((ji5) - 1)) x7_1 (wrap64 (x8_1 + 1)) l0_0 l0_1))) else (skewbaldref01_Fewest.l0 k1 t262 (wrap64 ((ji5) - 1)) x7_1 (wrap64 (x8_1 + 1)) l0_0 l0_1)) = some (r1, r2) := H
      by_cases c22 : t272 = true
      ·subst c22
       have H1 : ((skewbaldref01_given.f k1 t262 t269 (wrap64 ((ji5) - 1))).bind fun t273 => (if t273 = true then (skewbaldref01_Fewest.l0 k1 t262 (wrap64 ((ji5) - 1)) t269 (wrap64 (x8_1 + 1)) l0_0 l0_1) else (skewbaldref01_Fewest.l0 k1 t262 (wrap64 ((ji5) - 1)) x7_1 (wrap64 (x8_1 + 1)) l0_0 l0_1))) = some (r1, r2) := by rw [if_pos rfl] at H; exact H
       clear H; have H := H1; clear H1; obtain ⟨t273, A23, H⟩ := ob H
       replace H : (if t273 = true then (skewbaldref01_Fewest.l0 k1 t262 (wrap64 ((ji5) - 1)) t269 (wrap64 (x8_1 + 1)) l0_0 l0_1) else (skewbaldref01_Fewest.l0 k1 t262 (wrap64 ((ji5) - 1)) x7_1 (wrap64 (x8_1 + 1)) l0_0 l0_1)) = some (r1, r2) := H
       by_cases c24 : t273 = true
       ·subst c24
        have H1 : (skewbaldref01_Fewest.l0 k1 t262 (wrap64 ((ji5) - 1)) t269 (wrap64 (x8_1 + 1)) l0_0 l0_1) = some (r1, r2) := by rw [if_pos rfl] at H; exact H
        clear H; have H := H1; clear H1; have H' := Aside0.mk H; clear H; obtain ⟨hcz25_0, hcz25_1, hfz25_0, hfz25_1⟩ := b2 (w := wr) BK260
        go_wp2_with (first | ((with_reducible refine gate_callee (f := 40) rfl ?_); refine gl (some 41) Tryd.func40 #[.int .i64 x8_1, .int .i64 (l0_0.length : Int)] ?_; (with_reducible refine (skewbaldref00_List.calls k1 x8_1 (l0_0.length : Int) t269 _ A20.out).mono ?_); rintro e w26 ⟨v270, rfl, ho0, hb⟩; refine ⟨_, rfl, ?_⟩; replace HO_5 := Aside0.mk (Kd.S_elder' (bS HO_5) (Kd.R_base ho0) hb); have HO271 := Aside0.mk (Kd.R_lower (Kd.R_new' ho0 (Kd.R_lt (bR HO_7))) (below_size bl)); replace HO_7 := Aside0.mk (Kd.R_elder' (bR HO_7) (Kd.R_base ho0) hb); replace BK260 := nb BK260 hb; replace HB := hs HB hb; (try clear hb); (try clear hb2); (try clear hk); (try clear hi); (try clear ho0); obtain ⟨Ao27, co27, eo27⟩ := Kd.R_slice HO271.out; subst eo27; obtain ⟨Ao28, co28, eo28⟩ := Kd.R_slice HO_7.out; subst eo28) | ((with_reducible refine gate_callee (f := 47) rfl ?_); refine gl (some 44) Tryd.func47 #[.slice Ao27 t269.length co27, .slice Ao28 x7_1.length co28] ?_; (with_reducible refine (skewbaldref00_Shorter.calls k1 _ _ t269 _ _ x7_1 true _ ?side1 ?side2 ?side3 ?side4 A21.out).mono ?_); (case side1 => repeat (first | exact (Kd.R_reads' HO271.out).2.2 | (with_reducible refine Kd.C_alloc ?_ _) | (with_reducible refine Kd.C_drewN ?_ _) | (with_reducible refine Kd.C_drew ?_))); (case side2 => exact (Kd.R_reads' HO271.out).2.1); (case side3 => repeat (first | exact (Kd.R_reads' HO_7.out).2.2 | (with_reducible refine Kd.C_alloc ?_ _) | (with_reducible refine Kd.C_drewN ?_ _) | (with_reducible refine Kd.C_drew ?_))); (case side4 => exact (Kd.R_reads' HO_7.out).2.1); rintro e w' ⟨rfl, ⟨nd, rfl⟩⟩; refine ⟨_, rfl, ?_⟩) | (go_at_call 89; (with_reducible refine (skewbaldref01_given.calls k1 _ _ t262 _ _ t269 (wrap64 ((ji5) - 1)) true _ ?side1 ?side2 ?side3 ?side4 A23.out).mono ?_); (case side1 => repeat (first | exact (Kd.S_reads' HO_5.out).2.2 | (with_reducible refine Kd.C_alloc ?_ _) | (with_reducible refine Kd.C_drewN ?_ _) | (with_reducible refine Kd.C_drew ?_))); (case side2 => exact (Kd.S_reads' HO_5.out).2.1); (case side3 => repeat (first | exact (Kd.R_reads' HO271.out).2.2 | (with_reducible refine Kd.C_alloc ?_ _) | (with_reducible refine Kd.C_drewN ?_ _) | (with_reducible refine Kd.C_drew ?_))); (case side4 => exact (Kd.R_reads' HO271.out).2.1); rintro e w' ⟨rfl, ⟨nd, rfl⟩⟩))
        go_roundg k1
        case measure => have := HK1.out; omega
        case rel => exact ⟨(t269), (wrap64 (x8_1 + 1)), sm, H', ⟨lo HK1⟩, ⟨by (with_reducible repeat (first | apply Kd.S_alloc | apply Kd.S_drewN | apply Kd.S_drew)); exact Kd.S_mono HO_5.out (fun _ hk => hk.2)⟩, ⟨by (with_reducible repeat (first | apply Kd.R_alloc | apply Kd.R_drewN | apply Kd.R_drew)); exact Kd.R_mono HO271.out (fun _ hk => trivial)⟩, ⟨bk⟩, ⟨bl⟩⟩
       ·replace c24 := Bool.eq_false_iff.mpr c24; subst c24
        have H1 : (skewbaldref01_Fewest.l0 k1 t262 (wrap64 ((ji5) - 1)) x7_1 (wrap64 (x8_1 + 1)) l0_0 l0_1) = some (r1, r2) := by rw [if_neg (show ¬ (false = true) by decide)] at H; exact H
        clear H; have H := H1; clear H1; have H' := Aside0.mk H; clear H; obtain ⟨hcz29_0, hcz29_1, hfz29_0, hfz29_1⟩ := b2 (w := wr) BK260
        go_wp2_with (first | ((with_reducible refine gate_callee (f := 40) rfl ?_); refine gl (some 41) Tryd.func40 #[.int .i64 x8_1, .int .i64 (l0_0.length : Int)] ?_; (with_reducible refine (skewbaldref00_List.calls k1 x8_1 (l0_0.length : Int) t269 _ A20.out).mono ?_); rintro e w30 ⟨v270, rfl, ho0, hb⟩; refine ⟨_, rfl, ?_⟩; replace HO_5 := Aside0.mk (Kd.S_elder' (bS HO_5) (Kd.R_base ho0) hb); have HO271 := Aside0.mk (Kd.R_lower (Kd.R_new' ho0 (Kd.R_lt (bR HO_7))) (below_size bl)); replace HO_7 := Aside0.mk (Kd.R_elder' (bR HO_7) (Kd.R_base ho0) hb); replace BK260 := nb BK260 hb; replace HB := hs HB hb; (try clear hb); (try clear hb2); (try clear hk); (try clear hi); (try clear ho0); obtain ⟨Ao31, co31, eo31⟩ := Kd.R_slice HO271.out; subst eo31; obtain ⟨Ao32, co32, eo32⟩ := Kd.R_slice HO_7.out; subst eo32) | ((with_reducible refine gate_callee (f := 47) rfl ?_); refine gl (some 44) Tryd.func47 #[.slice Ao31 t269.length co31, .slice Ao32 x7_1.length co32] ?_; (with_reducible refine (skewbaldref00_Shorter.calls k1 _ _ t269 _ _ x7_1 true _ ?side1 ?side2 ?side3 ?side4 A21.out).mono ?_); (case side1 => repeat (first | exact (Kd.R_reads' HO271.out).2.2 | (with_reducible refine Kd.C_alloc ?_ _) | (with_reducible refine Kd.C_drewN ?_ _) | (with_reducible refine Kd.C_drew ?_))); (case side2 => exact (Kd.R_reads' HO271.out).2.1); (case side3 => repeat (first | exact (Kd.R_reads' HO_7.out).2.2 | (with_reducible refine Kd.C_alloc ?_ _) | (with_reducible refine Kd.C_drewN ?_ _) | (with_reducible refine Kd.C_drew ?_))); (case side4 => exact (Kd.R_reads' HO_7.out).2.1); rintro e w' ⟨rfl, ⟨nd, rfl⟩⟩; refine ⟨_, rfl, ?_⟩) | (go_at_call 89; (with_reducible refine (skewbaldref01_given.calls k1 _ _ t262 _ _ t269 (wrap64 ((ji5) - 1)) false _ ?side1 ?side2 ?side3 ?side4 A23.out).mono ?_); (case side1 => repeat (first | exact (Kd.S_reads' HO_5.out).2.2 | (with_reducible refine Kd.C_alloc ?_ _) | (with_reducible refine Kd.C_drewN ?_ _) | (with_reducible refine Kd.C_drew ?_))); (case side2 => exact (Kd.S_reads' HO_5.out).2.1); (case side3 => repeat (first | exact (Kd.R_reads' HO271.out).2.2 | (with_reducible refine Kd.C_alloc ?_ _) | (with_reducible refine Kd.C_drewN ?_ _) | (with_reducible refine Kd.C_drew ?_))); (case side4 => exact (Kd.R_reads' HO271.out).2.1); rintro e w' ⟨rfl, ⟨nd, rfl⟩⟩))
        go_roundg k1
        case measure => have := HK1.out; omega
        case rel => exact ⟨(x7_1), (wrap64 (x8_1 + 1)), sm, H', ⟨lo HK1⟩, ⟨by (with_reducible repeat (first | apply Kd.S_alloc | apply Kd.S_drewN | apply Kd.S_drew)); exact Kd.S_mono HO_5.out (fun _ hk => hk.1)⟩, ⟨by (with_reducible repeat (first | apply Kd.R_alloc | apply Kd.R_drewN | apply Kd.R_drew)); exact Kd.R_mono HO_7.out (fun _ hk => trivial)⟩, ⟨bk⟩, ⟨bl⟩⟩
      ·replace c22 := Bool.eq_false_iff.mpr c22; subst c22
       have H1 : (skewbaldref01_Fewest.l0 k1 t262 (wrap64 ((ji5) - 1)) x7_1 (wrap64 (x8_1 + 1)) l0_0 l0_1) = some (r1, r2) := by rw [if_neg (show ¬ (false = true) by decide)] at H; exact H
       clear H; have H := H1; clear H1; have H' := Aside0.mk H; clear H; obtain ⟨hcz33_0, hcz33_1, hfz33_0, hfz33_1⟩ := b2 (w := wr) BK260
       go_wp2_with (first | ((with_reducible refine gate_callee (f := 40) rfl ?_); refine gl (some 41) Tryd.func40 #[.int .i64 x8_1, .int .i64 (l0_0.length : Int)] ?_; (with_reducible refine (skewbaldref00_List.calls k1 x8_1 (l0_0.length : Int) t269 _ A20.out).mono ?_); rintro e w34 ⟨v270, rfl, ho0, hb⟩; refine ⟨_, rfl, ?_⟩; replace HO_5 := Aside0.mk (Kd.S_elder' (bS HO_5) (Kd.R_base ho0) hb); have HO271 := Aside0.mk (Kd.R_lower (Kd.R_new' ho0 (Kd.R_lt (bR HO_7))) (below_size bl)); replace HO_7 := Aside0.mk (Kd.R_elder' (bR HO_7) (Kd.R_base ho0) hb); replace BK260 := nb BK260 hb; replace HB := hs HB hb; (try clear hb); (try clear hb2); (try clear hk); (try clear hi); (try clear ho0); obtain ⟨Ao35, co35, eo35⟩ := Kd.R_slice HO271.out; subst eo35; obtain ⟨Ao36, co36, eo36⟩ := Kd.R_slice HO_7.out; subst eo36) | ((with_reducible refine gate_callee (f := 47) rfl ?_); refine gl (some 44) Tryd.func47 #[.slice Ao35 t269.length co35, .slice Ao36 x7_1.length co36] ?_; (with_reducible refine (skewbaldref00_Shorter.calls k1 _ _ t269 _ _ x7_1 false _ ?side1 ?side2 ?side3 ?side4 A21.out).mono ?_); (case side1 => repeat (first | exact (Kd.R_reads' HO271.out).2.2 | (with_reducible refine Kd.C_alloc ?_ _) | (with_reducible refine Kd.C_drewN ?_ _) | (with_reducible refine Kd.C_drew ?_))); (case side2 => exact (Kd.R_reads' HO271.out).2.1); (case side3 => repeat (first | exact (Kd.R_reads' HO_7.out).2.2 | (with_reducible refine Kd.C_alloc ?_ _) | (with_reducible refine Kd.C_drewN ?_ _) | (with_reducible refine Kd.C_drew ?_))); (case side4 => exact (Kd.R_reads' HO_7.out).2.1); rintro e w' ⟨rfl, ⟨nd, rfl⟩⟩; refine ⟨_, rfl, ?_⟩))
       go_roundg k1
       case measure => have := HK1.out; omega
       case rel => exact ⟨(x7_1), (wrap64 (x8_1 + 1)), sm, H', ⟨lo HK1⟩, ⟨by (with_reducible repeat (first | apply Kd.S_alloc | apply Kd.S_drewN | apply Kd.S_drew)); exact Kd.S_mono HO_5.out (fun _ hk => hk.1)⟩, ⟨by (with_reducible repeat (first | apply Kd.R_alloc | apply Kd.R_drewN | apply Kd.R_drew)); exact Kd.R_mono HO_7.out (fun _ hk => trivial)⟩, ⟨bk⟩, ⟨bl⟩⟩
     ·rw [if_neg c19] at H
      have c19b0 : decide (x8_1 < (ji18)) = false := decide_eq_false c19
      clear c19
      simp only [Option.some.injEq, Prod.mk.injEq] at H
      obtain ⟨rfl, rfl⟩ := H; obtain ⟨hcz37_0, hcz37_1, hfz37_0, hfz37_1⟩ := b2 (w := wr) BK260
      go_wp2
      go_ret2
      exact ⟨_, by first | rfl | (simp [errW_none, errW_some] <;> rfl) | (simp only [← hji5, ← hji18]; first | rfl | (simp [errW_none, errW_some] <;> rfl)) | (simp [*, errW_none, errW_some] <;> rfl), by (with_reducible repeat (first | apply Kd.R_alloc | apply Kd.R_drewN | apply Kd.R_drew)); exact HO_7.out, bl⟩
  ·replace c8 := Bool.eq_false_iff.mpr c8; subst c8
   have H1 : (some (([] : List Int), 4)) = some (r1, r2) := by rw [if_neg (show ¬ (false = true) by decide)] at H; exact H
   clear H; have H := H1; clear H1
   simp only [Option.some.injEq, Prod.mk.injEq] at H
   obtain ⟨rfl, rfl⟩ := H
   go_enter Tryd.func29, Tryd.ntmps29
   try go_wp2_with (first | (refine bx 1 #[.slice A0_0 l0_0.length c0_0, .slice A0_1 l0_1.length c0_1] 25 ?_; intro gb260 hg w38 hbox hb; have BK260 := Aside0.mk hbox; have GW260 := gw hg HB; have GE260 := gw hg HB; replace HB := hs HB hb; clear hb hbox hg; obtain ⟨hcz39_0, hcz39_1, hfz39_0, hfz39_1⟩ := b2 (w := w38) BK260) | ((with_reducible refine gate_callee (f := 19) rfl ?_); refine gl (some 11) Tryd.func19 #[.agg #[.slice A0_0 l0_0.length c0_0, .slice A0_1 l0_1.length c0_1]] ?_; (with_reducible refine (skewbaldref01_Check.calls k _ _ l0_0 _ _ l0_1 t261 _ cl HC0_0.out cl HC0_1.out A2.out).mono ?_); rintro e w40 ⟨rfl, hb⟩; refine ⟨_, rfl, ?_⟩; replace BK260 := nb BK260 hb; replace HB := hs HB hb; (try clear hb); (try clear hb2); (try clear hk); (try clear hi)))
   replace BK260 := Aside0.mk (blk_drew BK260.out); replace HB := Aside0.mk (below_drew1 HB.out)
   refine start_ (n := 9) (S := fun w' => w'.cell? ⟨gb260, 0, none⟩ = some (.slice A0_0 l0_0.length c0_0) ∧ w'.cell? ⟨gb260, 1, none⟩ = some (.slice A0_1 l0_1.length c0_1)) (ds := []) #[false, false, false, false, false, false, false, false, false] (by kernel_rfl) rfl rfl ⟨bq BK260 0, bq BK260 1⟩ (fun hHeld => ?_); refine with_tabW skewbaldref01_Fewest.tab4 skewbaldref01_Fewest.bits4 (fun HT_ HW_ => ?_)
   generalize w40.drew = w41 at BK260 HB hHeld ⊢
   refine pu_ (i := 2) (N := some 17) (qa_ 9 4) ?_
   refine tk_ (i := 0) (N := some 15) (qa_ 9 5) hHeld ?_
   refine tk_ (i := 3) (N := some 18) (qa_ 9 13) hHeld ?_
   refine pu_ (i := 4) (N := some 19) (qa_ 9 29) ?_
   refine pu_ (i := 5) (N := some 20) (qa_ 9 61) ?_
   refine pu_ (i := 6) (N := some 21) (qa_ 9 125) ?_
   refine on_ (i := 1) (N := some 16) (qa_ 9 127) (fun K hK => ?_)
   refine goes_ Tryd.func87 (by kernel_rfl) rfl #[.agg #[.slice A0_0 l0_0.length c0_0, .slice A0_1 l0_1.length c0_1]] (by rfl) rfl rfl (by (try simp only [List.map_toArray, List.map_cons, List.map_nil]); first | done | rfl | (simp only [List.length_drop, List.length_take]; rfl)) ?_
   with_reducible refine (skewbaldref01_tables.calls k _ _ l0_0 _ _ l0_1 t262 _ ?side1 ?side2 ?side3 ?side4 A4.out).mono ?_
   (case side1 => exact cl)
   (case side2 => exact HC0_0.out)
   (case side3 => exact cl)
   (case side4 => exact HC0_1.out)
   rintro e w42 ⟨v263, rfl, ho0, hb⟩
   refine ⟨_, rfl, ?_⟩
   have HO264 := Aside0.mk (Kd.S_lower ho0 (below_size bl)); replace BK260 := nb BK260 hb; replace HB := hs HB hb; (try clear hb); (try clear hb2); (try clear hk); (try clear hi); (try clear ho0)
   refine hK.out _ _ ⟨bq BK260 0, bq BK260 1⟩ (fun hHeld => ?_)
   clear hK K
   refine nm_ (some 16) ?_
   refine pu_ (i := 7) (N := some 5) (qa_ 9 255) ?_
   refine pu_ (i := 8) (N := some 6) (qa_ 9 511) ?_
   refine done_ (done_of HT_.out (by kernel_rfl)) ?_
   obtain ⟨hcz43_0, hcz43_1, hfz43_0, hfz43_1⟩ := b2 (w := w42) BK260
   try go_wp2_with (first | ((with_reducible refine gate_callee (f := 88) rfl ?_); refine gl (some 23) Tryd.func88 #[.agg #[.slice A0_0 l0_0.length c0_0, .slice A0_1 l0_1.length c0_1]] ?_; (with_reducible refine (skewbaldref01_every.calls k _ _ l0_0 _ _ l0_1 t265 _ cl HC0_0.out cl HC0_1.out A6.out).mono ?_); rintro e w44 ⟨v266, rfl, ho0, hb⟩; refine ⟨_, rfl, ?_⟩; replace HO264 := Aside0.mk (Kd.S_elder' (bS HO264) (Kd.R_base ho0) hb); have HO267 := Aside0.mk (Kd.R_lower ho0 (below_size bl)); replace BK260 := nb BK260 hb; replace HB := hs HB hb; (try clear hb); (try clear hb2); (try clear hk); (try clear hi); (try clear ho0); obtain ⟨Ao45, co45, eo45⟩ := Kd.S_slice HO264.out; subst eo45; obtain ⟨Ao46, co46, eo46⟩ := Kd.R_slice HO267.out; subst eo46) | ((with_reducible refine gate_callee (f := 89) rfl ?_); refine goesL_ (some 27) rfl rfl Tryd.func89 (by kernel_rfl) rfl #[.slice Ao45 t262.length co45, .slice Ao46 t265.length co46, .int .i64 (wrap64 ((ji5) - 1))] rfl (by (try simp only [List.map_toArray, List.map_cons, List.map_nil]); first | done | (simp only [hji5]; rfl) | rfl | (simp only [List.length_drop, List.length_take]; rfl)) ?_; (with_reducible refine (skewbaldref01_given.calls k _ _ t262 _ _ t265 (wrap64 ((ji5) - 1)) false _ ?side1 ?side2 ?side3 ?side4 A7.out).mono ?_); (case side1 => repeat (first | exact (Kd.S_reads' HO264.out).2.2 | (with_reducible refine Kd.C_alloc ?_ _) | (with_reducible refine Kd.C_drewN ?_ _) | (with_reducible refine Kd.C_drew ?_))); (case side2 => exact (Kd.S_reads' HO264.out).2.1); (case side3 => repeat (first | exact (Kd.R_reads' HO267.out).2.2 | (with_reducible refine Kd.C_alloc ?_ _) | (with_reducible refine Kd.C_drewN ?_ _) | (with_reducible refine Kd.C_drew ?_))); (case side4 => exact (Kd.R_reads' HO267.out).2.1); rintro e w' ⟨rfl, ⟨nd, rfl⟩⟩; refine ⟨_, rfl, ?_⟩))
   go_ret2
   exact ⟨_, by first | rfl | (simp [errW_none, errW_some] <;> rfl) | (simp only [← hji5]; first | rfl | (simp [errW_none, errW_some] <;> rfl)) | (simp [*, errW_none, errW_some] <;> rfl), by first | exact Kd.R_nil _ _ _ _ _ | exact Kd.N_nil _ _ _ _ _ | exact Kd.V_nil _ _ _ _ _ | exact Kd.Q_nil _ _ _ _ _ | exact Kd.S_nil _ _ _ _ _, bl⟩
 ·rw [if_neg c3] at H
  have c3b0 : (t261 == 0) = false := beq_eq_false_iff_ne.mpr c3
  have c3b1 : (t261 != 0) = true := bne_iff_ne.mpr c3
  simp only [Option.some.injEq, Prod.mk.injEq] at H
  obtain ⟨rfl, rfl⟩ := H
  go_enter Tryd.func29, Tryd.ntmps29
  go_wp2_with (first | (refine bx 1 #[.slice A0_0 l0_0.length c0_0, .slice A0_1 l0_1.length c0_1] 25 ?_; intro gb260 hg w47 hbox hb; have BK260 := Aside0.mk hbox; have GW260 := gw hg HB; have GE260 := gw hg HB; replace HB := hs HB hb; clear hb hbox hg; obtain ⟨hcz48_0, hcz48_1, hfz48_0, hfz48_1⟩ := b2 (w := w47) BK260) | ((with_reducible refine gate_callee (f := 19) rfl ?_); refine gl (some 11) Tryd.func19 #[.agg #[.slice A0_0 l0_0.length c0_0, .slice A0_1 l0_1.length c0_1]] ?_; (with_reducible refine (skewbaldref01_Check.calls k _ _ l0_0 _ _ l0_1 t261 _ cl HC0_0.out cl HC0_1.out A2.out).mono ?_); rintro e w49 ⟨rfl, hb⟩; refine ⟨_, rfl, ?_⟩; replace BK260 := nb BK260 hb; replace HB := hs HB hb; (try clear hb); (try clear hb2); (try clear hk); (try clear hi)))
  go_ret2
  exact ⟨_, by first | rfl | (simp [errW_none, errW_some] <;> rfl) | (simp [*, errW_none, errW_some] <;> rfl), by first | exact Kd.R_nil _ _ _ _ _ | exact Kd.N_nil _ _ _ _ _ | exact Kd.V_nil _ _ _ _ _ | exact Kd.Q_nil _ _ _ _ _ | exact Kd.S_nil _ _ _ _ _, bl⟩
mutual
def skewbaldlaw01_PlankFewests.j0 : Nat → Bool → List (S48) → List (S50) → Option (Bool)
 | 0, _, _, _ => none
 | k + 1, x31, x318000, x318001 => if x31 = true then (some false) else ((plank_Lacks.f x318000 x318001).bind fun bt327 => ((skewbaldref01_Lacks.f k x318000 x318001).bind fun bt329 => (if bt327.1 = bt329.1 then (skewbaldlaw01_PlankFewests.j1 k (bt327.2 != bt329.2) x318000 x318001) else (skewbaldlaw01_PlankFewests.j1 k true x318000 x318001))))
def skewbaldlaw01_PlankFewests.j1 : Nat → Bool → List (S48) → List (S50) → Option (Bool)
 | 0, _, _, _ => none
 | k + 1, x49, x318000, x318001 => if x49 = true then (some false) else ((plank_Look.f x318000 x318001).bind fun bt331 => ((skewbaldref01_Look.f k x318000 x318001).bind fun bt334 => (if bt331.1 = bt334.1 then (if bt331.2.1 = bt334.2.1 then (if bt331.2.2 = bt334.2.2 then ((skewbaldlaw01_sawn.f).bind fun t337 => (some t337)) else (some false)) else (some false)) else (some false))))
end
def skewbaldlaw01_PlankFewests.f (k : Nat) (l0_0 : List (S48)) (l0_1 : List (S50)) : Option (Bool) := (plank_Fewest.f l0_0 l0_1).bind fun bt318 => ((skewbaldref01_Fewest.f k l0_0 l0_1).bind fun bt322 => ((skewbaldref00_Equal.f k bt318.1 bt322.1).bind fun t326 => (if t326 = true then (skewbaldlaw01_PlankFewests.j0 k (bt318.2 != bt322.2) l0_0 l0_1) else (skewbaldlaw01_PlankFewests.j0 k true l0_0 l0_1))))
set_option maxHeartbeats 8000000 in
set_option maxRecDepth 100000 in
theorem skewbaldlaw01_PlankFewests.calls (k : Nat) (A0_0 : Option Addr) (c0_0 : Nat) (l0_0 : List (S48)) (A0_1 : Option Addr) (c0_1 : Nat) (l0_1 : List (S50)) (w : World) (hr0_0 : Kd.C k48 w A0_0 l0_0.length l0_0) (hc0_0 : l0_0.length ≤ c0_0) (hr0_1 : Kd.C k50 w A0_1 l0_1.length l0_1) (hc0_1 : l0_1.length ≤ c0_1) (hG : Glob w) (h : skewbaldlaw01_PlankFewests.f k l0_0 l0_1 = some true) :
  Calls Tryd.prog 5 #[.agg #[.slice A0_0 l0_0.length c0_0, .slice A0_1 l0_1.length c0_1]] w fun e w' => e = .returned (.bool true) ∧ Below w.heap.size w w' := by
 have hu25 := Tryd.underlying25; have HR0_0 := Aside0.mk hr0_0; have HC0_0 := Aside0.mk hc0_0; clear hr0_0 hc0_0; have HR0_1 := Aside0.mk hr0_1; have HC0_1 := Aside0.mk hc0_1; clear hr0_1 hc0_1; have HGL := Aside0.mk hG; clear hG; have HB := Aside0.mk (Below.refl w.heap.size w)
 have H : ((plank_Fewest.f l0_0 l0_1).bind fun bt318 => ((skewbaldref01_Fewest.f k l0_0 l0_1).bind fun bt322 => ((skewbaldref00_Equal.f k bt318.1 bt322.1).bind fun t326 => (if t326 = true then (skewbaldlaw01_PlankFewests.j0 k (bt318.2 != bt322.2) l0_0 l0_1) else (skewbaldlaw01_PlankFewests.j0 k true l0_0 l0_1))))) = some true := h
 clear h; replace H := Option.bind_eq_some_iff.mp H; obtain ⟨⟨t318, t321⟩, A20, H⟩ := H
 replace H : ((skewbaldref01_Fewest.f k l0_0 l0_1).bind fun bt322 => ((skewbaldref00_Equal.f k t318 bt322.1).bind fun t326 => (if t326 = true then (skewbaldlaw01_PlankFewests.j0 k (t321 != bt322.2) l0_0 l0_1) else (skewbaldlaw01_PlankFewests.j0 k true l0_0 l0_1)))) = some true := H
 have A2 := Aside0.mk A20; clear A20; replace H := Option.bind_eq_some_iff.mp H; obtain ⟨⟨t322, t325⟩, A30, H⟩ := H
 replace H : ((skewbaldref00_Equal.f k t318 t322).bind fun t326 => (if t326 = true then (skewbaldlaw01_PlankFewests.j0 k (t321 != t325) l0_0 l0_1) else (skewbaldlaw01_PlankFewests.j0 k true l0_0 l0_1))) = some true := H
 have A3 := Aside0.mk A30; clear A30; have HC4 := Aside0.mk H; clear H
 go_enter Tryd.func5, Tryd.ntmps5
 go_upto_region 3 with (first | (refine bx 1 #[.slice A0_0 l0_0.length c0_0, .slice A0_1 l0_1.length c0_1] 25 ?_; intro gb317 hg w5 hbox hb; have BK317 := Aside0.mk hbox; have GW317 := gw hg HB; have GE317 := gw hg HB; replace HB := hs HB hb; clear hb hbox hg; obtain ⟨hcz6_0, hcz6_1, hfz6_0, hfz6_1⟩ := b2 (w := w5) BK317) | ((with_reducible refine gate_callee (f := 28) rfl ?_); refine gl (some 15) Tryd.func28 #[.agg #[.slice A0_0 l0_0.length c0_0, .slice A0_1 l0_1.length c0_1]] ?_; (with_reducible refine (plank_Fewest.calls _ _ l0_0 _ _ l0_1 t318 t321 _ ?side1 ?side2 ?side3 ?side4 ?side5 A2.out).mono ?_); (case side1 => exact cl); (case side2 => exact HC0_0.out); (case side3 => exact cl); (case side4 => exact HC0_1.out); (case side5 => exact Glob.below HGL.out bl); rintro e w7 ⟨v319, rfl, ho0, hb⟩; refine ⟨_, rfl, ?_⟩; have HO320 := Aside0.mk (Kd.V_lower (Kd.V_mono (ok' := fun k_ => k_ ≠ gb317) ho0 (fun k_ hk_ => (Kd.freshB (g := gb317) (o := .cells #[.slice A0_0 l0_0.length c0_0, .slice A0_1 l0_1.length c0_1] 25 (0, 0)) bk k_ hk_))) (below_size bl)); replace BK317 := nb BK317 hb; replace HB := hs HB hb; (try clear hb); (try clear hb2); (try clear hk); (try clear hi); (try clear ho0); obtain ⟨hcz8_0, hcz8_1, hfz8_0, hfz8_1⟩ := b2 (w := w7) BK317) | ((with_reducible refine gate_callee (f := 29) rfl ?_); refine gl (some 20) Tryd.func29 #[.agg #[.slice A0_0 l0_0.length c0_0, .slice A0_1 l0_1.length c0_1]] ?_; (with_reducible refine (skewbaldref01_Fewest.calls k _ _ l0_0 _ _ l0_1 t322 t325 _ cl HC0_0.out cl HC0_1.out A3.out).mono ?_); rintro e w9 ⟨v323, rfl, ho0, hb⟩; refine ⟨_, rfl, ?_⟩; replace HO320 := Aside0.mk (Kd.V_elder' (by (with_reducible repeat (first | apply Kd.V_alloc | apply Kd.V_drewN | apply Kd.V_drew)); exact HO320.out) (Kd.R_base ho0) hb); have HO324 := Aside0.mk (Kd.R_lower ho0 (below_size bl)); replace BK317 := nb BK317 hb; replace HB := hs HB hb; (try clear hb); (try clear hb2); (try clear hk); (try clear hi); (try clear ho0)))
 (try simp only [Act.put, List.setIfInBounds_toArray, List.set_cons_zero, List.set_cons_succ])
 go_cut [31] (fun v31 wc => ∃ (kq : Nat) (x31_3 : Bool), v31 = .bool x31_3 ∧ Aside0 (skewbaldlaw01_PlankFewests.j0 kq x31_3 l0_0 l0_1 = some true) ∧ Aside0 (kq ≤ k) ∧ Aside0 (wc.heap[gb317]? = some (.cells #[(.slice A0_0 l0_0.length c0_0), (.slice A0_1 l0_1.length c0_1)] 25 (0, 0))) ∧ Aside0 (Below w.heap.size w wc))
 case first =>
  have H := HC4.out; clear HC4; obtain ⟨t326, A10, H⟩ := ob H
  replace H : (if t326 = true then (skewbaldlaw01_PlankFewests.j0 k (t321 != t325) l0_0 l0_1) else (skewbaldlaw01_PlankFewests.j0 k true l0_0 l0_1)) = some true := H
  by_cases c11 : t326 = true
  ·subst c11
   have H1 : (skewbaldlaw01_PlankFewests.j0 k (t321 != t325) l0_0 l0_1) = some true := by rw [if_pos rfl] at H; exact H
   clear H; have H := H1; clear H1; have H' := Aside0.mk H; clear H; obtain ⟨Ao12, co12, eo12⟩ := Kd.V_slice HO320.out; subst eo12; obtain ⟨Ao13, co13, eo13⟩ := Kd.R_slice HO324.out; subst eo13
   go_wp2_with (first | ((with_reducible refine gate_callee (f := 22) rfl ?_); refine gl (some 25) Tryd.func22 #[.slice Ao12 t318.length co12, .slice Ao13 t322.length co13] ?_; (with_reducible refine (skewbaldref00_Equal.calls k _ _ t318 _ _ t322 true _ ?side1 ?side2 ?side3 ?side4 A10.out).mono ?_); (case side1 => repeat (first | exact (Kd.V_reads' HO320.out).2.2 | (with_reducible refine Kd.C_alloc ?_ _) | (with_reducible refine Kd.C_drewN ?_ _) | (with_reducible refine Kd.C_drew ?_))); (case side2 => exact (Kd.V_reads' HO320.out).2.1); (case side3 => repeat (first | exact (Kd.R_reads' HO324.out).2.2 | (with_reducible refine Kd.C_alloc ?_ _) | (with_reducible refine Kd.C_drewN ?_ _) | (with_reducible refine Kd.C_drew ?_))); (case side4 => exact (Kd.R_reads' HO324.out).2.1); rintro e w' ⟨rfl, ⟨nd, rfl⟩⟩; refine ⟨_, rfl, ?_⟩))
   go_meet
   case rel => exact ⟨_, ((t321 != t325)), sm, H', ⟨by first | omega | exact Nat.le_refl _⟩, ⟨bk⟩, ⟨bl⟩⟩
  ·replace c11 := Bool.eq_false_iff.mpr c11; subst c11
   have H1 : (skewbaldlaw01_PlankFewests.j0 k true l0_0 l0_1) = some true := by rw [if_neg (show ¬ (false = true) by decide)] at H; exact H
   clear H; have H := H1; clear H1
   exact absurd H (by rcases k with _ | k <;> (first | (simp [skewbaldlaw01_PlankFewests.j0]; done) | (rcases k with _ | k <;> simp [skewbaldlaw01_PlankFewests.j0])))
 case rest =>
  clear HC4; (try clear c1); (try clear c2); (try clear p2); (try clear c5); (try clear c11); (try clear hcz6_0); (try clear hcz6_1); (try clear hcz8_0); (try clear hcz8_1); (try clear hfz6_0); (try clear hfz6_1); (try clear hfz8_0); (try clear hfz8_1); obtain ⟨kq, x31_3, rfl, HA, HJ3, BK317, HB⟩ := hcut
  cases kq with
  | zero => exact absurd HA.out (by simp [skewbaldlaw01_PlankFewests.j0])
  | succ kj3 =>
   have H := HA.out; clear HA
   simp only [skewbaldlaw01_PlankFewests.j0] at H
   by_cases c14 : x31_3 = true
   ·subst c14
    have H1 : (some false) = some true := by rw [if_pos rfl] at H; exact H
    clear H; have H := H1; clear H1
    exact absurd H (by simp)
   ·replace c14 := Bool.eq_false_iff.mpr c14; subst c14
    have H1 : ((plank_Lacks.f l0_0 l0_1).bind fun bt327 => ((skewbaldref01_Lacks.f kj3 l0_0 l0_1).bind fun bt329 => (if bt327.1 = bt329.1 then (skewbaldlaw01_PlankFewests.j1 kj3 (bt327.2 != bt329.2) l0_0 l0_1) else (skewbaldlaw01_PlankFewests.j1 kj3 true l0_0 l0_1)))) = some true := by rw [if_neg (show ¬ (false = true) by decide)] at H; exact H
    clear H; have H := H1; clear H1; replace H := Option.bind_eq_some_iff.mp H; obtain ⟨⟨t327, t328⟩, A150, H⟩ := H
    replace H : ((skewbaldref01_Lacks.f kj3 l0_0 l0_1).bind fun bt329 => (if t327 = bt329.1 then (skewbaldlaw01_PlankFewests.j1 kj3 (t328 != bt329.2) l0_0 l0_1) else (skewbaldlaw01_PlankFewests.j1 kj3 true l0_0 l0_1))) = some true := H
    have A15 := Aside0.mk A150; clear A150; replace H := Option.bind_eq_some_iff.mp H; obtain ⟨⟨t329, t330⟩, A160, H⟩ := H
    replace H : (if t327 = t329 then (skewbaldlaw01_PlankFewests.j1 kj3 (t328 != t330) l0_0 l0_1) else (skewbaldlaw01_PlankFewests.j1 kj3 true l0_0 l0_1)) = some true := H
    have A16 := Aside0.mk A160; clear A160; have HC17 := Aside0.mk H; clear H; obtain ⟨hcz18_0, hcz18_1, hfz18_0, hfz18_1⟩ := b2 (w := wc) BK317
    go_upto_region 7 with (first | ((with_reducible refine gate_callee (f := 30) rfl ?_); refine gl (some 34) Tryd.func30 #[.agg #[.slice A0_0 l0_0.length c0_0, .slice A0_1 l0_1.length c0_1]] ?_; (with_reducible refine (plank_Lacks.calls _ _ l0_0 _ _ l0_1 t327 t328 _ ?side1 ?side2 ?side3 ?side4 ?side5 A15.out).mono ?_); (case side1 => exact cl); (case side2 => exact HC0_0.out); (case side3 => exact cl); (case side4 => exact HC0_1.out); (case side5 => exact Glob.below HGL.out bl); rintro e w19 ⟨rfl, hb⟩; refine ⟨_, rfl, ?_⟩; replace BK317 := nb BK317 hb; replace HB := hs HB hb; (try clear hb); (try clear hb2); (try clear hk); (try clear hi); obtain ⟨hcz20_0, hcz20_1, hfz20_0, hfz20_1⟩ := b2 (w := w19) BK317) | ((with_reducible refine gate_callee (f := 31) rfl ?_); refine gl (some 39) Tryd.func31 #[.agg #[.slice A0_0 l0_0.length c0_0, .slice A0_1 l0_1.length c0_1]] ?_; (with_reducible refine (skewbaldref01_Lacks.calls kj3 _ _ l0_0 _ _ l0_1 t329 t330 _ cl HC0_0.out cl HC0_1.out A16.out).mono ?_); rintro e w21 ⟨rfl, hb⟩; refine ⟨_, rfl, ?_⟩; replace BK317 := nb BK317 hb; replace HB := hs HB hb; (try clear hb); (try clear hb2); (try clear hk); (try clear hi)))
    (try simp only [Act.put, List.setIfInBounds_toArray, List.set_cons_zero, List.set_cons_succ])
    go_cut [49] (fun v49 wc => ∃ (kq : Nat) (x49_16 : Bool), v49 = .bool x49_16 ∧ Aside0 (skewbaldlaw01_PlankFewests.j1 kq x49_16 l0_0 l0_1 = some true) ∧ Aside0 (kq ≤ kj3) ∧ Aside0 (wc.heap[gb317]? = some (.cells #[(.slice A0_0 l0_0.length c0_0), (.slice A0_1 l0_1.length c0_1)] 25 (0, 0))) ∧ Aside0 (Below w.heap.size w wc))
    case first =>
     have H := HC17.out; clear HC17
     by_cases c22 : t327 = t329
     ·rw [if_pos c22] at H
      have c22b0 : (t327 == t329) = true := beq_iff_eq.mpr c22
      have c22b1 : (t327 != t329) = false := bne_eq_false_iff_eq.mpr c22
      clear c22
      (first | rw [c22b0] | (simp only [i64_w, i32_w]; rw [c22b0]) | skip)
      have H' := Aside0.mk H; clear H
      go_wp2
      go_meet
      case rel => exact ⟨_, ((t328 != t330)), sm, H', ⟨lo HJ3⟩, ⟨bk⟩, ⟨bl⟩⟩
     ·rw [if_neg c22] at H
      have c22b0 : (t327 == t329) = false := beq_eq_false_iff_ne.mpr c22
      have c22b1 : (t327 != t329) = true := bne_iff_ne.mpr c22
      (first | rw [c22b0] | (simp only [i64_w, i32_w]; rw [c22b0]) | skip)
      exact absurd H (by rcases kj3 with _ | kj3 <;> (first | (simp [skewbaldlaw01_PlankFewests.j1]; done) | (rcases kj3 with _ | kj3 <;> simp [skewbaldlaw01_PlankFewests.j1])))
    case rest =>
     clear HC17; (try clear c1); (try clear c2); (try clear p2); (try clear c3); (try clear c5); (try clear c11); (try clear c14); (try clear c22); (try clear c22b0); (try clear c22b1); (try clear hcz18_0); (try clear hcz18_1); (try clear hcz20_0); (try clear hcz20_1); (try clear hcz6_0); (try clear hcz6_1); (try clear hcz8_0); (try clear hcz8_1); (try clear hfz18_0); (try clear hfz18_1); (try clear hfz20_0); (try clear hfz20_1); (try clear hfz6_0); (try clear hfz6_1); (try clear hfz8_0); (try clear hfz8_1); obtain ⟨kq, x49_16, rfl, HA, HJ16, BK317, HB⟩ := hcut
     cases kq with
     | zero => exact absurd HA.out (by simp [skewbaldlaw01_PlankFewests.j1])
     | succ kj16 =>
      have H := HA.out; clear HA
      simp only [skewbaldlaw01_PlankFewests.j1] at H
      by_cases c23 : x49_16 = true
      ·subst c23
       have H1 : (some false) = some true := by rw [if_pos rfl] at H; exact H
       clear H; have H := H1; clear H1
       exact absurd H (by simp)
      ·replace c23 := Bool.eq_false_iff.mpr c23; subst c23
       have H1 : ((plank_Look.f l0_0 l0_1).bind fun bt331 => ((skewbaldref01_Look.f kj16 l0_0 l0_1).bind fun bt334 => (if bt331.1 = bt334.1 then (if bt331.2.1 = bt334.2.1 then (if bt331.2.2 = bt334.2.2 then ((skewbaldlaw01_sawn.f).bind fun t337 => (some t337)) else (some false)) else (some false)) else (some false)))) = some true := by rw [if_neg (show ¬ (false = true) by decide)] at H; exact H
       clear H; have H := H1; clear H1; replace H := Option.bind_eq_some_iff.mp H; obtain ⟨⟨t331, t332, t333⟩, A240, H⟩ := H
       replace H : ((skewbaldref01_Look.f kj16 l0_0 l0_1).bind fun bt334 => (if t331 = bt334.1 then (if t332 = bt334.2.1 then (if t333 = bt334.2.2 then ((skewbaldlaw01_sawn.f).bind fun t337 => (some t337)) else (some false)) else (some false)) else (some false))) = some true := H
       have A24 := Aside0.mk A240; clear A240; replace H := Option.bind_eq_some_iff.mp H; obtain ⟨⟨t334, t335, t336⟩, A250, H⟩ := H
       replace H : (if t331 = t334 then (if t332 = t335 then (if t333 = t336 then ((skewbaldlaw01_sawn.f).bind fun t337 => (some t337)) else (some false)) else (some false)) else (some false)) = some true := H
       have A25 := Aside0.mk A250; clear A250
       by_cases c26 : t331 = t334
       ·rw [if_pos c26] at H
        have c26b0 : (t331 == t334) = true := beq_iff_eq.mpr c26
        have c26b1 : (t331 != t334) = false := bne_eq_false_iff_eq.mpr c26
        clear c26
        by_cases c27 : t332 = t335
        ·rw [if_pos c27] at H
         have c27b0 : (t332 == t335) = true := beq_iff_eq.mpr c27
         have c27b1 : (t332 != t335) = false := bne_eq_false_iff_eq.mpr c27
         clear c27
         by_cases c28 : t333 = t336
         ·rw [if_pos c28] at H
          have c28b0 : (t333 == t336) = true := beq_iff_eq.mpr c28
          have c28b1 : (t333 != t336) = false := bne_eq_false_iff_eq.mpr c28
          clear c28; obtain ⟨t337, A29, H⟩ := ob H
          replace H : (some t337) = some true := H
          have HE_ := Aside0.mk (Option.some.inj H); clear H; obtain ⟨hcz30_0, hcz30_1, hfz30_0, hfz30_1⟩ := b2 (w := wc) BK317
          go_wp2_with (first | ((with_reducible refine gate_callee (f := 32) rfl ?_); refine gl (some 52) Tryd.func32 #[.agg #[.slice A0_0 l0_0.length c0_0, .slice A0_1 l0_1.length c0_1]] ?_; (with_reducible refine (plank_Look.calls _ _ l0_0 _ _ l0_1 t331 t332 t333 _ ?side1 ?side2 ?side3 ?side4 ?side5 A24.out).mono ?_); (case side1 => exact cl); (case side2 => exact HC0_0.out); (case side3 => exact cl); (case side4 => exact HC0_1.out); (case side5 => exact Glob.below HGL.out bl); rintro e w31 ⟨rfl, hb⟩; refine ⟨_, rfl, ?_⟩; replace BK317 := nb BK317 hb; replace HB := hs HB hb; (try clear hb); (try clear hb2); (try clear hk); (try clear hi); obtain ⟨hcz32_0, hcz32_1, hfz32_0, hfz32_1⟩ := b2 (w := w31) BK317) | ((with_reducible refine gate_callee (f := 33) rfl ?_); refine gl (some 58) Tryd.func33 #[.agg #[.slice A0_0 l0_0.length c0_0, .slice A0_1 l0_1.length c0_1]] ?_; (with_reducible refine (skewbaldref01_Look.calls kj16 _ _ l0_0 _ _ l0_1 t334 t335 t336 _ cl HC0_0.out cl HC0_1.out A25.out).mono ?_); rintro e w33 ⟨rfl, hb⟩; refine ⟨_, rfl, ?_⟩; replace BK317 := nb BK317 hb; replace HB := hs HB hb; (try clear hb); (try clear hb2); (try clear hk); (try clear hi)) | (go_at_call 23; (with_reducible refine (skewbaldlaw01_sawn.calls  t337 _ ?side1 A29.out).mono ?_); (case side1 => exact Glob.below HGL.out bl); rintro e w34 ⟨rfl, hb⟩; replace BK317 := nb BK317 hb; replace HB := hs HB hb; (try clear hb); (try clear hb2); (try clear hk); (try clear hi)))
          go_ret
          exact ⟨by first | rfl | (rw [HE_.out]; done) | (simp [HE_.out]; done) | (simp [errW_none, errW_some] <;> rfl) | (simp [*, errW_none, errW_some] <;> rfl), bl⟩
         ·rw [if_neg c28] at H
          have c28b0 : (t333 == t336) = false := beq_eq_false_iff_ne.mpr c28
          have c28b1 : (t333 != t336) = true := bne_iff_ne.mpr c28
          exact absurd H (by simp)
        ·rw [if_neg c27] at H
         have c27b0 : (t332 == t335) = false := beq_eq_false_iff_ne.mpr c27
         have c27b1 : (t332 != t335) = true := bne_iff_ne.mpr c27
         exact absurd H (by simp)
       ·rw [if_neg c26] at H
        have c26b0 : (t331 == t334) = false := beq_eq_false_iff_ne.mpr c26
        have c26b1 : (t331 != t334) = true := bne_iff_ne.mpr c26
        exact absurd H (by simp)
def skewbaldref01_Can.T1 : Bool × List (List Nat × List Nat) := (true, [([], []), ([], []), ([], []), ([1, 2], [1, 2]), ([3, 3], [3]), ([4], [4]), ([4], [4]), ([5, 6, 4, 4], [4, 5, 6]), ([4, 7], [4, 7]), ([8, 7], [8]), ([9], [9]), ([9], [9]), ([9], [9]), ([9], [9]), ([10, 11, 12, 13, 9, 9], [9, 10, 11, 12, 13]), ([9, 14], [9, 14]), ([0, 15, 14], [0, 15]), ([16, 16, 0, 1, 2, 3, 4, 5, 6, 7, 8, 9, 10, 11, 12, 13, 14, 15, 16], [16])])
def skewbaldref01_Can.B1 : List Nat := [0, 0, 0, 6, 14, 30, 30, 126, 254, 510, 1022, 1022, 1022, 1022, 16382, 32766, 65535, 131071]
theorem skewbaldref01_Can.tab1 : rtab .any (opsOf Tryd.f17 1) = skewbaldref01_Can.T1 := by kernel_rfl
theorem skewbaldref01_Can.bits1 : waitsOk skewbaldref01_Can.T1.2 skewbaldref01_Can.B1 = true := by kernel_rfl
end Go.Proofs.YtekjlpldooihhaaDoor.PT
