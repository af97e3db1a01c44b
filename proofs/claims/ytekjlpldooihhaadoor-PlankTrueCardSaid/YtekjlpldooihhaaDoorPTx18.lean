/- Printed by a program (prx.py). -/
import Derived.Test.YtekjlpldooihhaaDoorSh
import Derived.Test.YtekjlpldooihhaaDoorSv
namespace Go.Proofs.YtekjlpldooihhaaDoor.PT
open Go.Proofs.YtekjlpldooihhaaDoorSh
open Go.Proofs.YtekjlpldooihhaaDoor.PA (S48 S50 S60 at_L2 at_L4 at_T48 at_T50 at_T60 errW errW_none errW_some k48 k48_mk k48_mkM k48_open k48_openM k50 k50_mk k50_mkM k50_open k50_openM k60 k60_mk k60_mkM k60_open k60_openM rd_L2 rd_L4 rd_T48 rd_T50 rd_T60 z48 z50 z60)
open Go.Proofs.YtekjlpldooihhaaDoorP Go.Proofs.YtekjlpldooihhaaDoorK
open Go.RowKit Go.Proofs.YtekjlpldooihhaaDoorW.PrintWords Go.Proofs.YtekjlpldooihhaaDoorW.PrintLast Go.Proofs.YtekjlpldooihhaaDoorW.PrintMore
attribute [local go_sem] max2_int min2_int max_two min_two max_three min_three max_four min_four
set_option linter.unusedVariables false
set_option linter.unusedSimpArgs false
def skewbaldref00_Round.f (a0 : Int) (a1 : Int) : Option (Int) := if a1 < 1 then (some 0) else (if a1 = 0 then (none) else (if (Int.tmod a0 a1) < 0 then (some (wrap64 ((Int.tmod a0 a1) + a1))) else (some (Int.tmod a0 a1))))
set_option maxHeartbeats 8000000 in
set_option maxRecDepth 100000 in
theorem skewbaldref00_Round.calls (a0 : Int) (a1 : Int) (r : Int) (w : World) (h : skewbaldref00_Round.f a0 a1 = some r) :
  Calls Tryd.prog 35 #[.int .i64 a0, .int .i64 a1] w fun e w' => e = .returned (.int .i64 r) ∧ Drawn0 w w' := by
 have H : (if a1 < 1 then (some 0) else (if a1 = 0 then (none) else (if (Int.tmod a0 a1) < 0 then (some (wrap64 ((Int.tmod a0 a1) + a1))) else (some (Int.tmod a0 a1))))) = some r := h
 clear h
 by_cases c3 : a1 < 1
 ·rw [if_pos c3] at H; have c3b0 := decide_eq_true c3; clear c3; obtain rfl := Option.some.inj H
  go_enter Tryd.func35, Tryd.ntmps35
  go_wp2
  go_ret
  exact ⟨sm, by repeat (first | exact Drawn0.refl _ | apply Drawn0.step)⟩
 ·rw [if_neg c3] at H
  have c3b0 : decide (a1 < 1) = false := decide_eq_false c3
  clear c3
  by_cases c4 : a1 = 0
  ·rw [if_pos c4] at H
   exact absurd H (by simp)
  ·rw [if_neg c4] at H
   have c4b0 : (a1 == 0) = false := beq_eq_false_iff_ne.mpr c4
   have c4b1 : (a1 != 0) = true := bne_iff_ne.mpr c4
   by_cases c5 : (Int.tmod a0 a1) < 0
   ·rw [if_pos c5] at H; have c5b0 := decide_eq_true c5; clear c5; obtain rfl := Option.some.inj H
    go_enter Tryd.func35, Tryd.ntmps35
    go_wp2
    go_ret
    exact ⟨sm, by repeat (first | exact Drawn0.refl _ | apply Drawn0.step)⟩
   ·rw [if_neg c5] at H
    have c5b0 : decide ((Int.tmod a0 a1) < 0) = false := decide_eq_false c5
    clear c5; obtain rfl := Option.some.inj H
    go_enter Tryd.func35, Tryd.ntmps35
    go_wp2
    go_ret
    exact ⟨sm, by repeat (first | exact Drawn0.refl _ | apply Drawn0.step)⟩
def skewbaldref00_Take.f (l0 : List Int) (a1 : Int) : Option (Int) := if (l0.length : Int) = 0 then (some 0) else ((skewbaldref00_Round.f a1 (l0.length : Int)).bind fun t351 => (if 0 ≤ t351 then (if t351 < (l0.length : Int) then (some (rd l0 t351)) else (none)) else (none)))
set_option maxHeartbeats 8000000 in
set_option maxRecDepth 100000 in
theorem skewbaldref00_Take.calls (A0 : Option Addr) (c0 : Nat) (l0 : List Int) (a1 : Int) (r : Int) (w : World) (hr0 : Kd.C (Kd.int .i64) w A0 l0.length l0) (hc0 : l0.length ≤ c0) (h : skewbaldref00_Take.f l0 a1 = some r) :
  Calls Tryd.prog 43 #[.slice A0 l0.length c0, .int .i64 a1] w fun e w' => e = .returned (.int .i64 r) ∧ Drawn0 w w' := by
 have HR0 := Aside0.mk hr0; have HC0 := Aside0.mk hc0; clear hr0 hc0
 have H : (if (l0.length : Int) = 0 then (some 0) else ((skewbaldref00_Round.f a1 (l0.length : Int)).bind fun t351 => (if 0 ≤ t351 then (if t351 < (l0.length : Int) then (some (rd l0 t351)) else (none)) else (none)))) = some r := h
 clear h
 by_cases c3 : (l0.length : Int) = 0
 ·rw [if_pos c3] at H
  have c3b0 : ((l0.length : Int) == 0) = true := beq_iff_eq.mpr c3
  have c3b1 : ((l0.length : Int) != 0) = false := bne_eq_false_iff_eq.mpr c3
  clear c3; obtain rfl := Option.some.inj H
  go_enter Tryd.func43, Tryd.ntmps43
  go_wp2
  go_ret
  exact ⟨sm, by repeat (first | exact Drawn0.refl _ | apply Drawn0.step)⟩
 ·rw [if_neg c3] at H
  have c3b0 : ((l0.length : Int) == 0) = false := beq_eq_false_iff_ne.mpr c3
  have c3b1 : ((l0.length : Int) != 0) = true := bne_iff_ne.mpr c3
  have c3b2 : ¬ (l0 = []) := fun h_ => c3 (by rw [h_]; rfl)
  obtain ⟨t351, A4, H⟩ := ob H
  by_cases c5 : 0 ≤ t351
  ·rw [if_pos c5] at H; have c5b0 := decide_eq_true c5; clear c5
   by_cases c6 : t351 < (l0.length : Int)
   ·rw [if_pos c6] at H; have c6b0 := decide_eq_true c6; clear c6; obtain rfl := Option.some.inj H
    go_enter Tryd.func43, Tryd.ntmps43
    go_wp2_with (first | ((with_reducible refine gate_callee (f := 35) rfl ?_); refine gl (some 12) Tryd.func35 #[.int .i64 a1, .int .i64 (l0.length : Int)] ?_; (with_reducible refine (skewbaldref00_Round.calls a1 (l0.length : Int) t351 _ A4.out).mono ?_); rintro e w' ⟨rfl, ⟨nd, rfl⟩⟩; refine ⟨_, rfl, ?_⟩; have p352 : 0 ≤ (t351 : Int) := od; have q352 : t351 < (l0.length : Int) := od; obtain ⟨ad352, e352, hx352_0⟩ := Kd.at_int HR0.out t351 p352 q352; cases e352; replace p352 := eq_true p352; replace q352 := eq_true q352))
    go_ret
    exact ⟨sm, by repeat (first | exact Drawn0.refl _ | apply Drawn0.step)⟩
   ·rw [if_neg c6] at H
    exact absurd H (by simp)
  ·rw [if_neg c5] at H
   exact absurd H (by simp)
def skewbaldref00_Any.f (a0_0 : Int) (a0_1 : Int) (a1 : Int) : Option (Int) := (skewbaldref00_Round.f a1 (wrap64 ((wrap64 (a0_1 - a0_0)) + 1))).bind fun t354 => (some (wrap64 (a0_0 + t354)))
set_option maxHeartbeats 8000000 in
set_option maxRecDepth 100000 in
theorem skewbaldref00_Any.calls (a0_0 : Int) (a0_1 : Int) (a1 : Int) (r : Int) (w : World) (h : skewbaldref00_Any.f a0_0 a0_1 a1 = some r) :
  Calls Tryd.prog 52 #[.agg #[.int .i64 a0_0, .int .i64 a0_1], .int .i64 a1] w fun e w' => e = .returned (.int .i64 r) ∧ Below w.heap.size w w' := by
 have hu60 := Tryd.underlying60; have HB := Aside0.mk (Below.refl w.heap.size w)
 have H : ((skewbaldref00_Round.f a1 (wrap64 ((wrap64 (a0_1 - a0_0)) + 1))).bind fun t354 => (some (wrap64 (a0_0 + t354)))) = some r := h
 clear h; obtain ⟨t354, A3, H⟩ := ob H; obtain rfl := Option.some.inj H
 go_enter Tryd.func52, Tryd.ntmps52
 go_wp2_with (first | (refine bx 2 #[.int .i64 a0_0, .int .i64 a0_1] 60 ?_; intro gb353 hg w4 hbox hb; have BK353 := Aside0.mk hbox; have GW353 := gw hg HB; have GE353 := gw hg HB; replace HB := hs HB hb; clear hb hbox hg; obtain ⟨hcz5_0, hcz5_1, hfz5_0, hfz5_1⟩ := b2 (w := w4) BK353) | (go_at_call 35; (with_reducible refine (skewbaldref00_Round.calls a1 (wrap64 ((wrap64 (a0_1 - a0_0)) + 1)) t354 _ A3.out).mono ?_); rintro e w' ⟨rfl, ⟨nd, rfl⟩⟩; (try first | exact ⟨rfl, _, World.drewN_drewN _ _ _⟩ | exact ⟨rfl, _, Eq.trans (World.drewN_drewN _ _ _) (congrArg (World.drewN _) (Nat.add_assoc _ _ _))⟩)))
 repeat (go_quiet (first | (refine bx 2 #[.int .i64 a0_0, .int .i64 a0_1] 60 ?_; intro gb353 hg w4 hbox hb; have BK353 := Aside0.mk hbox; have GW353 := gw hg HB; have GE353 := gw hg HB; replace HB := hs HB hb; clear hb hbox hg; obtain ⟨hcz5_0, hcz5_1, hfz5_0, hfz5_1⟩ := b2 (w := w4) BK353) | (go_at_call 35; (with_reducible refine (skewbaldref00_Round.calls a1 (wrap64 ((wrap64 (a0_1 - a0_0)) + 1)) t354 _ A3.out).mono ?_); rintro e w' ⟨rfl, ⟨nd, rfl⟩⟩; (try first | exact ⟨rfl, _, World.drewN_drewN _ _ _⟩ | exact ⟨rfl, _, Eq.trans (World.drewN_drewN _ _ _) (congrArg (World.drewN _) (Nat.add_assoc _ _ _))⟩))); try go_wp2_with (first | (refine bx 2 #[.int .i64 a0_0, .int .i64 a0_1] 60 ?_; intro gb353 hg w4 hbox hb; have BK353 := Aside0.mk hbox; have GW353 := gw hg HB; have GE353 := gw hg HB; replace HB := hs HB hb; clear hb hbox hg; obtain ⟨hcz5_0, hcz5_1, hfz5_0, hfz5_1⟩ := b2 (w := w4) BK353) | (go_at_call 35; (with_reducible refine (skewbaldref00_Round.calls a1 (wrap64 ((wrap64 (a0_1 - a0_0)) + 1)) t354 _ A3.out).mono ?_); rintro e w' ⟨rfl, ⟨nd, rfl⟩⟩; (try first | exact ⟨rfl, _, World.drewN_drewN _ _ _⟩ | exact ⟨rfl, _, Eq.trans (World.drewN_drewN _ _ _) (congrArg (World.drewN _) (Nat.add_assoc _ _ _))⟩))))
 go_ret
 exact ⟨by first | rfl | (simp [errW_none, errW_some] <;> rfl) | (simp [*, errW_none, errW_some] <;> rfl), bl⟩
def skewbaldlaw01_truly.l0 : Nat → List Int → List Int → Int → Int → List (S60) → Option (List Int)
 | 0, _, _, _, _, _ => none
 | k + 1, x1, x5, x6, x356000, x356001 => if x6 < (x356001.length : Int) then (if 0 ≤ x6 then ((skewbaldref00_Take.f x1 x6).bind fun t360 => ((skewbaldref00_Any.f ((rd_T60 x356001 x6).f0) ((rd_T60 x356001 x6).f1) t360).bind fun t361 => (if x5.length < 17592186044416 then (skewbaldlaw01_truly.l0 k x1 (x5 ++ [t361]) (wrap64 (x6 + 1)) x356000 x356001) else (none)))) else (none)) else (some x5)
def skewbaldlaw01_truly.f (k : Nat) (a0_0 : Int) (l0_1 : List (S60)) (l1 : List Int) : Option (List Int) := skewbaldlaw01_truly.l0 k l1 (([] : List Int)) 0 a0_0 l0_1
def skewbaldlaw01_truly.T5 : Bool × List (List Nat × List Nat) := (true, [([], []), ([], []), ([1], [1]), ([], []), ([2, 3], [2, 3]), ([4], [4]), ([], []), ([], []), ([6, 7], [6, 7]), ([5, 8, 8], [5, 8]), ([9], [9]), ([0, 10, 9], [0, 10]), ([11, 11, 0, 1, 2, 3, 4, 5, 6, 7, 8, 9, 10, 11], [0, 11])])
def skewbaldlaw01_truly.B5 : List Nat := [0, 0, 2, 0, 14, 30, 0, 0, 192, 510, 1022, 2047, 4095]
theorem skewbaldlaw01_truly.tab5 : rtab .any (opsOf Tryd.f36 5) = skewbaldlaw01_truly.T5 := by kernel_rfl
theorem skewbaldlaw01_truly.bits5 : waitsOk skewbaldlaw01_truly.T5.2 skewbaldlaw01_truly.B5 = true := by kernel_rfl
set_option maxHeartbeats 8000000 in
set_option maxRecDepth 100000 in
theorem skewbaldlaw01_truly.calls (k : Nat) (a0_0 : Int) (A0_1 : Option Addr) (c0_1 : Nat) (l0_1 : List (S60)) (A1 : Option Addr) (c1 : Nat) (l1 : List Int) (r : List Int) (w : World) (hr0_1 : Kd.C k60 w A0_1 l0_1.length l0_1) (hc0_1 : l0_1.length ≤ c0_1) (hr1 : Kd.C (Kd.int .i64) w A1 l1.length l1) (hc1 : l1.length ≤ c1) (h : skewbaldlaw01_truly.f k a0_0 l0_1 l1 = some r) :
  Calls Tryd.prog 36 #[.agg #[.int .i64 a0_0, .slice A0_1 l0_1.length c0_1], .slice A1 l1.length c1] w fun e w' => ∃ v0_ : Value, e = .returned (v0_) ∧ Kd.R (Kd.int .i64) 3 w' w.heap.size (fun _ => True) v0_ r ∧ Below w.heap.size w w' := by
 have hu48 := Tryd.underlying48; have hu60 := Tryd.underlying60; have HR0_1 := Aside0.mk hr0_1; have HC0_1 := Aside0.mk hc0_1; clear hr0_1 hc0_1; have HR1 := Aside0.mk hr1; have HC1 := Aside0.mk hc1; clear hr1 hc1; have HB := Aside0.mk (Below.refl w.heap.size w)
 have H : (skewbaldlaw01_truly.l0 k l1 (([] : List Int)) 0 a0_0 l0_1) = some r := h
 clear h
 obtain ⟨y356, hy356⟩ : ∃ y_ : List Int, y_ = (([] : List Int)) := ⟨_, rfl⟩
 replace H : (skewbaldlaw01_truly.l0 k l1 y356 0 a0_0 l0_1) = some r := tr H hy356
 have Ny356 := Aside0.mk hy356; clear hy356; have H' := Aside0.mk H; clear H
 go_enter Tryd.func36, Tryd.ntmps36
 go_wp2_with (first | (refine bx 2 #[.int .i64 a0_0, .slice A0_1 l0_1.length c0_1] 48 ?_; intro gb355 hg w3 hbox hb; have BK355 := Aside0.mk hbox; have GW355 := gw hg HB; have GE355 := gw hg HB; replace HB := hs HB hb; clear hb hbox hg) | ((with_reducible refine gate_dst (N := 7) rfl ?_); refine Kd.R_lit (Kd.int .i64) _ 3 ?hg (N := 7) ?hd (xs := ([] : List Int)) (inner := []) (ok := fun _ => True) (okp := fun _ => True) ?hr ?hp (fun _ hk => hk) trivial (Below.refl _ _) (Nat.le_refl _) (by simp) ?_; (case hd => rfl); (case hg => rfl); (case hr => first | (go_simp; done) | (go_simp; rfl)); (case hp => exact (Reps.none _ _)); intro v357 w4 ho5 hb hg_ hnew_; clear hg_ hnew_; (first | rw [← Ny356.out] at ho5 | (simp only [Int.reduceToNat] at ho5; rw [← Ny356.out] at ho5)); have HO358 := Aside0.mk (Kd.R_lower ho5 (below_size bl)); replace BK355 := nb BK355 hb; replace HB := hs HB hb; clear hb ho5))
 go_loopg [5, 6] k (fun kq v5 v6 w' => ∃ (x5_1 : List Int) (x6_1 : Int), v6 = .int .i64 x6_1 ∧ Aside0 (skewbaldlaw01_truly.l0 kq l1 x5_1 x6_1 a0_0 l0_1 = some r) ∧ Aside0 (kq ≤ k) ∧ Aside0 (Kd.R (Kd.int .i64) 3 w' w.heap.size (fun _ => True) v5 x5_1) ∧ Aside0 (w'.heap[gb355]? = some (.cells #[.int .i64 a0_0, (.slice A0_1 l0_1.length c0_1)] 48 (0, 0))) ∧ Aside0 (Below w.heap.size w w'))
 case atStart => exact ⟨(y356), (0), sm, H', ⟨Nat.le_refl _⟩, ⟨bR HO358⟩, ⟨bk⟩, ⟨bl⟩⟩
 case round =>
  clear H'; (try clear c1); (try clear p2); (try clear c3); obtain ⟨x5_1, x6_1, rfl, HA, HK1, HO_5, BK355, HB⟩ := hrel
  cases gk with
  | zero => exact absurd HA.out (by simp [skewbaldlaw01_truly.l0])
  | succ k1 =>
   have H := HA.out; clear HA
   simp only [skewbaldlaw01_truly.l0] at H
   by_cases c6 : x6_1 < (l0_1.length : Int)
   ·rw [if_pos c6] at H; have c6b0 := decide_eq_true c6; clear c6
    by_cases c7 : 0 ≤ x6_1
    ·rw [if_pos c7] at H; have c7b0 := decide_eq_true c7; clear c7; obtain ⟨t360, A8, H⟩ := ob H; obtain ⟨t361, A9, H⟩ := ob H
     by_cases c10 : x5_1.length < 17592186044416
     ·rw [if_pos c10] at H; have LMc10 := Aside0.mk c10; clear c10
      obtain ⟨y362, hy362⟩ : ∃ y_ : List Int, y_ = (x5_1 ++ [t361]) := ⟨_, rfl⟩
      replace H : (skewbaldlaw01_truly.l0 k1 l1 y362 (wrap64 (x6_1 + 1)) a0_0 l0_1) = some r := tr H hy362
      have Ny362 := Aside0.mk hy362; clear hy362; have H' := Aside0.mk H; clear H; obtain ⟨hcz11_0, hcz11_1, hfz11_0, hfz11_1⟩ := b2 (w := wr) BK355
      try go_wp2
      replace HO_5 := Aside0.mk (Kd.R_drew HO_5.out); replace BK355 := Aside0.mk (blk_drew BK355.out); replace HB := Aside0.mk (below_drew1 HB.out)
      have p359 : 0 ≤ (x6_1 : Int) := od
      have q359 : x6_1 < (l0_1.length : Int) := od
      obtain ⟨ad359, e359, hx359_0, hx359_1⟩ := at_T60 HR0_1.out x6_1 p359 q359; have hw359_1 := hx359_1; have hw359_0 := hx359_0
      cases e359
      replace hx359_0 := cm HB hx359_0; replace hx359_1 := cm HB hx359_1; replace p359 := eq_true p359; replace q359 := eq_true q359
      refine start_ (n := 13) (S := fun w' => w'.cell? ⟨gb355, 0, none⟩ = some (.int .i64 a0_0) ∧ w'.cell? ⟨gb355, 1, none⟩ = some (.slice (some ad359) l0_1.length c0_1) ∧ w'.cell? (ad359.add ((x6_1).toNat * 2)) = some (.int .i64 ((rd_T60 l0_1 x6_1).f0)) ∧ w'.cell? ⟨(ad359.add ((x6_1).toNat * 2)).block, (ad359.add ((x6_1).toNat * 2)).off + 1, none⟩ = some (.int .i64 ((rd_T60 l0_1 x6_1).f1))) (ds := []) #[false, false, false, false, false, false, false, false, false, false, false, false, false] (by kernel_rfl) rfl rfl ⟨bq BK355 0, bq BK355 1, (cm HB hw359_0 :), (cm HB hw359_1 :)⟩ (fun hHeld => ?_); refine with_tabW skewbaldlaw01_truly.tab5 skewbaldlaw01_truly.bits5 (fun HT_ HW_ => ?_)
      generalize wr.drew = w12 at HO_5 BK355 HB hx359_0 hx359_1 hHeld ⊢
      refine pu_ (i := 0) (N := some 15) (qa_ 13 1) ?_
      refine pu_ (i := 1) (N := some 16) (qa_ 13 3) ?_
      refine pu_ (i := 3) (N := some 18) (qa_ 13 11) ?_
      refine pu_ (i := 6) (N := some 21) (qa_ 13 75) ?_
      refine pu_ (i := 7) (N := some 22) (qa_ 13 203) ?_
      refine tk_ (i := 2) (N := some 17) (qa_ 13 207) hHeld ?_
      refine pu_ (i := 4) (N := some 19) (qa_ 13 223) ?_
      refine tk_ (i := 5) (N := some 20) (qa_ 13 255) hHeld ?_
      refine on_ (i := 8) (N := some 23) (qa_ 13 511) (fun K hK => ?_)
      refine goes_ Tryd.func43 (by kernel_rfl) rfl #[.slice A1 l1.length c1, .int .i64 x6_1] (by rfl) rfl rfl (by (try simp only [List.map_toArray, List.map_cons, List.map_nil]); first | done | rfl | (simp only [List.length_drop, List.length_take]; rfl)) ?_
      with_reducible refine (skewbaldref00_Take.calls _ _ l1 x6_1 t360 _ ?side1 ?side2 A8.out).mono ?_
      (case side1 => repeat (first | exact (Kd.C_below HR1.out HB.out) | (with_reducible refine Kd.C_alloc ?_ _) | (with_reducible refine Kd.C_drewN ?_ _) | (with_reducible refine Kd.C_drew ?_)))
      (case side2 => exact HC1.out)
      rintro e w' ⟨rfl, ⟨nd, rfl⟩⟩
      refine ⟨_, rfl, ?_⟩
      refine hK.out _ _ ⟨bq BK355 0, bq BK355 1, (cm HB hw359_0 :), (cm HB hw359_1 :)⟩ (fun hHeld => ?_)
      clear hK K
      refine nm_ (some 23) ?_
      refine on_ (i := 9) (N := some 24) (qa_ 13 1023) (fun K hK => ?_)
      refine goes_ Tryd.func52 (by kernel_rfl) rfl #[.agg #[.int .i64 ((rd_T60 l0_1 x6_1).f0), .int .i64 ((rd_T60 l0_1 x6_1).f1)], .int .i64 t360] (by rfl) rfl rfl (by (try simp only [List.map_toArray, List.map_cons, List.map_nil]); first | done | rfl | (simp only [List.length_drop, List.length_take]; rfl)) ?_
      with_reducible refine (skewbaldref00_Any.calls ((rd_T60 l0_1 x6_1).f0) ((rd_T60 l0_1 x6_1).f1) t360 t361 _ A9.out).mono ?_
      rintro e w13 ⟨rfl, hb⟩
      refine ⟨_, rfl, ?_⟩
      replace HO_5 := Aside0.mk (Kd.R_below (bR HO_5) hb); replace BK355 := nb BK355 hb; replace HB := hs HB hb; (try clear hb); (try clear hb2); (try clear hk); (try clear hi)
      refine hK.out _ _ ⟨bq BK355 0, bq BK355 1, (cm HB hw359_0 :), (cm HB hw359_1 :)⟩ (fun hHeld => ?_)
      clear hK K
      refine nm_ (some 24) ?_
      refine on_ (i := 10) (N := some 25) (qa_ 13 2047) (fun K hK => ?_)
      refine value_ (w1 := ?_) (v := ?_) (by rfl) rfl ?_ ?_
      rotate_left 2
      ·go_simp
       constructor
       ·rfl
       ·rfl
      refine hK.out _ _ ⟨(blk_cell (blk_alloc BK355.out _) 0).trans rfl, (blk_cell (blk_alloc BK355.out _) 1).trans rfl, (World.cell?_alloc_lt _ _ _ (World.block_lt_of_cell? _ _ ((cm HB hw359_0 :)))).trans ((cm HB hw359_0 :)), (World.cell?_alloc_lt _ _ _ (World.block_lt_of_cell? _ _ ((cm HB hw359_1 :)))).trans ((cm HB hw359_1 :))⟩ (fun hHeld => ?_)
      clear hK K
      refine nm_ (some 25) ?_
      refine on_ (i := 11) (N := some 26) (qa_ 13 4095) (fun K hK => ?_)
      refine Kd.R_append_step (Kd.int .i64) (w0 := w) w.heap.size (by rfl) (.tmp 15) (.tmp 25) 31 3 (.int .i64 0) 8 rfl Tryd.underlying31 info3 rfl (by decide) (by omega) u5 x5_1 t361 [.int .i64 t361] (fun _ => True) (fun _ => False) rfl rfl ?aP (fun _ hk => hk.elim) ?aF ?aO ?aB ?aS ?aL ?_
      (case aP => exact rfl)
      (case aB => exact bl)
      (case aF => exact (fun _ _ => trivial))
      (case aO => exact (bR HO_5))
      (case aS => exact (below_size bl))
      (case aL => have := LMc10.out; omega)
      intro v363 w14 ho hb hg hat
      rw [← Ny362.out] at ho
      replace BK355 := Aside0.mk (blk_grown (g := gb355) (o := .cells #[.int .i64 a0_0, .slice (some ad359) l0_1.length c0_1] 48 (0, 0)) bk hg (Kd.R_ne HO_5.out BK355.out (by decide)))
      replace HB := Aside0.mk hb; have HO364 := Aside0.mk ho; clear HO_5; clear ho hb hg hat
      refine hK.out _ _ ⟨bq BK355 0, bq BK355 1, (cm HB hw359_0 :), (cm HB hw359_1 :)⟩ (fun hHeld => ?_)
      clear hK K
      refine nm_ (some 26) ?_
      refine pu_ (i := 12) (N := some 5) (qa_ 13 8191) ?_
      refine done_ (done_of HT_.out (by kernel_rfl)) ?_
      try go_wp2
      go_roundg k1
      case measure => have := HK1.out; omega
      case rel => exact ⟨(y362), (wrap64 (x6_1 + 1)), sm, H', ⟨lo HK1⟩, ⟨bR HO364⟩, ⟨bk⟩, ⟨bl⟩⟩
     ·rw [if_neg c10] at H
      exact absurd H (by simp)
    ·rw [if_neg c7] at H
     exact absurd H (by simp)
   ·rw [if_neg c6] at H
    have c6b0 : decide (x6_1 < (l0_1.length : Int)) = false := decide_eq_false c6
    clear c6; obtain rfl := Option.some.inj H; obtain ⟨hcz15_0, hcz15_1, hfz15_0, hfz15_1⟩ := b2 (w := wr) BK355
    go_wp2
    go_ret
    exact ⟨_, by first | rfl | (simp [errW_none, errW_some] <;> rfl) | (simp [*, errW_none, errW_some] <;> rfl), by (with_reducible repeat (first | apply Kd.R_alloc | apply Kd.R_drewN | apply Kd.R_drew)); exact HO_5.out, bl⟩
def skewbaldlaw01_clear.l0 : Nat → Int → Bool → List Int → Int → Int → List Int → Bool → Option (Bool)
 | 0, _, _, _, _, _, _, _ => none
 | k + 1, x1, x2, x3, x9, x366000, x366001, x366002 => if x9 < (x366001.length : Int) then (if 0 ≤ x9 then (if x2 = true then ((skewbaldref00_Find.f k x3 (wrap64 ((wrap64 ((wrap64 (x1 + x366000)) - 1)) - (rd x366001 x9)))).bind fun t368 => (if t368 ≥ 0 then (some false) else (skewbaldlaw01_clear.l0 k x1 x2 x3 (wrap64 (x9 + 1)) x366000 x366001 x366002))) else ((skewbaldref00_Find.f k x3 (wrap64 (x1 + (rd x366001 x9)))).bind fun t369 => (if t369 ≥ 0 then (some false) else (skewbaldlaw01_clear.l0 k x1 x2 x3 (wrap64 (x9 + 1)) x366000 x366001 x366002)))) else (none)) else (some true)
def skewbaldlaw01_clear.f (k : Nat) (a0_0 : Int) (l0_1 : List Int) (a0_2 : Bool) (a1 : Int) (a2 : Bool) (l3 : List Int) : Option (Bool) := skewbaldlaw01_clear.l0 k a1 a2 l3 0 a0_0 l0_1 a0_2
set_option maxHeartbeats 8000000 in
set_option maxRecDepth 100000 in
theorem skewbaldlaw01_clear.calls (k : Nat) (a0_0 : Int) (A0_1 : Option Addr) (c0_1 : Nat) (l0_1 : List Int) (a0_2 : Bool) (a1 : Int) (a2 : Bool) (A3 : Option Addr) (c3 : Nat) (l3 : List Int) (r : Bool) (w : World) (hr0_1 : Kd.C (Kd.int .i64) w A0_1 l0_1.length l0_1) (hc0_1 : l0_1.length ≤ c0_1) (hr3 : Kd.C (Kd.int .i64) w A3 l3.length l3) (hc3 : l3.length ≤ c3) (h : skewbaldlaw01_clear.f k a0_0 l0_1 a0_2 a1 a2 l3 = some r) :
  Calls Tryd.prog 37 #[.agg #[.int .i64 a0_0, .slice A0_1 l0_1.length c0_1, .bool a0_2], .int .i64 a1, .bool a2, .slice A3 l3.length c3] w fun e w' => e = .returned (.bool r) ∧ Below w.heap.size w w' := by
 have hu50 := Tryd.underlying50; have HR0_1 := Aside0.mk hr0_1; have HC0_1 := Aside0.mk hc0_1; clear hr0_1 hc0_1; have HR3 := Aside0.mk hr3; have HC3 := Aside0.mk hc3; clear hr3 hc3; have HB := Aside0.mk (Below.refl w.heap.size w)
 have H : (skewbaldlaw01_clear.l0 k a1 a2 l3 0 a0_0 l0_1 a0_2) = some r := h
 clear h; have H' := Aside0.mk H; clear H
 go_enter Tryd.func37, Tryd.ntmps37
 go_wp2_with (first | (refine bx 4 #[.int .i64 a0_0, .slice A0_1 l0_1.length c0_1, .bool a0_2] 50 ?_; intro gb365 hg w5 hbox hb; have BK365 := Aside0.mk hbox; have GW365 := gw hg HB; have GE365 := gw hg HB; replace HB := hs HB hb; clear hb hbox hg))
 repeat (go_quiet (first | (refine bx 4 #[.int .i64 a0_0, .slice A0_1 l0_1.length c0_1, .bool a0_2] 50 ?_; intro gb365 hg w5 hbox hb; have BK365 := Aside0.mk hbox; have GW365 := gw hg HB; have GE365 := gw hg HB; replace HB := hs HB hb; clear hb hbox hg)); try go_wp2_with (first | (refine bx 4 #[.int .i64 a0_0, .slice A0_1 l0_1.length c0_1, .bool a0_2] 50 ?_; intro gb365 hg w5 hbox hb; have BK365 := Aside0.mk hbox; have GW365 := gw hg HB; have GE365 := gw hg HB; replace HB := hs HB hb; clear hb hbox hg)))
 go_loopg [9] k (fun kq v9 w' => ∃ (x9_1 : Int), v9 = .int .i64 x9_1 ∧ Aside0 (skewbaldlaw01_clear.l0 kq a1 a2 l3 x9_1 a0_0 l0_1 a0_2 = some r) ∧ Aside0 (kq ≤ k) ∧ Aside0 (w'.heap[gb365]? = some (.cells #[.int .i64 a0_0, (.slice A0_1 l0_1.length c0_1), .bool a0_2] 50 (0, 0))) ∧ Aside0 (Below w.heap.size w w'))
 case atStart => exact ⟨(0), sm, H', ⟨Nat.le_refl _⟩, ⟨bk⟩, ⟨bl⟩⟩
 case round =>
  clear H'; (try clear p2); (try clear c3); obtain ⟨x9_1, rfl, HA, HK1, BK365, HB⟩ := hrel
  cases gk with
  | zero => exact absurd HA.out (by simp [skewbaldlaw01_clear.l0])
  | succ k1 =>
   have H := HA.out; clear HA
   simp only [skewbaldlaw01_clear.l0] at H
   by_cases c6 : x9_1 < (l0_1.length : Int)
   ·rw [if_pos c6] at H; have c6b0 := decide_eq_true c6; clear c6
    by_cases c7 : 0 ≤ x9_1
    ·rw [if_pos c7] at H; have c7b0 := decide_eq_true c7; clear c7
     by_cases c8 : a2 = true
     ·subst c8; rw [if_pos rfl] at H; obtain ⟨t368, A9, H⟩ := ob H
      by_cases c10 : t368 ≥ 0
      ·rw [if_pos c10] at H; have c10b0 := decide_eq_true c10; clear c10; obtain rfl := Option.some.inj H; obtain ⟨hcz11_0, hcz11_1, hcz11_2, hfz11_0, hfz11_1, hfz11_2⟩ := b3 (w := wr) BK365
       have p366 : 0 ≤ (x9_1 : Int) := od
       have q366 : x9_1 < (l0_1.length : Int) := od
       obtain ⟨ad366, e366, hx366_0⟩ := Kd.at_int HR0_1.out x9_1 p366 q366
       cases e366
       replace hx366_0 := cm HB hx366_0; replace p366 := eq_true p366; replace q366 := eq_true q366
       have p367 : 0 ≤ (x9_1 : Int) := od
       have q367 : x9_1 < (l0_1.length : Int) := od
       obtain ⟨ad367, e367, hx367_0⟩ := Kd.at_int HR0_1.out x9_1 p367 q367
       obtain rfl : ad366 = ad367 := (by injection e367)
       replace hx367_0 := cm HB hx367_0; replace p367 := eq_true p367; replace q367 := eq_true q367
       go_wp2_with (first | (go_at_call 42; (with_reducible refine (skewbaldref00_Find.calls k1 _ _ l3 (wrap64 ((wrap64 ((wrap64 (a1 + a0_0)) - 1)) - (rd l0_1 x9_1))) t368 _ ?side1 ?side2 A9.out).mono ?_); (case side1 => repeat (first | exact (Kd.C_below HR3.out HB.out) | (with_reducible refine Kd.C_alloc ?_ _) | (with_reducible refine Kd.C_drewN ?_ _) | (with_reducible refine Kd.C_drew ?_))); (case side2 => exact HC3.out); rintro e w' ⟨rfl, ⟨nd, rfl⟩⟩; (try first | exact ⟨rfl, _, World.drewN_drewN _ _ _⟩ | exact ⟨rfl, _, Eq.trans (World.drewN_drewN _ _ _) (congrArg (World.drewN _) (Nat.add_assoc _ _ _))⟩)))
       repeat (go_quiet (first | (go_at_call 42; (with_reducible refine (skewbaldref00_Find.calls k1 _ _ l3 (wrap64 ((wrap64 ((wrap64 (a1 + a0_0)) - 1)) - (rd l0_1 x9_1))) t368 _ ?side1 ?side2 A9.out).mono ?_); (case side1 => repeat (first | exact (Kd.C_below HR3.out HB.out) | (with_reducible refine Kd.C_alloc ?_ _) | (with_reducible refine Kd.C_drewN ?_ _) | (with_reducible refine Kd.C_drew ?_))); (case side2 => exact HC3.out); rintro e w' ⟨rfl, ⟨nd, rfl⟩⟩; (try first | exact ⟨rfl, _, World.drewN_drewN _ _ _⟩ | exact ⟨rfl, _, Eq.trans (World.drewN_drewN _ _ _) (congrArg (World.drewN _) (Nat.add_assoc _ _ _))⟩))); try go_wp2_with (first | (go_at_call 42; (with_reducible refine (skewbaldref00_Find.calls k1 _ _ l3 (wrap64 ((wrap64 ((wrap64 (a1 + a0_0)) - 1)) - (rd l0_1 x9_1))) t368 _ ?side1 ?side2 A9.out).mono ?_); (case side1 => repeat (first | exact (Kd.C_below HR3.out HB.out) | (with_reducible refine Kd.C_alloc ?_ _) | (with_reducible refine Kd.C_drewN ?_ _) | (with_reducible refine Kd.C_drew ?_))); (case side2 => exact HC3.out); rintro e w' ⟨rfl, ⟨nd, rfl⟩⟩; (try first | exact ⟨rfl, _, World.drewN_drewN _ _ _⟩ | exact ⟨rfl, _, Eq.trans (World.drewN_drewN _ _ _) (congrArg (World.drewN _) (Nat.add_assoc _ _ _))⟩))))
       go_ret
       exact ⟨by first | rfl | (simp [errW_none, errW_some] <;> rfl) | (simp [*, errW_none, errW_some] <;> rfl), bl⟩
      ·rw [if_neg c10] at H
       have c10b0 : decide (0 ≤ t368) = false := decide_eq_false c10
       clear c10; have H' := Aside0.mk H; clear H; obtain ⟨hcz12_0, hcz12_1, hcz12_2, hfz12_0, hfz12_1, hfz12_2⟩ := b3 (w := wr) BK365
       have p366 : 0 ≤ (x9_1 : Int) := od
       have q366 : x9_1 < (l0_1.length : Int) := od
       obtain ⟨ad366, e366, hx366_0⟩ := Kd.at_int HR0_1.out x9_1 p366 q366
       cases e366
       replace hx366_0 := cm HB hx366_0; replace p366 := eq_true p366; replace q366 := eq_true q366
       have p367 : 0 ≤ (x9_1 : Int) := od
       have q367 : x9_1 < (l0_1.length : Int) := od
       obtain ⟨ad367, e367, hx367_0⟩ := Kd.at_int HR0_1.out x9_1 p367 q367
       obtain rfl : ad366 = ad367 := (by injection e367)
       replace hx367_0 := cm HB hx367_0; replace p367 := eq_true p367; replace q367 := eq_true q367
       go_wp2_with (first | (go_at_call 42; (with_reducible refine (skewbaldref00_Find.calls k1 _ _ l3 (wrap64 ((wrap64 ((wrap64 (a1 + a0_0)) - 1)) - (rd l0_1 x9_1))) t368 _ ?side1 ?side2 A9.out).mono ?_); (case side1 => repeat (first | exact (Kd.C_below HR3.out HB.out) | (with_reducible refine Kd.C_alloc ?_ _) | (with_reducible refine Kd.C_drewN ?_ _) | (with_reducible refine Kd.C_drew ?_))); (case side2 => exact HC3.out); rintro e w' ⟨rfl, ⟨nd, rfl⟩⟩; (try first | exact ⟨rfl, _, World.drewN_drewN _ _ _⟩ | exact ⟨rfl, _, Eq.trans (World.drewN_drewN _ _ _) (congrArg (World.drewN _) (Nat.add_assoc _ _ _))⟩)))
       repeat (go_quiet (first | (go_at_call 42; (with_reducible refine (skewbaldref00_Find.calls k1 _ _ l3 (wrap64 ((wrap64 ((wrap64 (a1 + a0_0)) - 1)) - (rd l0_1 x9_1))) t368 _ ?side1 ?side2 A9.out).mono ?_); (case side1 => repeat (first | exact (Kd.C_below HR3.out HB.out) | (with_reducible refine Kd.C_alloc ?_ _) | (with_reducible refine Kd.C_drewN ?_ _) | (with_reducible refine Kd.C_drew ?_))); (case side2 => exact HC3.out); rintro e w' ⟨rfl, ⟨nd, rfl⟩⟩; (try first | exact ⟨rfl, _, World.drewN_drewN _ _ _⟩ | exact ⟨rfl, _, Eq.trans (World.drewN_drewN _ _ _) (congrArg (World.drewN _) (Nat.add_assoc _ _ _))⟩))); try go_wp2_with (first | (go_at_call 42; (with_reducible refine (skewbaldref00_Find.calls k1 _ _ l3 (wrap64 ((wrap64 ((wrap64 (a1 + a0_0)) - 1)) - (rd l0_1 x9_1))) t368 _ ?side1 ?side2 A9.out).mono ?_); (case side1 => repeat (first | exact (Kd.C_below HR3.out HB.out) | (with_reducible refine Kd.C_alloc ?_ _) | (with_reducible refine Kd.C_drewN ?_ _) | (with_reducible refine Kd.C_drew ?_))); (case side2 => exact HC3.out); rintro e w' ⟨rfl, ⟨nd, rfl⟩⟩; (try first | exact ⟨rfl, _, World.drewN_drewN _ _ _⟩ | exact ⟨rfl, _, Eq.trans (World.drewN_drewN _ _ _) (congrArg (World.drewN _) (Nat.add_assoc _ _ _))⟩))))
       go_roundg k1
       case measure => have := HK1.out; omega
       case rel => exact ⟨(wrap64 (x9_1 + 1)), sm, H', ⟨lo HK1⟩, ⟨bk⟩, ⟨bl⟩⟩
     ·replace c8 := Bool.eq_false_iff.mpr c8; subst c8
      rw [if_neg (show ¬ (false = true) by decide)] at H
      obtain ⟨t369, A13, H⟩ := ob H
      by_cases c14 : t369 ≥ 0
      ·rw [if_pos c14] at H; have c14b0 := decide_eq_true c14; clear c14; obtain rfl := Option.some.inj H; obtain ⟨hcz15_0, hcz15_1, hcz15_2, hfz15_0, hfz15_1, hfz15_2⟩ := b3 (w := wr) BK365
       have p366 : 0 ≤ (x9_1 : Int) := od
       have q366 : x9_1 < (l0_1.length : Int) := od
       obtain ⟨ad366, e366, hx366_0⟩ := Kd.at_int HR0_1.out x9_1 p366 q366
       cases e366
       replace hx366_0 := cm HB hx366_0; replace p366 := eq_true p366; replace q366 := eq_true q366
       go_wp2_with (first | (go_at_call 42; (with_reducible refine (skewbaldref00_Find.calls k1 _ _ l3 (wrap64 (a1 + (rd l0_1 x9_1))) t369 _ ?side1 ?side2 A13.out).mono ?_); (case side1 => repeat (first | exact (Kd.C_below HR3.out HB.out) | (with_reducible refine Kd.C_alloc ?_ _) | (with_reducible refine Kd.C_drewN ?_ _) | (with_reducible refine Kd.C_drew ?_))); (case side2 => exact HC3.out); rintro e w' ⟨rfl, ⟨nd, rfl⟩⟩; (try first | exact ⟨rfl, _, World.drewN_drewN _ _ _⟩ | exact ⟨rfl, _, Eq.trans (World.drewN_drewN _ _ _) (congrArg (World.drewN _) (Nat.add_assoc _ _ _))⟩)))
       repeat (go_quiet (first | (go_at_call 42; (with_reducible refine (skewbaldref00_Find.calls k1 _ _ l3 (wrap64 (a1 + (rd l0_1 x9_1))) t369 _ ?side1 ?side2 A13.out).mono ?_); (case side1 => repeat (first | exact (Kd.C_below HR3.out HB.out) | (with_reducible refine Kd.C_alloc ?_ _) | (with_reducible refine Kd.C_drewN ?_ _) | (with_reducible refine Kd.C_drew ?_))); (case side2 => exact HC3.out); rintro e w' ⟨rfl, ⟨nd, rfl⟩⟩; (try first | exact ⟨rfl, _, World.drewN_drewN _ _ _⟩ | exact ⟨rfl, _, Eq.trans (World.drewN_drewN _ _ _) (congrArg (World.drewN _) (Nat.add_assoc _ _ _))⟩))); try go_wp2_with (first | (go_at_call 42; (with_reducible refine (skewbaldref00_Find.calls k1 _ _ l3 (wrap64 (a1 + (rd l0_1 x9_1))) t369 _ ?side1 ?side2 A13.out).mono ?_); (case side1 => repeat (first | exact (Kd.C_below HR3.out HB.out) | (with_reducible refine Kd.C_alloc ?_ _) | (with_reducible refine Kd.C_drewN ?_ _) | (with_reducible refine Kd.C_drew ?_))); (case side2 => exact HC3.out); rintro e w' ⟨rfl, ⟨nd, rfl⟩⟩; (try first | exact ⟨rfl, _, World.drewN_drewN _ _ _⟩ | exact ⟨rfl, _, Eq.trans (World.drewN_drewN _ _ _) (congrArg (World.drewN _) (Nat.add_assoc _ _ _))⟩))))
       go_ret
       exact ⟨by first | rfl | (simp [errW_none, errW_some] <;> rfl) | (simp [*, errW_none, errW_some] <;> rfl), bl⟩
      ·rw [if_neg c14] at H
       have c14b0 : decide (0 ≤ t369) = false := decide_eq_false c14
       clear c14; have H' := Aside0.mk H; clear H; obtain ⟨hcz16_0, hcz16_1, hcz16_2, hfz16_0, hfz16_1, hfz16_2⟩ := b3 (w := wr) BK365
       have p366 : 0 ≤ (x9_1 : Int) := od
       have q366 : x9_1 < (l0_1.length : Int) := od
       obtain ⟨ad366, e366, hx366_0⟩ := Kd.at_int HR0_1.out x9_1 p366 q366
       cases e366
       replace hx366_0 := cm HB hx366_0; replace p366 := eq_true p366; replace q366 := eq_true q366
       go_wp2_with (first | (go_at_call 42; (with_reducible refine (skewbaldref00_Find.calls k1 _ _ l3 (wrap64 (a1 + (rd l0_1 x9_1))) t369 _ ?side1 ?side2 A13.out).mono ?_); (case side1 => repeat (first | exact (Kd.C_below HR3.out HB.out) | (with_reducible refine Kd.C_alloc ?_ _) | (with_reducible refine Kd.C_drewN ?_ _) | (with_reducible refine Kd.C_drew ?_))); (case side2 => exact HC3.out); rintro e w' ⟨rfl, ⟨nd, rfl⟩⟩; (try first | exact ⟨rfl, _, World.drewN_drewN _ _ _⟩ | exact ⟨rfl, _, Eq.trans (World.drewN_drewN _ _ _) (congrArg (World.drewN _) (Nat.add_assoc _ _ _))⟩)))
       repeat (go_quiet (first | (go_at_call 42; (with_reducible refine (skewbaldref00_Find.calls k1 _ _ l3 (wrap64 (a1 + (rd l0_1 x9_1))) t369 _ ?side1 ?side2 A13.out).mono ?_); (case side1 => repeat (first | exact (Kd.C_below HR3.out HB.out) | (with_reducible refine Kd.C_alloc ?_ _) | (with_reducible refine Kd.C_drewN ?_ _) | (with_reducible refine Kd.C_drew ?_))); (case side2 => exact HC3.out); rintro e w' ⟨rfl, ⟨nd, rfl⟩⟩; (try first | exact ⟨rfl, _, World.drewN_drewN _ _ _⟩ | exact ⟨rfl, _, Eq.trans (World.drewN_drewN _ _ _) (congrArg (World.drewN _) (Nat.add_assoc _ _ _))⟩))); try go_wp2_with (first | (go_at_call 42; (with_reducible refine (skewbaldref00_Find.calls k1 _ _ l3 (wrap64 (a1 + (rd l0_1 x9_1))) t369 _ ?side1 ?side2 A13.out).mono ?_); (case side1 => repeat (first | exact (Kd.C_below HR3.out HB.out) | (with_reducible refine Kd.C_alloc ?_ _) | (with_reducible refine Kd.C_drewN ?_ _) | (with_reducible refine Kd.C_drew ?_))); (case side2 => exact HC3.out); rintro e w' ⟨rfl, ⟨nd, rfl⟩⟩; (try first | exact ⟨rfl, _, World.drewN_drewN _ _ _⟩ | exact ⟨rfl, _, Eq.trans (World.drewN_drewN _ _ _) (congrArg (World.drewN _) (Nat.add_assoc _ _ _))⟩))))
       go_roundg k1
       case measure => have := HK1.out; omega
       case rel => exact ⟨(wrap64 (x9_1 + 1)), sm, H', ⟨lo HK1⟩, ⟨bk⟩, ⟨bl⟩⟩
    ·rw [if_neg c7] at H
     exact absurd H (by simp)
   ·rw [if_neg c6] at H
    have c6b0 : decide (x9_1 < (l0_1.length : Int)) = false := decide_eq_false c6
    clear c6; obtain rfl := Option.some.inj H; obtain ⟨hcz17_0, hcz17_1, hcz17_2, hfz17_0, hfz17_1, hfz17_2⟩ := b3 (w := wr) BK365
    go_wp2
    repeat (go_quiet (fail); try go_wp2)
    go_ret
    exact ⟨by first | rfl | (simp [errW_none, errW_some] <;> rfl) | (simp [*, errW_none, errW_some] <;> rfl), bl⟩
mutual
def skewbaldlaw01_laid.l0 : Nat → List Int → List Int → List Int → List Bool → Int → List (S48) → List (S50) → Option (Bool)
 | 0, _, _, _, _, _, _, _ => none
 | k + 1, x2, x3, x4, x11, x12, x371000, x371001 => if x12 < (x2.length : Int) then (if 0 ≤ x12 then (if 0 ≤ (rd x2 x12) then (if (rd x2 x12) < (x371001.length : Int) then (if x12 < (x3.length : Int) then ((skewbaldref00_In.f (rd x3 x12) 0 (wrap64 ((x11.length : Int) - ((rd_T50 x371001 (rd x2 x12)).f0)))).bind fun t379 => (if t379 = true then ((skewbaldlaw01_clear.f k ((rd_T50 x371001 (rd x2 x12)).f0) ((rd_T50 x371001 (rd x2 x12)).f1) ((rd_T50 x371001 (rd x2 x12)).f2) (rd x3 x12) false x4).bind fun t381 => (if t381 = true then (skewbaldlaw01_laid.j1 k x2 x3 x4 x11 x12 false x371000 x371001 ((rd_T50 x371001 (rd x2 x12)).f0) ((rd_T50 x371001 (rd x2 x12)).f1) ((rd_T50 x371001 (rd x2 x12)).f2)) else (if (rd_T50 x371001 (rd x2 x12)).f2 = true then ((skewbaldlaw01_clear.f k ((rd_T50 x371001 (rd x2 x12)).f0) ((rd_T50 x371001 (rd x2 x12)).f1) ((rd_T50 x371001 (rd x2 x12)).f2) (rd x3 x12) true x4).bind fun t383 => (skewbaldlaw01_laid.j1 k x2 x3 x4 x11 x12 (!t383) x371000 x371001 ((rd_T50 x371001 (rd x2 x12)).f0) ((rd_T50 x371001 (rd x2 x12)).f1) ((rd_T50 x371001 (rd x2 x12)).f2))) else (skewbaldlaw01_laid.j1 k x2 x3 x4 x11 x12 (!false) x371000 x371001 ((rd_T50 x371001 (rd x2 x12)).f0) ((rd_T50 x371001 (rd x2 x12)).f1) ((rd_T50 x371001 (rd x2 x12)).f2))))) else (skewbaldlaw01_laid.j1 k x2 x3 x4 x11 x12 true x371000 x371001 ((rd_T50 x371001 (rd x2 x12)).f0) ((rd_T50 x371001 (rd x2 x12)).f1) ((rd_T50 x371001 (rd x2 x12)).f2)))) else (none)) else (none)) else (none)) else (none)) else (some true)
def skewbaldlaw01_laid.j1 : Nat → List Int → List Int → List Int → List Bool → Int → Bool → List (S48) → List (S50) → Int → List Int → Bool → Option (Bool)
 | 0, _, _, _, _, _, _, _, _, _, _, _ => none
 | k + 1, x2, x3, x4, x11, x12, x75, x371000, x371001, x378000, x378001, x378002 => if x75 = true then (some false) else (skewbaldlaw01_laid.l1 k x2 x3 x4 x11 x12 0 x371000 x371001 x378000 x378001 x378002)
def skewbaldlaw01_laid.l1 : Nat → List Int → List Int → List Int → List Bool → Int → Int → List (S48) → List (S50) → Int → List Int → Bool → Option (Bool)
 | 0, _, _, _, _, _, _, _, _, _, _, _ => none
 | k + 1, x2, x3, x4, x11, x12, x14, x371000, x371001, x378000, x378001, x378002 => if x14 < x378000 then (if 0 ≤ x12 then (if x12 < (x3.length : Int) then (if 0 ≤ (wrap64 ((rd x3 x12) + x14)) then (if (wrap64 ((rd x3 x12) + x14)) < (x11.length : Int) then (if rdOf false x11 (wrap64 ((rd x3 x12) + x14)) = true then (some false) else (skewbaldlaw01_laid.l1 k x2 x3 x4 (x11.set ((wrap64 ((rd x3 x12) + x14)) : Int).toNat true) x12 (wrap64 (x14 + 1)) x371000 x371001 x378000 x378001 x378002)) else (none)) else (none)) else (none)) else (none)) else (skewbaldlaw01_laid.l0 k x2 x3 x4 x11 (wrap64 (x12 + 1)) x371000 x371001)
end
def skewbaldlaw01_laid.f (k : Nat) (l0_0 : List (S48)) (l0_1 : List (S50)) (a1 : Int) (l2 : List Int) (l3 : List Int) (l4 : List Int) : Option (Bool) := if (l3.length : Int) = (l2.length : Int) then (if 0 ≤ a1 then (if a1 < (l0_0.length : Int) then (if 0 ≤ ((rd_T48 l0_0 a1).f0) then (if ((rd_T48 l0_0 a1).f0 : Int).toNat ≤ 281474976710656 then (skewbaldlaw01_laid.l0 k l2 l3 l4 (List.replicate ((rd_T48 l0_0 a1).f0 : Int).toNat false) 0 l0_0 l0_1) else (none)) else (none)) else (none)) else (none)) else (some false)
def skewbaldlaw01_laid.T7 : Bool × List (List Nat × List Nat) := (true, [([], []), ([0], [0]), ([], []), ([], []), ([2, 3], [2, 3]), ([4], [4]), ([1, 5], [1, 5]), ([6], [6]), ([], []), ([8, 7, 0, 1, 2, 3, 4, 5, 6, 7, 8], [7, 8])])
def skewbaldlaw01_laid.B7 : List Nat := [0, 1, 0, 0, 12, 28, 63, 127, 0, 511]
theorem skewbaldlaw01_laid.tab7 : rtab .any (opsOf Tryd.f41 7) = skewbaldlaw01_laid.T7 := by kernel_rfl
theorem skewbaldlaw01_laid.bits7 : waitsOk skewbaldlaw01_laid.T7.2 skewbaldlaw01_laid.B7 = true := by kernel_rfl
def skewbaldlaw01_laid.T8 : Bool × List (List Nat × List Nat) := (true, [([], []), ([], []), ([0, 1], [0, 1]), ([2], [2]), ([], []), ([4], [4]), ([], []), ([6], [6]), ([5, 7], [5, 7]), ([3, 8], [3, 8]), ([9], [9]), ([10, 9], [10]), ([11], [11]), ([11], [11]), ([11], [11]), ([13, 14, 11], [11, 13, 14]), ([15, 11], [11, 15]), ([11], [11]), ([12, 16, 17, 11, 11], [11, 12, 16, 17]), ([18, 11], [11, 18]), ([19, 18, 11], [11, 19]), ([20], [20]), ([21, 20], [20, 21]), ([22, 20, 20], [20, 22]), ([23], [23]), ([23], [23]), ([23], [23]), ([25, 26, 23], [23, 25, 26]), ([27, 23], [23, 27]), ([23], [23]), ([24, 28, 29, 23, 23], [23, 24, 28, 29]), ([23, 30, 20], [20, 23, 30]), ([31, 20], [20, 31]), ([20, 32, 11], [11, 20, 32]), ([11, 33], [11, 33])])
def skewbaldlaw01_laid.B8 : List Nat := [0, 0, 3, 7, 0, 16, 0, 64, 240, 511, 1023, 2047, 4095, 4095, 4095, 28671, 61439, 4095, 262143, 524287, 1048575, 2097151, 4194303, 8388607, 16777215, 16777215, 16777215, 117440511, 251658239, 16777215, 1073741823, 2147483647, 4294967295, 8589934591, 17179869183]
theorem skewbaldlaw01_laid.tab8 : rtab .any (opsOf Tryd.f41 8) = skewbaldlaw01_laid.T8 := by kernel_rfl
theorem skewbaldlaw01_laid.bits8 : waitsOk skewbaldlaw01_laid.T8.2 skewbaldlaw01_laid.B8 = true := by kernel_rfl
set_option maxHeartbeats 8000000 in
set_option maxRecDepth 100000 in
theorem skewbaldlaw01_laid.calls (k : Nat) (A0_0 : Option Addr) (c0_0 : Nat) (l0_0 : List (S48)) (A0_1 : Option Addr) (c0_1 : Nat) (l0_1 : List (S50)) (a1 : Int) (A2 : Option Addr) (c2 : Nat) (l2 : List Int) (A3 : Option Addr) (c3 : Nat) (l3 : List Int) (A4 : Option Addr) (c4 : Nat) (l4 : List Int) (r : Bool) (w : World) (hr0_0 : Kd.C k48 w A0_0 l0_0.length l0_0) (hc0_0 : l0_0.length ≤ c0_0) (hr0_1 : Kd.C k50 w A0_1 l0_1.length l0_1) (hc0_1 : l0_1.length ≤ c0_1) (hr2 : Kd.C (Kd.int .i64) w A2 l2.length l2) (hc2 : l2.length ≤ c2) (hr3 : Kd.C (Kd.int .i64) w A3 l3.length l3) (hc3 : l3.length ≤ c3) (hr4 : Kd.C (Kd.int .i64) w A4 l4.length l4) (hc4 : l4.length ≤ c4) (h : skewbaldlaw01_laid.f k l0_0 l0_1 a1 l2 l3 l4 = some r) :
  Calls Tryd.prog 41 #[.agg #[.slice A0_0 l0_0.length c0_0, .slice A0_1 l0_1.length c0_1], .int .i64 a1, .slice A2 l2.length c2, .slice A3 l3.length c3, .slice A4 l4.length c4] w fun e w' => e = .returned (.bool r) ∧ Below w.heap.size w w' := by
 have hu25 := Tryd.underlying25; have hu50 := Tryd.underlying50; have HR0_0 := Aside0.mk hr0_0; have HC0_0 := Aside0.mk hc0_0; clear hr0_0 hc0_0; have HR0_1 := Aside0.mk hr0_1; have HC0_1 := Aside0.mk hc0_1; clear hr0_1 hc0_1; have HR2 := Aside0.mk hr2; have HC2 := Aside0.mk hc2; clear hr2 hc2; have HR3 := Aside0.mk hr3; have HC3 := Aside0.mk hc3; clear hr3 hc3; have HR4 := Aside0.mk hr4; have HC4 := Aside0.mk hc4; clear hr4 hc4; have HB := Aside0.mk (Below.refl w.heap.size w)
 have H : (if (l3.length : Int) = (l2.length : Int) then (if 0 ≤ a1 then (if a1 < (l0_0.length : Int) then (if 0 ≤ ((rd_T48 l0_0 a1).f0) then (if ((rd_T48 l0_0 a1).f0 : Int).toNat ≤ 281474976710656 then (skewbaldlaw01_laid.l0 k l2 l3 l4 (List.replicate ((rd_T48 l0_0 a1).f0 : Int).toNat false) 0 l0_0 l0_1) else (none)) else (none)) else (none)) else (none)) else (some false)) = some r := h
 clear h
 by_cases c6 : (l3.length : Int) = (l2.length : Int)
 ·rw [if_pos c6] at H
  have c6b0 : ((l3.length : Int) == (l2.length : Int)) = true := beq_iff_eq.mpr c6
  have c6b1 : ((l3.length : Int) != (l2.length : Int)) = false := bne_eq_false_iff_eq.mpr c6
  have c6b2 : (l3.length == l2.length) = true := by first | simpa using c6 | (simp at c6 ⊢; omega)
  clear c6
  by_cases c7 : 0 ≤ a1
  ·rw [if_pos c7] at H; have c7b0 := decide_eq_true c7; clear c7
   by_cases c8 : a1 < (l0_0.length : Int)
   ·rw [if_pos c8] at H; have c8b0 := decide_eq_true c8; clear c8
    by_cases c9 : 0 ≤ ((rd_T48 l0_0 a1).f0)
    ·rw [if_pos c9] at H; have c9b0 := eq_true c9; have c9b1 := decide_eq_true c9; clear c9
     by_cases c10 : ((rd_T48 l0_0 a1).f0 : Int).toNat ≤ 281474976710656
     ·rw [if_pos c10] at H; have c10b0 := eq_true c10; have c10b1 := decide_eq_true c10; clear c10
      obtain ⟨y372, hy372⟩ : ∃ y_ : List Bool, y_ = (List.replicate ((rd_T48 l0_0 a1).f0 : Int).toNat false) := ⟨_, rfl⟩
      replace H : (skewbaldlaw01_laid.l0 k l2 l3 l4 y372 0 l0_0 l0_1) = some r := tr H hy372
      have Ny372 := Aside0.mk hy372; clear hy372; have H' := Aside0.mk H; clear H
      go_enter Tryd.func41, Tryd.ntmps41
      go_wp2_with (first | (refine bx 5 #[.slice A0_0 l0_0.length c0_0, .slice A0_1 l0_1.length c0_1] 25 ?_; intro gb370 hg w11 hbox hb; have BK370 := Aside0.mk hbox; have GW370 := gw hg HB; have GE370 := gw hg HB; replace HB := hs HB hb; clear hb hbox hg; obtain ⟨hcz12_0, hcz12_1, hfz12_0, hfz12_1⟩ := b2 (w := w11) BK370; have p371 : 0 ≤ (a1 : Int) := od; have q371 : a1 < (l0_0.length : Int) := od; obtain ⟨ad371, A371_1, c371_1, e371, hx371_0, hx371_1, hl371_1, hi371_1⟩ := at_T48 HR0_0.out a1 p371 q371; cases e371; replace hx371_0 := cm HB hx371_0; replace hx371_1 := cm HB hx371_1; have HR371_1 := Aside0.mk hi371_1; have HC371_1 := Aside0.mk hl371_1; clear hi371_1 hl371_1; replace p371 := eq_true p371; replace q371 := eq_true q371) | ((with_reducible refine gate_dst (N := 26) rfl ?_); refine Kd.R_make Kd.bool _ 4 rfl (N := 26) rfl 120 _ _ rfl ((rd_T48 l0_0 a1).f0) rfl rfl Tryd.underlying120 (.bool false) 1 info4 rfl (by decide) (by omega) false (ok := fun _ => True) (okp := fun _ => True) rfl (fun _ hk => hk) trivial od (Nat.le_trans (Nat.mul_le_mul_right _ (od : ((rd_T48 l0_0 a1).f0).toNat ≤ 281474976710656)) (by omega)) (Below.refl _ _) (Nat.le_refl _) ?_; intro v373 w13 ho14 hb hg_ hnew_; clear hg_ hnew_; (first | rw [← Ny372.out] at ho14 | (simp only [Int.reduceToNat] at ho14; rw [← Ny372.out] at ho14)); have HO374 := Aside0.mk (Kd.R_lower ho14 (below_size bl)); replace BK370 := nb BK370 hb; replace HB := hs HB hb; clear hb ho14))
      go_loopg [12] k (fun kq v12 w' => ∃ (x11_1 : List Bool) (x12_1 : Int), v12 = .int .i64 x12_1 ∧ Aside0 (skewbaldlaw01_laid.l0 kq l2 l3 l4 x11_1 x12_1 l0_0 l0_1 = some r) ∧ Aside0 (kq ≤ k) ∧ Aside0 (Kd.R Kd.bool 4 w' w.heap.size (fun _ => True) v373 x11_1) ∧ Aside0 (w'.heap[gb370]? = some (.cells #[(.slice (some ad371) l0_0.length c0_0), (.slice A0_1 l0_1.length c0_1)] 25 (0, 0))) ∧ Aside0 (Below w.heap.size w w'))
      case atStart => exact ⟨(y372), (0), sm, H', ⟨Nat.le_refl _⟩, ⟨bR HO374⟩, ⟨bk⟩, ⟨bl⟩⟩
      case round =>
       clear H'; (try clear c1); (try clear c2); (try clear p2); (try clear c3); (try clear p3); (try clear q3); (try clear hx3); (try clear c4); (try clear c6); (try clear c6b0); (try clear c6b1); (try clear c6b2); (try clear c7); (try clear c7b0); (try clear c8); (try clear c8b0); (try clear c9); (try clear c9b0); (try clear c9b1); (try clear c10); (try clear c10b0); (try clear c10b1); (try clear hcz12_0); (try clear hcz12_1); (try clear hfz12_0); (try clear hfz12_1); (try clear hx371_0); (try clear hx371_1); (try clear p371); (try clear q371); obtain ⟨x11_1, x12_1, rfl, HA, HK1, HO_11, BK370, HB⟩ := hrel
       cases gk with
       | zero => exact absurd HA.out (by simp [skewbaldlaw01_laid.l0])
       | succ k1 =>
        have H := HA.out; clear HA
        simp only [skewbaldlaw01_laid.l0] at H
        by_cases c15 : x12_1 < (l2.length : Int)
        ·rw [if_pos c15] at H; have c15b0 := decide_eq_true c15; clear c15
         by_cases c16 : 0 ≤ x12_1
         ·rw [if_pos c16] at H; have c16b0 := decide_eq_true c16; clear c16
          by_cases c17 : 0 ≤ (rd l2 x12_1)
          ·rw [if_pos c17] at H; have c17b0 := decide_eq_true c17; clear c17
           by_cases c18 : (rd l2 x12_1) < (l0_1.length : Int)
           ·rw [if_pos c18] at H; have c18b0 := decide_eq_true c18; clear c18; have HC19 := Aside0.mk H; clear H
            try go_wp2
            replace HO_11 := Aside0.mk (Kd.R_drew HO_11.out); replace BK370 := Aside0.mk (blk_drew BK370.out); replace HB := Aside0.mk (below_drew1 HB.out)
            have p375 : 0 ≤ (x12_1 : Int) := od
            have q375 : x12_1 < (l2.length : Int) := od
            obtain ⟨ad375, e375, hx375_0⟩ := Kd.at_int HR2.out x12_1 p375 q375; have hw375_0 := hx375_0
            cases e375
            replace hx375_0 := cm HB hx375_0; replace p375 := eq_true p375; replace q375 := eq_true q375
            have p376 : 0 ≤ ((rd l2 x12_1) : Int) := od
            have q376 : (rd l2 x12_1) < (l0_1.length : Int) := od
            obtain ⟨ad376, A376_1, c376_1, e376, hx376_0, hx376_1, hx376_2, hl376_1, hi376_1⟩ := at_T50 HR0_1.out (rd l2 x12_1) p376 q376; have hw376_2 := hx376_2; have hw376_1 := hx376_1; have hw376_0 := hx376_0
            cases e376
            replace hx376_0 := cm HB hx376_0; replace hx376_1 := cm HB hx376_1; replace hx376_2 := cm HB hx376_2; have HR376_1 := Aside0.mk hi376_1; have HC376_1 := Aside0.mk hl376_1; clear hi376_1 hl376_1; replace p376 := eq_true p376; replace q376 := eq_true q376
            refine start_ (n := 10) (S := fun w' => w'.cell? ⟨gb370, 0, none⟩ = some (.slice (some ad371) l0_0.length c0_0) ∧ w'.cell? ⟨gb370, 1, none⟩ = some (.slice (some ad376) l0_1.length c0_1) ∧ w'.cell? (ad375.add (x12_1).toNat) = some (.int .i64 (rd l2 x12_1)) ∧ w'.cell? (ad376.add (((rd l2 x12_1)).toNat * 3)) = some (.int .i64 ((rd_T50 l0_1 (rd l2 x12_1)).f0)) ∧ w'.cell? ⟨(ad376.add (((rd l2 x12_1)).toNat * 3)).block, (ad376.add (((rd l2 x12_1)).toNat * 3)).off + 1, none⟩ = some (.slice A376_1 ((rd_T50 l0_1 (rd l2 x12_1)).f1).length c376_1) ∧ w'.cell? ⟨(ad376.add (((rd l2 x12_1)).toNat * 3)).block, (ad376.add (((rd l2 x12_1)).toNat * 3)).off + 2, none⟩ = some (.bool ((rd_T50 l0_1 (rd l2 x12_1)).f2))) (ds := []) #[false, false, false, false, false, false, false, false, false, false] (by kernel_rfl) rfl rfl ⟨bq BK370 0, bq BK370 1, (cm HB hw375_0 :), (cm HB hw376_0 :), (cm HB hw376_1 :), (cm HB hw376_2 :)⟩ (fun hHeld => ?_); refine with_tabW skewbaldlaw01_laid.tab7 skewbaldlaw01_laid.bits7 (fun HT_ HW_ => ?_)
            generalize wr.drew = w20 at HO_11 BK370 HB HR376_1 hx375_0 hx376_0 hx376_1 hx376_2 hHeld ⊢
            refine pu_ (i := 0) (N := some 33) (qa_ 10 1) ?_
            refine pu_ (i := 2) (N := some 35) (qa_ 10 5) ?_
            refine pu_ (i := 3) (N := some 36) (qa_ 10 13) ?_
            refine pu_ (i := 4) (N := some 37) (qa_ 10 29) ?_
            refine tk_ (i := 1) (N := some 34) (qa_ 10 31) hHeld ?_
            refine tk_ (i := 5) (N := some 38) (qa_ 10 63) hHeld ?_
            refine pu_ (i := 6) (N := some 39) (qa_ 10 127) ?_
            refine tk_ (i := 7) (N := some 40) (qa_ 10 255) hHeld ?_
            refine on_ (i := 8) (N := some 13) (qa_ 10 511) (fun K hK => ?_)
            refine box_step ?hg (N := 13) ?hd (cs := #[.int .i64 0, .slice none 0 0, .bool false]) (t := 50) ?hr ?_; (case hd => rfl); (case hg => rfl); (case hr => first | (go_simp; done) | (go_simp; rfl))
            intro gb377 hg w21 hbox hb
            replace HO_11 := Aside0.mk (Kd.R_below (bR HO_11) hb); have BK377 := Aside0.mk hbox; have GW377 := gw hg HB; have GE377 := gw hg HB; replace HB := hs HB hb; have NB370_377 := nl hg BK370; have NB377_370 := ng hg BK370; replace BK370 := nb BK370 hb; clear hb hbox hg
            refine hK.out _ _ ⟨bq BK370 0, bq BK370 1, (cm HB hw375_0 :), (cm HB hw376_0 :), (cm HB hw376_1 :), (cm HB hw376_2 :)⟩ (fun hHeld => ?_)
            clear hK K
            refine nm_ (some 13) ?_
            refine on_ (i := 9) (N := none) (qa_ 10 1023) (fun K hK => ?_)
            have hs22 : w21.cell? ⟨gb377, 0, none⟩ = some (.int .i64 0) := (blk_cell BK377.out 0).trans rfl
            have hfs22 := blk_frozen BK377.out 0; have hns22_0 := NB370_377.out; have hms22_0 := NB377_370.out
            have hs23 : w21.cell? ⟨gb377, 1, none⟩ = some (.slice none 0 0) := (blk_cell BK377.out 1).trans rfl
            have hfs23 := blk_frozen BK377.out 1; have hns23_0 := NB370_377.out; have hms23_0 := NB377_370.out
            have hs24 : w21.cell? ⟨gb377, 2, none⟩ = some (.bool false) := (blk_cell BK377.out 2).trans rfl
            have hfs24 := blk_frozen BK377.out 2; have hns24_0 := NB370_377.out; have hms24_0 := NB377_370.out
            refine skip_ (w1 := ?_) (by rfl) rfl ?_ ?_
            rotate_left
            ·go_simp
             rfl
            refine hK.out _ _ ⟨(cx NB370_377.out (cx NB370_377.out (cx NB370_377.out hHeld.1))), (cx NB370_377.out (cx NB370_377.out (cx NB370_377.out hHeld.2.1))), (cx (fb hw375_0 GW377) (cx (fb hw375_0 GW377) (cx (fb hw375_0 GW377) hHeld.2.2.1))), (cx (fb hw376_0 GW377) (cx (fb hw376_0 GW377) (cx (fb hw376_0 GW377) hHeld.2.2.2.1))), (cx (fb hw376_1 GW377) (cx (fb hw376_1 GW377) (cx (fb hw376_1 GW377) hHeld.2.2.2.2.1))), (cx (fb hw376_2 GW377) (cx (fb hw376_2 GW377) (cx (fb hw376_2 GW377) hHeld.2.2.2.2.2)))⟩ (fun hHeld => ?_)
            clear hK K
            refine done_ (done_of HT_.out (by kernel_rfl)) ?_
            go_upto_region 8 with (fail)
            go_cut [75] (fun v75 wc => ∃ (kq : Nat) (x75_18 : Bool), v75 = .bool x75_18 ∧ Aside0 (skewbaldlaw01_laid.j1 kq l2 l3 l4 x11_1 x12_1 x75_18 l0_0 l0_1 ((rd_T50 l0_1 (rd l2 x12_1)).f0) ((rd_T50 l0_1 (rd l2 x12_1)).f1) ((rd_T50 l0_1 (rd l2 x12_1)).f2) = some r) ∧ Aside0 (kq ≤ k1) ∧ Aside0 (Kd.R Kd.bool 4 wc w.heap.size (fun _ => True) v373 x11_1) ∧ Aside0 (wc.heap[gb370]? = some (.cells #[(.slice (some ad371) l0_0.length c0_0), (.slice (some ad376) l0_1.length c0_1)] 25 (0, 0))) ∧ Aside0 (wc.heap[gb377]? = some (.cells #[.int .i64 ((rd_T50 l0_1 (rd l2 x12_1)).f0), (.slice A376_1 ((rd_T50 l0_1 (rd l2 x12_1)).f1).length c376_1), .bool ((rd_T50 l0_1 (rd l2 x12_1)).f2)] 50 (0, 0))) ∧ Aside0 (Below w.heap.size w wc))
            case first =>
             have H := HC19.out; clear HC19
             by_cases c25 : x12_1 < (l3.length : Int)
             ·rw [if_pos c25] at H; have c25b0 := decide_eq_true c25; clear c25
              (first | rw [c25b0] | (simp only [i64_w, i32_w]; rw [c25b0]) | skip)
              obtain ⟨t379, A26, H⟩ := ob H
              by_cases c27 : t379 = true
              ·subst c27; rw [if_pos rfl] at H; obtain ⟨t381, A28, H⟩ := ob H
               by_cases c29 : t381 = true
               ·subst c29; rw [if_pos rfl] at H; have H' := Aside0.mk H; clear H
                try go_wp2
                have n0_ : Aside0 (Kd.R Kd.bool 4 (((w21.setCell ⟨gb377, 0, none⟩ (.int .i64 ((rd_T50 l0_1 (rd l2 x12_1)).f0))).setCell ⟨gb377, 1, none⟩ (.slice A376_1 ((rd_T50 l0_1 (rd l2 x12_1)).f1).length c376_1)).setCell ⟨gb377, 2, none⟩ (.bool ((rd_T50 l0_1 (rd l2 x12_1)).f2))) w.heap.size (fun _ => True) v373 x11_1) := ⟨by (with_reducible repeat (first | apply Kd.R_alloc | apply Kd.R_drewN | apply Kd.R_drew)); exact Kd.R_mono (Kd.R_far (p := ⟨gb377, 2, none⟩) (Kd.R_far (p := ⟨gb377, 1, none⟩) (Kd.R_far (p := ⟨gb377, 0, none⟩) (Kd.R_types HO_11.out BK377.out (by decide)) (fun _ hk => hk.2) (.int .i64 ((rd_T50 l0_1 (rd l2 x12_1)).f0))) (fun _ hk => hk.2) (.slice A376_1 ((rd_T50 l0_1 (rd l2 x12_1)).f1).length c376_1)) (fun _ hk => hk.2) (.bool ((rd_T50 l0_1 (rd l2 x12_1)).f2))) (fun _ hk => trivial)⟩
                have n1_ : Aside0 ((((w21.setCell ⟨gb377, 0, none⟩ (.int .i64 ((rd_T50 l0_1 (rd l2 x12_1)).f0))).setCell ⟨gb377, 1, none⟩ (.slice A376_1 ((rd_T50 l0_1 (rd l2 x12_1)).f1).length c376_1)).setCell ⟨gb377, 2, none⟩ (.bool ((rd_T50 l0_1 (rd l2 x12_1)).f2))).heap[gb370]? = some (.cells #[.slice (some ad371) l0_0.length c0_0, .slice (some ad376) l0_1.length c0_1] 25 (0, 0))) := ⟨by (with_reducible repeat (first | refine blk_drewN ?_ _ | refine blk_drew ?_ | refine blk_alloc ?_ _)); refine blk_far ?_ NB370_377.out _; (with_reducible repeat (first | refine blk_drewN ?_ _ | refine blk_drew ?_ | refine blk_alloc ?_ _)); refine blk_far ?_ NB370_377.out _; (with_reducible repeat (first | refine blk_drewN ?_ _ | refine blk_drew ?_ | refine blk_alloc ?_ _)); refine blk_far ?_ NB370_377.out _; (with_reducible repeat (first | refine blk_drewN ?_ _ | refine blk_drew ?_ | refine blk_alloc ?_ _)); exact BK370.out⟩
                have n2_ : Aside0 ((((w21.setCell ⟨gb377, 0, none⟩ (.int .i64 ((rd_T50 l0_1 (rd l2 x12_1)).f0))).setCell ⟨gb377, 1, none⟩ (.slice A376_1 ((rd_T50 l0_1 (rd l2 x12_1)).f1).length c376_1)).setCell ⟨gb377, 2, none⟩ (.bool ((rd_T50 l0_1 (rd l2 x12_1)).f2))).heap[gb377]? = some (.cells #[.int .i64 ((rd_T50 l0_1 (rd l2 x12_1)).f0), .slice A376_1 ((rd_T50 l0_1 (rd l2 x12_1)).f1).length c376_1, .bool ((rd_T50 l0_1 (rd l2 x12_1)).f2)] 50 (0, 0))) := ⟨by (with_reducible repeat (first | refine blk_drewN ?_ _ | refine blk_drew ?_ | refine blk_alloc ?_ _)); refine blk_put (cs := #[.int .i64 ((rd_T50 l0_1 (rd l2 x12_1)).f0), .slice A376_1 ((rd_T50 l0_1 (rd l2 x12_1)).f1).length c376_1, .bool false]) ?_ 2 _ rfl; (with_reducible repeat (first | refine blk_drewN ?_ _ | refine blk_drew ?_ | refine blk_alloc ?_ _)); refine blk_put (cs := #[.int .i64 ((rd_T50 l0_1 (rd l2 x12_1)).f0), .slice none 0 0, .bool false]) ?_ 1 _ rfl; (with_reducible repeat (first | refine blk_drewN ?_ _ | refine blk_drew ?_ | refine blk_alloc ?_ _)); refine blk_put (cs := #[.int .i64 0, .slice none 0 0, .bool false]) ?_ 0 _ rfl; (with_reducible repeat (first | refine blk_drewN ?_ _ | refine blk_drew ?_ | refine blk_alloc ?_ _)); exact BK377.out⟩
                have n3_ : Aside0 (Below w.heap.size w (((w21.setCell ⟨gb377, 0, none⟩ (.int .i64 ((rd_T50 l0_1 (rd l2 x12_1)).f0))).setCell ⟨gb377, 1, none⟩ (.slice A376_1 ((rd_T50 l0_1 (rd l2 x12_1)).f1).length c376_1)).setCell ⟨gb377, 2, none⟩ (.bool ((rd_T50 l0_1 (rd l2 x12_1)).f2)))) := ⟨bl⟩
                (try clear HO_11); (try clear BK370); (try clear BK377); (try clear HB)
                generalize (((w21.setCell ⟨gb377, 0, none⟩ (.int .i64 ((rd_T50 l0_1 (rd l2 x12_1)).f0))).setCell ⟨gb377, 1, none⟩ (.slice A376_1 ((rd_T50 l0_1 (rd l2 x12_1)).f1).length c376_1)).setCell ⟨gb377, 2, none⟩ (.bool ((rd_T50 l0_1 (rd l2 x12_1)).f2))) = w30 at n0_ n1_ n2_ n3_ ⊢
                have HO_11 := n0_; have BK370 := n1_; have BK377 := n2_; have HB := n3_; clear n0_ n1_ n2_ n3_; replace HO_11 := Aside0.mk (Kd.R_drew HO_11.out); replace BK370 := Aside0.mk (blk_drew BK370.out); replace BK377 := Aside0.mk (blk_drew BK377.out); replace HB := Aside0.mk (below_drew1 HB.out)
                have p378 : 0 ≤ (x12_1 : Int) := od
                have q378 : x12_1 < (l3.length : Int) := od
                obtain ⟨ad378, e378, hx378_0⟩ := Kd.at_int HR3.out x12_1 p378 q378; have hw378_0 := hx378_0
                cases e378
                replace hx378_0 := cm HB hx378_0; replace p378 := eq_true p378; replace q378 := eq_true q378; obtain ⟨Ao32, co32, eo32⟩ := Kd.R_slice HO_11.out
                (first | subst eo32 | (injection eo32 with f1_ f2_ f3_; have f4_ := f1_.symm; have f5_ := f3_.symm; clear f1_ f2_ f3_; subst f4_; subst f5_))
                have p380 : 0 ≤ (x12_1 : Int) := od
                have q380 : x12_1 < (l3.length : Int) := od
                obtain ⟨ad380, e380, hx380_0⟩ := Kd.at_int HR3.out x12_1 p380 q380; have hw380_0 := hx380_0
                obtain rfl : ad378 = ad380 := (by injection e380)
                replace hx380_0 := cm HB hx380_0; replace p380 := eq_true p380; replace q380 := eq_true q380
                refine start_ (n := 35) (S := fun w' => w'.cell? ⟨gb377, 0, none⟩ = some (.int .i64 ((rd_T50 l0_1 (rd l2 x12_1)).f0)) ∧ w'.cell? ⟨gb377, 1, none⟩ = some (.slice A376_1 ((rd_T50 l0_1 (rd l2 x12_1)).f1).length c376_1) ∧ w'.cell? ⟨gb377, 2, none⟩ = some (.bool ((rd_T50 l0_1 (rd l2 x12_1)).f2)) ∧ w'.cell? (ad378.add (x12_1).toNat) = some (.int .i64 (rd l3 x12_1)) ∧ w'.cell? (ad378.add (x12_1).toNat) = some (.int .i64 (rd l3 x12_1))) (ds := []) #[false, false, false, false, false, false, false, false, false, false, false, false, false, false, false, false, false, false, false, false, false, false, false, false, false, false, false, false, false, false, false, false, false, false, false] (by kernel_rfl) rfl rfl ⟨bq BK377 0, bq BK377 1, bq BK377 2, (cm HB hw378_0 :), (cm HB hw380_0 :)⟩ (fun hHeld => ?_); refine with_tabW skewbaldlaw01_laid.tab8 skewbaldlaw01_laid.bits8 (fun HT_ HW_ => ?_)
                generalize w30.drew = w31 at HO_11 BK370 BK377 HB hx378_0 hx380_0 hHeld ⊢
                refine pu_ (i := 0) (N := some 41) (qa_ 35 1) ?_
                refine pu_ (i := 1) (N := some 42) (qa_ 35 3) ?_
                refine pu_ (i := 2) (N := some 43) (qa_ 35 7) ?_
                refine pu_ (i := 4) (N := some 45) (qa_ 35 23) ?_
                refine pu_ (i := 5) (N := some 46) (qa_ 35 55) ?_
                refine pu_ (i := 6) (N := some 47) (qa_ 35 119) ?_
                refine tk_ (i := 3) (N := some 44) (qa_ 35 127) hHeld ?_
                refine tk_ (i := 7) (N := some 48) (qa_ 35 255) hHeld ?_
                refine pu_ (i := 8) (N := some 49) (qa_ 35 511) ?_
                refine on_ (i := 9) (N := some 50) (qa_ 35 1023) (fun K hK => ?_)
                refine goes_ Tryd.func38 (by kernel_rfl) rfl #[.int .i64 (rd l3 x12_1), .int .i64 0, .int .i64 (wrap64 ((x11_1.length : Int) - ((rd_T50 l0_1 (rd l2 x12_1)).f0)))] (by rfl) rfl rfl (by (try simp only [List.map_toArray, List.map_cons, List.map_nil]); first | done | rfl | (simp only [List.length_drop, List.length_take]; rfl)) ?_
                with_reducible refine (skewbaldref00_In.calls (rd l3 x12_1) 0 (wrap64 ((x11_1.length : Int) - ((rd_T50 l0_1 (rd l2 x12_1)).f0))) true _ A26.out).mono ?_
                rintro e w' ⟨rfl, ⟨nd, rfl⟩⟩
                refine ⟨_, rfl, ?_⟩
                refine hK.out _ _ ⟨bq BK377 0, bq BK377 1, bq BK377 2, (cm HB hw378_0 :), (cm HB hw380_0 :)⟩ (fun hHeld => ?_)
                clear hK K
                refine nm_ (some 50) ?_
                refine pu_ (i := 10) (N := some 51) (qa_ 35 2047) ?_
                refine pu_ (i := 11) (N := some 52) (qa_ 35 4095) ?_
                refine pu_ (i := 13) (N := some 54) (qa_ 35 12287) ?_
                refine pu_ (i := 14) (N := some 55) (qa_ 35 28671) ?_
                refine pu_ (i := 15) (N := some 56) (qa_ 35 61439) ?_
                refine pu_ (i := 17) (N := some 58) (qa_ 35 192511) ?_
                refine tk_ (i := 12) (N := some 53) (qa_ 35 196607) hHeld ?_
                refine tk_ (i := 16) (N := some 57) (qa_ 35 262143) hHeld ?_
                refine on_ (i := 18) (N := some 59) (qa_ 35 524287) (fun K hK => ?_)
                refine goes_ Tryd.func37 (by kernel_rfl) rfl #[.agg #[.int .i64 ((rd_T50 l0_1 (rd l2 x12_1)).f0), .slice A376_1 ((rd_T50 l0_1 (rd l2 x12_1)).f1).length c376_1, .bool ((rd_T50 l0_1 (rd l2 x12_1)).f2)], .int .i64 (rd l3 x12_1), .bool false, .slice A4 l4.length c4] (by rfl) rfl rfl (by (try simp only [List.map_toArray, List.map_cons, List.map_nil]); first | done | rfl | (simp only [List.length_drop, List.length_take]; rfl)) ?_
                with_reducible refine (skewbaldlaw01_clear.calls k1 ((rd_T50 l0_1 (rd l2 x12_1)).f0) _ _ ((rd_T50 l0_1 (rd l2 x12_1)).f1) ((rd_T50 l0_1 (rd l2 x12_1)).f2) (rd l3 x12_1) false _ _ l4 true _ ?side1 ?side2 ?side3 ?side4 A28.out).mono ?_
                (case side1 => repeat (first | exact (Kd.C_below HR376_1.out bl) | (with_reducible refine Kd.C_alloc ?_ _) | (with_reducible refine Kd.C_drewN ?_ _) | (with_reducible refine Kd.C_drew ?_)))
                (case side2 => exact HC376_1.out)
                (case side3 => repeat (first | exact (Kd.C_below HR4.out bl) | (with_reducible refine Kd.C_alloc ?_ _) | (with_reducible refine Kd.C_drewN ?_ _) | (with_reducible refine Kd.C_drew ?_)))
                (case side4 => exact HC4.out)
                rintro e w33 ⟨rfl, hb⟩
                refine ⟨_, rfl, ?_⟩
                replace HO_11 := Aside0.mk (Kd.R_below (bR HO_11) hb); replace BK370 := nb BK370 hb; replace BK377 := nb BK377 hb; replace HB := hs HB hb; (try clear hb); (try clear hb2); (try clear hk); (try clear hi)
                refine hK.out _ _ ⟨bq BK377 0, bq BK377 1, bq BK377 2, (cm HB hw378_0 :), (cm HB hw380_0 :)⟩ (fun hHeld => ?_)
                clear hK K
                refine nm_ (some 59) ?_
                refine pu_ (i := 19) (N := some 60) (qa_ 35 1048575) ?_
                refine pu_ (i := 20) (N := some 61) (qa_ 35 2097151) ?_
                refine pn_ (i := 21) (N := some 62) (qa_ 35 4194303) ?_
                refine pn_ (i := 22) (N := some 63) (qa_ 35 8388607) ?_
                refine pn_ (i := 23) (N := some 64) (qa_ 35 16777215) ?_
                refine pn_ (i := 24) (N := some 65) (qa_ 35 33554431) ?_
                refine pn_ (i := 25) (N := some 66) (qa_ 35 67108863) ?_
                refine pn_ (i := 26) (N := some 67) (qa_ 35 134217727) ?_
                refine pn_ (i := 27) (N := some 68) (qa_ 35 268435455) ?_
                refine pn_ (i := 28) (N := some 69) (qa_ 35 536870911) ?_
                refine pn_ (i := 29) (N := some 70) (qa_ 35 1073741823) ?_
                refine pn_ (i := 30) (N := some 71) (qa_ 35 2147483647) ?_
                refine pn_ (i := 31) (N := some 72) (qa_ 35 4294967295) ?_
                refine pn_ (i := 32) (N := some 73) (qa_ 35 8589934591) ?_
                refine pu_ (i := 33) (N := some 74) (qa_ 35 17179869183) ?_
                refine pu_ (i := 34) (N := some 75) (qa_ 35 34359738367) ?_
                refine done_ (done_of HT_.out (by kernel_rfl)) ?_
                try go_wp2
                go_meet
                case rel => exact ⟨_, (false), sm, H', ⟨lo HK1⟩, ⟨bR HO_11⟩, ⟨bk⟩, ⟨bk⟩, ⟨bl⟩⟩
               ·replace c29 := Bool.eq_false_iff.mpr c29; subst c29
                rw [if_neg (show ¬ (false = true) by decide)] at H
                obtain ⟨bq34, hbq34⟩ : ∃ b_ : Bool, b_ = ((rd_T50 l0_1 (rd l2 x12_1)).f2) := ⟨_, rfl⟩
                replace H : (if bq34 = true then ((skewbaldlaw01_clear.f k1 ((rd_T50 l0_1 (rd l2 x12_1)).f0) ((rd_T50 l0_1 (rd l2 x12_1)).f1) (bq34) (rd l3 x12_1) true l4).bind fun t383 => (skewbaldlaw01_laid.j1 k1 l2 l3 l4 x11_1 x12_1 (!t383) l0_0 l0_1 ((rd_T50 l0_1 (rd l2 x12_1)).f0) ((rd_T50 l0_1 (rd l2 x12_1)).f1) bq34)) else (skewbaldlaw01_laid.j1 k1 l2 l3 l4 x11_1 x12_1 (!false) l0_0 l0_1 ((rd_T50 l0_1 (rd l2 x12_1)).f0) ((rd_T50 l0_1 (rd l2 x12_1)).f1) bq34)) = some r := by rw [← hbq34] at H; exact H
                have Nbq34 := Aside0.mk hbq34; clear hbq34
                by_cases c35 : bq34 = true
                ·subst c35
                 (try rw [← Nbq34.out] at A26)
                 (try rw [← Nbq34.out] at A28)
                 (try rw [← Nbq34.out] at A36)
                 rw [if_pos rfl] at H; obtain ⟨t383, A36, H⟩ := ob H; have H' := Aside0.mk H; clear H
                 try go_wp2
                 have n0_ : Aside0 (Kd.R Kd.bool 4 (((w21.setCell ⟨gb377, 0, none⟩ (.int .i64 ((rd_T50 l0_1 (rd l2 x12_1)).f0))).setCell ⟨gb377, 1, none⟩ (.slice A376_1 ((rd_T50 l0_1 (rd l2 x12_1)).f1).length c376_1)).setCell ⟨gb377, 2, none⟩ (.bool (true))) w.heap.size (fun _ => True) v373 x11_1) := ⟨by (with_reducible repeat (first | apply Kd.R_alloc | apply Kd.R_drewN | apply Kd.R_drew)); exact Kd.R_mono (Kd.R_far (p := ⟨gb377, 2, none⟩) (Kd.R_far (p := ⟨gb377, 1, none⟩) (Kd.R_far (p := ⟨gb377, 0, none⟩) (Kd.R_types HO_11.out BK377.out (by decide)) (fun _ hk => hk.2) (.int .i64 ((rd_T50 l0_1 (rd l2 x12_1)).f0))) (fun _ hk => hk.2) (.slice A376_1 ((rd_T50 l0_1 (rd l2 x12_1)).f1).length c376_1)) (fun _ hk => hk.2) (.bool (true))) (fun _ hk => trivial)⟩
                 have n1_ : Aside0 ((((w21.setCell ⟨gb377, 0, none⟩ (.int .i64 ((rd_T50 l0_1 (rd l2 x12_1)).f0))).setCell ⟨gb377, 1, none⟩ (.slice A376_1 ((rd_T50 l0_1 (rd l2 x12_1)).f1).length c376_1)).setCell ⟨gb377, 2, none⟩ (.bool (true))).heap[gb370]? = some (.cells #[.slice (some ad371) l0_0.length c0_0, .slice (some ad376) l0_1.length c0_1] 25 (0, 0))) := ⟨by (with_reducible repeat (first | refine blk_drewN ?_ _ | refine blk_drew ?_ | refine blk_alloc ?_ _)); refine blk_far ?_ NB370_377.out _; (with_reducible repeat (first | refine blk_drewN ?_ _ | refine blk_drew ?_ | refine blk_alloc ?_ _)); refine blk_far ?_ NB370_377.out _; (with_reducible repeat (first | refine blk_drewN ?_ _ | refine blk_drew ?_ | refine blk_alloc ?_ _)); refine blk_far ?_ NB370_377.out _; (with_reducible repeat (first | refine blk_drewN ?_ _ | refine blk_drew ?_ | refine blk_alloc ?_ _)); exact BK370.out⟩
                 have n2_ : Aside0 ((((w21.setCell ⟨gb377, 0, none⟩ (.int .i64 ((rd_T50 l0_1 (rd l2 x12_1)).f0))).setCell ⟨gb377, 1, none⟩ (.slice A376_1 ((rd_T50 l0_1 (rd l2 x12_1)).f1).length c376_1)).setCell ⟨gb377, 2, none⟩ (.bool (true))).heap[gb377]? = some (.cells #[.int .i64 ((rd_T50 l0_1 (rd l2 x12_1)).f0), .slice A376_1 ((rd_T50 l0_1 (rd l2 x12_1)).f1).length c376_1, .bool true] 50 (0, 0))) := ⟨by (with_reducible repeat (first | refine blk_drewN ?_ _ | refine blk_drew ?_ | refine blk_alloc ?_ _)); refine blk_put (cs := #[.int .i64 ((rd_T50 l0_1 (rd l2 x12_1)).f0), .slice A376_1 ((rd_T50 l0_1 (rd l2 x12_1)).f1).length c376_1, .bool false]) ?_ 2 _ rfl; (with_reducible repeat (first | refine blk_drewN ?_ _ | refine blk_drew ?_ | refine blk_alloc ?_ _)); refine blk_put (cs := #[.int .i64 ((rd_T50 l0_1 (rd l2 x12_1)).f0), .slice none 0 0, .bool false]) ?_ 1 _ rfl; (with_reducible repeat (first | refine blk_drewN ?_ _ | refine blk_drew ?_ | refine blk_alloc ?_ _)); refine blk_put (cs := #[.int .i64 0, .slice none 0 0, .bool false]) ?_ 0 _ rfl; (with_reducible repeat (first | refine blk_drewN ?_ _ | refine blk_drew ?_ | refine blk_alloc ?_ _)); exact BK377.out⟩
                 have n3_ : Aside0 (Below w.heap.size w (((w21.setCell ⟨gb377, 0, none⟩ (.int .i64 ((rd_T50 l0_1 (rd l2 x12_1)).f0))).setCell ⟨gb377, 1, none⟩ (.slice A376_1 ((rd_T50 l0_1 (rd l2 x12_1)).f1).length c376_1)).setCell ⟨gb377, 2, none⟩ (.bool (true)))) := ⟨bl⟩
                 (try clear HO_11); (try clear BK370); (try clear BK377); (try clear HB)
                 (first | rw [← Nbq34.out] | simp only [← Nbq34.out] | skip)
                 generalize (((w21.setCell ⟨gb377, 0, none⟩ (.int .i64 ((rd_T50 l0_1 (rd l2 x12_1)).f0))).setCell ⟨gb377, 1, none⟩ (.slice A376_1 ((rd_T50 l0_1 (rd l2 x12_1)).f1).length c376_1)).setCell ⟨gb377, 2, none⟩ (.bool (true))) = w37 at n0_ n1_ n2_ n3_ ⊢
                 have HO_11 := n0_; have BK370 := n1_; have BK377 := n2_; have HB := n3_; clear n0_ n1_ n2_ n3_; replace HO_11 := Aside0.mk (Kd.R_drew HO_11.out); replace BK370 := Aside0.mk (blk_drew BK370.out); replace BK377 := Aside0.mk (blk_drew BK377.out); replace HB := Aside0.mk (below_drew1 HB.out)
                 have p378 : 0 ≤ (x12_1 : Int) := od
                 have q378 : x12_1 < (l3.length : Int) := od
                 obtain ⟨ad378, e378, hx378_0⟩ := Kd.at_int HR3.out x12_1 p378 q378; have hw378_0 := hx378_0
                 cases e378
                 replace hx378_0 := cm HB hx378_0; replace p378 := eq_true p378; replace q378 := eq_true q378; obtain ⟨Ao39, co39, eo39⟩ := Kd.R_slice HO_11.out
                 (first | subst eo39 | (injection eo39 with f1_ f2_ f3_; have f4_ := f1_.symm; have f5_ := f3_.symm; clear f1_ f2_ f3_; subst f4_; subst f5_))
                 have p380 : 0 ≤ (x12_1 : Int) := od
                 have q380 : x12_1 < (l3.length : Int) := od
                 obtain ⟨ad380, e380, hx380_0⟩ := Kd.at_int HR3.out x12_1 p380 q380; have hw380_0 := hx380_0
                 obtain rfl : ad378 = ad380 := (by injection e380)
                 replace hx380_0 := cm HB hx380_0; replace p380 := eq_true p380; replace q380 := eq_true q380
                 have p382 : 0 ≤ (x12_1 : Int) := od
                 have q382 : x12_1 < (l3.length : Int) := od
                 obtain ⟨ad382, e382, hx382_0⟩ := Kd.at_int HR3.out x12_1 p382 q382; have hw382_0 := hx382_0
                 obtain rfl : ad378 = ad382 := (by injection e382)
                 replace hx382_0 := cm HB hx382_0; replace p382 := eq_true p382; replace q382 := eq_true q382
                 refine start_ (n := 35) (S := fun w' => w'.cell? ⟨gb377, 0, none⟩ = some (.int .i64 ((rd_T50 l0_1 (rd l2 x12_1)).f0)) ∧ w'.cell? ⟨gb377, 1, none⟩ = some (.slice A376_1 ((rd_T50 l0_1 (rd l2 x12_1)).f1).length c376_1) ∧ w'.cell? ⟨gb377, 2, none⟩ = some (.bool true) ∧ w'.cell? (ad378.add (x12_1).toNat) = some (.int .i64 (rd l3 x12_1)) ∧ w'.cell? (ad378.add (x12_1).toNat) = some (.int .i64 (rd l3 x12_1)) ∧ w'.cell? (ad378.add (x12_1).toNat) = some (.int .i64 (rd l3 x12_1))) (ds := []) #[false, false, false, false, false, false, false, false, false, false, false, false, false, false, false, false, false, false, false, false, false, false, false, false, false, false, false, false, false, false, false, false, false, false, false] (by kernel_rfl) rfl rfl ⟨bq BK377 0, bq BK377 1, bq BK377 2, (cm HB hw378_0 :), (cm HB hw380_0 :), (cm HB hw382_0 :)⟩ (fun hHeld => ?_); refine with_tabW skewbaldlaw01_laid.tab8 skewbaldlaw01_laid.bits8 (fun HT_ HW_ => ?_)
                 generalize w37.drew = w38 at HO_11 BK370 BK377 HB hx378_0 hx380_0 hx382_0 hHeld ⊢
                 refine pu_ (i := 0) (N := some 41) (qa_ 35 1) ?_
                 refine pu_ (i := 1) (N := some 42) (qa_ 35 3) ?_
                 refine pu_ (i := 2) (N := some 43) (qa_ 35 7) ?_
                 refine pu_ (i := 4) (N := some 45) (qa_ 35 23) ?_
                 refine pu_ (i := 5) (N := some 46) (qa_ 35 55) ?_
                 refine pu_ (i := 6) (N := some 47) (qa_ 35 119) ?_
                 refine tk_ (i := 3) (N := some 44) (qa_ 35 127) hHeld ?_
                 refine tk_ (i := 7) (N := some 48) (qa_ 35 255) hHeld ?_
                 refine pu_ (i := 8) (N := some 49) (qa_ 35 511) ?_
                 refine on_ (i := 9) (N := some 50) (qa_ 35 1023) (fun K hK => ?_)
                 refine goes_ Tryd.func38 (by kernel_rfl) rfl #[.int .i64 (rd l3 x12_1), .int .i64 0, .int .i64 (wrap64 ((x11_1.length : Int) - ((rd_T50 l0_1 (rd l2 x12_1)).f0)))] (by rfl) rfl rfl (by (try simp only [List.map_toArray, List.map_cons, List.map_nil]); first | done | rfl | (simp only [List.length_drop, List.length_take]; rfl)) ?_
                 with_reducible refine (skewbaldref00_In.calls (rd l3 x12_1) 0 (wrap64 ((x11_1.length : Int) - ((rd_T50 l0_1 (rd l2 x12_1)).f0))) true _ A26.out).mono ?_
                 rintro e w' ⟨rfl, ⟨nd, rfl⟩⟩
                 refine ⟨_, rfl, ?_⟩
                 refine hK.out _ _ ⟨bq BK377 0, bq BK377 1, bq BK377 2, (cm HB hw378_0 :), (cm HB hw380_0 :), (cm HB hw382_0 :)⟩ (fun hHeld => ?_)
                 clear hK K
                 refine nm_ (some 50) ?_
                 refine pu_ (i := 10) (N := some 51) (qa_ 35 2047) ?_
                 refine pu_ (i := 11) (N := some 52) (qa_ 35 4095) ?_
                 refine pu_ (i := 13) (N := some 54) (qa_ 35 12287) ?_
                 refine pu_ (i := 14) (N := some 55) (qa_ 35 28671) ?_
                 refine pu_ (i := 15) (N := some 56) (qa_ 35 61439) ?_
                 refine pu_ (i := 17) (N := some 58) (qa_ 35 192511) ?_
                 refine tk_ (i := 12) (N := some 53) (qa_ 35 196607) hHeld ?_
                 refine tk_ (i := 16) (N := some 57) (qa_ 35 262143) hHeld ?_
                 refine on_ (i := 18) (N := some 59) (qa_ 35 524287) (fun K hK => ?_)
                 refine goes_ Tryd.func37 (by kernel_rfl) rfl #[.agg #[.int .i64 ((rd_T50 l0_1 (rd l2 x12_1)).f0), .slice A376_1 ((rd_T50 l0_1 (rd l2 x12_1)).f1).length c376_1, .bool true], .int .i64 (rd l3 x12_1), .bool false, .slice A4 l4.length c4] (by rfl) rfl rfl (by (try simp only [List.map_toArray, List.map_cons, List.map_nil]); first | done | rfl | (simp only [List.length_drop, List.length_take]; rfl)) ?_
                 with_reducible refine (skewbaldlaw01_clear.calls k1 ((rd_T50 l0_1 (rd l2 x12_1)).f0) _ _ ((rd_T50 l0_1 (rd l2 x12_1)).f1) true (rd l3 x12_1) false _ _ l4 false _ ?side1 ?side2 ?side3 ?side4 A28.out).mono ?_
                 (case side1 => repeat (first | exact (Kd.C_below HR376_1.out bl) | (with_reducible refine Kd.C_alloc ?_ _) | (with_reducible refine Kd.C_drewN ?_ _) | (with_reducible refine Kd.C_drew ?_)))
                 (case side2 => exact HC376_1.out)
                 (case side3 => repeat (first | exact (Kd.C_below HR4.out bl) | (with_reducible refine Kd.C_alloc ?_ _) | (with_reducible refine Kd.C_drewN ?_ _) | (with_reducible refine Kd.C_drew ?_)))
                 (case side4 => exact HC4.out)
                 rintro e w40 ⟨rfl, hb⟩
                 refine ⟨_, rfl, ?_⟩
                 replace HO_11 := Aside0.mk (Kd.R_below (bR HO_11) hb); replace BK370 := nb BK370 hb; replace BK377 := nb BK377 hb; replace HB := hs HB hb; (try clear hb); (try clear hb2); (try clear hk); (try clear hi)
                 refine hK.out _ _ ⟨bq BK377 0, bq BK377 1, bq BK377 2, (cm HB hw378_0 :), (cm HB hw380_0 :), (cm HB hw382_0 :)⟩ (fun hHeld => ?_)
                 clear hK K
                 refine nm_ (some 59) ?_
                 refine pu_ (i := 19) (N := some 60) (qa_ 35 1048575) ?_
                 refine pu_ (i := 20) (N := some 61) (qa_ 35 2097151) ?_
                 refine pu_ (i := 21) (N := some 62) (qa_ 35 4194303) ?_
                 refine tk_ (i := 22) (N := some 63) (qa_ 35 8388607) hHeld ?_
                 refine pu_ (i := 23) (N := some 64) (qa_ 35 16777215) ?_
                 refine pu_ (i := 25) (N := some 66) (qa_ 35 50331647) ?_
                 refine pu_ (i := 26) (N := some 67) (qa_ 35 117440511) ?_
                 refine pu_ (i := 27) (N := some 68) (qa_ 35 251658239) ?_
                 refine pu_ (i := 29) (N := some 70) (qa_ 35 788529151) ?_
                 refine tk_ (i := 24) (N := some 65) (qa_ 35 805306367) hHeld ?_
                 refine tk_ (i := 28) (N := some 69) (qa_ 35 1073741823) hHeld ?_
                 refine on_ (i := 30) (N := some 71) (qa_ 35 2147483647) (fun K hK => ?_)
                 refine goes_ Tryd.func37 (by kernel_rfl) rfl #[.agg #[.int .i64 ((rd_T50 l0_1 (rd l2 x12_1)).f0), .slice A376_1 ((rd_T50 l0_1 (rd l2 x12_1)).f1).length c376_1, .bool true], .int .i64 (rd l3 x12_1), .bool true, .slice A4 l4.length c4] (by rfl) rfl rfl (by (try simp only [List.map_toArray, List.map_cons, List.map_nil]); first | done | rfl | (simp only [List.length_drop, List.length_take]; rfl)) ?_
                 with_reducible refine (skewbaldlaw01_clear.calls k1 ((rd_T50 l0_1 (rd l2 x12_1)).f0) _ _ ((rd_T50 l0_1 (rd l2 x12_1)).f1) true (rd l3 x12_1) true _ _ l4 t383 _ ?side1 ?side2 ?side3 ?side4 A36.out).mono ?_
                 (case side1 => exact cl)
                 (case side2 => exact HC376_1.out)
                 (case side3 => repeat (first | exact (Kd.C_below HR4.out HB.out) | (with_reducible refine Kd.C_alloc ?_ _) | (with_reducible refine Kd.C_drewN ?_ _) | (with_reducible refine Kd.C_drew ?_)))
                 (case side4 => exact HC4.out)
                 rintro e w41 ⟨rfl, hb⟩
                 refine ⟨_, rfl, ?_⟩
                 replace HO_11 := Aside0.mk (Kd.R_below (bR HO_11) hb); replace BK370 := nb BK370 hb; replace BK377 := nb BK377 hb; replace HB := hs HB hb; (try clear hb); (try clear hb2); (try clear hk); (try clear hi)
                 refine hK.out _ _ ⟨bq BK377 0, bq BK377 1, bq BK377 2, (cm HB hw378_0 :), (cm HB hw380_0 :), (cm HB hw382_0 :)⟩ (fun hHeld => ?_)
                 clear hK K
                 refine nm_ (some 71) ?_
                 refine pu_ (i := 31) (N := some 72) (qa_ 35 4294967295) ?_
                 refine pu_ (i := 32) (N := some 73) (qa_ 35 8589934591) ?_
                 refine pu_ (i := 33) (N := some 74) (qa_ 35 17179869183) ?_
                 refine pu_ (i := 34) (N := some 75) (qa_ 35 34359738367) ?_
                 refine done_ (done_of HT_.out (by kernel_rfl)) ?_
                 try go_wp2
                 go_meet
                 case rel => exact ⟨_, (!t383), sm, (by rw [← Nbq34.out]; exact H'), ⟨lo HK1⟩, ⟨bR HO_11⟩, ⟨by (try rw [← Nbq34.out]); (with_reducible repeat (first | refine blk_drewN ?_ _ | refine blk_drew ?_ | refine blk_alloc ?_ _)); exact BK370.out⟩, ⟨by (try rw [← Nbq34.out]); (with_reducible repeat (first | refine blk_drewN ?_ _ | refine blk_drew ?_ | refine blk_alloc ?_ _)); exact BK377.out⟩, ⟨bl⟩⟩
                ·replace c35 := Bool.eq_false_iff.mpr c35; subst c35
                 (try rw [← Nbq34.out] at A26)
                 (try rw [← Nbq34.out] at A28)
                 (try rw [← Nbq34.out] at A36)
                 rw [if_neg (show ¬ (false = true) by decide)] at H
                 have H' := Aside0.mk H; clear H
                 try go_wp2
                 have n0_ : Aside0 (Kd.R Kd.bool 4 (((w21.setCell ⟨gb377, 0, none⟩ (.int .i64 ((rd_T50 l0_1 (rd l2 x12_1)).f0))).setCell ⟨gb377, 1, none⟩ (.slice A376_1 ((rd_T50 l0_1 (rd l2 x12_1)).f1).length c376_1)).setCell ⟨gb377, 2, none⟩ (.bool (false))) w.heap.size (fun _ => True) v373 x11_1) := ⟨by (with_reducible repeat (first | apply Kd.R_alloc | apply Kd.R_drewN | apply Kd.R_drew)); exact Kd.R_mono (Kd.R_far (p := ⟨gb377, 2, none⟩) (Kd.R_far (p := ⟨gb377, 1, none⟩) (Kd.R_far (p := ⟨gb377, 0, none⟩) (Kd.R_types HO_11.out BK377.out (by decide)) (fun _ hk => hk.2) (.int .i64 ((rd_T50 l0_1 (rd l2 x12_1)).f0))) (fun _ hk => hk.2) (.slice A376_1 ((rd_T50 l0_1 (rd l2 x12_1)).f1).length c376_1)) (fun _ hk => hk.2) (.bool (false))) (fun _ hk => trivial)⟩
                 have n1_ : Aside0 ((((w21.setCell ⟨gb377, 0, none⟩ (.int .i64 ((rd_T50 l0_1 (rd l2 x12_1)).f0))).setCell ⟨gb377, 1, none⟩ (.slice A376_1 ((rd_T50 l0_1 (rd l2 x12_1)).f1).length c376_1)).setCell ⟨gb377, 2, none⟩ (.bool (false))).heap[gb370]? = some (.cells #[.slice (some ad371) l0_0.length c0_0, .slice (some ad376) l0_1.length c0_1] 25 (0, 0))) := ⟨by (with_reducible repeat (first | refine blk_drewN ?_ _ | refine blk_drew ?_ | refine blk_alloc ?_ _)); refine blk_far ?_ NB370_377.out _; (with_reducible repeat (first | refine blk_drewN ?_ _ | refine blk_drew ?_ | refine blk_alloc ?_ _)); refine blk_far ?_ NB370_377.out _; (with_reducible repeat (first | refine blk_drewN ?_ _ | refine blk_drew ?_ | refine blk_alloc ?_ _)); refine blk_far ?_ NB370_377.out _; (with_reducible repeat (first | refine blk_drewN ?_ _ | refine blk_drew ?_ | refine blk_alloc ?_ _)); exact BK370.out⟩
                 have n2_ : Aside0 ((((w21.setCell ⟨gb377, 0, none⟩ (.int .i64 ((rd_T50 l0_1 (rd l2 x12_1)).f0))).setCell ⟨gb377, 1, none⟩ (.slice A376_1 ((rd_T50 l0_1 (rd l2 x12_1)).f1).length c376_1)).setCell ⟨gb377, 2, none⟩ (.bool (false))).heap[gb377]? = some (.cells #[.int .i64 ((rd_T50 l0_1 (rd l2 x12_1)).f0), .slice A376_1 ((rd_T50 l0_1 (rd l2 x12_1)).f1).length c376_1, .bool false] 50 (0, 0))) := ⟨by (with_reducible repeat (first | refine blk_drewN ?_ _ | refine blk_drew ?_ | refine blk_alloc ?_ _)); refine blk_put (cs := #[.int .i64 ((rd_T50 l0_1 (rd l2 x12_1)).f0), .slice A376_1 ((rd_T50 l0_1 (rd l2 x12_1)).f1).length c376_1, .bool false]) ?_ 2 _ rfl; (with_reducible repeat (first | refine blk_drewN ?_ _ | refine blk_drew ?_ | refine blk_alloc ?_ _)); refine blk_put (cs := #[.int .i64 ((rd_T50 l0_1 (rd l2 x12_1)).f0), .slice none 0 0, .bool false]) ?_ 1 _ rfl; (with_reducible repeat (first | refine blk_drewN ?_ _ | refine blk_drew ?_ | refine blk_alloc ?_ _)); refine blk_put (cs := #[.int .i64 0, .slice none 0 0, .bool false]) ?_ 0 _ rfl; (with_reducible repeat (first | refine blk_drewN ?_ _ | refine blk_drew ?_ | refine blk_alloc ?_ _)); exact BK377.out⟩
                 have n3_ : Aside0 (Below w.heap.size w (((w21.setCell ⟨gb377, 0, none⟩ (.int .i64 ((rd_T50 l0_1 (rd l2 x12_1)).f0))).setCell ⟨gb377, 1, none⟩ (.slice A376_1 ((rd_T50 l0_1 (rd l2 x12_1)).f1).length c376_1)).setCell ⟨gb377, 2, none⟩ (.bool (false)))) := ⟨bl⟩
                 (try clear HO_11); (try clear BK370); (try clear BK377); (try clear HB)
                 (first | rw [← Nbq34.out] | simp only [← Nbq34.out] | skip)
                 generalize (((w21.setCell ⟨gb377, 0, none⟩ (.int .i64 ((rd_T50 l0_1 (rd l2 x12_1)).f0))).setCell ⟨gb377, 1, none⟩ (.slice A376_1 ((rd_T50 l0_1 (rd l2 x12_1)).f1).length c376_1)).setCell ⟨gb377, 2, none⟩ (.bool (false))) = w42 at n0_ n1_ n2_ n3_ ⊢
                 have HO_11 := n0_; have BK370 := n1_; have BK377 := n2_; have HB := n3_; clear n0_ n1_ n2_ n3_; replace HO_11 := Aside0.mk (Kd.R_drew HO_11.out); replace BK370 := Aside0.mk (blk_drew BK370.out); replace BK377 := Aside0.mk (blk_drew BK377.out); replace HB := Aside0.mk (below_drew1 HB.out)
                 have p378 : 0 ≤ (x12_1 : Int) := od
                 have q378 : x12_1 < (l3.length : Int) := od
                 obtain ⟨ad378, e378, hx378_0⟩ := Kd.at_int HR3.out x12_1 p378 q378; have hw378_0 := hx378_0
                 cases e378
                 replace hx378_0 := cm HB hx378_0; replace p378 := eq_true p378; replace q378 := eq_true q378; obtain ⟨Ao44, co44, eo44⟩ := Kd.R_slice HO_11.out
                 (first | subst eo44 | (injection eo44 with f1_ f2_ f3_; have f4_ := f1_.symm; have f5_ := f3_.symm; clear f1_ f2_ f3_; subst f4_; subst f5_))
                 have p380 : 0 ≤ (x12_1 : Int) := od
                 have q380 : x12_1 < (l3.length : Int) := od
                 obtain ⟨ad380, e380, hx380_0⟩ := Kd.at_int HR3.out x12_1 p380 q380; have hw380_0 := hx380_0
                 obtain rfl : ad378 = ad380 := (by injection e380)
                 replace hx380_0 := cm HB hx380_0; replace p380 := eq_true p380; replace q380 := eq_true q380
                 refine start_ (n := 35) (S := fun w' => w'.cell? ⟨gb377, 0, none⟩ = some (.int .i64 ((rd_T50 l0_1 (rd l2 x12_1)).f0)) ∧ w'.cell? ⟨gb377, 1, none⟩ = some (.slice A376_1 ((rd_T50 l0_1 (rd l2 x12_1)).f1).length c376_1) ∧ w'.cell? ⟨gb377, 2, none⟩ = some (.bool false) ∧ w'.cell? (ad378.add (x12_1).toNat) = some (.int .i64 (rd l3 x12_1)) ∧ w'.cell? (ad378.add (x12_1).toNat) = some (.int .i64 (rd l3 x12_1))) (ds := []) #[false, false, false, false, false, false, false, false, false, false, false, false, false, false, false, false, false, false, false, false, false, false, false, false, false, false, false, false, false, false, false, false, false, false, false] (by kernel_rfl) rfl rfl ⟨bq BK377 0, bq BK377 1, bq BK377 2, (cm HB hw378_0 :), (cm HB hw380_0 :)⟩ (fun hHeld => ?_); refine with_tabW skewbaldlaw01_laid.tab8 skewbaldlaw01_laid.bits8 (fun HT_ HW_ => ?_)
                 generalize w42.drew = w43 at HO_11 BK370 BK377 HB hx378_0 hx380_0 hHeld ⊢
                 refine pu_ (i := 0) (N := some 41) (qa_ 35 1) ?_
                 refine pu_ (i := 1) (N := some 42) (qa_ 35 3) ?_
                 refine pu_ (i := 2) (N := some 43) (qa_ 35 7) ?_
                 refine pu_ (i := 4) (N := some 45) (qa_ 35 23) ?_
                 refine pu_ (i := 5) (N := some 46) (qa_ 35 55) ?_
                 refine pu_ (i := 6) (N := some 47) (qa_ 35 119) ?_
                 refine tk_ (i := 3) (N := some 44) (qa_ 35 127) hHeld ?_
                 refine tk_ (i := 7) (N := some 48) (qa_ 35 255) hHeld ?_
                 refine pu_ (i := 8) (N := some 49) (qa_ 35 511) ?_
                 refine on_ (i := 9) (N := some 50) (qa_ 35 1023) (fun K hK => ?_)
                 refine goes_ Tryd.func38 (by kernel_rfl) rfl #[.int .i64 (rd l3 x12_1), .int .i64 0, .int .i64 (wrap64 ((x11_1.length : Int) - ((rd_T50 l0_1 (rd l2 x12_1)).f0)))] (by rfl) rfl rfl (by (try simp only [List.map_toArray, List.map_cons, List.map_nil]); first | done | rfl | (simp only [List.length_drop, List.length_take]; rfl)) ?_
                 with_reducible refine (skewbaldref00_In.calls (rd l3 x12_1) 0 (wrap64 ((x11_1.length : Int) - ((rd_T50 l0_1 (rd l2 x12_1)).f0))) true _ A26.out).mono ?_
                 rintro e w' ⟨rfl, ⟨nd, rfl⟩⟩
                 refine ⟨_, rfl, ?_⟩
                 refine hK.out _ _ ⟨bq BK377 0, bq BK377 1, bq BK377 2, (cm HB hw378_0 :), (cm HB hw380_0 :)⟩ (fun hHeld => ?_)
                 clear hK K
                 refine nm_ (some 50) ?_
                 refine pu_ (i := 10) (N := some 51) (qa_ 35 2047) ?_
                 refine pu_ (i := 11) (N := some 52) (qa_ 35 4095) ?_
                 refine pu_ (i := 13) (N := some 54) (qa_ 35 12287) ?_
                 refine pu_ (i := 14) (N := some 55) (qa_ 35 28671) ?_
                 refine pu_ (i := 15) (N := some 56) (qa_ 35 61439) ?_
                 refine pu_ (i := 17) (N := some 58) (qa_ 35 192511) ?_
                 refine tk_ (i := 12) (N := some 53) (qa_ 35 196607) hHeld ?_
                 refine tk_ (i := 16) (N := some 57) (qa_ 35 262143) hHeld ?_
                 refine on_ (i := 18) (N := some 59) (qa_ 35 524287) (fun K hK => ?_)
                 refine goes_ Tryd.func37 (by kernel_rfl) rfl #[.agg #[.int .i64 ((rd_T50 l0_1 (rd l2 x12_1)).f0), .slice A376_1 ((rd_T50 l0_1 (rd l2 x12_1)).f1).length c376_1, .bool false], .int .i64 (rd l3 x12_1), .bool false, .slice A4 l4.length c4] (by rfl) rfl rfl (by (try simp only [List.map_toArray, List.map_cons, List.map_nil]); first | done | rfl | (simp only [List.length_drop, List.length_take]; rfl)) ?_
                 with_reducible refine (skewbaldlaw01_clear.calls k1 ((rd_T50 l0_1 (rd l2 x12_1)).f0) _ _ ((rd_T50 l0_1 (rd l2 x12_1)).f1) false (rd l3 x12_1) false _ _ l4 false _ ?side1 ?side2 ?side3 ?side4 A28.out).mono ?_
                 (case side1 => repeat (first | exact (Kd.C_below HR376_1.out bl) | (with_reducible refine Kd.C_alloc ?_ _) | (with_reducible refine Kd.C_drewN ?_ _) | (with_reducible refine Kd.C_drew ?_)))
                 (case side2 => exact HC376_1.out)
                 (case side3 => repeat (first | exact (Kd.C_below HR4.out bl) | (with_reducible refine Kd.C_alloc ?_ _) | (with_reducible refine Kd.C_drewN ?_ _) | (with_reducible refine Kd.C_drew ?_)))
                 (case side4 => exact HC4.out)
                 rintro e w45 ⟨rfl, hb⟩
                 refine ⟨_, rfl, ?_⟩
                 replace HO_11 := Aside0.mk (Kd.R_below (bR HO_11) hb); replace BK370 := nb BK370 hb; replace BK377 := nb BK377 hb; replace HB := hs HB hb; (try clear hb); (try clear hb2); (try clear hk); (try clear hi)
                 refine hK.out _ _ ⟨bq BK377 0, bq BK377 1, bq BK377 2, (cm HB hw378_0 :), (cm HB hw380_0 :)⟩ (fun hHeld => ?_)
                 clear hK K
                 refine nm_ (some 59) ?_
                 refine pu_ (i := 19) (N := some 60) (qa_ 35 1048575) ?_
                 refine pu_ (i := 20) (N := some 61) (qa_ 35 2097151) ?_
                 refine pu_ (i := 21) (N := some 62) (qa_ 35 4194303) ?_
                 refine tk_ (i := 22) (N := some 63) (qa_ 35 8388607) hHeld ?_
                 refine pu_ (i := 23) (N := some 64) (qa_ 35 16777215) ?_
                 refine pn_ (i := 24) (N := some 65) (qa_ 35 33554431) ?_
                 refine pn_ (i := 25) (N := some 66) (qa_ 35 67108863) ?_
                 refine pn_ (i := 26) (N := some 67) (qa_ 35 134217727) ?_
                 refine pn_ (i := 27) (N := some 68) (qa_ 35 268435455) ?_
                 refine pn_ (i := 28) (N := some 69) (qa_ 35 536870911) ?_
                 refine pn_ (i := 29) (N := some 70) (qa_ 35 1073741823) ?_
                 refine pn_ (i := 30) (N := some 71) (qa_ 35 2147483647) ?_
                 refine pu_ (i := 31) (N := some 72) (qa_ 35 4294967295) ?_
                 refine pu_ (i := 32) (N := some 73) (qa_ 35 8589934591) ?_
                 refine pu_ (i := 33) (N := some 74) (qa_ 35 17179869183) ?_
                 refine pu_ (i := 34) (N := some 75) (qa_ 35 34359738367) ?_
                 refine done_ (done_of HT_.out (by kernel_rfl)) ?_
                 try go_wp2
                 go_meet
                 case rel => exact ⟨_, (!false), sm, (by rw [← Nbq34.out]; exact H'), ⟨lo HK1⟩, ⟨bR HO_11⟩, ⟨by (try rw [← Nbq34.out]); (with_reducible repeat (first | refine blk_drewN ?_ _ | refine blk_drew ?_ | refine blk_alloc ?_ _)); exact BK370.out⟩, ⟨by (try rw [← Nbq34.out]); (with_reducible repeat (first | refine blk_drewN ?_ _ | refine blk_drew ?_ | refine blk_alloc ?_ _)); exact BK377.out⟩, ⟨bl⟩⟩
              ·replace c27 := Bool.eq_false_iff.mpr c27; subst c27
               rw [if_neg (show ¬ (false = true) by decide)] at H
               have H' := Aside0.mk H; clear H
               try go_wp2
               have n0_ : Aside0 (Kd.R Kd.bool 4 (((w21.setCell ⟨gb377, 0, none⟩ (.int .i64 ((rd_T50 l0_1 (rd l2 x12_1)).f0))).setCell ⟨gb377, 1, none⟩ (.slice A376_1 ((rd_T50 l0_1 (rd l2 x12_1)).f1).length c376_1)).setCell ⟨gb377, 2, none⟩ (.bool ((rd_T50 l0_1 (rd l2 x12_1)).f2))) w.heap.size (fun _ => True) v373 x11_1) := ⟨by (with_reducible repeat (first | apply Kd.R_alloc | apply Kd.R_drewN | apply Kd.R_drew)); exact Kd.R_mono (Kd.R_far (p := ⟨gb377, 2, none⟩) (Kd.R_far (p := ⟨gb377, 1, none⟩) (Kd.R_far (p := ⟨gb377, 0, none⟩) (Kd.R_types HO_11.out BK377.out (by decide)) (fun _ hk => hk.2) (.int .i64 ((rd_T50 l0_1 (rd l2 x12_1)).f0))) (fun _ hk => hk.2) (.slice A376_1 ((rd_T50 l0_1 (rd l2 x12_1)).f1).length c376_1)) (fun _ hk => hk.2) (.bool ((rd_T50 l0_1 (rd l2 x12_1)).f2))) (fun _ hk => trivial)⟩
               have n1_ : Aside0 ((((w21.setCell ⟨gb377, 0, none⟩ (.int .i64 ((rd_T50 l0_1 (rd l2 x12_1)).f0))).setCell ⟨gb377, 1, none⟩ (.slice A376_1 ((rd_T50 l0_1 (rd l2 x12_1)).f1).length c376_1)).setCell ⟨gb377, 2, none⟩ (.bool ((rd_T50 l0_1 (rd l2 x12_1)).f2))).heap[gb370]? = some (.cells #[.slice (some ad371) l0_0.length c0_0, .slice (some ad376) l0_1.length c0_1] 25 (0, 0))) := ⟨by (with_reducible repeat (first | refine blk_drewN ?_ _ | refine blk_drew ?_ | refine blk_alloc ?_ _)); refine blk_far ?_ NB370_377.out _; (with_reducible repeat (first | refine blk_drewN ?_ _ | refine blk_drew ?_ | refine blk_alloc ?_ _)); refine blk_far ?_ NB370_377.out _; (with_reducible repeat (first | refine blk_drewN ?_ _ | refine blk_drew ?_ | refine blk_alloc ?_ _)); refine blk_far ?_ NB370_377.out _; (with_reducible repeat (first | refine blk_drewN ?_ _ | refine blk_drew ?_ | refine blk_alloc ?_ _)); exact BK370.out⟩
               have n2_ : Aside0 ((((w21.setCell ⟨gb377, 0, none⟩ (.int .i64 ((rd_T50 l0_1 (rd l2 x12_1)).f0))).setCell ⟨gb377, 1, none⟩ (.slice A376_1 ((rd_T50 l0_1 (rd l2 x12_1)).f1).length c376_1)).setCell ⟨gb377, 2, none⟩ (.bool ((rd_T50 l0_1 (rd l2 x12_1)).f2))).heap[gb377]? = some (.cells #[.int .i64 ((rd_T50 l0_1 (rd l2 x12_1)).f0), .slice A376_1 ((rd_T50 l0_1 (rd l2 x12_1)).f1).length c376_1, .bool ((rd_T50 l0_1 (rd l2 x12_1)).f2)] 50 (0, 0))) := ⟨by (with_reducible repeat (first | refine blk_drewN ?_ _ | refine blk_drew ?_ | refine blk_alloc ?_ _)); refine blk_put (cs := #[.int .i64 ((rd_T50 l0_1 (rd l2 x12_1)).f0), .slice A376_1 ((rd_T50 l0_1 (rd l2 x12_1)).f1).length c376_1, .bool false]) ?_ 2 _ rfl; (with_reducible repeat (first | refine blk_drewN ?_ _ | refine blk_drew ?_ | refine blk_alloc ?_ _)); refine blk_put (cs := #[.int .i64 ((rd_T50 l0_1 (rd l2 x12_1)).f0), .slice none 0 0, .bool false]) ?_ 1 _ rfl; (with_reducible repeat (first | refine blk_drewN ?_ _ | refine blk_drew ?_ | refine blk_alloc ?_ _)); refine blk_put (cs := #[.int .i64 0, .slice none 0 0, .bool false]) ?_ 0 _ rfl; (with_reducible repeat (first | refine blk_drewN ?_ _ | refine blk_drew ?_ | refine blk_alloc ?_ _)); exact BK377.out⟩
               have n3_ : Aside0 (Below w.heap.size w (((w21.setCell ⟨gb377, 0, none⟩ (.int .i64 ((rd_T50 l0_1 (rd l2 x12_1)).f0))).setCell ⟨gb377, 1, none⟩ (.slice A376_1 ((rd_T50 l0_1 (rd l2 x12_1)).f1).length c376_1)).setCell ⟨gb377, 2, none⟩ (.bool ((rd_T50 l0_1 (rd l2 x12_1)).f2)))) := ⟨bl⟩
               (try clear HO_11); (try clear BK370); (try clear BK377); (try clear HB)
               generalize (((w21.setCell ⟨gb377, 0, none⟩ (.int .i64 ((rd_T50 l0_1 (rd l2 x12_1)).f0))).setCell ⟨gb377, 1, none⟩ (.slice A376_1 ((rd_T50 l0_1 (rd l2 x12_1)).f1).length c376_1)).setCell ⟨gb377, 2, none⟩ (.bool ((rd_T50 l0_1 (rd l2 x12_1)).f2))) = w46 at n0_ n1_ n2_ n3_ ⊢
               have HO_11 := n0_; have BK370 := n1_; have BK377 := n2_; have HB := n3_; clear n0_ n1_ n2_ n3_; replace HO_11 := Aside0.mk (Kd.R_drew HO_11.out); replace BK370 := Aside0.mk (blk_drew BK370.out); replace BK377 := Aside0.mk (blk_drew BK377.out); replace HB := Aside0.mk (below_drew1 HB.out)
               have p378 : 0 ≤ (x12_1 : Int) := od
               have q378 : x12_1 < (l3.length : Int) := od
               obtain ⟨ad378, e378, hx378_0⟩ := Kd.at_int HR3.out x12_1 p378 q378; have hw378_0 := hx378_0
               cases e378
               replace hx378_0 := cm HB hx378_0; replace p378 := eq_true p378; replace q378 := eq_true q378; obtain ⟨Ao48, co48, eo48⟩ := Kd.R_slice HO_11.out
               (first | subst eo48 | (injection eo48 with f1_ f2_ f3_; have f4_ := f1_.symm; have f5_ := f3_.symm; clear f1_ f2_ f3_; subst f4_; subst f5_))
               refine start_ (n := 35) (S := fun w' => w'.cell? ⟨gb377, 0, none⟩ = some (.int .i64 ((rd_T50 l0_1 (rd l2 x12_1)).f0)) ∧ w'.cell? ⟨gb377, 1, none⟩ = some (.slice A376_1 ((rd_T50 l0_1 (rd l2 x12_1)).f1).length c376_1) ∧ w'.cell? ⟨gb377, 2, none⟩ = some (.bool ((rd_T50 l0_1 (rd l2 x12_1)).f2)) ∧ w'.cell? (ad378.add (x12_1).toNat) = some (.int .i64 (rd l3 x12_1))) (ds := []) #[false, false, false, false, false, false, false, false, false, false, false, false, false, false, false, false, false, false, false, false, false, false, false, false, false, false, false, false, false, false, false, false, false, false, false] (by kernel_rfl) rfl rfl ⟨bq BK377 0, bq BK377 1, bq BK377 2, (cm HB hw378_0 :)⟩ (fun hHeld => ?_); refine with_tabW skewbaldlaw01_laid.tab8 skewbaldlaw01_laid.bits8 (fun HT_ HW_ => ?_)
               generalize w46.drew = w47 at HO_11 BK370 BK377 HB hx378_0 hHeld ⊢
               refine pu_ (i := 0) (N := some 41) (qa_ 35 1) ?_
               refine pu_ (i := 1) (N := some 42) (qa_ 35 3) ?_
               refine pu_ (i := 2) (N := some 43) (qa_ 35 7) ?_
               refine pu_ (i := 4) (N := some 45) (qa_ 35 23) ?_
               refine pu_ (i := 5) (N := some 46) (qa_ 35 55) ?_
               refine pu_ (i := 6) (N := some 47) (qa_ 35 119) ?_
               refine tk_ (i := 3) (N := some 44) (qa_ 35 127) hHeld ?_
               refine tk_ (i := 7) (N := some 48) (qa_ 35 255) hHeld ?_
               refine pu_ (i := 8) (N := some 49) (qa_ 35 511) ?_
               refine on_ (i := 9) (N := some 50) (qa_ 35 1023) (fun K hK => ?_)
               refine goes_ Tryd.func38 (by kernel_rfl) rfl #[.int .i64 (rd l3 x12_1), .int .i64 0, .int .i64 (wrap64 ((x11_1.length : Int) - ((rd_T50 l0_1 (rd l2 x12_1)).f0)))] (by rfl) rfl rfl (by (try simp only [List.map_toArray, List.map_cons, List.map_nil]); first | done | rfl | (simp only [List.length_drop, List.length_take]; rfl)) ?_
               with_reducible refine (skewbaldref00_In.calls (rd l3 x12_1) 0 (wrap64 ((x11_1.length : Int) - ((rd_T50 l0_1 (rd l2 x12_1)).f0))) false _ A26.out).mono ?_
               rintro e w' ⟨rfl, ⟨nd, rfl⟩⟩
               refine ⟨_, rfl, ?_⟩
               refine hK.out _ _ ⟨bq BK377 0, bq BK377 1, bq BK377 2, (cm HB hw378_0 :)⟩ (fun hHeld => ?_)
               clear hK K
               refine nm_ (some 50) ?_
               refine pu_ (i := 10) (N := some 51) (qa_ 35 2047) ?_
               refine pu_ (i := 11) (N := some 52) (qa_ 35 4095) ?_
               refine pn_ (i := 12) (N := some 53) (qa_ 35 8191) ?_
               refine pn_ (i := 13) (N := some 54) (qa_ 35 16383) ?_
               refine pn_ (i := 14) (N := some 55) (qa_ 35 32767) ?_
               refine pn_ (i := 15) (N := some 56) (qa_ 35 65535) ?_
               refine pn_ (i := 16) (N := some 57) (qa_ 35 131071) ?_
               refine pn_ (i := 17) (N := some 58) (qa_ 35 262143) ?_
               refine pn_ (i := 18) (N := some 59) (qa_ 35 524287) ?_
               refine pn_ (i := 19) (N := some 60) (qa_ 35 1048575) ?_
               refine pn_ (i := 20) (N := some 61) (qa_ 35 2097151) ?_
               refine pn_ (i := 21) (N := some 62) (qa_ 35 4194303) ?_
               refine pn_ (i := 22) (N := some 63) (qa_ 35 8388607) ?_
               refine pn_ (i := 23) (N := some 64) (qa_ 35 16777215) ?_
               refine pn_ (i := 24) (N := some 65) (qa_ 35 33554431) ?_
               refine pn_ (i := 25) (N := some 66) (qa_ 35 67108863) ?_
               refine pn_ (i := 26) (N := some 67) (qa_ 35 134217727) ?_
               refine pn_ (i := 27) (N := some 68) (qa_ 35 268435455) ?_
               refine pn_ (i := 28) (N := some 69) (qa_ 35 536870911) ?_
               refine pn_ (i := 29) (N := some 70) (qa_ 35 1073741823) ?_
               refine pn_ (i := 30) (N := some 71) (qa_ 35 2147483647) ?_
               refine pn_ (i := 31) (N := some 72) (qa_ 35 4294967295) ?_
               refine pn_ (i := 32) (N := some 73) (qa_ 35 8589934591) ?_
               refine pn_ (i := 33) (N := some 74) (qa_ 35 17179869183) ?_
               refine pu_ (i := 34) (N := some 75) (qa_ 35 34359738367) ?_
               refine done_ (done_of HT_.out (by kernel_rfl)) ?_
               try go_wp2
               go_meet
               case rel => exact ⟨_, (true), sm, H', ⟨lo HK1⟩, ⟨bR HO_11⟩, ⟨bk⟩, ⟨bk⟩, ⟨bl⟩⟩
             ·rw [if_neg c25] at H
              exact absurd H (by simp)
            case rest =>
             clear HC19; (try clear c2); (try clear p2); (try clear c3); (try clear p3); (try clear q3); (try clear hx3); (try clear c4); (try clear p6); (try clear c25); (try clear c27); (try clear c35); (try clear c37); (try clear p37); (try clear q37); (try clear hx37); (try clear c38); (try clear p38); (try clear q38); (try clear hx38); (try clear hx378_0); (try clear hx380_0); (try clear p378); (try clear p380); (try clear q378); (try clear q380); obtain ⟨kq, x75_18, rfl, HA, HJ18, HO_11, BK370, BK377, HB⟩ := hcut
             cases kq with
             | zero => exact absurd HA.out (by simp [skewbaldlaw01_laid.j1])
             | succ kj18 =>
              have H := HA.out; clear HA
              simp only [skewbaldlaw01_laid.j1] at H
              by_cases c49 : x75_18 = true
              ·subst c49; rw [if_pos rfl] at H; obtain rfl := Option.some.inj H
               go_wp2
               go_ret
               exact ⟨by first | rfl | (simp [errW_none, errW_some] <;> rfl) | (simp [*, errW_none, errW_some] <;> rfl), bl⟩
              ·replace c49 := Bool.eq_false_iff.mpr c49; subst c49
               rw [if_neg (show ¬ (false = true) by decide)] at H
               have H' := Aside0.mk H; clear H
               go_wp2
               go_loopg [14] kj18 (fun kq v14 w' => ∃ (x11_3 : List Bool) (x14_3 : Int), v14 = .int .i64 x14_3 ∧ Aside0 (skewbaldlaw01_laid.l1 kq l2 l3 l4 x11_3 x12_1 x14_3 l0_0 l0_1 ((rd_T50 l0_1 (rd l2 x12_1)).f0) ((rd_T50 l0_1 (rd l2 x12_1)).f1) ((rd_T50 l0_1 (rd l2 x12_1)).f2) = some r) ∧ Aside0 (kq ≤ kj18) ∧ Aside0 (Kd.R Kd.bool 4 w' w.heap.size (fun _ => True) v373 x11_3) ∧ Aside0 (w'.heap[gb370]? = some (.cells #[(.slice (some ad371) l0_0.length c0_0), (.slice (some ad376) l0_1.length c0_1)] 25 (0, 0))) ∧ Aside0 (w'.heap[gb377]? = some (.cells #[.int .i64 ((rd_T50 l0_1 (rd l2 x12_1)).f0), (.slice A376_1 ((rd_T50 l0_1 (rd l2 x12_1)).f1).length c376_1), .bool ((rd_T50 l0_1 (rd l2 x12_1)).f2)] 50 (0, 0))) ∧ Aside0 (Below w.heap.size w w'))
               case atStart => exact ⟨(x11_1), (0), sm, H', ⟨Nat.le_refl _⟩, ⟨bR HO_11⟩, ⟨bk⟩, ⟨bk⟩, ⟨bl⟩⟩
               case round =>
                clear H'; (try clear c2); (try clear p2); (try clear c3); (try clear p3); (try clear q3); (try clear hx3); (try clear c4); (try clear p6); (try clear c25); (try clear c27); (try clear c35); (try clear c37); (try clear p37); (try clear q37); (try clear hx37); (try clear c38); (try clear p38); (try clear q38); (try clear hx38); (try clear c49); (try clear hx378_0); (try clear hx380_0); (try clear p378); (try clear p380); (try clear q378); (try clear q380); obtain ⟨x11_3, x14_3, rfl, HA, HK3, HO_11, BK370, BK377, HB⟩ := hrel
                cases gk with
                | zero => exact absurd HA.out (by simp [skewbaldlaw01_laid.l1])
                | succ k3 =>
                 have H := HA.out; clear HA
                 simp only [skewbaldlaw01_laid.l1] at H
                 by_cases c50 : x14_3 < ((rd_T50 l0_1 (rd l2 x12_1)).f0)
                 ·rw [if_pos c50] at H; have c50b0 := decide_eq_true c50; clear c50
                  by_cases c51 : 0 ≤ x12_1
                  ·rw [if_pos c51] at H; have c51b0 := decide_eq_true c51; clear c51
                   by_cases c52 : x12_1 < (l3.length : Int)
                   ·rw [if_pos c52] at H; have c52b0 := decide_eq_true c52; clear c52
                    obtain ⟨ji53, hji53⟩ : ∃ j_ : Int, (wrap64 ((rd l3 x12_1) + x14_3)) = j_ := ⟨_, rfl⟩
                    replace H : (if 0 ≤ (ji53) then (if (ji53) < (x11_3.length : Int) then (if rdOf false x11_3 (ji53) = true then (some false) else (skewbaldlaw01_laid.l1 k3 l2 l3 l4 (x11_3.set ((ji53) : Int).toNat true) x12_1 (wrap64 (x14_3 + 1)) l0_0 l0_1 ((rd_T50 l0_1 (rd l2 x12_1)).f0) ((rd_T50 l0_1 (rd l2 x12_1)).f1) ((rd_T50 l0_1 (rd l2 x12_1)).f2))) else (none)) else (none)) = some r := by first | (rw [hji53] at H; exact H) | (simp only [hji53] at H ⊢; exact H)
                    have hji53w : (IntKind.i64.wrap ((rd l3 x12_1) + x14_3)) = ji53 := (i64_w _).trans hji53
                    by_cases c54 : 0 ≤ (ji53)
                    ·rw [if_pos c54] at H; have c54b0 := decide_eq_true c54; clear c54
                     by_cases c55 : (ji53) < (x11_3.length : Int)
                     ·rw [if_pos c55] at H; have c55b0 := decide_eq_true c55; clear c55
                      obtain ⟨bq56, hbq56⟩ : ∃ b_ : Bool, b_ = (rdOf false x11_3 (ji53)) := ⟨_, rfl⟩
                      replace H : (if bq56 = true then (some false) else (skewbaldlaw01_laid.l1 k3 l2 l3 l4 (x11_3.set ((ji53) : Int).toNat true) x12_1 (wrap64 (x14_3 + 1)) l0_0 l0_1 ((rd_T50 l0_1 (rd l2 x12_1)).f0) ((rd_T50 l0_1 (rd l2 x12_1)).f1) ((rd_T50 l0_1 (rd l2 x12_1)).f2))) = some r := by rw [← hbq56] at H; exact H
                      have Nbq56 := Aside0.mk hbq56; clear hbq56
                      by_cases c57 : bq56 = true
                      ·subst c57; rw [if_pos rfl] at H; obtain rfl := Option.some.inj H; have hnb58 := NB377_370.out; have hnc58 := NB370_377.out; obtain ⟨hcz59_0, hcz59_1, hcz59_2, hfz59_0, hfz59_1, hfz59_2⟩ := b3 (w := wr) BK377
                       have p384 : 0 ≤ (x12_1 : Int) := od
                       have q384 : x12_1 < (l3.length : Int) := od
                       obtain ⟨ad384, e384, hx384_0⟩ := Kd.at_int HR3.out x12_1 p384 q384
                       cases e384
                       replace hx384_0 := cm HB hx384_0; replace p384 := eq_true p384; replace q384 := eq_true q384; obtain ⟨Ao60, co60, eo60⟩ := Kd.R_slice HO_11.out; subst eo60
                       have p385 : 0 ≤ ((ji53) : Int) := od
                       have q385 : (ji53) < (x11_3.length : Int) := od
                       obtain ⟨ad385, e385, hx385_0⟩ := Kd.at_bool (Kd.R_reads' HO_11.out).2.2 (ji53) p385 q385
                       (try rw [← Nbq56.out] at hx385_0)
                       cases e385
                       replace p385 := eq_true p385; replace q385 := eq_true q385
                       go_wp2
                       go_ret
                       exact ⟨by first | rfl | (simp [errW_none, errW_some] <;> rfl) | (simp only [← hji53]; first | rfl | (simp [errW_none, errW_some] <;> rfl)) | (simp [*, errW_none, errW_some] <;> rfl), bl⟩
                      ·replace c57 := Bool.eq_false_iff.mpr c57; subst c57
                       rw [if_neg (show ¬ (false = true) by decide)] at H
                       obtain ⟨y387, hy387⟩ : ∃ y_ : List Bool, y_ = (x11_3.set ((ji53) : Int).toNat true) := ⟨_, rfl⟩
                       replace H : (skewbaldlaw01_laid.l1 k3 l2 l3 l4 y387 x12_1 (wrap64 (x14_3 + 1)) l0_0 l0_1 ((rd_T50 l0_1 (rd l2 x12_1)).f0) ((rd_T50 l0_1 (rd l2 x12_1)).f1) ((rd_T50 l0_1 (rd l2 x12_1)).f2)) = some r := tr H hy387
                       have Ny387 := Aside0.mk hy387; clear hy387; have H' := Aside0.mk H; clear H; have hnb62 := NB377_370.out; have hnc62 := NB370_377.out; obtain ⟨hcz63_0, hcz63_1, hcz63_2, hfz63_0, hfz63_1, hfz63_2⟩ := b3 (w := wr) BK377
                       have p384 : 0 ≤ (x12_1 : Int) := od
                       have q384 : x12_1 < (l3.length : Int) := od
                       obtain ⟨ad384, e384, hx384_0⟩ := Kd.at_int HR3.out x12_1 p384 q384
                       cases e384
                       replace hx384_0 := cm HB hx384_0; replace p384 := eq_true p384; replace q384 := eq_true q384; obtain ⟨Ao64, co64, eo64⟩ := Kd.R_slice HO_11.out; subst eo64
                       have p385 : 0 ≤ ((ji53) : Int) := od
                       have q385 : (ji53) < (x11_3.length : Int) := od
                       obtain ⟨ad385, e385, hx385_0⟩ := Kd.at_bool (Kd.R_reads' HO_11.out).2.2 (ji53) p385 q385
                       (try rw [← Nbq56.out] at hx385_0)
                       cases e385
                       replace p385 := eq_true p385; replace q385 := eq_true q385
                       have p386 : 0 ≤ (x12_1 : Int) := od
                       have q386 : x12_1 < (l3.length : Int) := od
                       obtain ⟨ad386, e386, hx386_0⟩ := Kd.at_int HR3.out x12_1 p386 q386
                       obtain rfl : ad384 = ad386 := (by injection e386)
                       replace hx386_0 := cm HB hx386_0; replace p386 := eq_true p386; replace q386 := eq_true q386
                       have p61 : 0 ≤ ((ji53) : Int) := od
                       have q61 : ((ji53) : Int) < ((x11_3.length : Int) : Int) := od
                       obtain ⟨go61, co61, eo61, gb61, gl61, cl61, HG61⟩ := Kd.R_form HO_11.out (by omega)
                       (first | cases eo61 | (injection eo61 with ea_ en_ ec_; (first | subst ea_ | (injection ea_ with ea_; subst ea_)); subst ec_; clear en_))
                       have GB61 := Aside0.mk gb61; have GG61 := Aside0.mk HG61; clear gb61 gl61 HG61
                       (first | simp only [add_plain] at hx385_0 | skip)
                       obtain ⟨hx61_0, hf61_0⟩ := Kd.R_celln false HO_11.out ((ji53) : Int) p61 q61; replace p61 := eq_true p61; replace q61 := eq_true q61; have HP65 := Kd.R_putg HO_11.out ((ji53) : Int) true
                       go_wp2_with (first | ((with_reducible refine gate_store (t := 4) (p := 98) rfl ?_); refine store_event (t := 4) (p := 98) (v := ?vo_w66) (w1 := (wr.setCell ⟨go61, ((ji53) : Int).toNat, none⟩ (.bool true))) ?hg ?ho ?hn ?hr ?_; (case ho => rfl); (case hg => rfl); (case hn => rfl); (case hr => first | (go_simp; done) | (go_simp; rfl)); intro w66 hw; have hg : wr.grownBy w66 (some go61) := (by rw [hw]; exact HP65.2); have hp_ : Kd.R Kd.bool 4 w66 w.heap.size (fun _ => True) (.slice (some ⟨go61, 0, none⟩) x11_3.length co64) y387 := (by rw [hw, Ny387.out]; exact HP65.1); clear HP65; have n0_ := Aside0.mk (hp_); have n1_ := Aside0.mk (blk_grown (g := gb370) (o := .cells #[.slice (some ad371) l0_0.length c0_0, .slice (some ad376) l0_1.length c0_1] 25 (0, 0)) bk hg (Kd.R_ne HO_11.out BK370.out (by decide))); have n2_ := Aside0.mk (blk_grown (g := gb377) (o := .cells #[.int .i64 ((rd_T50 l0_1 (rd l2 x12_1)).f0), .slice A376_1 ((rd_T50 l0_1 (rd l2 x12_1)).f1).length c376_1, .bool ((rd_T50 l0_1 (rd l2 x12_1)).f2)] 50 (0, 0)) bk hg (Kd.R_ne HO_11.out BK377.out (by decide))); have n3_ := Aside0.mk ((by rw [hw]; exact below_set (HB.out) GB61.out : Below w.heap.size w w66)); clear HO_11; clear BK370; clear BK377; clear HB; have HO_11 := n0_; have BK370 := n1_; have BK377 := n2_; have HB := n3_; clear n0_ n1_ n2_ n3_; clear hg hw hp_))
                       go_roundg k3
                       case measure => have := HK1.out; have := HJ18.out; have := HK3.out; omega
                       case rel => exact ⟨(y387), (wrap64 (x14_3 + 1)), sm, H', ⟨by have := HK1.out; have := HJ18.out; have := HK3.out; omega⟩, ⟨bR HO_11⟩, ⟨bk⟩, ⟨bk⟩, ⟨bl⟩⟩
                     ·rw [if_neg c55] at H
                      exact absurd H (by simp)
                    ·rw [if_neg c54] at H
                     exact absurd H (by simp)
                   ·rw [if_neg c52] at H
                    exact absurd H (by simp)
                  ·rw [if_neg c51] at H
                   exact absurd H (by simp)
                 ·rw [if_neg c50] at H
                  have c50b0 : decide (x14_3 < ((rd_T50 l0_1 (rd l2 x12_1)).f0)) = false := decide_eq_false c50
                  clear c50; have H' := Aside0.mk H; clear H; have hnb67 := NB377_370.out; have hnc67 := NB370_377.out; obtain ⟨hcz68_0, hcz68_1, hcz68_2, hfz68_0, hfz68_1, hfz68_2⟩ := b3 (w := wr) BK377
                  go_wp2
                  go_roundg k3
                  case measure => have := HK1.out; have := HJ18.out; have := HK3.out; omega
                  case rel => exact ⟨(x11_3), (wrap64 (x12_1 + 1)), sm, H', ⟨by have := HK1.out; have := HJ18.out; have := HK3.out; omega⟩, ⟨bR HO_11⟩, ⟨bk⟩, ⟨bl⟩⟩
           ·rw [if_neg c18] at H
            exact absurd H (by simp)
          ·rw [if_neg c17] at H
           exact absurd H (by simp)
         ·rw [if_neg c16] at H
          exact absurd H (by simp)
        ·rw [if_neg c15] at H
         have c15b0 : decide (x12_1 < (l2.length : Int)) = false := decide_eq_false c15
         clear c15; obtain rfl := Option.some.inj H
         go_wp2
         go_ret
         exact ⟨by first | rfl | (simp [errW_none, errW_some] <;> rfl) | (simp [*, errW_none, errW_some] <;> rfl), bl⟩
     ·rw [if_neg c10] at H
      exact absurd H (by simp)
    ·rw [if_neg c9] at H
     exact absurd H (by simp)
   ·rw [if_neg c8] at H
    exact absurd H (by simp)
  ·rw [if_neg c7] at H
   exact absurd H (by simp)
 ·rw [if_neg c6] at H
  have c6b0 : ((l3.length : Int) == (l2.length : Int)) = false := beq_eq_false_iff_ne.mpr c6
  have c6b1 : ((l3.length : Int) != (l2.length : Int)) = true := bne_iff_ne.mpr c6
  have c6b2 : (l3.length == l2.length) = false := by first | simpa using c6 | (simp at c6 ⊢; omega)
  obtain rfl := Option.some.inj H
  go_enter Tryd.func41, Tryd.ntmps41
  go_wp2_with (first | (refine bx 5 #[.slice A0_0 l0_0.length c0_0, .slice A0_1 l0_1.length c0_1] 25 ?_; intro gb370 hg w69 hbox hb; have BK370 := Aside0.mk hbox; have GW370 := gw hg HB; have GE370 := gw hg HB; replace HB := hs HB hb; clear hb hbox hg))
  go_ret
  exact ⟨by first | rfl | (simp [errW_none, errW_some] <;> rfl) | (simp [*, errW_none, errW_some] <;> rfl), bl⟩
end Go.Proofs.YtekjlpldooihhaaDoor.PT
