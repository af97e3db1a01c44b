/- Printed by a program (prx.py). -/
import Derived.Test.YtdllacjkacmghaaDoorDTx0
import Derived.Test.YtdllacjkacmghaaDoorDTx2
import Derived.Test.YtdllacjkacmghaaDoorDTx3
import Derived.Test.YtdllacjkacmghaaDoorDTx8
import Derived.Test.YtdllacjkacmghaaDoorDTx13
namespace Go.Proofs.YtdllacjkacmghaaDoor.DT
open Go.Proofs.YtdllacjkacmghaaDoorD Go.Proofs.YtdllacjkacmghaaDoorK
open Go.RowKit Go.Proofs.YtdllacjkacmghaaDoorW.PrintWords Go.Proofs.YtdllacjkacmghaaDoorW.PrintLast Go.Proofs.YtdllacjkacmghaaDoorW.PrintMore
attribute [local go_sem] max2_int min2_int max_two min_two max_three min_three max_four min_four   -- for this text's walks alone
set_option linter.unusedVariables false
set_option linter.unusedSimpArgs false

/-! ### skewbaldlaw07_DappleDrop: function 10 -/
def skewbaldlaw07_DappleDrop.j0 : Nat → Int → List Int → List (List Int) → Bool → Option (Bool)
 | 0, _, _, _, _ => none
 | k + 1, x1, x5, x7, x68 => if x68 = true then (some false) else ((skewbaldref00_Round.f x1 (shl .i64 1 (x7.length : Int))).bind fun t482 => ((skewbaldref00_List.f k t482 (x7.length : Int)).bind fun t483 => ((skewbaldref00_Shorter.f k t483 x5).bind fun t486 => (if t486 = true then ((skewbaldlaw07_apart.f k x7 t483).bind fun t487 => (if t487 = true then (some false) else ((skewbaldlaw07_pressed.f k).bind fun t488 => (some t488)))) else ((skewbaldlaw07_pressed.f k).bind fun t489 => (some t489))))))
def skewbaldlaw07_DappleDrop.f (k : Nat) (a0_0 : Int) (l0_1 : List (List Int)) (a1 : Int) : Option (Bool) := (dapple_Drop.f a0_0 l0_1).bind fun bt468 => ((skewbaldlaw07_sound.f k a0_0 l0_1).bind fun t472 => (if t472 = true then ((skewbaldlaw07_kinds.f k a0_0 l0_1).bind fun t474 => ((dapple_Clash.f a0_0 l0_1).bind fun bt477 => (if bt468.2 = 0 then (if (t474.length : Int) = (l0_1.length : Int) then ((skewbaldref00_Grows.f k bt468.1 (t474.length : Int)).bind fun t480 => (if t480 = true then (if (((bt468.1.length : Int) == 0) != (bt477.2.2 == 4)) = true then (skewbaldlaw07_DappleDrop.j0 k a1 bt468.1 t474 true) else ((skewbaldlaw07_apart.f k t474 bt468.1).bind fun t481 => (skewbaldlaw07_DappleDrop.j0 k a1 bt468.1 t474 (!t481)))) else (skewbaldlaw07_DappleDrop.j0 k a1 bt468.1 t474 true))) else (skewbaldlaw07_DappleDrop.j0 k a1 bt468.1 t474 true)) else (skewbaldlaw07_DappleDrop.j0 k a1 bt468.1 t474 true)))) else (if bt468.2 = 70 then (if (bt468.1.length : Int) = 0 then ((skewbaldlaw07_pressed.f k).bind fun t473 => (some t473)) else (some false)) else (some false))))
set_option maxHeartbeats 8000000 in
set_option maxRecDepth 100000 in
theorem skewbaldlaw07_DappleDrop.calls (k : Nat) (a0_0 : Int) (A0_1 : Option Addr) (c0_1 : Nat) (l0_1 : List (List Int)) (a1 : Int) (w : World) (hr0_1 : Kd.C (Kd.slice 3 (Kd.int .i64)) w A0_1 l0_1.length l0_1) (hc0_1 : l0_1.length ≤ c0_1) (hG : Glob w) (h : skewbaldlaw07_DappleDrop.f k a0_0 l0_1 a1 = some true) :
  Calls Tryd.prog 10 #[.agg #[.int .i64 a0_0, .slice A0_1 l0_1.length c0_1], .int .i64 a1] w fun e w' => e = .returned (.bool true) ∧ Below w.heap.size w w' := by
 have hu24 := Tryd.underlying24
 have HR0_1 := Aside0.mk hr0_1
 have HC0_1 := Aside0.mk hc0_1
 clear hr0_1 hc0_1
 have HGL := Aside0.mk hG
 clear hG
 have HB := Aside0.mk (Below.refl w.heap.size w)
 have H : ((dapple_Drop.f a0_0 l0_1).bind fun bt468 => ((skewbaldlaw07_sound.f k a0_0 l0_1).bind fun t472 => (if t472 = true then ((skewbaldlaw07_kinds.f k a0_0 l0_1).bind fun t474 => ((dapple_Clash.f a0_0 l0_1).bind fun bt477 => (if bt468.2 = 0 then (if (t474.length : Int) = (l0_1.length : Int) then ((skewbaldref00_Grows.f k bt468.1 (t474.length : Int)).bind fun t480 => (if t480 = true then (if (((bt468.1.length : Int) == 0) != (bt477.2.2 == 4)) = true then (skewbaldlaw07_DappleDrop.j0 k a1 bt468.1 t474 true) else ((skewbaldlaw07_apart.f k t474 bt468.1).bind fun t481 => (skewbaldlaw07_DappleDrop.j0 k a1 bt468.1 t474 (!t481)))) else (skewbaldlaw07_DappleDrop.j0 k a1 bt468.1 t474 true))) else (skewbaldlaw07_DappleDrop.j0 k a1 bt468.1 t474 true)) else (skewbaldlaw07_DappleDrop.j0 k a1 bt468.1 t474 true)))) else (if bt468.2 = 70 then (if (bt468.1.length : Int) = 0 then ((skewbaldlaw07_pressed.f k).bind fun t473 => (some t473)) else (some false)) else (some false))))) = some true := h
 clear h
 replace H := Option.bind_eq_some_iff.mp H
 obtain ⟨⟨t468, t471⟩, A30, H⟩ := H
 replace H : ((skewbaldlaw07_sound.f k a0_0 l0_1).bind fun t472 => (if t472 = true then ((skewbaldlaw07_kinds.f k a0_0 l0_1).bind fun t474 => ((dapple_Clash.f a0_0 l0_1).bind fun bt477 => (if t471 = 0 then (if (t474.length : Int) = (l0_1.length : Int) then ((skewbaldref00_Grows.f k t468 (t474.length : Int)).bind fun t480 => (if t480 = true then (if (((t468.length : Int) == 0) != (bt477.2.2 == 4)) = true then (skewbaldlaw07_DappleDrop.j0 k a1 t468 t474 true) else ((skewbaldlaw07_apart.f k t474 t468).bind fun t481 => (skewbaldlaw07_DappleDrop.j0 k a1 t468 t474 (!t481)))) else (skewbaldlaw07_DappleDrop.j0 k a1 t468 t474 true))) else (skewbaldlaw07_DappleDrop.j0 k a1 t468 t474 true)) else (skewbaldlaw07_DappleDrop.j0 k a1 t468 t474 true)))) else (if t471 = 70 then (if (t468.length : Int) = 0 then ((skewbaldlaw07_pressed.f k).bind fun t473 => (some t473)) else (some false)) else (some false)))) = some true := H
 have A3 := Aside0.mk A30
 clear A30
 replace H := Option.bind_eq_some_iff.mp H
 obtain ⟨t472, A40, H⟩ := H
 replace H : (if t472 = true then ((skewbaldlaw07_kinds.f k a0_0 l0_1).bind fun t474 => ((dapple_Clash.f a0_0 l0_1).bind fun bt477 => (if t471 = 0 then (if (t474.length : Int) = (l0_1.length : Int) then ((skewbaldref00_Grows.f k t468 (t474.length : Int)).bind fun t480 => (if t480 = true then (if (((t468.length : Int) == 0) != (bt477.2.2 == 4)) = true then (skewbaldlaw07_DappleDrop.j0 k a1 t468 t474 true) else ((skewbaldlaw07_apart.f k t474 t468).bind fun t481 => (skewbaldlaw07_DappleDrop.j0 k a1 t468 t474 (!t481)))) else (skewbaldlaw07_DappleDrop.j0 k a1 t468 t474 true))) else (skewbaldlaw07_DappleDrop.j0 k a1 t468 t474 true)) else (skewbaldlaw07_DappleDrop.j0 k a1 t468 t474 true)))) else (if t471 = 70 then (if (t468.length : Int) = 0 then ((skewbaldlaw07_pressed.f k).bind fun t473 => (some t473)) else (some false)) else (some false))) = some true := H
 have A4 := Aside0.mk A40
 clear A40
 by_cases c5 : t472 = true
 ·subst c5
  have H1 : ((skewbaldlaw07_kinds.f k a0_0 l0_1).bind fun t474 => ((dapple_Clash.f a0_0 l0_1).bind fun bt477 => (if t471 = 0 then (if (t474.length : Int) = (l0_1.length : Int) then ((skewbaldref00_Grows.f k t468 (t474.length : Int)).bind fun t480 => (if t480 = true then (if (((t468.length : Int) == 0) != (bt477.2.2 == 4)) = true then (skewbaldlaw07_DappleDrop.j0 k a1 t468 t474 true) else ((skewbaldlaw07_apart.f k t474 t468).bind fun t481 => (skewbaldlaw07_DappleDrop.j0 k a1 t468 t474 (!t481)))) else (skewbaldlaw07_DappleDrop.j0 k a1 t468 t474 true))) else (skewbaldlaw07_DappleDrop.j0 k a1 t468 t474 true)) else (skewbaldlaw07_DappleDrop.j0 k a1 t468 t474 true)))) = some true := by rw [if_pos rfl] at H; exact H
  clear H
  have H := H1
  clear H1
  replace H := Option.bind_eq_some_iff.mp H
  obtain ⟨t474, A60, H⟩ := H
  replace H : ((dapple_Clash.f a0_0 l0_1).bind fun bt477 => (if t471 = 0 then (if (t474.length : Int) = (l0_1.length : Int) then ((skewbaldref00_Grows.f k t468 (t474.length : Int)).bind fun t480 => (if t480 = true then (if (((t468.length : Int) == 0) != (bt477.2.2 == 4)) = true then (skewbaldlaw07_DappleDrop.j0 k a1 t468 t474 true) else ((skewbaldlaw07_apart.f k t474 t468).bind fun t481 => (skewbaldlaw07_DappleDrop.j0 k a1 t468 t474 (!t481)))) else (skewbaldlaw07_DappleDrop.j0 k a1 t468 t474 true))) else (skewbaldlaw07_DappleDrop.j0 k a1 t468 t474 true)) else (skewbaldlaw07_DappleDrop.j0 k a1 t468 t474 true))) = some true := H
  have A6 := Aside0.mk A60
  clear A60
  replace H := Option.bind_eq_some_iff.mp H
  obtain ⟨⟨t477, t478, t479⟩, A70, H⟩ := H
  replace H : (if t471 = 0 then (if (t474.length : Int) = (l0_1.length : Int) then ((skewbaldref00_Grows.f k t468 (t474.length : Int)).bind fun t480 => (if t480 = true then (if (((t468.length : Int) == 0) != (t479 == 4)) = true then (skewbaldlaw07_DappleDrop.j0 k a1 t468 t474 true) else ((skewbaldlaw07_apart.f k t474 t468).bind fun t481 => (skewbaldlaw07_DappleDrop.j0 k a1 t468 t474 (!t481)))) else (skewbaldlaw07_DappleDrop.j0 k a1 t468 t474 true))) else (skewbaldlaw07_DappleDrop.j0 k a1 t468 t474 true)) else (skewbaldlaw07_DappleDrop.j0 k a1 t468 t474 true)) = some true := H
  have A7 := Aside0.mk A70
  clear A70
  have HC8 := Aside0.mk H
  clear H
  go_enter Tryd.func10, Tryd.ntmps10
  go_upto_region 6 with (first | ((with_reducible refine gate_dst (N := 2) rfl ?_); (try (refine gate_guard (by rfl) ?_; dsimp only)); refine box_event ?hg (N := 2) ?hd (cs := #[.int .i64 a0_0, .slice A0_1 l0_1.length c0_1]) (t := 24) ?hr ?_; (case hd => rfl); (case hg => rfl); (case hr => first | (go_simp; done) | (go_simp; rfl)); intro gb467 hg w9 hbox hb; have n0_ := Aside0.mk (below_step (by repeat (first | (with_reducible first | exact HB.out | apply below_alloc | apply pw_below_drewN | apply below_drew1) | exact HB.out)) hb); have n1_ := Aside0.mk (hbox); have n2_ := Aside0.mk ((by rw [hg]; exact (below_size (by repeat (first | (with_reducible first | exact HB.out | apply below_alloc | apply pw_below_drewN | apply below_drew1) | exact HB.out))) : w.heap.size ≤ gb467)); have n3_ := Aside0.mk ((by rw [hg]; exact (below_size (by repeat (first | (with_reducible first | exact HB.out | apply below_alloc | apply pw_below_drewN | apply below_drew1) | exact HB.out))) : w.heap.size ≤ gb467)); clear HB; have HB := n0_; have BK467 := n1_; have GW467 := n2_; have GE467 := n3_; clear n0_ n1_ n2_ n3_; clear hb hbox hg; have hcz10_0 : w9.cell? ⟨gb467, 0, none⟩ = some (.int .i64 a0_0) := (blk_cell BK467.out 0).trans rfl; have hcz10_1 : w9.cell? ⟨gb467, 1, none⟩ = some (.slice A0_1 l0_1.length c0_1) := (blk_cell BK467.out 1).trans rfl; have hfz10_0 := blk_frozen BK467.out 0; have hfz10_1 := blk_frozen BK467.out 1) | ((with_reducible refine gate_callee (f := 42) rfl ?_); refine goesL_ (some 14) rfl rfl Tryd.func42 (by kernel_rfl) rfl #[.agg #[.int .i64 a0_0, .slice A0_1 l0_1.length c0_1]] rfl (by (try simp only [List.map_toArray, List.map_cons, List.map_nil]); first | done | rfl | (simp only [List.length_drop, List.length_take]; rfl)) ?_; (with_reducible refine (dapple_Drop.calls a0_0 _ _ l0_1 t468 t471 _ ?side1 ?side2 ?side3 A3.out).mono ?_); (case side1 => repeat (first | exact (Kd.C_below HR0_1.out HB.out) | (with_reducible refine Kd.C_alloc ?_ _) | (with_reducible refine Kd.C_drewN ?_ _) | (with_reducible refine Kd.C_drew ?_))); (case side2 => exact HC0_1.out); (case side3 => exact Glob.below HGL.out (by repeat (first | (with_reducible first | exact HB.out | apply below_alloc | apply pw_below_drewN | apply below_drew1 | refine below_set ?_ GE467.out) | exact HB.out))); rintro e w11 ⟨v469, rfl, ho0, hb⟩; refine ⟨_, rfl, ?_⟩; have n0_ := Aside0.mk (Kd.V_lower (Kd.V_mono (ok' := fun k_ => k_ ≠ gb467) ho0 (fun k_ hk_ => (Kd.freshB (g := gb467) (o := .cells #[.int .i64 a0_0, .slice A0_1 l0_1.length c0_1] 24 (0, 0)) (by (with_reducible repeat (first | refine blk_drewN ?_ _ | refine blk_drew ?_ | refine blk_alloc ?_ _)); exact BK467.out) k_ hk_))) (below_size (by repeat (first | (with_reducible first | exact HB.out | apply below_alloc | apply pw_below_drewN | apply below_drew1 | refine below_set ?_ GE467.out) | exact HB.out)))); have n1_ := Aside0.mk (blk_below (g := gb467) (o := .cells #[.int .i64 a0_0, .slice A0_1 l0_1.length c0_1] 24 (0, 0)) (by (with_reducible repeat (first | refine blk_drewN ?_ _ | refine blk_drew ?_ | refine blk_alloc ?_ _)); exact BK467.out) hb); have n2_ := Aside0.mk (below_step (by repeat (first | (with_reducible first | exact HB.out | apply below_alloc | apply pw_below_drewN | apply below_drew1 | refine below_set ?_ GE467.out) | exact HB.out)) hb); clear BK467; clear HB; have HO470 := n0_; have BK467 := n1_; have HB := n2_; clear n0_ n1_ n2_; (try clear hb); (try clear hb2); (try clear hk); (try clear hi); (try clear ho0); have hcz12_0 : w11.cell? ⟨gb467, 0, none⟩ = some (.int .i64 a0_0) := (blk_cell BK467.out 0).trans rfl; have hcz12_1 : w11.cell? ⟨gb467, 1, none⟩ = some (.slice A0_1 l0_1.length c0_1) := (blk_cell BK467.out 1).trans rfl; have hfz12_0 := blk_frozen BK467.out 0; have hfz12_1 := blk_frozen BK467.out 1) | ((with_reducible refine gate_callee (f := 29) rfl ?_); refine goesL_ (some 18) rfl rfl Tryd.func29 (by kernel_rfl) rfl #[.agg #[.int .i64 a0_0, .slice A0_1 l0_1.length c0_1]] rfl (by (try simp only [List.map_toArray, List.map_cons, List.map_nil]); first | done | rfl | (simp only [List.length_drop, List.length_take]; rfl)) ?_; (with_reducible refine (skewbaldlaw07_sound.calls k a0_0 _ _ l0_1 true _ ?side1 ?side2 A4.out).mono ?_); (case side1 => repeat (first | exact (Kd.C_below HR0_1.out HB.out) | (with_reducible refine Kd.C_alloc ?_ _) | (with_reducible refine Kd.C_drewN ?_ _) | (with_reducible refine Kd.C_drew ?_))); (case side2 => exact HC0_1.out); rintro e w13 ⟨rfl, hb⟩; refine ⟨_, rfl, ?_⟩; have n0_ := Aside0.mk (Kd.V_below (by (with_reducible repeat (first | apply Kd.V_alloc | apply Kd.V_drewN | apply Kd.V_drew)); exact HO470.out) hb); have n1_ := Aside0.mk (blk_below (g := gb467) (o := .cells #[.int .i64 a0_0, .slice A0_1 l0_1.length c0_1] 24 (0, 0)) (by (with_reducible repeat (first | refine blk_drewN ?_ _ | refine blk_drew ?_ | refine blk_alloc ?_ _)); exact BK467.out) hb); have n2_ := Aside0.mk (below_step (by repeat (first | (with_reducible first | exact HB.out | apply below_alloc | apply pw_below_drewN | apply below_drew1 | refine below_set ?_ GE467.out) | exact HB.out)) hb); clear HO470; clear BK467; clear HB; have HO470 := n0_; have BK467 := n1_; have HB := n2_; clear n0_ n1_ n2_; (try clear hb); (try clear hb2); (try clear hk); (try clear hi); have hcz14_0 : w13.cell? ⟨gb467, 0, none⟩ = some (.int .i64 a0_0) := (blk_cell BK467.out 0).trans rfl; have hcz14_1 : w13.cell? ⟨gb467, 1, none⟩ = some (.slice A0_1 l0_1.length c0_1) := (blk_cell BK467.out 1).trans rfl; have hfz14_0 := blk_frozen BK467.out 0; have hfz14_1 := blk_frozen BK467.out 1) | ((with_reducible refine gate_callee (f := 43) rfl ?_); refine goesL_ (some 31) rfl rfl Tryd.func43 (by kernel_rfl) rfl #[.agg #[.int .i64 a0_0, .slice A0_1 l0_1.length c0_1]] rfl (by (try simp only [List.map_toArray, List.map_cons, List.map_nil]); first | done | rfl | (simp only [List.length_drop, List.length_take]; rfl)) ?_; (with_reducible refine (skewbaldlaw07_kinds.calls k a0_0 _ _ l0_1 t474 _ ?side1 ?side2 ?side3 A6.out).mono ?_); (case side1 => repeat (first | exact (Kd.C_below HR0_1.out HB.out) | (with_reducible refine Kd.C_alloc ?_ _) | (with_reducible refine Kd.C_drewN ?_ _) | (with_reducible refine Kd.C_drew ?_))); (case side2 => exact HC0_1.out); (case side3 => exact Glob.below HGL.out (by repeat (first | (with_reducible first | exact HB.out | apply below_alloc | apply pw_below_drewN | apply below_drew1 | refine below_set ?_ GE467.out) | exact HB.out))); rintro e w15 ⟨v475, rfl, ho0, hb⟩; refine ⟨_, rfl, ?_⟩; have n0_ := Aside0.mk (Kd.V_elder' (by (with_reducible repeat (first | apply Kd.V_alloc | apply Kd.V_drewN | apply Kd.V_drew)); exact HO470.out) (Kd.S_base ho0) hb); have n1_ := Aside0.mk (Kd.S_lower ho0 (below_size (by repeat (first | (with_reducible first | exact HB.out | apply below_alloc | apply pw_below_drewN | apply below_drew1 | refine below_set ?_ GE467.out) | exact HB.out)))); have n2_ := Aside0.mk (blk_below (g := gb467) (o := .cells #[.int .i64 a0_0, .slice A0_1 l0_1.length c0_1] 24 (0, 0)) (by (with_reducible repeat (first | refine blk_drewN ?_ _ | refine blk_drew ?_ | refine blk_alloc ?_ _)); exact BK467.out) hb); have n3_ := Aside0.mk (below_step (by repeat (first | (with_reducible first | exact HB.out | apply below_alloc | apply pw_below_drewN | apply below_drew1 | refine below_set ?_ GE467.out) | exact HB.out)) hb); clear HO470; clear BK467; clear HB; have HO470 := n0_; have HO476 := n1_; have BK467 := n2_; have HB := n3_; clear n0_ n1_ n2_ n3_; (try clear hb); (try clear hb2); (try clear hk); (try clear hi); (try clear ho0); have hcz16_0 : w15.cell? ⟨gb467, 0, none⟩ = some (.int .i64 a0_0) := (blk_cell BK467.out 0).trans rfl; have hcz16_1 : w15.cell? ⟨gb467, 1, none⟩ = some (.slice A0_1 l0_1.length c0_1) := (blk_cell BK467.out 1).trans rfl; have hfz16_0 := blk_frozen BK467.out 0; have hfz16_1 := blk_frozen BK467.out 1) | ((with_reducible refine gate_callee (f := 44) rfl ?_); refine goesL_ (some 34) rfl rfl Tryd.func44 (by kernel_rfl) rfl #[.agg #[.int .i64 a0_0, .slice A0_1 l0_1.length c0_1]] rfl (by (try simp only [List.map_toArray, List.map_cons, List.map_nil]); first | done | rfl | (simp only [List.length_drop, List.length_take]; rfl)) ?_; (with_reducible refine (dapple_Clash.calls a0_0 _ _ l0_1 t477 t478 t479 _ ?side1 ?side2 ?side3 A7.out).mono ?_); (case side1 => repeat (first | exact (Kd.C_below HR0_1.out HB.out) | (with_reducible refine Kd.C_alloc ?_ _) | (with_reducible refine Kd.C_drewN ?_ _) | (with_reducible refine Kd.C_drew ?_))); (case side2 => exact HC0_1.out); (case side3 => exact Glob.below HGL.out (by repeat (first | (with_reducible first | exact HB.out | apply below_alloc | apply pw_below_drewN | apply below_drew1 | refine below_set ?_ GE467.out) | exact HB.out))); rintro e w17 ⟨rfl, hb⟩; refine ⟨_, rfl, ?_⟩; have n0_ := Aside0.mk (Kd.V_below (by (with_reducible repeat (first | apply Kd.V_alloc | apply Kd.V_drewN | apply Kd.V_drew)); exact HO470.out) hb); have n1_ := Aside0.mk (Kd.S_below (by (with_reducible repeat (first | apply Kd.S_alloc | apply Kd.S_drewN | apply Kd.S_drew)); exact HO476.out) hb); have n2_ := Aside0.mk (blk_below (g := gb467) (o := .cells #[.int .i64 a0_0, .slice A0_1 l0_1.length c0_1] 24 (0, 0)) (by (with_reducible repeat (first | refine blk_drewN ?_ _ | refine blk_drew ?_ | refine blk_alloc ?_ _)); exact BK467.out) hb); have n3_ := Aside0.mk (below_step (by repeat (first | (with_reducible first | exact HB.out | apply below_alloc | apply pw_below_drewN | apply below_drew1 | refine below_set ?_ GE467.out) | exact HB.out)) hb); clear HO470; clear HO476; clear BK467; clear HB; have HO470 := n0_; have HO476 := n1_; have BK467 := n2_; have HB := n3_; clear n0_ n1_ n2_ n3_; (try clear hb); (try clear hb2); (try clear hk); (try clear hi)))
  (try simp only [Act.put, List.setIfInBounds_toArray, List.set_cons_zero, List.set_cons_succ])
  go_cut [68] (fun v68 wc => ∃ (kq : Nat) (x68_7 : Bool), v68 = .bool x68_7 ∧ Aside0 (skewbaldlaw07_DappleDrop.j0 kq a1 t468 t474 x68_7 = some true) ∧ Aside0 (kq ≤ k) ∧ Aside0 (Kd.V (Kd.int .i64) 3 wc w.heap.size (fun k_ => some k_ ≠ (v475 : Value).ownBlock ∧ k_ ≠ gb467) v469 t468) ∧ Aside0 (Kd.S (Kd.slice 3 (Kd.int .i64)) 26 wc w.heap.size (fun _ => True) v475 t474) ∧ Aside0 (wc.heap[gb467]? = some (.cells #[.int .i64 a0_0, (.slice A0_1 l0_1.length c0_1)] 24 (0, 0))) ∧ Aside0 (Below w.heap.size w wc))
  case first =>
   have H := HC8.out
   clear HC8
   by_cases c18 : t471 = 0
   ·rw [if_pos c18] at H
    have c18b0 : (t471 == 0) = true := beq_iff_eq.mpr c18
    have c18b1 : (t471 != 0) = false := bne_eq_false_iff_eq.mpr c18
    clear c18
    (first | rw [c18b0] | (simp only [i64_w, i32_w]; rw [c18b0]) | skip)
    by_cases c19 : (t474.length : Int) = (l0_1.length : Int)
    ·rw [if_pos c19] at H
     have c19b0 : ((t474.length : Int) == (l0_1.length : Int)) = true := beq_iff_eq.mpr c19
     have c19b1 : ((t474.length : Int) != (l0_1.length : Int)) = false := bne_eq_false_iff_eq.mpr c19
     have c19b2 : (t474.length == l0_1.length) = true := by first | simpa using c19 | (simp at c19 ⊢; omega)
     clear c19
     replace H := Option.bind_eq_some_iff.mp H
     obtain ⟨t480, A200, H⟩ := H
     replace H : (if t480 = true then (if (((t468.length : Int) == 0) != (t479 == 4)) = true then (skewbaldlaw07_DappleDrop.j0 k a1 t468 t474 true) else ((skewbaldlaw07_apart.f k t474 t468).bind fun t481 => (skewbaldlaw07_DappleDrop.j0 k a1 t468 t474 (!t481)))) else (skewbaldlaw07_DappleDrop.j0 k a1 t468 t474 true)) = some true := H
     have A20 := Aside0.mk A200
     clear A200
     by_cases c21 : t480 = true
     ·subst c21
      have H1 : (if (((t468.length : Int) == 0) != (t479 == 4)) = true then (skewbaldlaw07_DappleDrop.j0 k a1 t468 t474 true) else ((skewbaldlaw07_apart.f k t474 t468).bind fun t481 => (skewbaldlaw07_DappleDrop.j0 k a1 t468 t474 (!t481)))) = some true := by rw [if_pos rfl] at H; exact H
      clear H
      have H := H1
      clear H1
      by_cases c22 : (((t468.length : Int) == 0) != (t479 == 4)) = true
      ·rw [if_pos c22] at H
       have c22b0 : (((t468.length : Int) == 0) != (t479 == 4)) = true := c22
       (try (have c22b1 : decide (((t468.length : Int) == 0) = (t479 == 4)) = false := by simpa using c22))
       (try (have c22b2 : (((t468.length : Int) == 0) == (t479 == 4)) = false := by simpa using c22))
       (try (have c22b3 : ¬ (((t468.length : Int) == 0) = (t479 == 4)) := by simpa using c22))
       clear c22
       exact absurd H (by rcases k with _ | k <;> (first | (simp [skewbaldlaw07_DappleDrop.j0]; done) | (rcases k with _ | k <;> simp [skewbaldlaw07_DappleDrop.j0])))
      ·rw [if_neg c22] at H
       have c22b0 : (((t468.length : Int) == 0) != (t479 == 4)) = false := by simpa using c22
       (try (have c22b1 : decide (((t468.length : Int) == 0) = (t479 == 4)) = true := by simpa using c22))
       (try (have c22b2 : (((t468.length : Int) == 0) == (t479 == 4)) = true := by simpa using c22))
       clear c22
       replace H := Option.bind_eq_some_iff.mp H
       obtain ⟨t481, A230, H⟩ := H
       replace H : (skewbaldlaw07_DappleDrop.j0 k a1 t468 t474 (!t481)) = some true := H
       have A23 := Aside0.mk A230
       clear A230
       have H' := Aside0.mk H
       clear H
       obtain ⟨Ao24, co24, eo24⟩ := Kd.S_slice HO476.out
       subst eo24
       have hcz25_0 : w17.cell? ⟨gb467, 0, none⟩ = some (.int .i64 a0_0) := (blk_cell BK467.out 0).trans rfl
       have hcz25_1 : w17.cell? ⟨gb467, 1, none⟩ = some (.slice A0_1 l0_1.length c0_1) := (blk_cell BK467.out 1).trans rfl
       have hfz25_0 := blk_frozen BK467.out 0
       have hfz25_1 := blk_frozen BK467.out 1
       obtain ⟨Ao26, co26, eo26⟩ := Kd.V_slice HO470.out
       subst eo26
       go_wp2_with (first | (go_at_call 32; (with_reducible refine (skewbaldref00_Grows.calls k _ _ t468 (t474.length : Int) true _ ?side1 ?side2 A20.out).mono ?_); (case side1 => repeat (first | exact (Kd.V_reads' HO470.out).2.2 | (with_reducible refine Kd.C_alloc ?_ _) | (with_reducible refine Kd.C_drewN ?_ _) | (with_reducible refine Kd.C_drew ?_))); (case side2 => exact (Kd.V_reads' HO470.out).2.1); rintro e w' ⟨rfl, ⟨nd, rfl⟩⟩) | (go_at_call 45; (with_reducible refine (skewbaldlaw07_apart.calls k _ _ t474 _ _ t468 t481 _ ?side1 ?side2 ?side3 ?side4 A23.out).mono ?_); (case side1 => repeat (first | exact (Kd.S_reads' HO476.out).2.2 | (with_reducible refine Kd.C_alloc ?_ _) | (with_reducible refine Kd.C_drewN ?_ _) | (with_reducible refine Kd.C_drew ?_))); (case side2 => exact (Kd.S_reads' HO476.out).2.1); (case side3 => repeat (first | exact (Kd.V_reads' HO470.out).2.2 | (with_reducible refine Kd.C_alloc ?_ _) | (with_reducible refine Kd.C_drewN ?_ _) | (with_reducible refine Kd.C_drew ?_))); (case side4 => exact (Kd.V_reads' HO470.out).2.1); rintro e w' ⟨rfl, ⟨nd, rfl⟩⟩))
       go_meet
       case rel => exact ⟨_, (!t481), (by first | rfl | (simp; done) | (simp [*]; done)), H', ⟨by first | omega | exact Nat.le_refl _⟩, ⟨by (with_reducible repeat (first | apply Kd.V_alloc | apply Kd.V_drewN | apply Kd.V_drew)); exact Kd.V_mono HO470.out (fun _ hk => ⟨hk.2, hk.1⟩)⟩, ⟨by (with_reducible repeat (first | apply Kd.S_alloc | apply Kd.S_drewN | apply Kd.S_drew)); exact HO476.out⟩, ⟨by (with_reducible repeat (first | refine blk_drewN ?_ _ | refine blk_drew ?_ | refine blk_alloc ?_ _)); exact BK467.out⟩, ⟨by repeat (first | (with_reducible first | exact HB.out | apply below_alloc | apply pw_below_drewN | apply below_drew1 | refine below_set ?_ GE467.out) | exact HB.out)⟩⟩
     ·replace c21 := Bool.eq_false_iff.mpr c21
      subst c21
      have H1 : (skewbaldlaw07_DappleDrop.j0 k a1 t468 t474 true) = some true := by rw [if_neg (show ¬ (false = true) by decide)] at H; exact H
      clear H
      have H := H1
      clear H1
      exact absurd H (by rcases k with _ | k <;> (first | (simp [skewbaldlaw07_DappleDrop.j0]; done) | (rcases k with _ | k <;> simp [skewbaldlaw07_DappleDrop.j0])))
    ·rw [if_neg c19] at H
     have c19b0 : ((t474.length : Int) == (l0_1.length : Int)) = false := beq_eq_false_iff_ne.mpr c19
     have c19b1 : ((t474.length : Int) != (l0_1.length : Int)) = true := bne_iff_ne.mpr c19
     have c19b2 : (t474.length == l0_1.length) = false := by first | simpa using c19 | (simp at c19 ⊢; omega)
     exact absurd H (by rcases k with _ | k <;> (first | (simp [skewbaldlaw07_DappleDrop.j0]; done) | (rcases k with _ | k <;> simp [skewbaldlaw07_DappleDrop.j0])))
   ·rw [if_neg c18] at H
    have c18b0 : (t471 == 0) = false := beq_eq_false_iff_ne.mpr c18
    have c18b1 : (t471 != 0) = true := bne_iff_ne.mpr c18
    (first | rw [c18b0] | (simp only [i64_w, i32_w]; rw [c18b0]) | skip)
    exact absurd H (by rcases k with _ | k <;> (first | (simp [skewbaldlaw07_DappleDrop.j0]; done) | (rcases k with _ | k <;> simp [skewbaldlaw07_DappleDrop.j0])))
  case rest =>
   clear HC8
   try clear c1
   try clear c2
   try clear p2
   try clear c4
   try clear c5
   try clear c10
   try clear c18
   try clear c18b0
   try clear c18b1
   try clear c19
   try clear c19b0
   try clear c19b1
   try clear c19b2
   try clear c21
   try clear c22
   try clear c22b0
   try clear c22b1
   try clear c22b2
   try clear hcz10_0
   try clear hcz10_1
   try clear hcz12_0
   try clear hcz12_1
   try clear hcz14_0
   try clear hcz14_1
   try clear hcz16_0
   try clear hcz16_1
   try clear hcz25_0
   try clear hcz25_1
   try clear hfz10_0
   try clear hfz10_1
   try clear hfz12_0
   try clear hfz12_1
   try clear hfz14_0
   try clear hfz14_1
   try clear hfz16_0
   try clear hfz16_1
   try clear hfz25_0
   try clear hfz25_1
   obtain ⟨kq, x68_7, rfl, HA, HJ7, HO_5, HO_7, BK467, HB⟩ := hcut
   cases kq with
   | zero => exact absurd HA.out (by simp [skewbaldlaw07_DappleDrop.j0])
   | succ kj7 =>
    have H := HA.out
    clear HA
    simp only [skewbaldlaw07_DappleDrop.j0] at H
    by_cases c27 : x68_7 = true
    ·subst c27
     have H1 : (some false) = some true := by rw [if_pos rfl] at H; exact H
     clear H
     have H := H1
     clear H1
     exact absurd H (by simp)
    ·replace c27 := Bool.eq_false_iff.mpr c27
     subst c27
     have H1 : ((skewbaldref00_Round.f a1 (shl .i64 1 (t474.length : Int))).bind fun t482 => ((skewbaldref00_List.f kj7 t482 (t474.length : Int)).bind fun t483 => ((skewbaldref00_Shorter.f kj7 t483 t468).bind fun t486 => (if t486 = true then ((skewbaldlaw07_apart.f kj7 t474 t483).bind fun t487 => (if t487 = true then (some false) else ((skewbaldlaw07_pressed.f kj7).bind fun t488 => (some t488)))) else ((skewbaldlaw07_pressed.f kj7).bind fun t489 => (some t489)))))) = some true := by rw [if_neg (show ¬ (false = true) by decide)] at H; exact H
     clear H
     have H := H1
     clear H1
     obtain ⟨ji28, hji28⟩ : ∃ j_ : Int, (shl .i64 1 (t474.length : Int)) = j_ := ⟨_, rfl⟩
     replace H : ((skewbaldref00_Round.f a1 (ji28)).bind fun t482 => ((skewbaldref00_List.f kj7 t482 (t474.length : Int)).bind fun t483 => ((skewbaldref00_Shorter.f kj7 t483 t468).bind fun t486 => (if t486 = true then ((skewbaldlaw07_apart.f kj7 t474 t483).bind fun t487 => (if t487 = true then (some false) else ((skewbaldlaw07_pressed.f kj7).bind fun t488 => (some t488)))) else ((skewbaldlaw07_pressed.f kj7).bind fun t489 => (some t489)))))) = some true := by first | (rw [hji28] at H; exact H) | (simp only [hji28] at H ⊢; exact H)
     have hji28_ : (IntKind.i64.wrap (1 * 2 ^ min (t474.length : Int).toNat 64)) = ji28 := hji28
     have hji28z : (t474.length : Int) ≤ 64 → (IntKind.i64.wrap (1 * 2 ^ (t474.length : Int).toNat)) = ji28 := shl_small hji28
     have hji28p : (IntKind.i64.wrap (1 * 2 ^ min t474.length 64)) = ji28 := hji28_
     have hji28q : (t474.length : Int) ≤ 64 → (IntKind.i64.wrap (1 * 2 ^ t474.length)) = ji28 := hji28z
     have hji28r : (IntKind.i64.wrap (2 ^ min t474.length 64)) = ji28 := by have h_ := hji28p; rw [Int.one_mul] at h_; exact h_
     have hji28s : (t474.length : Int) ≤ 64 → (IntKind.i64.wrap (2 ^ t474.length)) = ji28 := fun hle_ => by have h_ := hji28q hle_; rw [Int.one_mul] at h_; exact h_
     have hji28u : (IntKind.i64.wrap (2 ^ min (t474.length : Int).toNat 64)) = ji28 := by have h_ := hji28_; rw [Int.one_mul] at h_; exact h_
     have hji28v : (t474.length : Int) ≤ 64 → (IntKind.i64.wrap (2 ^ (t474.length : Int).toNat)) = ji28 := fun hle_ => by have h_ := hji28z hle_; rw [Int.one_mul] at h_; exact h_
     have hji28y : (wrap64 (1 * 2 ^ min (t474.length : Int).toNat 64)) = ji28 := (i64_w _).symm.trans hji28_
     have hji28x : (t474.length : Int) ≤ 64 → (wrap64 (1 * 2 ^ (t474.length : Int).toNat)) = ji28 := fun h_ => (i64_w _).symm.trans (hji28z h_)
     have hji28A : (wrap64 (2 ^ min (t474.length : Int).toNat 64)) = ji28 := (i64_w _).symm.trans hji28u
     have hji28B : (t474.length : Int) ≤ 64 → (wrap64 (2 ^ (t474.length : Int).toNat)) = ji28 := fun h_ => (i64_w _).symm.trans (hji28v h_)
     have hji28C : (wrap64 (2 ^ min t474.length 64)) = ji28 := (i64_w _).symm.trans hji28r
     have hji28D : (t474.length : Int) ≤ 64 → (wrap64 (2 ^ t474.length)) = ji28 := fun h_ => (i64_w _).symm.trans (hji28s h_)
     replace H := Option.bind_eq_some_iff.mp H
     obtain ⟨t482, A290, H⟩ := H
     replace H : ((skewbaldref00_List.f kj7 t482 (t474.length : Int)).bind fun t483 => ((skewbaldref00_Shorter.f kj7 t483 t468).bind fun t486 => (if t486 = true then ((skewbaldlaw07_apart.f kj7 t474 t483).bind fun t487 => (if t487 = true then (some false) else ((skewbaldlaw07_pressed.f kj7).bind fun t488 => (some t488)))) else ((skewbaldlaw07_pressed.f kj7).bind fun t489 => (some t489))))) = some true := H
     have A29 := Aside0.mk A290
     clear A290
     replace H := Option.bind_eq_some_iff.mp H
     obtain ⟨t483, A300, H⟩ := H
     replace H : ((skewbaldref00_Shorter.f kj7 t483 t468).bind fun t486 => (if t486 = true then ((skewbaldlaw07_apart.f kj7 t474 t483).bind fun t487 => (if t487 = true then (some false) else ((skewbaldlaw07_pressed.f kj7).bind fun t488 => (some t488)))) else ((skewbaldlaw07_pressed.f kj7).bind fun t489 => (some t489)))) = some true := H
     have A30 := Aside0.mk A300
     clear A300
     replace H := Option.bind_eq_some_iff.mp H
     obtain ⟨t486, A310, H⟩ := H
     replace H : (if t486 = true then ((skewbaldlaw07_apart.f kj7 t474 t483).bind fun t487 => (if t487 = true then (some false) else ((skewbaldlaw07_pressed.f kj7).bind fun t488 => (some t488)))) else ((skewbaldlaw07_pressed.f kj7).bind fun t489 => (some t489))) = some true := H
     have A31 := Aside0.mk A310
     clear A310
     by_cases c32 : t486 = true
     ·subst c32
      have H1 : ((skewbaldlaw07_apart.f kj7 t474 t483).bind fun t487 => (if t487 = true then (some false) else ((skewbaldlaw07_pressed.f kj7).bind fun t488 => (some t488)))) = some true := by rw [if_pos rfl] at H; exact H
      clear H
      have H := H1
      clear H1
      replace H := Option.bind_eq_some_iff.mp H
      obtain ⟨t487, A330, H⟩ := H
      replace H : (if t487 = true then (some false) else ((skewbaldlaw07_pressed.f kj7).bind fun t488 => (some t488))) = some true := H
      have A33 := Aside0.mk A330
      clear A330
      by_cases c34 : t487 = true
      ·subst c34
       have H1 : (some false) = some true := by rw [if_pos rfl] at H; exact H
       clear H
       have H := H1
       clear H1
       exact absurd H (by simp)
      ·replace c34 := Bool.eq_false_iff.mpr c34
       subst c34
       have H1 : ((skewbaldlaw07_pressed.f kj7).bind fun t488 => (some t488)) = some true := by rw [if_neg (show ¬ (false = true) by decide)] at H; exact H
       clear H
       have H := H1
       clear H1
       replace H := Option.bind_eq_some_iff.mp H
       obtain ⟨t488, A350, H⟩ := H
       replace H : (some t488) = some true := H
       have A35 := Aside0.mk A350
       clear A350
       have HE_ := Aside0.mk (Option.some.inj H)
       clear H
       obtain ⟨Ao36, co36, eo36⟩ := Kd.S_slice HO_7.out
       subst eo36
       go_wp2_with (first | ((with_reducible refine gate_callee (f := 37) rfl ?_); refine goesL_ (some 73) rfl rfl Tryd.func37 (by kernel_rfl) rfl #[.int .i64 a1, .int .i64 ji28] rfl (by (try simp only [List.map_toArray, List.map_cons, List.map_nil]); first | done | (simp only [hji28]; rfl) | rfl | (simp only [List.length_drop, List.length_take]; rfl)) ?_; (with_reducible refine (skewbaldref00_Round.calls a1 ji28 t482 _ A29.out).mono ?_); rintro e w' ⟨rfl, ⟨nd, rfl⟩⟩; refine ⟨_, rfl, ?_⟩) | ((with_reducible refine gate_callee (f := 38) rfl ?_); refine goesL_ (some 76) rfl rfl Tryd.func38 (by kernel_rfl) rfl #[.int .i64 t482, .int .i64 (t474.length : Int)] rfl (by (try simp only [List.map_toArray, List.map_cons, List.map_nil]); first | done | rfl | (simp only [List.length_drop, List.length_take]; rfl)) ?_; (with_reducible refine (skewbaldref00_List.calls kj7 t482 (t474.length : Int) t483 _ A30.out).mono ?_); rintro e w37 ⟨v484, rfl, ho0, hb⟩; refine ⟨_, rfl, ?_⟩; have n0_ := Aside0.mk (Kd.V_elder' (by (with_reducible repeat (first | apply Kd.V_alloc | apply Kd.V_drewN | apply Kd.V_drew)); exact HO_5.out) (Kd.R_base ho0) hb); have n1_ := Aside0.mk (Kd.S_elder' (by (with_reducible repeat (first | apply Kd.S_alloc | apply Kd.S_drewN | apply Kd.S_drew)); exact HO_7.out) (Kd.R_base ho0) hb); have n2_ := Aside0.mk (Kd.R_lower ho0 (below_size (by repeat (first | (with_reducible first | exact HB.out | apply below_alloc | apply pw_below_drewN | apply below_drew1 | refine below_set ?_ GE467.out) | exact HB.out)))); have n3_ := Aside0.mk (blk_below (g := gb467) (o := .cells #[.int .i64 a0_0, .slice A0_1 l0_1.length c0_1] 24 (0, 0)) (by (with_reducible repeat (first | refine blk_drewN ?_ _ | refine blk_drew ?_ | refine blk_alloc ?_ _)); exact BK467.out) hb); have n4_ := Aside0.mk (below_step (by repeat (first | (with_reducible first | exact HB.out | apply below_alloc | apply pw_below_drewN | apply below_drew1 | refine below_set ?_ GE467.out) | exact HB.out)) hb); clear HO_5; clear HO_7; clear BK467; clear HB; have HO_5 := n0_; have HO_7 := n1_; have HO485 := n2_; have BK467 := n3_; have HB := n4_; clear n0_ n1_ n2_ n3_ n4_; (try clear hb); (try clear hb2); (try clear hk); (try clear hi); (try clear ho0); obtain ⟨Ao38, co38, eo38⟩ := Kd.R_slice HO485.out; subst eo38; obtain ⟨Ao39, co39, eo39⟩ := Kd.V_slice HO_5.out; subst eo39) | ((with_reducible refine gate_callee (f := 46) rfl ?_); refine goesL_ (some 79) rfl rfl Tryd.func46 (by kernel_rfl) rfl #[.slice Ao38 t483.length co38, .slice Ao39 t468.length co39] rfl (by (try simp only [List.map_toArray, List.map_cons, List.map_nil]); first | done | rfl | (simp only [List.length_drop, List.length_take]; rfl)) ?_; (with_reducible refine (skewbaldref00_Shorter.calls kj7 _ _ t483 _ _ t468 true _ ?side1 ?side2 ?side3 ?side4 A31.out).mono ?_); (case side1 => repeat (first | exact (Kd.R_reads' HO485.out).2.2 | (with_reducible refine Kd.C_alloc ?_ _) | (with_reducible refine Kd.C_drewN ?_ _) | (with_reducible refine Kd.C_drew ?_))); (case side2 => exact (Kd.R_reads' HO485.out).2.1); (case side3 => repeat (first | exact (Kd.V_reads' HO_5.out).2.2 | (with_reducible refine Kd.C_alloc ?_ _) | (with_reducible refine Kd.C_drewN ?_ _) | (with_reducible refine Kd.C_drew ?_))); (case side4 => exact (Kd.V_reads' HO_5.out).2.1); rintro e w' ⟨rfl, ⟨nd, rfl⟩⟩; refine ⟨_, rfl, ?_⟩) | (go_at_call 45; (with_reducible refine (skewbaldlaw07_apart.calls kj7 _ _ t474 _ _ t483 false _ ?side1 ?side2 ?side3 ?side4 A33.out).mono ?_); (case side1 => repeat (first | exact (Kd.S_reads' HO_7.out).2.2 | (with_reducible refine Kd.C_alloc ?_ _) | (with_reducible refine Kd.C_drewN ?_ _) | (with_reducible refine Kd.C_drew ?_))); (case side2 => exact (Kd.S_reads' HO_7.out).2.1); (case side3 => repeat (first | exact (Kd.R_reads' HO485.out).2.2 | (with_reducible refine Kd.C_alloc ?_ _) | (with_reducible refine Kd.C_drewN ?_ _) | (with_reducible refine Kd.C_drew ?_))); (case side4 => exact (Kd.R_reads' HO485.out).2.1); rintro e w' ⟨rfl, ⟨nd, rfl⟩⟩) | (go_at_call 24; (with_reducible refine (skewbaldlaw07_pressed.calls kj7  t488 _ ?side1 A35.out).mono ?_); (case side1 => exact Glob.below HGL.out (by repeat (first | (with_reducible first | exact HB.out | apply below_alloc | apply pw_below_drewN | apply below_drew1 | refine below_set ?_ GE467.out) | exact HB.out))); rintro e w40 ⟨rfl, hb⟩; have n0_ := Aside0.mk (Kd.V_below (by (with_reducible repeat (first | apply Kd.V_alloc | apply Kd.V_drewN | apply Kd.V_drew)); exact HO_5.out) hb); have n1_ := Aside0.mk (Kd.S_below (by (with_reducible repeat (first | apply Kd.S_alloc | apply Kd.S_drewN | apply Kd.S_drew)); exact HO_7.out) hb); have n2_ := Aside0.mk (Kd.R_below (by (with_reducible repeat (first | apply Kd.R_alloc | apply Kd.R_drewN | apply Kd.R_drew)); exact HO485.out) hb); have n3_ := Aside0.mk (blk_below (g := gb467) (o := .cells #[.int .i64 a0_0, .slice A0_1 l0_1.length c0_1] 24 (0, 0)) (by (with_reducible repeat (first | refine blk_drewN ?_ _ | refine blk_drew ?_ | refine blk_alloc ?_ _)); exact BK467.out) hb); have n4_ := Aside0.mk (below_step (by repeat (first | (with_reducible first | exact HB.out | apply below_alloc | apply pw_below_drewN | apply below_drew1 | refine below_set ?_ GE467.out) | exact HB.out)) hb); clear HO_5; clear HO_7; clear HO485; clear BK467; clear HB; have HO_5 := n0_; have HO_7 := n1_; have HO485 := n2_; have BK467 := n3_; have HB := n4_; clear n0_ n1_ n2_ n3_ n4_; (try clear hb); (try clear hb2); (try clear hk); (try clear hi)))
       go_ret
       exact ⟨by first | rfl | (rw [HE_.out]; done) | (simp [HE_.out]; done) | (simp [errW_none, errW_some] <;> rfl) | (simp only [← hji28]; first | rfl | (simp [errW_none, errW_some] <;> rfl)) | (simp [*, errW_none, errW_some] <;> rfl), by repeat (first | (with_reducible first | exact HB.out | apply below_alloc | apply pw_below_drewN | apply below_drew1 | refine below_set ?_ GE467.out) | exact HB.out)⟩
     ·replace c32 := Bool.eq_false_iff.mpr c32
      subst c32
      have H1 : ((skewbaldlaw07_pressed.f kj7).bind fun t489 => (some t489)) = some true := by rw [if_neg (show ¬ (false = true) by decide)] at H; exact H
      clear H
      have H := H1
      clear H1
      replace H := Option.bind_eq_some_iff.mp H
      obtain ⟨t489, A410, H⟩ := H
      replace H : (some t489) = some true := H
      have A41 := Aside0.mk A410
      clear A410
      have HE_ := Aside0.mk (Option.some.inj H)
      clear H
      obtain ⟨Ao42, co42, eo42⟩ := Kd.S_slice HO_7.out
      subst eo42
      go_wp2_with (first | ((with_reducible refine gate_callee (f := 37) rfl ?_); refine goesL_ (some 73) rfl rfl Tryd.func37 (by kernel_rfl) rfl #[.int .i64 a1, .int .i64 ji28] rfl (by (try simp only [List.map_toArray, List.map_cons, List.map_nil]); first | done | (simp only [hji28]; rfl) | rfl | (simp only [List.length_drop, List.length_take]; rfl)) ?_; (with_reducible refine (skewbaldref00_Round.calls a1 ji28 t482 _ A29.out).mono ?_); rintro e w' ⟨rfl, ⟨nd, rfl⟩⟩; refine ⟨_, rfl, ?_⟩) | ((with_reducible refine gate_callee (f := 38) rfl ?_); refine goesL_ (some 76) rfl rfl Tryd.func38 (by kernel_rfl) rfl #[.int .i64 t482, .int .i64 (t474.length : Int)] rfl (by (try simp only [List.map_toArray, List.map_cons, List.map_nil]); first | done | rfl | (simp only [List.length_drop, List.length_take]; rfl)) ?_; (with_reducible refine (skewbaldref00_List.calls kj7 t482 (t474.length : Int) t483 _ A30.out).mono ?_); rintro e w43 ⟨v484, rfl, ho0, hb⟩; refine ⟨_, rfl, ?_⟩; have n0_ := Aside0.mk (Kd.V_elder' (by (with_reducible repeat (first | apply Kd.V_alloc | apply Kd.V_drewN | apply Kd.V_drew)); exact HO_5.out) (Kd.R_base ho0) hb); have n1_ := Aside0.mk (Kd.S_elder' (by (with_reducible repeat (first | apply Kd.S_alloc | apply Kd.S_drewN | apply Kd.S_drew)); exact HO_7.out) (Kd.R_base ho0) hb); have n2_ := Aside0.mk (Kd.R_lower ho0 (below_size (by repeat (first | (with_reducible first | exact HB.out | apply below_alloc | apply pw_below_drewN | apply below_drew1 | refine below_set ?_ GE467.out) | exact HB.out)))); have n3_ := Aside0.mk (blk_below (g := gb467) (o := .cells #[.int .i64 a0_0, .slice A0_1 l0_1.length c0_1] 24 (0, 0)) (by (with_reducible repeat (first | refine blk_drewN ?_ _ | refine blk_drew ?_ | refine blk_alloc ?_ _)); exact BK467.out) hb); have n4_ := Aside0.mk (below_step (by repeat (first | (with_reducible first | exact HB.out | apply below_alloc | apply pw_below_drewN | apply below_drew1 | refine below_set ?_ GE467.out) | exact HB.out)) hb); clear HO_5; clear HO_7; clear BK467; clear HB; have HO_5 := n0_; have HO_7 := n1_; have HO485 := n2_; have BK467 := n3_; have HB := n4_; clear n0_ n1_ n2_ n3_ n4_; (try clear hb); (try clear hb2); (try clear hk); (try clear hi); (try clear ho0); obtain ⟨Ao44, co44, eo44⟩ := Kd.R_slice HO485.out; subst eo44; obtain ⟨Ao45, co45, eo45⟩ := Kd.V_slice HO_5.out; subst eo45) | ((with_reducible refine gate_callee (f := 46) rfl ?_); refine goesL_ (some 79) rfl rfl Tryd.func46 (by kernel_rfl) rfl #[.slice Ao44 t483.length co44, .slice Ao45 t468.length co45] rfl (by (try simp only [List.map_toArray, List.map_cons, List.map_nil]); first | done | rfl | (simp only [List.length_drop, List.length_take]; rfl)) ?_; (with_reducible refine (skewbaldref00_Shorter.calls kj7 _ _ t483 _ _ t468 false _ ?side1 ?side2 ?side3 ?side4 A31.out).mono ?_); (case side1 => repeat (first | exact (Kd.R_reads' HO485.out).2.2 | (with_reducible refine Kd.C_alloc ?_ _) | (with_reducible refine Kd.C_drewN ?_ _) | (with_reducible refine Kd.C_drew ?_))); (case side2 => exact (Kd.R_reads' HO485.out).2.1); (case side3 => repeat (first | exact (Kd.V_reads' HO_5.out).2.2 | (with_reducible refine Kd.C_alloc ?_ _) | (with_reducible refine Kd.C_drewN ?_ _) | (with_reducible refine Kd.C_drew ?_))); (case side4 => exact (Kd.V_reads' HO_5.out).2.1); rintro e w' ⟨rfl, ⟨nd, rfl⟩⟩; refine ⟨_, rfl, ?_⟩) | (go_at_call 24; (with_reducible refine (skewbaldlaw07_pressed.calls kj7  t489 _ ?side1 A41.out).mono ?_); (case side1 => exact Glob.below HGL.out (by repeat (first | (with_reducible first | exact HB.out | apply below_alloc | apply pw_below_drewN | apply below_drew1 | refine below_set ?_ GE467.out) | exact HB.out))); rintro e w46 ⟨rfl, hb⟩; have n0_ := Aside0.mk (Kd.V_below (by (with_reducible repeat (first | apply Kd.V_alloc | apply Kd.V_drewN | apply Kd.V_drew)); exact HO_5.out) hb); have n1_ := Aside0.mk (Kd.S_below (by (with_reducible repeat (first | apply Kd.S_alloc | apply Kd.S_drewN | apply Kd.S_drew)); exact HO_7.out) hb); have n2_ := Aside0.mk (Kd.R_below (by (with_reducible repeat (first | apply Kd.R_alloc | apply Kd.R_drewN | apply Kd.R_drew)); exact HO485.out) hb); have n3_ := Aside0.mk (blk_below (g := gb467) (o := .cells #[.int .i64 a0_0, .slice A0_1 l0_1.length c0_1] 24 (0, 0)) (by (with_reducible repeat (first | refine blk_drewN ?_ _ | refine blk_drew ?_ | refine blk_alloc ?_ _)); exact BK467.out) hb); have n4_ := Aside0.mk (below_step (by repeat (first | (with_reducible first | exact HB.out | apply below_alloc | apply pw_below_drewN | apply below_drew1 | refine below_set ?_ GE467.out) | exact HB.out)) hb); clear HO_5; clear HO_7; clear HO485; clear BK467; clear HB; have HO_5 := n0_; have HO_7 := n1_; have HO485 := n2_; have BK467 := n3_; have HB := n4_; clear n0_ n1_ n2_ n3_ n4_; (try clear hb); (try clear hb2); (try clear hk); (try clear hi)))
      go_ret
      exact ⟨by first | rfl | (rw [HE_.out]; done) | (simp [HE_.out]; done) | (simp [errW_none, errW_some] <;> rfl) | (simp only [← hji28]; first | rfl | (simp [errW_none, errW_some] <;> rfl)) | (simp [*, errW_none, errW_some] <;> rfl), by repeat (first | (with_reducible first | exact HB.out | apply below_alloc | apply pw_below_drewN | apply below_drew1 | refine below_set ?_ GE467.out) | exact HB.out)⟩
 ·replace c5 := Bool.eq_false_iff.mpr c5
  subst c5
  have H1 : (if t471 = 70 then (if (t468.length : Int) = 0 then ((skewbaldlaw07_pressed.f k).bind fun t473 => (some t473)) else (some false)) else (some false)) = some true := by rw [if_neg (show ¬ (false = true) by decide)] at H; exact H
  clear H
  have H := H1
  clear H1
  by_cases c47 : t471 = 70
  ·rw [if_pos c47] at H
   have c47b0 : (t471 == 70) = true := beq_iff_eq.mpr c47
   have c47b1 : (t471 != 70) = false := bne_eq_false_iff_eq.mpr c47
   clear c47
   by_cases c48 : (t468.length : Int) = 0
   ·rw [if_pos c48] at H
    have c48b0 : ((t468.length : Int) == 0) = true := beq_iff_eq.mpr c48
    have c48b1 : ((t468.length : Int) != 0) = false := bne_eq_false_iff_eq.mpr c48
    clear c48
    replace H := Option.bind_eq_some_iff.mp H
    obtain ⟨t473, A490, H⟩ := H
    replace H : (some t473) = some true := H
    have A49 := Aside0.mk A490
    clear A490
    have HE_ := Aside0.mk (Option.some.inj H)
    clear H
    go_enter Tryd.func10, Tryd.ntmps10
    go_wp2_with (first | ((with_reducible refine gate_dst (N := 2) rfl ?_); (try (refine gate_guard (by rfl) ?_; dsimp only)); refine box_event ?hg (N := 2) ?hd (cs := #[.int .i64 a0_0, .slice A0_1 l0_1.length c0_1]) (t := 24) ?hr ?_; (case hd => rfl); (case hg => rfl); (case hr => first | (go_simp; done) | (go_simp; rfl)); intro gb467 hg w50 hbox hb; have n0_ := Aside0.mk (below_step (by repeat (first | (with_reducible first | exact HB.out | apply below_alloc | apply pw_below_drewN | apply below_drew1) | exact HB.out)) hb); have n1_ := Aside0.mk (hbox); have n2_ := Aside0.mk ((by rw [hg]; exact (below_size (by repeat (first | (with_reducible first | exact HB.out | apply below_alloc | apply pw_below_drewN | apply below_drew1) | exact HB.out))) : w.heap.size ≤ gb467)); have n3_ := Aside0.mk ((by rw [hg]; exact (below_size (by repeat (first | (with_reducible first | exact HB.out | apply below_alloc | apply pw_below_drewN | apply below_drew1) | exact HB.out))) : w.heap.size ≤ gb467)); clear HB; have HB := n0_; have BK467 := n1_; have GW467 := n2_; have GE467 := n3_; clear n0_ n1_ n2_ n3_; clear hb hbox hg; have hcz51_0 : w50.cell? ⟨gb467, 0, none⟩ = some (.int .i64 a0_0) := (blk_cell BK467.out 0).trans rfl; have hcz51_1 : w50.cell? ⟨gb467, 1, none⟩ = some (.slice A0_1 l0_1.length c0_1) := (blk_cell BK467.out 1).trans rfl; have hfz51_0 := blk_frozen BK467.out 0; have hfz51_1 := blk_frozen BK467.out 1) | ((with_reducible refine gate_callee (f := 42) rfl ?_); refine goesL_ (some 14) rfl rfl Tryd.func42 (by kernel_rfl) rfl #[.agg #[.int .i64 a0_0, .slice A0_1 l0_1.length c0_1]] rfl (by (try simp only [List.map_toArray, List.map_cons, List.map_nil]); first | done | rfl | (simp only [List.length_drop, List.length_take]; rfl)) ?_; (with_reducible refine (dapple_Drop.calls a0_0 _ _ l0_1 t468 t471 _ ?side1 ?side2 ?side3 A3.out).mono ?_); (case side1 => repeat (first | exact (Kd.C_below HR0_1.out HB.out) | (with_reducible refine Kd.C_alloc ?_ _) | (with_reducible refine Kd.C_drewN ?_ _) | (with_reducible refine Kd.C_drew ?_))); (case side2 => exact HC0_1.out); (case side3 => exact Glob.below HGL.out (by repeat (first | (with_reducible first | exact HB.out | apply below_alloc | apply pw_below_drewN | apply below_drew1 | refine below_set ?_ GE467.out) | exact HB.out))); rintro e w52 ⟨v469, rfl, ho0, hb⟩; refine ⟨_, rfl, ?_⟩; have n0_ := Aside0.mk (Kd.V_lower (Kd.V_mono (ok' := fun k_ => k_ ≠ gb467) ho0 (fun k_ hk_ => (Kd.freshB (g := gb467) (o := .cells #[.int .i64 a0_0, .slice A0_1 l0_1.length c0_1] 24 (0, 0)) (by (with_reducible repeat (first | refine blk_drewN ?_ _ | refine blk_drew ?_ | refine blk_alloc ?_ _)); exact BK467.out) k_ hk_))) (below_size (by repeat (first | (with_reducible first | exact HB.out | apply below_alloc | apply pw_below_drewN | apply below_drew1 | refine below_set ?_ GE467.out) | exact HB.out)))); have n1_ := Aside0.mk (blk_below (g := gb467) (o := .cells #[.int .i64 a0_0, .slice A0_1 l0_1.length c0_1] 24 (0, 0)) (by (with_reducible repeat (first | refine blk_drewN ?_ _ | refine blk_drew ?_ | refine blk_alloc ?_ _)); exact BK467.out) hb); have n2_ := Aside0.mk (below_step (by repeat (first | (with_reducible first | exact HB.out | apply below_alloc | apply pw_below_drewN | apply below_drew1 | refine below_set ?_ GE467.out) | exact HB.out)) hb); clear BK467; clear HB; have HO470 := n0_; have BK467 := n1_; have HB := n2_; clear n0_ n1_ n2_; (try clear hb); (try clear hb2); (try clear hk); (try clear hi); (try clear ho0); have hcz53_0 : w52.cell? ⟨gb467, 0, none⟩ = some (.int .i64 a0_0) := (blk_cell BK467.out 0).trans rfl; have hcz53_1 : w52.cell? ⟨gb467, 1, none⟩ = some (.slice A0_1 l0_1.length c0_1) := (blk_cell BK467.out 1).trans rfl; have hfz53_0 := blk_frozen BK467.out 0; have hfz53_1 := blk_frozen BK467.out 1) | ((with_reducible refine gate_callee (f := 29) rfl ?_); refine goesL_ (some 18) rfl rfl Tryd.func29 (by kernel_rfl) rfl #[.agg #[.int .i64 a0_0, .slice A0_1 l0_1.length c0_1]] rfl (by (try simp only [List.map_toArray, List.map_cons, List.map_nil]); first | done | rfl | (simp only [List.length_drop, List.length_take]; rfl)) ?_; (with_reducible refine (skewbaldlaw07_sound.calls k a0_0 _ _ l0_1 false _ ?side1 ?side2 A4.out).mono ?_); (case side1 => repeat (first | exact (Kd.C_below HR0_1.out HB.out) | (with_reducible refine Kd.C_alloc ?_ _) | (with_reducible refine Kd.C_drewN ?_ _) | (with_reducible refine Kd.C_drew ?_))); (case side2 => exact HC0_1.out); rintro e w54 ⟨rfl, hb⟩; refine ⟨_, rfl, ?_⟩; have n0_ := Aside0.mk (Kd.V_below (by (with_reducible repeat (first | apply Kd.V_alloc | apply Kd.V_drewN | apply Kd.V_drew)); exact HO470.out) hb); have n1_ := Aside0.mk (blk_below (g := gb467) (o := .cells #[.int .i64 a0_0, .slice A0_1 l0_1.length c0_1] 24 (0, 0)) (by (with_reducible repeat (first | refine blk_drewN ?_ _ | refine blk_drew ?_ | refine blk_alloc ?_ _)); exact BK467.out) hb); have n2_ := Aside0.mk (below_step (by repeat (first | (with_reducible first | exact HB.out | apply below_alloc | apply pw_below_drewN | apply below_drew1 | refine below_set ?_ GE467.out) | exact HB.out)) hb); clear HO470; clear BK467; clear HB; have HO470 := n0_; have BK467 := n1_; have HB := n2_; clear n0_ n1_ n2_; (try clear hb); (try clear hb2); (try clear hk); (try clear hi); obtain ⟨Ao55, co55, eo55⟩ := Kd.V_slice HO470.out; subst eo55) | (go_at_call 24; (with_reducible refine (skewbaldlaw07_pressed.calls k  t473 _ ?side1 A49.out).mono ?_); (case side1 => exact Glob.below HGL.out (by repeat (first | (with_reducible first | exact HB.out | apply below_alloc | apply pw_below_drewN | apply below_drew1 | refine below_set ?_ GE467.out) | exact HB.out))); rintro e w56 ⟨rfl, hb⟩; have n0_ := Aside0.mk (Kd.V_below (by (with_reducible repeat (first | apply Kd.V_alloc | apply Kd.V_drewN | apply Kd.V_drew)); exact HO470.out) hb); have n1_ := Aside0.mk (blk_below (g := gb467) (o := .cells #[.int .i64 a0_0, .slice A0_1 l0_1.length c0_1] 24 (0, 0)) (by (with_reducible repeat (first | refine blk_drewN ?_ _ | refine blk_drew ?_ | refine blk_alloc ?_ _)); exact BK467.out) hb); have n2_ := Aside0.mk (below_step (by repeat (first | (with_reducible first | exact HB.out | apply below_alloc | apply pw_below_drewN | apply below_drew1 | refine below_set ?_ GE467.out) | exact HB.out)) hb); clear HO470; clear BK467; clear HB; have HO470 := n0_; have BK467 := n1_; have HB := n2_; clear n0_ n1_ n2_; (try clear hb); (try clear hb2); (try clear hk); (try clear hi)))
    go_ret
    exact ⟨by first | rfl | (rw [HE_.out]; done) | (simp [HE_.out]; done) | (simp [errW_none, errW_some] <;> rfl) | (simp [*, errW_none, errW_some] <;> rfl), by repeat (first | (with_reducible first | exact HB.out | apply below_alloc | apply pw_below_drewN | apply below_drew1 | refine below_set ?_ GE467.out) | exact HB.out)⟩
   ·rw [if_neg c48] at H
    have c48b0 : ((t468.length : Int) == 0) = false := beq_eq_false_iff_ne.mpr c48
    have c48b1 : ((t468.length : Int) != 0) = true := bne_iff_ne.mpr c48
    have c48b2 : ¬ (t468 = []) := fun h_ => c48 (by rw [h_]; rfl)
    exact absurd H (by simp)
  ·rw [if_neg c47] at H
   have c47b0 : (t471 == 70) = false := beq_eq_false_iff_ne.mpr c47
   have c47b1 : (t471 != 70) = true := bne_iff_ne.mpr c47
   exact absurd H (by simp)

end Go.Proofs.YtdllacjkacmghaaDoor.DT
