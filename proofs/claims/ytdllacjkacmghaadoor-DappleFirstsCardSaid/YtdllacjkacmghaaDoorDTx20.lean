/- Printed by a program (prx.py). -/
import Derived.Test.YtdllacjkacmghaaDoorDTx0
import Derived.Test.YtdllacjkacmghaaDoorDTx2
import Derived.Test.YtdllacjkacmghaaDoorDTx3
import Derived.Test.YtdllacjkacmghaaDoorDTx18
import Derived.Test.YtdllacjkacmghaaDoorDTx19
namespace Go.Proofs.YtdllacjkacmghaaDoor.DT
open Go.Proofs.YtdllacjkacmghaaDoorD Go.Proofs.YtdllacjkacmghaaDoorK
open Go.RowKit Go.Proofs.YtdllacjkacmghaaDoorW.PrintWords Go.Proofs.YtdllacjkacmghaaDoorW.PrintLast Go.Proofs.YtdllacjkacmghaaDoorW.PrintMore
attribute [local go_sem] max2_int min2_int max_two min_two max_three min_three max_four min_four   -- for this text's walks alone
set_option linter.unusedVariables false
set_option linter.unusedSimpArgs false

/-! ### skewbaldlaw07_DappleFirsts: function 14 -/
mutual
def skewbaldlaw07_DappleFirsts.j0 : Nat → Bool → Int → List (List Int) → Option (Bool)
 | 0, _, _, _ => none
 | k + 1, x35, x646000, x646001 => if x35 = true then (some false) else ((dapple_Sure.f x646000 x646001).bind fun bt652 => ((skewbaldref07_Sure.f k x646000 x646001).bind fun bt655 => (if bt652.1 = bt655.1 then (if bt652.2.1 = bt655.2.1 then (skewbaldlaw07_DappleFirsts.j1 k (bt652.2.2 != bt655.2.2) x646000 x646001) else (skewbaldlaw07_DappleFirsts.j1 k true x646000 x646001)) else (skewbaldlaw07_DappleFirsts.j1 k true x646000 x646001))))
def skewbaldlaw07_DappleFirsts.j1 : Nat → Bool → Int → List (List Int) → Option (Bool)
 | 0, _, _, _ => none
 | k + 1, x60, x646000, x646001 => if x60 = true then (some false) else ((dapple_Drop.f x646000 x646001).bind fun bt658 => ((skewbaldref07_Drop.f k x646000 x646001).bind fun bt662 => ((skewbaldref00_Equal.f k bt658.1 bt662.1).bind fun t666 => (if t666 = true then (skewbaldlaw07_DappleFirsts.j2 k (bt658.2 != bt662.2) x646000 x646001) else (skewbaldlaw07_DappleFirsts.j2 k true x646000 x646001)))))
def skewbaldlaw07_DappleFirsts.j2 : Nat → Bool → Int → List (List Int) → Option (Bool)
 | 0, _, _, _ => none
 | k + 1, x79, x646000, x646001 => if x79 = true then (some false) else ((dapple_Look.f x646000 x646001).bind fun bt667 => ((skewbaldref07_Look.f k x646000 x646001).bind fun bt670 => (if bt667.1 = bt670.1 then (if bt667.2.1 = bt670.2.1 then (if bt667.2.2 = bt670.2.2 then ((skewbaldlaw07_pressed.f k).bind fun t673 => (some t673)) else (some false)) else (some false)) else (some false))))
end
def skewbaldlaw07_DappleFirsts.f (k : Nat) (a0_0 : Int) (l0_1 : List (List Int)) : Option (Bool) := (dapple_Clash.f a0_0 l0_1).bind fun bt646 => ((skewbaldref07_Clash.f k a0_0 l0_1).bind fun bt649 => (if bt646.1 = bt649.1 then (if bt646.2.1 = bt649.2.1 then (skewbaldlaw07_DappleFirsts.j0 k (bt646.2.2 != bt649.2.2) a0_0 l0_1) else (skewbaldlaw07_DappleFirsts.j0 k true a0_0 l0_1)) else (skewbaldlaw07_DappleFirsts.j0 k true a0_0 l0_1)))
set_option maxHeartbeats 8000000 in
set_option maxRecDepth 100000 in
theorem skewbaldlaw07_DappleFirsts.calls (k : Nat) (a0_0 : Int) (A0_1 : Option Addr) (c0_1 : Nat) (l0_1 : List (List Int)) (w : World) (hr0_1 : Kd.C (Kd.slice 3 (Kd.int .i64)) w A0_1 l0_1.length l0_1) (hc0_1 : l0_1.length ≤ c0_1) (hG : Glob w) (h : skewbaldlaw07_DappleFirsts.f k a0_0 l0_1 = some true) :
  Calls Tryd.prog 14 #[.agg #[.int .i64 a0_0, .slice A0_1 l0_1.length c0_1]] w fun e w' => e = .returned (.bool true) ∧ Below w.heap.size w w' := by
 have hu24 := Tryd.underlying24
 have HR0_1 := Aside0.mk hr0_1
 have HC0_1 := Aside0.mk hc0_1
 clear hr0_1 hc0_1
 have HGL := Aside0.mk hG
 clear hG
 have HB := Aside0.mk (Below.refl w.heap.size w)
 have H : ((dapple_Clash.f a0_0 l0_1).bind fun bt646 => ((skewbaldref07_Clash.f k a0_0 l0_1).bind fun bt649 => (if bt646.1 = bt649.1 then (if bt646.2.1 = bt649.2.1 then (skewbaldlaw07_DappleFirsts.j0 k (bt646.2.2 != bt649.2.2) a0_0 l0_1) else (skewbaldlaw07_DappleFirsts.j0 k true a0_0 l0_1)) else (skewbaldlaw07_DappleFirsts.j0 k true a0_0 l0_1)))) = some true := h
 clear h
 replace H := Option.bind_eq_some_iff.mp H
 obtain ⟨⟨t646, t647, t648⟩, A20, H⟩ := H
 replace H : ((skewbaldref07_Clash.f k a0_0 l0_1).bind fun bt649 => (if t646 = bt649.1 then (if t647 = bt649.2.1 then (skewbaldlaw07_DappleFirsts.j0 k (t648 != bt649.2.2) a0_0 l0_1) else (skewbaldlaw07_DappleFirsts.j0 k true a0_0 l0_1)) else (skewbaldlaw07_DappleFirsts.j0 k true a0_0 l0_1))) = some true := H
 have A2 := Aside0.mk A20
 clear A20
 replace H := Option.bind_eq_some_iff.mp H
 obtain ⟨⟨t649, t650, t651⟩, A30, H⟩ := H
 replace H : (if t646 = t649 then (if t647 = t650 then (skewbaldlaw07_DappleFirsts.j0 k (t648 != t651) a0_0 l0_1) else (skewbaldlaw07_DappleFirsts.j0 k true a0_0 l0_1)) else (skewbaldlaw07_DappleFirsts.j0 k true a0_0 l0_1)) = some true := H
 have A3 := Aside0.mk A30
 clear A30
 have HC4 := Aside0.mk H
 clear H
 go_enter Tryd.func14, Tryd.ntmps14
 go_upto_region 3 with (first | ((with_reducible refine gate_dst (N := 1) rfl ?_); refine box_event ?hg (N := 1) ?hd (cs := #[.int .i64 a0_0, .slice A0_1 l0_1.length c0_1]) (t := 24) ?hr ?_; (case hd => rfl); (case hg => rfl); (case hr => first | (go_simp; done) | (go_simp; rfl)); intro gb645 hg w5 hbox hb; have n0_ := Aside0.mk (below_step (by repeat (first | (with_reducible first | exact HB.out | apply below_alloc | apply pw_below_drewN | apply below_drew1) | exact HB.out)) hb); have n1_ := Aside0.mk (hbox); have n2_ := Aside0.mk ((by rw [hg]; exact (below_size (by repeat (first | (with_reducible first | exact HB.out | apply below_alloc | apply pw_below_drewN | apply below_drew1) | exact HB.out))) : w.heap.size ≤ gb645)); have n3_ := Aside0.mk ((by rw [hg]; exact (below_size (by repeat (first | (with_reducible first | exact HB.out | apply below_alloc | apply pw_below_drewN | apply below_drew1) | exact HB.out))) : w.heap.size ≤ gb645)); clear HB; have HB := n0_; have BK645 := n1_; have GW645 := n2_; have GE645 := n3_; clear n0_ n1_ n2_ n3_; clear hb hbox hg; have hcz6_0 : w5.cell? ⟨gb645, 0, none⟩ = some (.int .i64 a0_0) := (blk_cell BK645.out 0).trans rfl; have hcz6_1 : w5.cell? ⟨gb645, 1, none⟩ = some (.slice A0_1 l0_1.length c0_1) := (blk_cell BK645.out 1).trans rfl; have hfz6_0 := blk_frozen BK645.out 0; have hfz6_1 := blk_frozen BK645.out 1) | ((with_reducible refine gate_callee (f := 44) rfl ?_); refine goesL_ (some 13) rfl rfl Tryd.func44 (by kernel_rfl) rfl #[.agg #[.int .i64 a0_0, .slice A0_1 l0_1.length c0_1]] rfl (by (try simp only [List.map_toArray, List.map_cons, List.map_nil]); first | done | rfl | (simp only [List.length_drop, List.length_take]; rfl)) ?_; (with_reducible refine (dapple_Clash.calls a0_0 _ _ l0_1 t646 t647 t648 _ ?side1 ?side2 ?side3 A2.out).mono ?_); (case side1 => repeat (first | exact (Kd.C_below HR0_1.out HB.out) | (with_reducible refine Kd.C_alloc ?_ _) | (with_reducible refine Kd.C_drewN ?_ _) | (with_reducible refine Kd.C_drew ?_))); (case side2 => exact HC0_1.out); (case side3 => exact Glob.below HGL.out (by repeat (first | (with_reducible first | exact HB.out | apply below_alloc | apply pw_below_drewN | apply below_drew1 | refine below_set ?_ GE645.out) | exact HB.out))); rintro e w7 ⟨rfl, hb⟩; refine ⟨_, rfl, ?_⟩; have n0_ := Aside0.mk (blk_below (g := gb645) (o := .cells #[.int .i64 a0_0, .slice A0_1 l0_1.length c0_1] 24 (0, 0)) (by (with_reducible repeat (first | refine blk_drewN ?_ _ | refine blk_drew ?_ | refine blk_alloc ?_ _)); exact BK645.out) hb); have n1_ := Aside0.mk (below_step (by repeat (first | (with_reducible first | exact HB.out | apply below_alloc | apply pw_below_drewN | apply below_drew1 | refine below_set ?_ GE645.out) | exact HB.out)) hb); clear BK645; clear HB; have BK645 := n0_; have HB := n1_; clear n0_ n1_; (try clear hb); (try clear hb2); (try clear hk); (try clear hi); have hcz8_0 : w7.cell? ⟨gb645, 0, none⟩ = some (.int .i64 a0_0) := (blk_cell BK645.out 0).trans rfl; have hcz8_1 : w7.cell? ⟨gb645, 1, none⟩ = some (.slice A0_1 l0_1.length c0_1) := (blk_cell BK645.out 1).trans rfl; have hfz8_0 := blk_frozen BK645.out 0; have hfz8_1 := blk_frozen BK645.out 1) | ((with_reducible refine gate_callee (f := 52) rfl ?_); refine goesL_ (some 19) rfl rfl Tryd.func52 (by kernel_rfl) rfl #[.agg #[.int .i64 a0_0, .slice A0_1 l0_1.length c0_1]] rfl (by (try simp only [List.map_toArray, List.map_cons, List.map_nil]); first | done | rfl | (simp only [List.length_drop, List.length_take]; rfl)) ?_; (with_reducible refine (skewbaldref07_Clash.calls k a0_0 _ _ l0_1 t649 t650 t651 _ ?side1 ?side2 A3.out).mono ?_); (case side1 => repeat (first | exact (Kd.C_below HR0_1.out HB.out) | (with_reducible refine Kd.C_alloc ?_ _) | (with_reducible refine Kd.C_drewN ?_ _) | (with_reducible refine Kd.C_drew ?_))); (case side2 => exact HC0_1.out); rintro e w9 ⟨rfl, hb⟩; refine ⟨_, rfl, ?_⟩; have n0_ := Aside0.mk (blk_below (g := gb645) (o := .cells #[.int .i64 a0_0, .slice A0_1 l0_1.length c0_1] 24 (0, 0)) (by (with_reducible repeat (first | refine blk_drewN ?_ _ | refine blk_drew ?_ | refine blk_alloc ?_ _)); exact BK645.out) hb); have n1_ := Aside0.mk (below_step (by repeat (first | (with_reducible first | exact HB.out | apply below_alloc | apply pw_below_drewN | apply below_drew1 | refine below_set ?_ GE645.out) | exact HB.out)) hb); clear BK645; clear HB; have BK645 := n0_; have HB := n1_; clear n0_ n1_; (try clear hb); (try clear hb2); (try clear hk); (try clear hi)))
 (try simp only [Act.put, List.setIfInBounds_toArray, List.set_cons_zero, List.set_cons_succ])
 go_cut [35] (fun v35 wc => ∃ (kq : Nat) (x35_3 : Bool), v35 = .bool x35_3 ∧ Aside0 (skewbaldlaw07_DappleFirsts.j0 kq x35_3 a0_0 l0_1 = some true) ∧ Aside0 (kq ≤ k) ∧ Aside0 (wc.heap[gb645]? = some (.cells #[.int .i64 a0_0, (.slice A0_1 l0_1.length c0_1)] 24 (0, 0))) ∧ Aside0 (Below w.heap.size w wc))
 case first =>
  have H := HC4.out
  clear HC4
  by_cases c10 : t646 = t649
  ·rw [if_pos c10] at H
   have c10b0 : (t646 == t649) = true := beq_iff_eq.mpr c10
   have c10b1 : (t646 != t649) = false := bne_eq_false_iff_eq.mpr c10
   clear c10
   (first | rw [c10b0] | (simp only [i64_w, i32_w]; rw [c10b0]) | skip)
   by_cases c11 : t647 = t650
   ·rw [if_pos c11] at H
    have c11b0 : (t647 == t650) = true := beq_iff_eq.mpr c11
    have c11b1 : (t647 != t650) = false := bne_eq_false_iff_eq.mpr c11
    clear c11
    have H' := Aside0.mk H
    clear H
    go_wp2
    go_meet
    case rel => exact ⟨_, ((t648 != t651)), (by first | rfl | (simp; done) | (simp [*]; done)), H', ⟨by first | omega | exact Nat.le_refl _⟩, ⟨by (with_reducible repeat (first | refine blk_drewN ?_ _ | refine blk_drew ?_ | refine blk_alloc ?_ _)); exact BK645.out⟩, ⟨by repeat (first | (with_reducible first | exact HB.out | apply below_alloc | apply pw_below_drewN | apply below_drew1 | refine below_set ?_ GE645.out) | exact HB.out)⟩⟩
   ·rw [if_neg c11] at H
    have c11b0 : (t647 == t650) = false := beq_eq_false_iff_ne.mpr c11
    have c11b1 : (t647 != t650) = true := bne_iff_ne.mpr c11
    exact absurd H (by rcases k with _ | k <;> (first | (simp [skewbaldlaw07_DappleFirsts.j0]; done) | (rcases k with _ | k <;> simp [skewbaldlaw07_DappleFirsts.j0])))
  ·rw [if_neg c10] at H
   have c10b0 : (t646 == t649) = false := beq_eq_false_iff_ne.mpr c10
   have c10b1 : (t646 != t649) = true := bne_iff_ne.mpr c10
   (first | rw [c10b0] | (simp only [i64_w, i32_w]; rw [c10b0]) | skip)
   exact absurd H (by rcases k with _ | k <;> (first | (simp [skewbaldlaw07_DappleFirsts.j0]; done) | (rcases k with _ | k <;> simp [skewbaldlaw07_DappleFirsts.j0])))
 case rest =>
  clear HC4
  try clear c1
  try clear p2
  try clear c4
  try clear c5
  try clear c10
  try clear c10b0
  try clear c10b1
  try clear c11
  try clear c11b0
  try clear c11b1
  try clear hcz6_0
  try clear hcz6_1
  try clear hcz8_0
  try clear hcz8_1
  try clear hfz6_0
  try clear hfz6_1
  try clear hfz8_0
  try clear hfz8_1
  obtain ⟨kq, x35_3, rfl, HA, HJ3, BK645, HB⟩ := hcut
  cases kq with
  | zero => exact absurd HA.out (by simp [skewbaldlaw07_DappleFirsts.j0])
  | succ kj3 =>
   have H := HA.out
   clear HA
   simp only [skewbaldlaw07_DappleFirsts.j0] at H
   by_cases c12 : x35_3 = true
   ·subst c12
    have H1 : (some false) = some true := by rw [if_pos rfl] at H; exact H
    clear H
    have H := H1
    clear H1
    exact absurd H (by simp)
   ·replace c12 := Bool.eq_false_iff.mpr c12
    subst c12
    have H1 : ((dapple_Sure.f a0_0 l0_1).bind fun bt652 => ((skewbaldref07_Sure.f kj3 a0_0 l0_1).bind fun bt655 => (if bt652.1 = bt655.1 then (if bt652.2.1 = bt655.2.1 then (skewbaldlaw07_DappleFirsts.j1 kj3 (bt652.2.2 != bt655.2.2) a0_0 l0_1) else (skewbaldlaw07_DappleFirsts.j1 kj3 true a0_0 l0_1)) else (skewbaldlaw07_DappleFirsts.j1 kj3 true a0_0 l0_1)))) = some true := by rw [if_neg (show ¬ (false = true) by decide)] at H; exact H
    clear H
    have H := H1
    clear H1
    replace H := Option.bind_eq_some_iff.mp H
    obtain ⟨⟨t652, t653, t654⟩, A130, H⟩ := H
    replace H : ((skewbaldref07_Sure.f kj3 a0_0 l0_1).bind fun bt655 => (if t652 = bt655.1 then (if t653 = bt655.2.1 then (skewbaldlaw07_DappleFirsts.j1 kj3 (t654 != bt655.2.2) a0_0 l0_1) else (skewbaldlaw07_DappleFirsts.j1 kj3 true a0_0 l0_1)) else (skewbaldlaw07_DappleFirsts.j1 kj3 true a0_0 l0_1))) = some true := H
    have A13 := Aside0.mk A130
    clear A130
    replace H := Option.bind_eq_some_iff.mp H
    obtain ⟨⟨t655, t656, t657⟩, A140, H⟩ := H
    replace H : (if t652 = t655 then (if t653 = t656 then (skewbaldlaw07_DappleFirsts.j1 kj3 (t654 != t657) a0_0 l0_1) else (skewbaldlaw07_DappleFirsts.j1 kj3 true a0_0 l0_1)) else (skewbaldlaw07_DappleFirsts.j1 kj3 true a0_0 l0_1)) = some true := H
    have A14 := Aside0.mk A140
    clear A140
    have HC15 := Aside0.mk H
    clear H
    have hcz16_0 : wc.cell? ⟨gb645, 0, none⟩ = some (.int .i64 a0_0) := (blk_cell BK645.out 0).trans rfl
    have hcz16_1 : wc.cell? ⟨gb645, 1, none⟩ = some (.slice A0_1 l0_1.length c0_1) := (blk_cell BK645.out 1).trans rfl
    have hfz16_0 := blk_frozen BK645.out 0
    have hfz16_1 := blk_frozen BK645.out 1
    go_upto_region 7 with (first | ((with_reducible refine gate_callee (f := 53) rfl ?_); refine goesL_ (some 38) rfl rfl Tryd.func53 (by kernel_rfl) rfl #[.agg #[.int .i64 a0_0, .slice A0_1 l0_1.length c0_1]] rfl (by (try simp only [List.map_toArray, List.map_cons, List.map_nil]); first | done | rfl | (simp only [List.length_drop, List.length_take]; rfl)) ?_; (with_reducible refine (dapple_Sure.calls a0_0 _ _ l0_1 t652 t653 t654 _ ?side1 ?side2 ?side3 A13.out).mono ?_); (case side1 => repeat (first | exact (Kd.C_below HR0_1.out HB.out) | (with_reducible refine Kd.C_alloc ?_ _) | (with_reducible refine Kd.C_drewN ?_ _) | (with_reducible refine Kd.C_drew ?_))); (case side2 => exact HC0_1.out); (case side3 => exact Glob.below HGL.out (by repeat (first | (with_reducible first | exact HB.out | apply below_alloc | apply pw_below_drewN | apply below_drew1 | refine below_set ?_ GE645.out) | exact HB.out))); rintro e w17 ⟨rfl, hb⟩; refine ⟨_, rfl, ?_⟩; have n0_ := Aside0.mk (blk_below (g := gb645) (o := .cells #[.int .i64 a0_0, .slice A0_1 l0_1.length c0_1] 24 (0, 0)) (by (with_reducible repeat (first | refine blk_drewN ?_ _ | refine blk_drew ?_ | refine blk_alloc ?_ _)); exact BK645.out) hb); have n1_ := Aside0.mk (below_step (by repeat (first | (with_reducible first | exact HB.out | apply below_alloc | apply pw_below_drewN | apply below_drew1 | refine below_set ?_ GE645.out) | exact HB.out)) hb); clear BK645; clear HB; have BK645 := n0_; have HB := n1_; clear n0_ n1_; (try clear hb); (try clear hb2); (try clear hk); (try clear hi); have hcz18_0 : w17.cell? ⟨gb645, 0, none⟩ = some (.int .i64 a0_0) := (blk_cell BK645.out 0).trans rfl; have hcz18_1 : w17.cell? ⟨gb645, 1, none⟩ = some (.slice A0_1 l0_1.length c0_1) := (blk_cell BK645.out 1).trans rfl; have hfz18_0 := blk_frozen BK645.out 0; have hfz18_1 := blk_frozen BK645.out 1) | ((with_reducible refine gate_callee (f := 54) rfl ?_); refine goesL_ (some 44) rfl rfl Tryd.func54 (by kernel_rfl) rfl #[.agg #[.int .i64 a0_0, .slice A0_1 l0_1.length c0_1]] rfl (by (try simp only [List.map_toArray, List.map_cons, List.map_nil]); first | done | rfl | (simp only [List.length_drop, List.length_take]; rfl)) ?_; (with_reducible refine (skewbaldref07_Sure.calls kj3 a0_0 _ _ l0_1 t655 t656 t657 _ ?side1 ?side2 A14.out).mono ?_); (case side1 => repeat (first | exact (Kd.C_below HR0_1.out HB.out) | (with_reducible refine Kd.C_alloc ?_ _) | (with_reducible refine Kd.C_drewN ?_ _) | (with_reducible refine Kd.C_drew ?_))); (case side2 => exact HC0_1.out); rintro e w19 ⟨rfl, hb⟩; refine ⟨_, rfl, ?_⟩; have n0_ := Aside0.mk (blk_below (g := gb645) (o := .cells #[.int .i64 a0_0, .slice A0_1 l0_1.length c0_1] 24 (0, 0)) (by (with_reducible repeat (first | refine blk_drewN ?_ _ | refine blk_drew ?_ | refine blk_alloc ?_ _)); exact BK645.out) hb); have n1_ := Aside0.mk (below_step (by repeat (first | (with_reducible first | exact HB.out | apply below_alloc | apply pw_below_drewN | apply below_drew1 | refine below_set ?_ GE645.out) | exact HB.out)) hb); clear BK645; clear HB; have BK645 := n0_; have HB := n1_; clear n0_ n1_; (try clear hb); (try clear hb2); (try clear hk); (try clear hi)))
    (try simp only [Act.put, List.setIfInBounds_toArray, List.set_cons_zero, List.set_cons_succ])
    go_cut [60] (fun v60 wc => ∃ (kq : Nat) (x60_14 : Bool), v60 = .bool x60_14 ∧ Aside0 (skewbaldlaw07_DappleFirsts.j1 kq x60_14 a0_0 l0_1 = some true) ∧ Aside0 (kq ≤ kj3) ∧ Aside0 (wc.heap[gb645]? = some (.cells #[.int .i64 a0_0, (.slice A0_1 l0_1.length c0_1)] 24 (0, 0))) ∧ Aside0 (Below w.heap.size w wc))
    case first =>
     have H := HC15.out
     clear HC15
     by_cases c20 : t652 = t655
     ·rw [if_pos c20] at H
      have c20b0 : (t652 == t655) = true := beq_iff_eq.mpr c20
      have c20b1 : (t652 != t655) = false := bne_eq_false_iff_eq.mpr c20
      clear c20
      (first | rw [c20b0] | (simp only [i64_w, i32_w]; rw [c20b0]) | skip)
      by_cases c21 : t653 = t656
      ·rw [if_pos c21] at H
       have c21b0 : (t653 == t656) = true := beq_iff_eq.mpr c21
       have c21b1 : (t653 != t656) = false := bne_eq_false_iff_eq.mpr c21
       clear c21
       have H' := Aside0.mk H
       clear H
       go_wp2
       go_meet
       case rel => exact ⟨_, ((t654 != t657)), (by first | rfl | (simp; done) | (simp [*]; done)), H', ⟨by have := HJ3.out; first | omega | exact Nat.le_refl _⟩, ⟨by (with_reducible repeat (first | refine blk_drewN ?_ _ | refine blk_drew ?_ | refine blk_alloc ?_ _)); exact BK645.out⟩, ⟨by repeat (first | (with_reducible first | exact HB.out | apply below_alloc | apply pw_below_drewN | apply below_drew1 | refine below_set ?_ GE645.out) | exact HB.out)⟩⟩
      ·rw [if_neg c21] at H
       have c21b0 : (t653 == t656) = false := beq_eq_false_iff_ne.mpr c21
       have c21b1 : (t653 != t656) = true := bne_iff_ne.mpr c21
       exact absurd H (by rcases kj3 with _ | kj3 <;> (first | (simp [skewbaldlaw07_DappleFirsts.j1]; done) | (rcases kj3 with _ | kj3 <;> simp [skewbaldlaw07_DappleFirsts.j1])))
     ·rw [if_neg c20] at H
      have c20b0 : (t652 == t655) = false := beq_eq_false_iff_ne.mpr c20
      have c20b1 : (t652 != t655) = true := bne_iff_ne.mpr c20
      (first | rw [c20b0] | (simp only [i64_w, i32_w]; rw [c20b0]) | skip)
      exact absurd H (by rcases kj3 with _ | kj3 <;> (first | (simp [skewbaldlaw07_DappleFirsts.j1]; done) | (rcases kj3 with _ | kj3 <;> simp [skewbaldlaw07_DappleFirsts.j1])))
    case rest =>
     clear HC15
     try clear c1
     try clear c2
     try clear p2
     try clear c4
     try clear c5
     try clear c10
     try clear c10b0
     try clear c10b1
     try clear c11
     try clear c11b0
     try clear c11b1
     try clear c12
     try clear c14
     try clear c20
     try clear c20b0
     try clear c20b1
     try clear c21
     try clear c21b0
     try clear c21b1
     try clear hcz16_0
     try clear hcz16_1
     try clear hcz18_0
     try clear hcz18_1
     try clear hcz6_0
     try clear hcz6_1
     try clear hcz8_0
     try clear hcz8_1
     try clear hfz16_0
     try clear hfz16_1
     try clear hfz18_0
     try clear hfz18_1
     try clear hfz6_0
     try clear hfz6_1
     try clear hfz8_0
     try clear hfz8_1
     try clear p2
     obtain ⟨kq, x60_14, rfl, HA, HJ14, BK645, HB⟩ := hcut
     cases kq with
     | zero => exact absurd HA.out (by simp [skewbaldlaw07_DappleFirsts.j1])
     | succ kj14 =>
      have H := HA.out
      clear HA
      simp only [skewbaldlaw07_DappleFirsts.j1] at H
      by_cases c22 : x60_14 = true
      ·subst c22
       have H1 : (some false) = some true := by rw [if_pos rfl] at H; exact H
       clear H
       have H := H1
       clear H1
       exact absurd H (by simp)
      ·replace c22 := Bool.eq_false_iff.mpr c22
       subst c22
       have H1 : ((dapple_Drop.f a0_0 l0_1).bind fun bt658 => ((skewbaldref07_Drop.f kj14 a0_0 l0_1).bind fun bt662 => ((skewbaldref00_Equal.f kj14 bt658.1 bt662.1).bind fun t666 => (if t666 = true then (skewbaldlaw07_DappleFirsts.j2 kj14 (bt658.2 != bt662.2) a0_0 l0_1) else (skewbaldlaw07_DappleFirsts.j2 kj14 true a0_0 l0_1))))) = some true := by rw [if_neg (show ¬ (false = true) by decide)] at H; exact H
       clear H
       have H := H1
       clear H1
       replace H := Option.bind_eq_some_iff.mp H
       obtain ⟨⟨t658, t661⟩, A230, H⟩ := H
       replace H : ((skewbaldref07_Drop.f kj14 a0_0 l0_1).bind fun bt662 => ((skewbaldref00_Equal.f kj14 t658 bt662.1).bind fun t666 => (if t666 = true then (skewbaldlaw07_DappleFirsts.j2 kj14 (t661 != bt662.2) a0_0 l0_1) else (skewbaldlaw07_DappleFirsts.j2 kj14 true a0_0 l0_1)))) = some true := H
       have A23 := Aside0.mk A230
       clear A230
       replace H := Option.bind_eq_some_iff.mp H
       obtain ⟨⟨t662, t665⟩, A240, H⟩ := H
       replace H : ((skewbaldref00_Equal.f kj14 t658 t662).bind fun t666 => (if t666 = true then (skewbaldlaw07_DappleFirsts.j2 kj14 (t661 != t665) a0_0 l0_1) else (skewbaldlaw07_DappleFirsts.j2 kj14 true a0_0 l0_1))) = some true := H
       have A24 := Aside0.mk A240
       clear A240
       have HC25 := Aside0.mk H
       clear H
       have hcz26_0 : wc.cell? ⟨gb645, 0, none⟩ = some (.int .i64 a0_0) := (blk_cell BK645.out 0).trans rfl
       have hcz26_1 : wc.cell? ⟨gb645, 1, none⟩ = some (.slice A0_1 l0_1.length c0_1) := (blk_cell BK645.out 1).trans rfl
       have hfz26_0 := blk_frozen BK645.out 0
       have hfz26_1 := blk_frozen BK645.out 1
       go_upto_region 11 with (first | ((with_reducible refine gate_callee (f := 42) rfl ?_); refine goesL_ (some 63) rfl rfl Tryd.func42 (by kernel_rfl) rfl #[.agg #[.int .i64 a0_0, .slice A0_1 l0_1.length c0_1]] rfl (by (try simp only [List.map_toArray, List.map_cons, List.map_nil]); first | done | rfl | (simp only [List.length_drop, List.length_take]; rfl)) ?_; (with_reducible refine (dapple_Drop.calls a0_0 _ _ l0_1 t658 t661 _ ?side1 ?side2 ?side3 A23.out).mono ?_); (case side1 => repeat (first | exact (Kd.C_below HR0_1.out HB.out) | (with_reducible refine Kd.C_alloc ?_ _) | (with_reducible refine Kd.C_drewN ?_ _) | (with_reducible refine Kd.C_drew ?_))); (case side2 => exact HC0_1.out); (case side3 => exact Glob.below HGL.out (by repeat (first | (with_reducible first | exact HB.out | apply below_alloc | apply pw_below_drewN | apply below_drew1 | refine below_set ?_ GE645.out) | exact HB.out))); rintro e w27 ⟨v659, rfl, ho0, hb⟩; refine ⟨_, rfl, ?_⟩; have n0_ := Aside0.mk (Kd.V_lower (Kd.V_mono (ok' := fun k_ => k_ ≠ gb645) ho0 (fun k_ hk_ => (Kd.freshB (g := gb645) (o := .cells #[.int .i64 a0_0, .slice A0_1 l0_1.length c0_1] 24 (0, 0)) (by (with_reducible repeat (first | refine blk_drewN ?_ _ | refine blk_drew ?_ | refine blk_alloc ?_ _)); exact BK645.out) k_ hk_))) (below_size (by repeat (first | (with_reducible first | exact HB.out | apply below_alloc | apply pw_below_drewN | apply below_drew1 | refine below_set ?_ GE645.out) | exact HB.out)))); have n1_ := Aside0.mk (blk_below (g := gb645) (o := .cells #[.int .i64 a0_0, .slice A0_1 l0_1.length c0_1] 24 (0, 0)) (by (with_reducible repeat (first | refine blk_drewN ?_ _ | refine blk_drew ?_ | refine blk_alloc ?_ _)); exact BK645.out) hb); have n2_ := Aside0.mk (below_step (by repeat (first | (with_reducible first | exact HB.out | apply below_alloc | apply pw_below_drewN | apply below_drew1 | refine below_set ?_ GE645.out) | exact HB.out)) hb); clear BK645; clear HB; have HO660 := n0_; have BK645 := n1_; have HB := n2_; clear n0_ n1_ n2_; (try clear hb); (try clear hb2); (try clear hk); (try clear hi); (try clear ho0); have hcz28_0 : w27.cell? ⟨gb645, 0, none⟩ = some (.int .i64 a0_0) := (blk_cell BK645.out 0).trans rfl; have hcz28_1 : w27.cell? ⟨gb645, 1, none⟩ = some (.slice A0_1 l0_1.length c0_1) := (blk_cell BK645.out 1).trans rfl; have hfz28_0 := blk_frozen BK645.out 0; have hfz28_1 := blk_frozen BK645.out 1) | ((with_reducible refine gate_callee (f := 55) rfl ?_); refine goesL_ (some 68) rfl rfl Tryd.func55 (by kernel_rfl) rfl #[.agg #[.int .i64 a0_0, .slice A0_1 l0_1.length c0_1]] rfl (by (try simp only [List.map_toArray, List.map_cons, List.map_nil]); first | done | rfl | (simp only [List.length_drop, List.length_take]; rfl)) ?_; (with_reducible refine (skewbaldref07_Drop.calls kj14 a0_0 _ _ l0_1 t662 t665 _ ?side1 ?side2 A24.out).mono ?_); (case side1 => repeat (first | exact (Kd.C_below HR0_1.out HB.out) | (with_reducible refine Kd.C_alloc ?_ _) | (with_reducible refine Kd.C_drewN ?_ _) | (with_reducible refine Kd.C_drew ?_))); (case side2 => exact HC0_1.out); rintro e w29 ⟨v663, rfl, ho0, hb⟩; refine ⟨_, rfl, ?_⟩; have n0_ := Aside0.mk (Kd.V_elder' (by (with_reducible repeat (first | apply Kd.V_alloc | apply Kd.V_drewN | apply Kd.V_drew)); exact HO660.out) (Kd.R_base ho0) hb); have n1_ := Aside0.mk (Kd.R_lower ho0 (below_size (by repeat (first | (with_reducible first | exact HB.out | apply below_alloc | apply pw_below_drewN | apply below_drew1 | refine below_set ?_ GE645.out) | exact HB.out)))); have n2_ := Aside0.mk (blk_below (g := gb645) (o := .cells #[.int .i64 a0_0, .slice A0_1 l0_1.length c0_1] 24 (0, 0)) (by (with_reducible repeat (first | refine blk_drewN ?_ _ | refine blk_drew ?_ | refine blk_alloc ?_ _)); exact BK645.out) hb); have n3_ := Aside0.mk (below_step (by repeat (first | (with_reducible first | exact HB.out | apply below_alloc | apply pw_below_drewN | apply below_drew1 | refine below_set ?_ GE645.out) | exact HB.out)) hb); clear HO660; clear BK645; clear HB; have HO660 := n0_; have HO664 := n1_; have BK645 := n2_; have HB := n3_; clear n0_ n1_ n2_ n3_; (try clear hb); (try clear hb2); (try clear hk); (try clear hi); (try clear ho0)))
       (try simp only [Act.put, List.setIfInBounds_toArray, List.set_cons_zero, List.set_cons_succ])
       go_cut [79] (fun v79 wc => ∃ (kq : Nat) (x79_24 : Bool), v79 = .bool x79_24 ∧ Aside0 (skewbaldlaw07_DappleFirsts.j2 kq x79_24 a0_0 l0_1 = some true) ∧ Aside0 (kq ≤ kj14) ∧ Aside0 (wc.heap[gb645]? = some (.cells #[.int .i64 a0_0, (.slice A0_1 l0_1.length c0_1)] 24 (0, 0))) ∧ Aside0 (Below w.heap.size w wc))
       case first =>
        have H := HC25.out
        clear HC25
        replace H := Option.bind_eq_some_iff.mp H
        obtain ⟨t666, A300, H⟩ := H
        replace H : (if t666 = true then (skewbaldlaw07_DappleFirsts.j2 kj14 (t661 != t665) a0_0 l0_1) else (skewbaldlaw07_DappleFirsts.j2 kj14 true a0_0 l0_1)) = some true := H
        have A30 := Aside0.mk A300
        clear A300
        by_cases c31 : t666 = true
        ·subst c31
         have H1 : (skewbaldlaw07_DappleFirsts.j2 kj14 (t661 != t665) a0_0 l0_1) = some true := by rw [if_pos rfl] at H; exact H
         clear H
         have H := H1
         clear H1
         have H' := Aside0.mk H
         clear H
         obtain ⟨Ao32, co32, eo32⟩ := Kd.V_slice HO660.out
         subst eo32
         obtain ⟨Ao33, co33, eo33⟩ := Kd.R_slice HO664.out
         subst eo33
         go_wp2_with (first | ((with_reducible refine gate_callee (f := 19) rfl ?_); refine goesL_ (some 73) rfl rfl Tryd.func19 (by kernel_rfl) rfl #[.slice Ao32 t658.length co32, .slice Ao33 t662.length co33] rfl (by (try simp only [List.map_toArray, List.map_cons, List.map_nil]); first | done | rfl | (simp only [List.length_drop, List.length_take]; rfl)) ?_; (with_reducible refine (skewbaldref00_Equal.calls kj14 _ _ t658 _ _ t662 true _ ?side1 ?side2 ?side3 ?side4 A30.out).mono ?_); (case side1 => repeat (first | exact (Kd.V_reads' HO660.out).2.2 | (with_reducible refine Kd.C_alloc ?_ _) | (with_reducible refine Kd.C_drewN ?_ _) | (with_reducible refine Kd.C_drew ?_))); (case side2 => exact (Kd.V_reads' HO660.out).2.1); (case side3 => repeat (first | exact (Kd.R_reads' HO664.out).2.2 | (with_reducible refine Kd.C_alloc ?_ _) | (with_reducible refine Kd.C_drewN ?_ _) | (with_reducible refine Kd.C_drew ?_))); (case side4 => exact (Kd.R_reads' HO664.out).2.1); rintro e w' ⟨rfl, ⟨nd, rfl⟩⟩; refine ⟨_, rfl, ?_⟩))
         go_meet
         case rel => exact ⟨_, ((t661 != t665)), (by first | rfl | (simp; done) | (simp [*]; done)), H', ⟨by have := HJ3.out; have := HJ14.out; first | omega | exact Nat.le_refl _⟩, ⟨by (with_reducible repeat (first | refine blk_drewN ?_ _ | refine blk_drew ?_ | refine blk_alloc ?_ _)); exact BK645.out⟩, ⟨by repeat (first | (with_reducible first | exact HB.out | apply below_alloc | apply pw_below_drewN | apply below_drew1 | refine below_set ?_ GE645.out) | exact HB.out)⟩⟩
        ·replace c31 := Bool.eq_false_iff.mpr c31
         subst c31
         have H1 : (skewbaldlaw07_DappleFirsts.j2 kj14 true a0_0 l0_1) = some true := by rw [if_neg (show ¬ (false = true) by decide)] at H; exact H
         clear H
         have H := H1
         clear H1
         exact absurd H (by rcases kj14 with _ | kj14 <;> (first | (simp [skewbaldlaw07_DappleFirsts.j2]; done) | (rcases kj14 with _ | kj14 <;> simp [skewbaldlaw07_DappleFirsts.j2])))
       case rest =>
        clear HC25
        try clear c1
        try clear c2
        try clear p2
        try clear c3
        try clear c4
        try clear c5
        try clear c10
        try clear c10b0
        try clear c10b1
        try clear c11
        try clear c11b0
        try clear c11b1
        try clear c12
        try clear c14
        try clear c19
        try clear c20
        try clear c20b0
        try clear c20b1
        try clear c21
        try clear c21b0
        try clear c21b1
        try clear c22
        try clear c31
        try clear hcz16_0
        try clear hcz16_1
        try clear hcz18_0
        try clear hcz18_1
        try clear hcz26_0
        try clear hcz26_1
        try clear hcz28_0
        try clear hcz28_1
        try clear hcz6_0
        try clear hcz6_1
        try clear hcz8_0
        try clear hcz8_1
        try clear hfz16_0
        try clear hfz16_1
        try clear hfz18_0
        try clear hfz18_1
        try clear hfz26_0
        try clear hfz26_1
        try clear hfz28_0
        try clear hfz28_1
        try clear hfz6_0
        try clear hfz6_1
        try clear hfz8_0
        try clear hfz8_1
        try clear p2
        obtain ⟨kq, x79_24, rfl, HA, HJ24, BK645, HB⟩ := hcut
        cases kq with
        | zero => exact absurd HA.out (by simp [skewbaldlaw07_DappleFirsts.j2])
        | succ kj24 =>
         have H := HA.out
         clear HA
         simp only [skewbaldlaw07_DappleFirsts.j2] at H
         by_cases c34 : x79_24 = true
         ·subst c34
          have H1 : (some false) = some true := by rw [if_pos rfl] at H; exact H
          clear H
          have H := H1
          clear H1
          exact absurd H (by simp)
         ·replace c34 := Bool.eq_false_iff.mpr c34
          subst c34
          have H1 : ((dapple_Look.f a0_0 l0_1).bind fun bt667 => ((skewbaldref07_Look.f kj24 a0_0 l0_1).bind fun bt670 => (if bt667.1 = bt670.1 then (if bt667.2.1 = bt670.2.1 then (if bt667.2.2 = bt670.2.2 then ((skewbaldlaw07_pressed.f kj24).bind fun t673 => (some t673)) else (some false)) else (some false)) else (some false)))) = some true := by rw [if_neg (show ¬ (false = true) by decide)] at H; exact H
          clear H
          have H := H1
          clear H1
          replace H := Option.bind_eq_some_iff.mp H
          obtain ⟨⟨t667, t668, t669⟩, A350, H⟩ := H
          replace H : ((skewbaldref07_Look.f kj24 a0_0 l0_1).bind fun bt670 => (if t667 = bt670.1 then (if t668 = bt670.2.1 then (if t669 = bt670.2.2 then ((skewbaldlaw07_pressed.f kj24).bind fun t673 => (some t673)) else (some false)) else (some false)) else (some false))) = some true := H
          have A35 := Aside0.mk A350
          clear A350
          replace H := Option.bind_eq_some_iff.mp H
          obtain ⟨⟨t670, t671, t672⟩, A360, H⟩ := H
          replace H : (if t667 = t670 then (if t668 = t671 then (if t669 = t672 then ((skewbaldlaw07_pressed.f kj24).bind fun t673 => (some t673)) else (some false)) else (some false)) else (some false)) = some true := H
          have A36 := Aside0.mk A360
          clear A360
          by_cases c37 : t667 = t670
          ·rw [if_pos c37] at H
           have c37b0 : (t667 == t670) = true := beq_iff_eq.mpr c37
           have c37b1 : (t667 != t670) = false := bne_eq_false_iff_eq.mpr c37
           clear c37
           by_cases c38 : t668 = t671
           ·rw [if_pos c38] at H
            have c38b0 : (t668 == t671) = true := beq_iff_eq.mpr c38
            have c38b1 : (t668 != t671) = false := bne_eq_false_iff_eq.mpr c38
            clear c38
            by_cases c39 : t669 = t672
            ·rw [if_pos c39] at H
             have c39b0 : (t669 == t672) = true := beq_iff_eq.mpr c39
             have c39b1 : (t669 != t672) = false := bne_eq_false_iff_eq.mpr c39
             clear c39
             replace H := Option.bind_eq_some_iff.mp H
             obtain ⟨t673, A400, H⟩ := H
             replace H : (some t673) = some true := H
             have A40 := Aside0.mk A400
             clear A400
             have HE_ := Aside0.mk (Option.some.inj H)
             clear H
             have hcz41_0 : wc.cell? ⟨gb645, 0, none⟩ = some (.int .i64 a0_0) := (blk_cell BK645.out 0).trans rfl
             have hcz41_1 : wc.cell? ⟨gb645, 1, none⟩ = some (.slice A0_1 l0_1.length c0_1) := (blk_cell BK645.out 1).trans rfl
             have hfz41_0 := blk_frozen BK645.out 0
             have hfz41_1 := blk_frozen BK645.out 1
             go_wp2_with (first | ((with_reducible refine gate_callee (f := 47) rfl ?_); refine goesL_ (some 82) rfl rfl Tryd.func47 (by kernel_rfl) rfl #[.agg #[.int .i64 a0_0, .slice A0_1 l0_1.length c0_1]] rfl (by (try simp only [List.map_toArray, List.map_cons, List.map_nil]); first | done | rfl | (simp only [List.length_drop, List.length_take]; rfl)) ?_; (with_reducible refine (dapple_Look.calls a0_0 _ _ l0_1 t667 t668 t669 _ ?side1 ?side2 ?side3 A35.out).mono ?_); (case side1 => repeat (first | exact (Kd.C_below HR0_1.out HB.out) | (with_reducible refine Kd.C_alloc ?_ _) | (with_reducible refine Kd.C_drewN ?_ _) | (with_reducible refine Kd.C_drew ?_))); (case side2 => exact HC0_1.out); (case side3 => exact Glob.below HGL.out (by repeat (first | (with_reducible first | exact HB.out | apply below_alloc | apply pw_below_drewN | apply below_drew1 | refine below_set ?_ GE645.out) | exact HB.out))); rintro e w42 ⟨rfl, hb⟩; refine ⟨_, rfl, ?_⟩; have n0_ := Aside0.mk (blk_below (g := gb645) (o := .cells #[.int .i64 a0_0, .slice A0_1 l0_1.length c0_1] 24 (0, 0)) (by (with_reducible repeat (first | refine blk_drewN ?_ _ | refine blk_drew ?_ | refine blk_alloc ?_ _)); exact BK645.out) hb); have n1_ := Aside0.mk (below_step (by repeat (first | (with_reducible first | exact HB.out | apply below_alloc | apply pw_below_drewN | apply below_drew1 | refine below_set ?_ GE645.out) | exact HB.out)) hb); clear BK645; clear HB; have BK645 := n0_; have HB := n1_; clear n0_ n1_; (try clear hb); (try clear hb2); (try clear hk); (try clear hi); have hcz43_0 : w42.cell? ⟨gb645, 0, none⟩ = some (.int .i64 a0_0) := (blk_cell BK645.out 0).trans rfl; have hcz43_1 : w42.cell? ⟨gb645, 1, none⟩ = some (.slice A0_1 l0_1.length c0_1) := (blk_cell BK645.out 1).trans rfl; have hfz43_0 := blk_frozen BK645.out 0; have hfz43_1 := blk_frozen BK645.out 1) | ((with_reducible refine gate_callee (f := 56) rfl ?_); refine goesL_ (some 88) rfl rfl Tryd.func56 (by kernel_rfl) rfl #[.agg #[.int .i64 a0_0, .slice A0_1 l0_1.length c0_1]] rfl (by (try simp only [List.map_toArray, List.map_cons, List.map_nil]); first | done | rfl | (simp only [List.length_drop, List.length_take]; rfl)) ?_; (with_reducible refine (skewbaldref07_Look.calls kj24 a0_0 _ _ l0_1 t670 t671 t672 _ ?side1 ?side2 A36.out).mono ?_); (case side1 => repeat (first | exact (Kd.C_below HR0_1.out HB.out) | (with_reducible refine Kd.C_alloc ?_ _) | (with_reducible refine Kd.C_drewN ?_ _) | (with_reducible refine Kd.C_drew ?_))); (case side2 => exact HC0_1.out); rintro e w44 ⟨rfl, hb⟩; refine ⟨_, rfl, ?_⟩; have n0_ := Aside0.mk (blk_below (g := gb645) (o := .cells #[.int .i64 a0_0, .slice A0_1 l0_1.length c0_1] 24 (0, 0)) (by (with_reducible repeat (first | refine blk_drewN ?_ _ | refine blk_drew ?_ | refine blk_alloc ?_ _)); exact BK645.out) hb); have n1_ := Aside0.mk (below_step (by repeat (first | (with_reducible first | exact HB.out | apply below_alloc | apply pw_below_drewN | apply below_drew1 | refine below_set ?_ GE645.out) | exact HB.out)) hb); clear BK645; clear HB; have BK645 := n0_; have HB := n1_; clear n0_ n1_; (try clear hb); (try clear hb2); (try clear hk); (try clear hi)) | (go_at_call 24; (with_reducible refine (skewbaldlaw07_pressed.calls kj24  t673 _ ?side1 A40.out).mono ?_); (case side1 => exact Glob.below HGL.out (by repeat (first | (with_reducible first | exact HB.out | apply below_alloc | apply pw_below_drewN | apply below_drew1 | refine below_set ?_ GE645.out) | exact HB.out))); rintro e w45 ⟨rfl, hb⟩; have n0_ := Aside0.mk (blk_below (g := gb645) (o := .cells #[.int .i64 a0_0, .slice A0_1 l0_1.length c0_1] 24 (0, 0)) (by (with_reducible repeat (first | refine blk_drewN ?_ _ | refine blk_drew ?_ | refine blk_alloc ?_ _)); exact BK645.out) hb); have n1_ := Aside0.mk (below_step (by repeat (first | (with_reducible first | exact HB.out | apply below_alloc | apply pw_below_drewN | apply below_drew1 | refine below_set ?_ GE645.out) | exact HB.out)) hb); clear BK645; clear HB; have BK645 := n0_; have HB := n1_; clear n0_ n1_; (try clear hb); (try clear hb2); (try clear hk); (try clear hi)))
             go_ret
             exact ⟨by first | rfl | (rw [HE_.out]; done) | (simp [HE_.out]; done) | (simp [errW_none, errW_some] <;> rfl) | (simp [*, errW_none, errW_some] <;> rfl), by repeat (first | (with_reducible first | exact HB.out | apply below_alloc | apply pw_below_drewN | apply below_drew1 | refine below_set ?_ GE645.out) | exact HB.out)⟩
            ·rw [if_neg c39] at H
             have c39b0 : (t669 == t672) = false := beq_eq_false_iff_ne.mpr c39
             have c39b1 : (t669 != t672) = true := bne_iff_ne.mpr c39
             exact absurd H (by simp)
           ·rw [if_neg c38] at H
            have c38b0 : (t668 == t671) = false := beq_eq_false_iff_ne.mpr c38
            have c38b1 : (t668 != t671) = true := bne_iff_ne.mpr c38
            exact absurd H (by simp)
          ·rw [if_neg c37] at H
           have c37b0 : (t667 == t670) = false := beq_eq_false_iff_ne.mpr c37
           have c37b1 : (t667 != t670) = true := bne_iff_ne.mpr c37
           exact absurd H (by simp)

end Go.Proofs.YtdllacjkacmghaaDoor.DT
