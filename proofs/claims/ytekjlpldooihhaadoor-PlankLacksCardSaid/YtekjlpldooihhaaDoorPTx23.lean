/- Printed by a program (prx.py). -/
import Derived.Test.YtekjlpldooihhaaDoorWTab
import Derived.Test.YtekjlpldooihhaaDoorSv
import Derived.Test.YtekjlpldooihhaaDoorPTx17
namespace Go.Proofs.YtekjlpldooihhaaDoor.PT
open Go.Proofs.YtekjlpldooihhaaDoorSh
open Go.Proofs.YtekjlpldooihhaaDoor.PA (S48 S50 S60 at_L2 at_L4 at_T48 at_T50 at_T60 errW errW_none errW_some k48 k48_mk k48_mkM k48_open k48_openM k50 k50_mk k50_mkM k50_open k50_openM k60 k60_mk k60_mkM k60_open k60_openM rd_L2 rd_L4 rd_T48 rd_T50 rd_T60 z48 z50 z60)
open Go.Proofs.YtekjlpldooihhaaDoorP Go.Proofs.YtekjlpldooihhaaDoorK
open Go.RowKit Go.Proofs.YtekjlpldooihhaaDoorW.PrintWords Go.Proofs.YtekjlpldooihhaaDoorW.PrintLast Go.Proofs.YtekjlpldooihhaaDoorW.PrintMore
attribute [local go_sem] max2_int min2_int max_two min_two max_three min_three max_four min_four   -- for this text's walks alone
set_option linter.unusedVariables false
set_option linter.unusedSimpArgs false
mutual
def skewbaldlaw01_only.l0 : Nat → Int → Int → Int → List (S48) → List (S50) → List (S48) → Option ((List (S48)) × (List (S50)))
 | 0, _, _, _, _, _, _ => none
 | k + 1, x1, x2, x8, x517000, x517001, x519000 => if x8 < (x517000.length : Int) then ((skewbaldref00_Of.f x1 x8).bind fun t519 => (if t519 = true then (if 0 ≤ x8 then (if x519000.length < 4398046511104 then (skewbaldlaw01_only.l0 k x1 x2 (wrap64 (x8 + 1)) x517000 x517001 (x519000 ++ [(⟨(rd_T48 x517000 x8).f0, (rd_T48 x517000 x8).f1⟩ : S48)])) else (none)) else (none)) else (skewbaldlaw01_only.l0 k x1 x2 (wrap64 (x8 + 1)) x517000 x517001 x519000))) else (skewbaldlaw01_only.l1 k x2 0 x517000 x517001 x519000 ([] : List (S50)))
def skewbaldlaw01_only.l1 : Nat → Int → Int → List (S48) → List (S50) → List (S48) → List (S50) → Option ((List (S48)) × (List (S50)))
 | 0, _, _, _, _, _, _ => none
 | k + 1, x2, x9, x517000, x517001, x519000, x519001 => if x9 < (x517001.length : Int) then ((skewbaldref00_Of.f x2 x9).bind fun t524 => (if t524 = true then (if 0 ≤ x9 then (if x519001.length < 3518437208883 then (skewbaldlaw01_only.l1 k x2 (wrap64 (x9 + 1)) x517000 x517001 x519000 (x519001 ++ [(⟨(rd_T50 x517001 x9).f0, (rd_T50 x517001 x9).f1, (rd_T50 x517001 x9).f2⟩ : S50)])) else (none)) else (none)) else (skewbaldlaw01_only.l1 k x2 (wrap64 (x9 + 1)) x517000 x517001 x519000 x519001))) else (some (x519000, x519001))
end
def skewbaldlaw01_only.f (k : Nat) (l0_0 : List (S48)) (l0_1 : List (S50)) (a1 : Int) (a2 : Int) : Option ((List (S48)) × (List (S50))) := skewbaldlaw01_only.l0 k a1 a2 0 l0_0 l0_1 ([] : List (S48))
def skewbaldlaw01_only.T6 : Bool × List (List Nat × List Nat) := (true, [([], []), ([0], [0]), ([], []), ([2], [2]), ([], []), ([3, 4], [3, 4]), ([5], [5]), ([6], [6]), ([1, 7], [1, 7]), ([0, 1, 2, 3, 4, 5, 6, 7, 8], []), ([9, 8, 8, 0, 1, 2, 3, 4, 5, 6, 7, 8], [8, 9])])
def skewbaldlaw01_only.B6 : List Nat := [0, 1, 0, 4, 0, 28, 60, 124, 255, 511, 1023]
theorem skewbaldlaw01_only.tab6 : rtab .any (opsOf Tryd.f96 6) = skewbaldlaw01_only.T6 := by kernel_rfl
theorem skewbaldlaw01_only.bits6 : waitsOk skewbaldlaw01_only.T6.2 skewbaldlaw01_only.B6 = true := by kernel_rfl
def skewbaldlaw01_only.T11 : Bool × List (List Nat × List Nat) := (true, [([], []), ([0], [0]), ([], []), ([2], [2]), ([], []), ([3, 4], [3, 4]), ([5], [5]), ([6], [6]), ([1, 7], [1, 7]), ([0, 1, 2, 3, 4, 5, 6, 7, 8], []), ([9, 8, 8, 0, 1, 2, 3, 4, 5, 6, 7, 8], [8, 9])])
def skewbaldlaw01_only.B11 : List Nat := [0, 1, 0, 4, 0, 28, 60, 124, 255, 511, 1023]
theorem skewbaldlaw01_only.tab11 : rtab .any (opsOf Tryd.f96 11) = skewbaldlaw01_only.T11 := by kernel_rfl
theorem skewbaldlaw01_only.bits11 : waitsOk skewbaldlaw01_only.T11.2 skewbaldlaw01_only.B11 = true := by kernel_rfl
set_option maxHeartbeats 8000000 in
set_option maxRecDepth 100000 in
theorem skewbaldlaw01_only.calls (k : Nat) (P0_0_ : Nat → Prop) (A0_0 : Option Addr) (c0_0 : Nat) (l0_0 : List (S48)) (P0_1_ : Nat → Prop) (A0_1 : Option Addr) (c0_1 : Nat) (l0_1 : List (S50)) (a1 : Int) (a2 : Int) (r1 : List (S48)) (r2 : List (S50)) (w : World) (hs0_0 : Kd.V k48 48 w w.heap.size (fun k_ => P0_0_ k_) (.slice A0_0 l0_0.length c0_0) l0_0) (hs0_1 : Kd.V k50 50 w w.heap.size (fun k_ => P0_1_ k_) (.slice A0_1 l0_1.length c0_1) l0_1) (h : skewbaldlaw01_only.f k l0_0 l0_1 a1 a2 = some (r1, r2)) :
  Calls Tryd.prog 96 #[.agg #[.slice A0_0 l0_0.length c0_0, .slice A0_1 l0_1.length c0_1], .int .i64 a1, .int .i64 a2] w fun e w' => ∃ v0_ v1_ : Value, e = .returned (.agg #[v0_, v1_]) ∧ Kd.N k48 48 w' w.heap.size (fun k_ => ((P0_0_ k_ ∨ P0_1_ k_) ∨ w.heap.size ≤ k_) ∧ some k_ ≠ (v1_ : Value).ownBlock) v0_ r1 ∧ Kd.N k50 50 w' w.heap.size (fun k_ => ((P0_0_ k_ ∨ P0_1_ k_) ∨ w.heap.size ≤ k_) ∧ some k_ ≠ (v0_ : Value).ownBlock) v1_ r2 ∧ Below w.heap.size w w' := by
 have hu25 := Tryd.underlying25
 have hu48 := Tryd.underlying48
 have hu50 := Tryd.underlying50
 have HO0_0 := Aside0.mk (show Kd.V k48 48 w w.heap.size (fun k_ => ((P0_0_ k_ ∨ P0_1_ k_) ∨ w.heap.size ≤ k_)) (.slice A0_0 l0_0.length c0_0) l0_0 from Kd.V_mono hs0_0 (fun k_ hk => .inl (.inl hk)))
 have HO0_1 := Aside0.mk (show Kd.V k50 50 w w.heap.size (fun k_ => ((P0_0_ k_ ∨ P0_1_ k_) ∨ w.heap.size ≤ k_)) (.slice A0_1 l0_1.length c0_1) l0_1 from Kd.V_mono hs0_1 (fun k_ hk => .inl (.inr hk)))
 have HB := Aside0.mk (Below.refl w.heap.size w)
 have H : (skewbaldlaw01_only.l0 k a1 a2 0 l0_0 l0_1 ([] : List (S48))) = some (r1, r2) := h
 clear h
 have H' := Aside0.mk H
 clear H
 go_enter Tryd.func96, Tryd.ntmps96
 go_wp2_with (first | ((with_reducible refine gate_dst (N := 3) rfl ?_); refine box_event ?hg (N := 3) ?hd (cs := #[.slice A0_0 l0_0.length c0_0, .slice A0_1 l0_1.length c0_1]) (t := 25) ?hr ?_; (case hd => rfl); (case hg => rfl); (case hr => first | (go_simp; done) | (go_simp; rfl)); intro gb516 hg w4 hbox hb; have n0_ := Aside0.mk (Kd.V_below (Kd.V_elderB (by (with_reducible repeat (first | apply Kd.V_alloc | apply Kd.V_drewN | apply Kd.V_drew)); exact HO0_0.out) gb516 (Nat.le_of_eq hg.symm)) hb); have n1_ := Aside0.mk (Kd.V_below (Kd.V_elderB (by (with_reducible repeat (first | apply Kd.V_alloc | apply Kd.V_drewN | apply Kd.V_drew)); exact HO0_1.out) gb516 (Nat.le_of_eq hg.symm)) hb); have n2_ := Aside0.mk (below_step bl hb); have n3_ := Aside0.mk (hbox); have n4_ := Aside0.mk ((by rw [hg]; exact (below_size bl) : w.heap.size ≤ gb516)); have n5_ := Aside0.mk ((by rw [hg]; exact (below_size bl) : w.heap.size ≤ gb516)); clear HO0_0; clear HO0_1; clear HB; have HO0_0 := n0_; have HO0_1 := n1_; have HB := n2_; have BK516 := n3_; have GW516 := n4_; have GE516 := n5_; clear n0_ n1_ n2_ n3_ n4_ n5_; clear hb hbox hg) | ((with_reducible refine gate_dst (N := 6) rfl ?_); refine box_event ?hg (N := 6) ?hd (cs := #[.slice none 0 0, .slice none 0 0]) (t := 25) ?hr ?_; (case hd => rfl); (case hg => rfl); (case hr => first | (go_simp; done) | (go_simp; rfl)); intro gb517 hg w5 hbox hb; have n0_ := Aside0.mk (Kd.V_below (Kd.V_elderB (by (with_reducible repeat (first | apply Kd.V_alloc | apply Kd.V_drewN | apply Kd.V_drew)); exact HO0_0.out) gb517 (Nat.le_of_eq hg.symm)) hb); have n1_ := Aside0.mk (Kd.V_below (Kd.V_elderB (by (with_reducible repeat (first | apply Kd.V_alloc | apply Kd.V_drewN | apply Kd.V_drew)); exact HO0_1.out) gb517 (Nat.le_of_eq hg.symm)) hb); have n2_ := Aside0.mk (blk_below (g := gb516) (o := .cells #[.slice A0_0 l0_0.length c0_0, .slice A0_1 l0_1.length c0_1] 25 (0, 0)) bk hb); have n3_ := Aside0.mk (below_step bl hb); have n4_ := Aside0.mk (hbox); have n5_ := Aside0.mk ((by rw [hg]; exact (below_size bl) : w.heap.size ≤ gb517)); have n6_ := Aside0.mk ((by rw [hg]; exact (below_size bl) : w.heap.size ≤ gb517)); have n7_ := Aside0.mk ((by rw [hg]; exact Nat.ne_of_lt (blk_lt (g := gb516) (o := .cells #[.slice A0_0 l0_0.length c0_0, .slice A0_1 l0_1.length c0_1] 25 (0, 0)) bk) : gb516 ≠ gb517)); have n8_ := Aside0.mk ((by rw [hg]; exact Nat.ne_of_gt (blk_lt (g := gb516) (o := .cells #[.slice A0_0 l0_0.length c0_0, .slice A0_1 l0_1.length c0_1] 25 (0, 0)) bk) : gb517 ≠ gb516)); clear HO0_0; clear HO0_1; clear BK516; clear HB; have HO0_0 := n0_; have HO0_1 := n1_; have BK516 := n2_; have HB := n3_; have BK517 := n4_; have GW517 := n5_; have GE517 := n6_; have NB516_517 := n7_; have NB517_516 := n8_; clear n0_ n1_ n2_ n3_ n4_ n5_ n6_ n7_ n8_; clear hb hbox hg) | ((with_reducible refine gate_dst (N := 7) rfl ?_); refine box_event ?hg (N := 7) ?hd (cs := #[.slice none 0 0, .slice none 0 0]) (t := 25) ?hr ?_; (case hd => rfl); (case hg => rfl); (case hr => first | (go_simp; done) | (go_simp; rfl)); intro gb518 hg w6 hbox hb; have n0_ := Aside0.mk (Kd.V_below (Kd.V_elderB (by (with_reducible repeat (first | apply Kd.V_alloc | apply Kd.V_drewN | apply Kd.V_drew)); exact HO0_0.out) gb518 (Nat.le_of_eq hg.symm)) hb); have n1_ := Aside0.mk (Kd.V_below (Kd.V_elderB (by (with_reducible repeat (first | apply Kd.V_alloc | apply Kd.V_drewN | apply Kd.V_drew)); exact HO0_1.out) gb518 (Nat.le_of_eq hg.symm)) hb); have n2_ := Aside0.mk (blk_below (g := gb516) (o := .cells #[.slice A0_0 l0_0.length c0_0, .slice A0_1 l0_1.length c0_1] 25 (0, 0)) bk hb); have n3_ := Aside0.mk (blk_below (g := gb517) (o := .cells #[.slice none 0 0, .slice none 0 0] 25 (0, 0)) bk hb); have n4_ := Aside0.mk (below_step bl hb); have n5_ := Aside0.mk (hbox); have n6_ := Aside0.mk ((by rw [hg]; exact (below_size bl) : w.heap.size ≤ gb518)); have n7_ := Aside0.mk ((by rw [hg]; exact (below_size bl) : w.heap.size ≤ gb518)); have n8_ := Aside0.mk ((by rw [hg]; exact Nat.ne_of_lt (blk_lt (g := gb516) (o := .cells #[.slice A0_0 l0_0.length c0_0, .slice A0_1 l0_1.length c0_1] 25 (0, 0)) bk) : gb516 ≠ gb518)); have n9_ := Aside0.mk ((by rw [hg]; exact Nat.ne_of_gt (blk_lt (g := gb516) (o := .cells #[.slice A0_0 l0_0.length c0_0, .slice A0_1 l0_1.length c0_1] 25 (0, 0)) bk) : gb518 ≠ gb516)); have n10_ := Aside0.mk ((by rw [hg]; exact Nat.ne_of_lt (blk_lt (g := gb517) (o := .cells #[.slice none 0 0, .slice none 0 0] 25 (0, 0)) bk) : gb517 ≠ gb518)); have n11_ := Aside0.mk ((by rw [hg]; exact Nat.ne_of_gt (blk_lt (g := gb517) (o := .cells #[.slice none 0 0, .slice none 0 0] 25 (0, 0)) bk) : gb518 ≠ gb517)); clear HO0_0; clear HO0_1; clear BK516; clear BK517; clear HB; have HO0_0 := n0_; have HO0_1 := n1_; have BK516 := n2_; have BK517 := n3_; have HB := n4_; have BK518 := n5_; have GW518 := n6_; have GE518 := n7_; have NB516_518 := n8_; have NB518_516 := n9_; have NB517_518 := n10_; have NB518_517 := n11_; clear n0_ n1_ n2_ n3_ n4_ n5_ n6_ n7_ n8_ n9_ n10_ n11_; clear hb hbox hg; have hnb7 := NB518_516.out; have hnc7 := NB516_518.out; have hnb8 := NB518_517.out; have hnc8 := NB517_518.out; have hcz9_0 : w6.cell? ⟨gb518, 0, none⟩ = some (.slice none 0 0) := (blk_cell BK518.out 0).trans rfl; have hcz9_1 : w6.cell? ⟨gb518, 1, none⟩ = some (.slice none 0 0) := (blk_cell BK518.out 1).trans rfl; have hfz9_0 := blk_frozen BK518.out 0; have hfz9_1 := blk_frozen BK518.out 1))
 go_loopg [8] k (fun kq v8 w' => ∃ (x8_1 : Int) (x519000_1 : List (S48)) (u519000 : Value), v8 = .int .i64 x8_1 ∧ Aside0 (skewbaldlaw01_only.l0 kq a1 a2 x8_1 l0_0 l0_1 x519000_1 = some (r1, r2)) ∧ Aside0 (kq ≤ k) ∧ Aside0 (Kd.V k48 48 w' w.heap.size (fun k_ => ((P0_0_ k_ ∨ P0_1_ k_) ∨ w.heap.size ≤ k_) ∧ some k_ ≠ (u519000 : Value).ownBlock ∧ k_ ≠ gb516 ∧ k_ ≠ gb517 ∧ k_ ≠ gb518) (.slice A0_0 l0_0.length c0_0) l0_0) ∧ Aside0 (Kd.V k50 50 w' w.heap.size (fun k_ => ((P0_0_ k_ ∨ P0_1_ k_) ∨ w.heap.size ≤ k_) ∧ some k_ ≠ (u519000 : Value).ownBlock ∧ k_ ≠ gb516 ∧ k_ ≠ gb517 ∧ k_ ≠ gb518) (.slice A0_1 l0_1.length c0_1) l0_1) ∧ Aside0 (Kd.N k48 48 w' w.heap.size (fun k_ => ((P0_0_ k_ ∨ P0_1_ k_) ∨ w.heap.size ≤ k_) ∧ k_ ≠ gb516 ∧ k_ ≠ gb517 ∧ k_ ≠ gb518) u519000 x519000_1) ∧ Aside0 (w'.heap[gb516]? = some (.cells #[(.slice A0_0 l0_0.length c0_0), (.slice A0_1 l0_1.length c0_1)] 25 (0, 0))) ∧ Aside0 (w'.heap[gb517]? = some (.cells #[(.slice none 0 0), (.slice none 0 0)] 25 (0, 0))) ∧ Aside0 (w'.heap[gb518]? = some (.cells #[u519000, (.slice none 0 0)] 25 (0, 0))) ∧ Aside0 (Below w.heap.size w w'))
 case atStart => exact ⟨(0), (([] : List (S48))), (.slice none 0 0), (by first | rfl | (simp; done) | (simp [*]; done)), H', ⟨Nat.le_refl _⟩, ⟨by (with_reducible repeat (first | apply Kd.V_alloc | apply Kd.V_drewN | apply Kd.V_drew)); exact Kd.V_mono (Kd.V_far (p := ⟨gb518, 1, none⟩) (Kd.V_far (p := ⟨gb518, 0, none⟩) (Kd.V_mono HO0_0.out (fun k_ hk => (⟨hk, hk.2⟩ : _ ∧ k_ ≠ gb518))) (fun _ hk => hk.2) (.slice none 0 0)) (fun _ hk => hk.2) (.slice none 0 0)) (fun _ hk => ⟨hk.1.1.1.1, ⟨(by simp [Value.ownBlock]), ⟨hk.1.1.1.2, ⟨hk.1.1.2, hk.1.2⟩⟩⟩⟩)⟩, ⟨by (with_reducible repeat (first | apply Kd.V_alloc | apply Kd.V_drewN | apply Kd.V_drew)); exact Kd.V_mono (Kd.V_far (p := ⟨gb518, 1, none⟩) (Kd.V_far (p := ⟨gb518, 0, none⟩) (Kd.V_mono HO0_1.out (fun k_ hk => (⟨hk, hk.2⟩ : _ ∧ k_ ≠ gb518))) (fun _ hk => hk.2) (.slice none 0 0)) (fun _ hk => hk.2) (.slice none 0 0)) (fun _ hk => ⟨hk.1.1.1.1, ⟨(by simp [Value.ownBlock]), ⟨hk.1.1.1.2, ⟨hk.1.1.2, hk.1.2⟩⟩⟩⟩)⟩, ⟨by first | exact Kd.S_nil _ _ _ _ _ | exact Kd.N_nil _ _ _ _ _ | exact Kd.V_nil _ _ _ _ _ | exact Kd.Q_nil _ _ _ _ _ | exact Kd.R_nil _ _ _ _ _⟩, ⟨by (with_reducible repeat (first | refine blk_drewN ?_ _ | refine blk_drew ?_ | refine blk_alloc ?_ _)); refine blk_far ?_ NB516_518.out _; (with_reducible repeat (first | refine blk_drewN ?_ _ | refine blk_drew ?_ | refine blk_alloc ?_ _)); refine blk_far ?_ NB516_518.out _; (with_reducible repeat (first | refine blk_drewN ?_ _ | refine blk_drew ?_ | refine blk_alloc ?_ _)); exact BK516.out⟩, ⟨by (with_reducible repeat (first | refine blk_drewN ?_ _ | refine blk_drew ?_ | refine blk_alloc ?_ _)); refine blk_far ?_ NB517_518.out _; (with_reducible repeat (first | refine blk_drewN ?_ _ | refine blk_drew ?_ | refine blk_alloc ?_ _)); refine blk_far ?_ NB517_518.out _; (with_reducible repeat (first | refine blk_drewN ?_ _ | refine blk_drew ?_ | refine blk_alloc ?_ _)); exact BK517.out⟩, ⟨by (with_reducible repeat (first | refine blk_drewN ?_ _ | refine blk_drew ?_ | refine blk_alloc ?_ _)); refine blk_put (cs := #[.slice none 0 0, .slice none 0 0]) ?_ 1 _ rfl; (with_reducible repeat (first | refine blk_drewN ?_ _ | refine blk_drew ?_ | refine blk_alloc ?_ _)); refine blk_put (cs := #[.slice none 0 0, .slice none 0 0]) ?_ 0 _ rfl; (with_reducible repeat (first | refine blk_drewN ?_ _ | refine blk_drew ?_ | refine blk_alloc ?_ _)); exact BK518.out⟩, ⟨bl⟩⟩
 case round =>
  clear H'
  try clear p2
  try clear c7
  try clear c8
  try clear c9
  try clear hcz9_0
  try clear hcz9_1
  try clear hfz9_0
  try clear hfz9_1
  obtain ⟨x8_1, x519000_1, u519000, rfl, HA, HK1, HO_517000, HO_517001, HO_519000, BK516, BK517, BK518, HB⟩ := hrel
  cases gk with
  | zero => exact absurd HA.out (by simp [skewbaldlaw01_only.l0])
  | succ k1 =>
   have H := HA.out
   clear HA
   simp only [skewbaldlaw01_only.l0] at H
   by_cases c10 : x8_1 < (l0_0.length : Int)
   ·rw [if_pos c10] at H
    have c10b0 : decide (x8_1 < (l0_0.length : Int)) = true := decide_eq_true c10
    clear c10
    replace H := Option.bind_eq_some_iff.mp H
    obtain ⟨t519, A110, H⟩ := H
    replace H : (if t519 = true then (if 0 ≤ x8_1 then (if x519000_1.length < 4398046511104 then (skewbaldlaw01_only.l0 k1 a1 a2 (wrap64 (x8_1 + 1)) l0_0 l0_1 (x519000_1 ++ [(⟨(rd_T48 l0_0 x8_1).f0, (rd_T48 l0_0 x8_1).f1⟩ : S48)])) else (none)) else (none)) else (skewbaldlaw01_only.l0 k1 a1 a2 (wrap64 (x8_1 + 1)) l0_0 l0_1 x519000_1)) = some (r1, r2) := H
    have A11 := Aside0.mk A110
    clear A110
    by_cases c12 : t519 = true
    ·subst c12
     have H1 : (if 0 ≤ x8_1 then (if x519000_1.length < 4398046511104 then (skewbaldlaw01_only.l0 k1 a1 a2 (wrap64 (x8_1 + 1)) l0_0 l0_1 (x519000_1 ++ [(⟨(rd_T48 l0_0 x8_1).f0, (rd_T48 l0_0 x8_1).f1⟩ : S48)])) else (none)) else (none)) = some (r1, r2) := by rw [if_pos rfl] at H; exact H
     clear H
     have H := H1
     clear H1
     by_cases c13 : 0 ≤ x8_1
     ·rw [if_pos c13] at H
      have c13b0 : decide (0 ≤ x8_1) = true := decide_eq_true c13
      clear c13
      by_cases c14 : x519000_1.length < 4398046511104
      ·rw [if_pos c14] at H
       have LMc14 := Aside0.mk c14
       clear c14
       obtain ⟨y521, hy521⟩ : ∃ y_ : List (S48), y_ = (x519000_1 ++ [(⟨(rd_T48 l0_0 x8_1).f0, (rd_T48 l0_0 x8_1).f1⟩ : S48)]) := ⟨_, rfl⟩
       replace H : (skewbaldlaw01_only.l0 k1 a1 a2 (wrap64 (x8_1 + 1)) l0_0 l0_1 y521) = some (r1, r2) := by first | (rw [hy521]; with_reducible exact H) | (have H2_ := (Option.bind_some _ _).symm.trans H; rw [hy521]; with_reducible exact H2_) | (have H2_ := (Option.bind_some _ _).symm.trans H; with_reducible exact H2_) | with_reducible exact H | (rw [hy521]; exact H) | exact H
       have Ny521 := Aside0.mk hy521
       clear hy521
       have H' := Aside0.mk H
       clear H
       have hnb15 := NB516_517.out
       have hnc15 := NB517_516.out
       have hnb16 := NB516_518.out
       have hnc16 := NB518_516.out
       have hcz17_0 : wr.cell? ⟨gb516, 0, none⟩ = some (.slice A0_0 l0_0.length c0_0) := (blk_cell BK516.out 0).trans rfl
       have hcz17_1 : wr.cell? ⟨gb516, 1, none⟩ = some (.slice A0_1 l0_1.length c0_1) := (blk_cell BK516.out 1).trans rfl
       have hfz17_0 := blk_frozen BK516.out 0
       have hfz17_1 := blk_frozen BK516.out 1
       try go_wp2_with (first | ((with_reducible refine gate_callee (f := 95) rfl ?_); refine goesL_ (some 20) rfl rfl Tryd.func95 (by kernel_rfl) rfl #[.int .i64 a1, .int .i64 x8_1] rfl (by (try simp only [List.map_toArray, List.map_cons, List.map_nil]); first | done | rfl | (simp only [List.length_drop, List.length_take]; rfl)) ?_; (with_reducible refine (skewbaldref00_Of.calls a1 x8_1 true _ A11.out).mono ?_); rintro e w' ⟨rfl, ⟨nd, rfl⟩⟩; refine ⟨_, rfl, ?_⟩; (try (rw [drewN_self wr]; generalize hq_ : World.drewN wr _ = wr; have n0_ : Aside0 (Kd.V k48 48 wr w.heap.size (fun k_ => ((P0_0_ k_ ∨ P0_1_ k_) ∨ w.heap.size ≤ k_) ∧ some k_ ≠ (u519000 : Value).ownBlock ∧ k_ ≠ gb516 ∧ k_ ≠ gb517 ∧ k_ ≠ gb518) (.slice A0_0 l0_0.length c0_0) l0_0) := ⟨by rw [← hq_]; exact (by (with_reducible repeat (first | apply Kd.V_alloc | apply Kd.V_drewN | apply Kd.V_drew)); exact HO_517000.out)⟩; have n1_ : Aside0 (Kd.V k50 50 wr w.heap.size (fun k_ => ((P0_0_ k_ ∨ P0_1_ k_) ∨ w.heap.size ≤ k_) ∧ some k_ ≠ (u519000 : Value).ownBlock ∧ k_ ≠ gb516 ∧ k_ ≠ gb517 ∧ k_ ≠ gb518) (.slice A0_1 l0_1.length c0_1) l0_1) := ⟨by rw [← hq_]; exact (by (with_reducible repeat (first | apply Kd.V_alloc | apply Kd.V_drewN | apply Kd.V_drew)); exact HO_517001.out)⟩; have n2_ : Aside0 (Kd.N k48 48 wr w.heap.size (fun k_ => ((P0_0_ k_ ∨ P0_1_ k_) ∨ w.heap.size ≤ k_) ∧ k_ ≠ gb516 ∧ k_ ≠ gb517 ∧ k_ ≠ gb518) u519000 x519000_1) := ⟨by rw [← hq_]; exact (by (with_reducible repeat (first | apply Kd.N_alloc | apply Kd.N_drewN | apply Kd.N_drew)); exact HO_519000.out)⟩; have n3_ : Aside0 (wr.heap[gb516]? = some (.cells #[.slice A0_0 l0_0.length c0_0, .slice A0_1 l0_1.length c0_1] 25 (0, 0))) := ⟨by rw [← hq_]; exact bk⟩; have n4_ : Aside0 (wr.heap[gb517]? = some (.cells #[.slice none 0 0, .slice none 0 0] 25 (0, 0))) := ⟨by rw [← hq_]; exact bk⟩; have n5_ : Aside0 (wr.heap[gb518]? = some (.cells #[u519000, .slice none 0 0] 25 (0, 0))) := ⟨by rw [← hq_]; exact bk⟩; have n6_ : Aside0 (Below w.heap.size w wr) := ⟨by rw [← hq_]; exact bl⟩; clear HO_517000 HO_517001 HO_519000 BK516 BK517 BK518 HB hq_; have HO_517000 := n0_; have HO_517001 := n1_; have HO_519000 := n2_; have BK516 := n3_; have BK517 := n4_; have BK518 := n5_; have HB := n6_; clear n0_ n1_ n2_ n3_ n4_ n5_ n6_))))
       have n0_ := Aside0.mk (Kd.V_drew HO_517000.out)
       have n1_ := Aside0.mk (Kd.V_drew HO_517001.out)
       have n2_ := Aside0.mk (Kd.N_drew HO_519000.out)
       have n3_ := Aside0.mk (blk_drew BK516.out)
       have n4_ := Aside0.mk (blk_drew BK517.out)
       have n5_ := Aside0.mk (blk_drew BK518.out)
       have n6_ := Aside0.mk (below_drew1 HB.out)
       clear HO_517000
       clear HO_517001
       clear HO_519000
       clear BK516
       clear BK517
       clear BK518
       clear HB
       have HO_517000 := n0_
       have HO_517001 := n1_
       have HO_519000 := n2_
       have BK516 := n3_
       have BK517 := n4_
       have BK518 := n5_
       have HB := n6_
       clear n0_ n1_ n2_ n3_ n4_ n5_ n6_
       have p520 : 0 ≤ (x8_1 : Int) := of_decide_eq_true (by first | (with_reducible assumption) | assumption)
       have q520 : x8_1 < (l0_0.length : Int) := of_decide_eq_true (by first | (with_reducible assumption) | assumption)
       obtain ⟨ad520, A520_1, c520_1, e520, hx520_0, hx520_1, hl520_1, hi520_1⟩ := at_T48 (Kd.V_reads' HO_517000.out).2.2 x8_1 p520 q520
       cases e520
       obtain ⟨ce520, hce520, hMe520, hcc520⟩ := Kd.V_get HO_517000.out z48 x8_1 p520 (by first | exact q520 | exact of_decide_eq_true (by first | (with_reducible assumption) | assumption) | (have e_ := (Kd.V_reads' HO_517000.out).1; omega))
       obtain ⟨ua520_1, uc520_1, rfl, ul520_1, ge520_1⟩ := k48_openF hMe520
       have hv520_1 := hcc520 1 _ rfl
       rw [add_field _ _ 1 (by omega)] at hv520_1
       replace hv520_1 := Option.some.inj (hv520_1.symm.trans hx520_1)
       injection hv520_1 with hva_ hvn_ hvc_
       rw [hva_] at ge520_1
       rw [hvc_] at ul520_1
       have HL520_1 := Aside0.mk (show Kd.V k60 60 _ w.heap.size _ _ ((rd_T48 l0_0 x8_1).f1) from Kd.V_mk ul520_1 ge520_1)
       clear hva_ hvn_ hvc_ ge520_1 ul520_1
       clear hcc520 hce520
       have HR520_1 := Aside0.mk hi520_1
       have HC520_1 := Aside0.mk hl520_1
       clear hi520_1 hl520_1
       replace p520 := eq_true p520
       replace q520 := eq_true q520
       refine start_ (n := 11) (S := fun w' => w'.cell? ⟨gb518, 0, none⟩ = some (u519000) ∧ w'.cell? ⟨gb518, 1, none⟩ = some (.slice none 0 0) ∧ w'.cell? ⟨gb516, 0, none⟩ = some (.slice (some ad520) l0_0.length c0_0) ∧ w'.cell? ⟨gb516, 1, none⟩ = some (.slice A0_1 l0_1.length c0_1) ∧ w'.cell? (ad520.add ((x8_1).toNat * 2)) = some (.int .i64 ((rd_T48 l0_0 x8_1).f0)) ∧ w'.cell? ⟨(ad520.add ((x8_1).toNat * 2)).block, (ad520.add ((x8_1).toNat * 2)).off + 1, none⟩ = some (.slice A520_1 ((rd_T48 l0_0 x8_1).f1).length c520_1)) (ds := [8, 10]) #[false, false, false, false, false, false, false, false, false, false, false] (by kernel_rfl) rfl rfl ⟨(blk_cell BK518.out 0).trans rfl, (blk_cell BK518.out 1).trans rfl, (blk_cell BK516.out 0).trans rfl, (blk_cell BK516.out 1).trans rfl, hx520_0, hx520_1⟩ (fun hHeld => ?_); refine with_tabW skewbaldlaw01_only.tab6 skewbaldlaw01_only.bits6 (fun HT_ HW_ => ?_)
       generalize wr.drew = w18 at HO_517000 HO_517001 HO_519000 BK516 BK517 BK518 HB HL520_1 HR520_1 hx520_0 hx520_1 hHeld ⊢
       refine pure_ (i := 0) (N := some 21) (v := ?_) (a' := ?_) #[true, false, false, false, false, false, false, false, false, false, false] rfl rfl (any_of HT_.out (by kernel_rfl)) (fun _ _ _ h => h) (Or.inl ⟨by rfl, ?_⟩) ?_ ?_
       rotate_left
       ·intro w'
        go_simp
        with_reducible rfl
       rotate_left
       ·simp only [Act.put, List.setIfInBounds_toArray, List.set_cons_zero, List.set_cons_succ, i64_w, i32_w]
        rfl
       refine pure_ (i := 2) (N := some 23) (v := ?_) (a' := ?_) #[true, false, true, false, false, false, false, false, false, false, false] rfl rfl (any_of HT_.out (by kernel_rfl)) (fun _ _ _ h => h) (Or.inl ⟨by rfl, ?_⟩) ?_ ?_
       rotate_left
       ·intro w'
        go_simp
        with_reducible rfl
       rotate_left
       ·simp only [Act.put, List.setIfInBounds_toArray, List.set_cons_zero, List.set_cons_succ, i64_w, i32_w]
        rfl
       refine pure_ (i := 4) (N := some 25) (v := ?_) (a' := ?_) #[true, false, true, false, true, false, false, false, false, false, false] rfl rfl (any_of HT_.out (by kernel_rfl)) (fun _ _ _ h => h) (Or.inl ⟨by rfl, ?_⟩) ?_ ?_
       rotate_left
       ·intro w'
        go_simp
        with_reducible rfl
       rotate_left
       ·simp only [Act.put, List.setIfInBounds_toArray, List.set_cons_zero, List.set_cons_succ, i64_w, i32_w]
        rfl
       refine take_ (i := 1) (N := some 22) (v := ?_) (a' := ?_) #[true, true, true, false, true, false, false, false, false, false, false] rfl rfl (take_ofW HT_.out HW_.out (by kernel_rfl)) (fun _ _ _ h => h) (Or.inl ⟨by rfl, ?_⟩) hHeld ?_ ?_
       rotate_left
       ·rintro w' ⟨s0, s1, s2, s3, s4, s5⟩
        go_simp
        with_reducible rfl
       rotate_left
       ·simp only [Act.put, List.setIfInBounds_toArray, List.set_cons_zero, List.set_cons_succ, i64_w, i32_w]
        rfl
       refine take_ (i := 3) (N := some 24) (v := ?_) (a' := ?_) #[true, true, true, true, true, false, false, false, false, false, false] rfl rfl (take_ofW HT_.out HW_.out (by kernel_rfl)) (fun _ _ _ h => h) (Or.inl ⟨by rfl, ?_⟩) hHeld ?_ ?_
       rotate_left
       ·rintro w' ⟨s0, s1, s2, s3, s4, s5⟩
        go_simp
        with_reducible rfl
       rotate_left
       ·simp only [Act.put, List.setIfInBounds_toArray, List.set_cons_zero, List.set_cons_succ, i64_w, i32_w]
        rfl
       refine pure_ (i := 5) (N := some 26) (v := ?_) (a' := ?_) #[true, true, true, true, true, true, false, false, false, false, false] rfl rfl (any_of HT_.out (by kernel_rfl)) (fun _ _ _ h => h) (Or.inl ⟨by rfl, ?_⟩) ?_ ?_
       rotate_left
       ·intro w'
        go_simp
        with_reducible rfl
       rotate_left
       ·simp only [Act.put, List.setIfInBounds_toArray, List.set_cons_zero, List.set_cons_succ, i64_w, i32_w]
        rfl
       refine take_ (i := 6) (N := some 27) (v := ?_) (a' := ?_) #[true, true, true, true, true, true, true, false, false, false, false] rfl rfl (take_ofW HT_.out HW_.out (by kernel_rfl)) (fun _ _ _ h => h) (Or.inl ⟨by rfl, ?_⟩) hHeld ?_ ?_
       rotate_left
       ·rintro w' ⟨s0, s1, s2, s3, s4, s5⟩
        go_simp
        with_reducible rfl
       rotate_left
       ·simp only [Act.put, List.setIfInBounds_toArray, List.set_cons_zero, List.set_cons_succ, i64_w, i32_w]
        rfl
       refine one_ (i := 7) (N := some 28) #[true, true, true, true, true, true, true, true, false, false, false] rfl rfl (one_of HT_.out (by kernel_rfl)) (by decide) (fun K hK => ?_)
       refine value_ (w1 := ?_) (v := ?_) (by rfl) rfl ?_ ?_
       rotate_left 2
       ·go_simp
        constructor
        ·rfl
        ·rfl
       refine hK.out _ _ ⟨(blk_cell (blk_alloc BK518.out _) 0).trans rfl, (blk_cell (blk_alloc BK518.out _) 1).trans rfl, (blk_cell (blk_alloc BK516.out _) 0).trans rfl, (blk_cell (blk_alloc BK516.out _) 1).trans rfl, (World.cell?_alloc_lt _ _ _ (World.block_lt_of_cell? _ _ (hHeld.2.2.2.2.1))).trans (hHeld.2.2.2.2.1), (World.cell?_alloc_lt _ _ _ (World.block_lt_of_cell? _ _ (hHeld.2.2.2.2.2))).trans (hHeld.2.2.2.2.2)⟩ (fun hHeld => ?_)
       clear hK K
       refine norm_ (a' := ?_) ?_ ?_
       rotate_left
       ·show Act.put _ (some 28) _ = _
        simp only [Act.put, List.setIfInBounds_toArray, List.set_cons_zero, List.set_cons_succ, i64_w, i32_w]
        rfl
       refine last_ (i := 8) (N := some 29) #[true, true, true, true, true, true, true, true, true, false, false] rfl rfl (one_of HT_.out (by kernel_rfl)) (by decide) (fun K hK => ?_)
       refine Kd.N_append_step k48 (w0 := w) w.heap.size (by rfl) (.tmp 22) (.tmp 28) 22 48 (.agg #[(.int .i64 0), (.slice none 0 0)]) 32 rfl Tryd.underlying22 info48 rfl (by decide) (by omega) u519000 x519000_1 (⟨(rd_T48 l0_0 x8_1).f0, (rd_T48 l0_0 x8_1).f1⟩ : S48) [.int .i64 ((rd_T48 l0_0 x8_1).f0), .slice A520_1 ((rd_T48 l0_0 x8_1).f1).length c520_1] (fun k_ => ((P0_0_ k_ ∨ P0_1_ k_) ∨ w.heap.size ≤ k_) ∧ k_ ≠ gb516 ∧ k_ ≠ gb517 ∧ k_ ≠ gb518) (fun k_ => ((fun k_ => ((P0_0_ k_ ∨ P0_1_ k_) ∨ w.heap.size ≤ k_) ∧ k_ ≠ gb516 ∧ k_ ≠ gb517 ∧ k_ ≠ gb518)) k_ ∧ some k_ ≠ (u519000 : Value).ownBlock) rfl rfl ?aP (fun _ hk => hk) ?aF ?aO ?aB ?aS ?aL ?_
       (case aP => exact (k48_mkF _ _ (⟨(rd_T48 l0_0 x8_1).f0, (rd_T48 l0_0 x8_1).f1⟩ : S48) (Kd.V_reads' (Kd.V_mono (ok' := (fun k_ => ((fun k_ => ((P0_0_ k_ ∨ P0_1_ k_) ∨ w.heap.size ≤ k_) ∧ k_ ≠ gb516 ∧ k_ ≠ gb517 ∧ k_ ≠ gb518)) k_ ∧ some k_ ≠ (u519000 : Value).ownBlock)) (HL520_1.out) (fun k_ hk => ⟨⟨hk.1, ⟨hk.2.2.1, ⟨hk.2.2.2.1, hk.2.2.2.2⟩⟩⟩, hk.2.1⟩))).2.1 (Kd.V_F (Kd.V_mono (ok' := (fun k_ => ((fun k_ => ((P0_0_ k_ ∨ P0_1_ k_) ∨ w.heap.size ≤ k_) ∧ k_ ≠ gb516 ∧ k_ ≠ gb517 ∧ k_ ≠ gb518)) k_ ∧ some k_ ≠ (u519000 : Value).ownBlock)) (HL520_1.out) (fun k_ hk => ⟨⟨hk.1, ⟨hk.2.2.1, ⟨hk.2.2.2.1, hk.2.2.2.2⟩⟩⟩, hk.2.1⟩)))))
       (case aB => exact bl)
       (case aF => exact (fun k_ hk => ⟨(.inr (Nat.le_trans (below_size bl) hk)), Kd.freshB (g := gb516) (o := .cells #[.slice (some ad520) l0_0.length c0_0, .slice A0_1 l0_1.length c0_1] 25 (0, 0)) bk k_ hk, Kd.freshB (g := gb517) (o := .cells #[.slice none 0 0, .slice none 0 0] 25 (0, 0)) bk k_ hk, Kd.freshB (g := gb518) (o := .cells #[u519000, .slice none 0 0] 25 (0, 0)) bk k_ hk⟩))
       (case aO => exact (by (with_reducible repeat (first | apply Kd.N_alloc | apply Kd.N_drewN | apply Kd.N_drew)); exact HO_519000.out))
       (case aS => exact (below_size bl))
       (case aL => have := LMc14.out; omega)
       intro v522 w19 ho hb hg hat
       rw [← Ny521.out] at ho
       have n0_ := Aside0.mk (Kd.V_afterv (ok := (fun k_ => ((P0_0_ k_ ∨ P0_1_ k_) ∨ w.heap.size ≤ k_) ∧ k_ ≠ gb516 ∧ k_ ≠ gb517 ∧ k_ ≠ gb518)) (by (with_reducible repeat (first | apply Kd.V_alloc | apply Kd.V_drewN | apply Kd.V_drew)); exact Kd.V_mono HO_517000.out (fun _ hk => ⟨⟨hk.1, ⟨hk.2.2.1, ⟨hk.2.2.2.1, hk.2.2.2.2⟩⟩⟩, hk.2.1⟩)) hg hat)
       have n1_ := Aside0.mk (Kd.V_afterv (ok := (fun k_ => ((P0_0_ k_ ∨ P0_1_ k_) ∨ w.heap.size ≤ k_) ∧ k_ ≠ gb516 ∧ k_ ≠ gb517 ∧ k_ ≠ gb518)) (by (with_reducible repeat (first | apply Kd.V_alloc | apply Kd.V_drewN | apply Kd.V_drew)); exact Kd.V_mono HO_517001.out (fun _ hk => ⟨⟨hk.1, ⟨hk.2.2.1, ⟨hk.2.2.2.1, hk.2.2.2.2⟩⟩⟩, hk.2.1⟩)) hg hat)
       have n2_ := Aside0.mk (blk_grown (g := gb516) (o := .cells #[.slice (some ad520) l0_0.length c0_0, .slice A0_1 l0_1.length c0_1] 25 (0, 0)) bk hg (Kd.N_ne HO_519000.out BK516.out (by decide)))
       have n3_ := Aside0.mk (blk_grown (g := gb517) (o := .cells #[.slice none 0 0, .slice none 0 0] 25 (0, 0)) bk hg (Kd.N_ne HO_519000.out BK517.out (by decide)))
       have n4_ := Aside0.mk (blk_grown (g := gb518) (o := .cells #[u519000, .slice none 0 0] 25 (0, 0)) bk hg (Kd.N_ne HO_519000.out BK518.out (by decide)))
       have n5_ := Aside0.mk (Kd.V_afterv (ok := (fun k_ => ((P0_0_ k_ ∨ P0_1_ k_) ∨ w.heap.size ≤ k_) ∧ k_ ≠ gb516 ∧ k_ ≠ gb517 ∧ k_ ≠ gb518)) (by (with_reducible repeat (first | apply Kd.V_alloc | apply Kd.V_drewN | apply Kd.V_drew)); exact Kd.V_mono HL520_1.out (fun _ hk => ⟨⟨hk.1, ⟨hk.2.2.1, ⟨hk.2.2.2.1, hk.2.2.2.2⟩⟩⟩, hk.2.1⟩)) hg hat)
       have n6_ := Aside0.mk (hb)
       have n7_ := Aside0.mk (ho)
       clear HO_517000
       clear HO_517001
       clear BK516
       clear BK517
       clear BK518
       clear HL520_1
       clear HB
       clear HO_519000
       have HO_517000 := n0_
       have HO_517001 := n1_
       have BK516 := n2_
       have BK517 := n3_
       have BK518 := n4_
       have HL520_1 := n5_
       have HB := n6_
       have HO523 := n7_
       clear n0_ n1_ n2_ n3_ n4_ n5_ n6_ n7_
       clear ho hb hg hat
       obtain ⟨Ao20, co20, eo20⟩ := Kd.N_slice HO523.out
       (first | subst eo20 | (injection eo20 with f1_ f2_ f3_; have f4_ := f1_.symm; have f5_ := f3_.symm; clear f1_ f2_ f3_; subst f4_; subst f5_))
       refine hK.out _ _ ?_
       clear hK K
       refine norm_ (a' := ?_) ?_ ?_
       rotate_left
       ·show Act.put _ (some 29) _ = _
        simp only [Act.put, List.setIfInBounds_toArray, List.set_cons_zero, List.set_cons_succ, i64_w, i32_w]
        rfl
       refine pure_ (i := 9) (N := some 30) (v := ?_) (a' := ?_) #[true, true, true, true, true, true, true, true, true, true, false] rfl rfl (any_of HT_.out (by kernel_rfl)) (fun _ _ _ h => h) (Or.inl ⟨by rfl, ?_⟩) ?_ ?_
       rotate_left
       ·intro w'
        go_simp
        with_reducible rfl
       rotate_left
       ·simp only [Act.put, List.setIfInBounds_toArray, List.set_cons_zero, List.set_cons_succ, i64_w, i32_w]
        rfl
       refine last_ (i := 10) (N := none) #[true, true, true, true, true, true, true, true, true, true, true] rfl rfl (one_of HT_.out (by kernel_rfl)) (by decide) (fun K hK => ?_)
       have hs21 : w19.cell? ⟨gb518, 0, none⟩ = some (u519000) := (blk_cell BK518.out 0).trans rfl
       have hfs21 := blk_frozen BK518.out 0
       have hns21_0 := NB516_518.out
       have hns21_1 := NB517_518.out
       have hms21_0 := NB518_516.out
       have hms21_1 := NB518_517.out
       refine skip_ (w1 := ?_) (by rfl) rfl ?_ ?_
       rotate_left
       ·go_simp
        rfl
       refine hK.out _ _ ?_
       clear hK K
       refine done_ (done_of HT_.out (by kernel_rfl)) ?_
       try go_wp2
       go_roundg k1
       case measure => have := HK1.out; omega
       case rel => exact ⟨(wrap64 (x8_1 + 1)), (y521), (.slice Ao20 y521.length co20), (by first | rfl | (simp; done) | (simp [*]; done)), H', ⟨by have := HK1.out; omega⟩, ⟨by (with_reducible repeat (first | apply Kd.V_alloc | apply Kd.V_drewN | apply Kd.V_drew)); exact Kd.V_mono (Kd.V_far (p := ⟨gb518, 0, none⟩) (Kd.V_mono HO_517000.out (fun k_ hk => (⟨hk, hk.1.2.2.2⟩ : _ ∧ k_ ≠ gb518))) (fun _ hk => hk.2) (.slice Ao20 y521.length co20)) (fun _ hk => ⟨hk.1.1.1, ⟨hk.1.2, ⟨hk.1.1.2.1, ⟨hk.1.1.2.2.1, hk.1.1.2.2.2⟩⟩⟩⟩)⟩, ⟨by (with_reducible repeat (first | apply Kd.V_alloc | apply Kd.V_drewN | apply Kd.V_drew)); exact Kd.V_mono (Kd.V_far (p := ⟨gb518, 0, none⟩) (Kd.V_mono HO_517001.out (fun k_ hk => (⟨hk, hk.1.2.2.2⟩ : _ ∧ k_ ≠ gb518))) (fun _ hk => hk.2) (.slice Ao20 y521.length co20)) (fun _ hk => ⟨hk.1.1.1, ⟨hk.1.2, ⟨hk.1.1.2.1, ⟨hk.1.1.2.2.1, hk.1.1.2.2.2⟩⟩⟩⟩)⟩, ⟨by (with_reducible repeat (first | apply Kd.N_alloc | apply Kd.N_drewN | apply Kd.N_drew)); exact Kd.N_mono (Kd.N_far (p := ⟨gb518, 0, none⟩) (Kd.N_mono HO523.out (fun k_ hk => (⟨hk, hk.2.2.2⟩ : _ ∧ k_ ≠ gb518))) (fun _ hk => hk.2) (.slice Ao20 y521.length co20)) (fun _ hk => ⟨hk.1.1, ⟨hk.1.2.1, ⟨hk.1.2.2.1, hk.1.2.2.2⟩⟩⟩)⟩, ⟨by (with_reducible repeat (first | refine blk_drewN ?_ _ | refine blk_drew ?_ | refine blk_alloc ?_ _)); refine blk_far ?_ NB516_518.out _; (with_reducible repeat (first | refine blk_drewN ?_ _ | refine blk_drew ?_ | refine blk_alloc ?_ _)); exact BK516.out⟩, ⟨by (with_reducible repeat (first | refine blk_drewN ?_ _ | refine blk_drew ?_ | refine blk_alloc ?_ _)); refine blk_far ?_ NB517_518.out _; (with_reducible repeat (first | refine blk_drewN ?_ _ | refine blk_drew ?_ | refine blk_alloc ?_ _)); exact BK517.out⟩, ⟨by (with_reducible repeat (first | refine blk_drewN ?_ _ | refine blk_drew ?_ | refine blk_alloc ?_ _)); refine blk_put (cs := #[u519000, .slice none 0 0]) ?_ 0 _ rfl; (with_reducible repeat (first | refine blk_drewN ?_ _ | refine blk_drew ?_ | refine blk_alloc ?_ _)); exact BK518.out⟩, ⟨bl⟩⟩
      ·rw [if_neg c14] at H
       exact absurd H (by simp)
     ·rw [if_neg c13] at H
      exact absurd H (by simp)
    ·replace c12 := Bool.eq_false_iff.mpr c12
     subst c12
     have H1 : (skewbaldlaw01_only.l0 k1 a1 a2 (wrap64 (x8_1 + 1)) l0_0 l0_1 x519000_1) = some (r1, r2) := by rw [if_neg (show ¬ (false = true) by decide)] at H; exact H
     clear H
     have H := H1
     clear H1
     have H' := Aside0.mk H
     clear H
     have hnb22 := NB516_517.out
     have hnc22 := NB517_516.out
     have hnb23 := NB516_518.out
     have hnc23 := NB518_516.out
     have hcz24_0 : wr.cell? ⟨gb516, 0, none⟩ = some (.slice A0_0 l0_0.length c0_0) := (blk_cell BK516.out 0).trans rfl
     have hcz24_1 : wr.cell? ⟨gb516, 1, none⟩ = some (.slice A0_1 l0_1.length c0_1) := (blk_cell BK516.out 1).trans rfl
     have hfz24_0 := blk_frozen BK516.out 0
     have hfz24_1 := blk_frozen BK516.out 1
     go_wp2_with (first | ((with_reducible refine gate_callee (f := 95) rfl ?_); refine goesL_ (some 20) rfl rfl Tryd.func95 (by kernel_rfl) rfl #[.int .i64 a1, .int .i64 x8_1] rfl (by (try simp only [List.map_toArray, List.map_cons, List.map_nil]); first | done | rfl | (simp only [List.length_drop, List.length_take]; rfl)) ?_; (with_reducible refine (skewbaldref00_Of.calls a1 x8_1 false _ A11.out).mono ?_); rintro e w' ⟨rfl, ⟨nd, rfl⟩⟩; refine ⟨_, rfl, ?_⟩))
     go_roundg k1
     case measure => have := HK1.out; omega
     case rel => exact ⟨(wrap64 (x8_1 + 1)), (x519000_1), (u519000), (by first | rfl | (simp; done) | (simp [*]; done)), H', ⟨by have := HK1.out; omega⟩, ⟨by (with_reducible repeat (first | apply Kd.V_alloc | apply Kd.V_drewN | apply Kd.V_drew)); exact HO_517000.out⟩, ⟨by (with_reducible repeat (first | apply Kd.V_alloc | apply Kd.V_drewN | apply Kd.V_drew)); exact HO_517001.out⟩, ⟨by (with_reducible repeat (first | apply Kd.N_alloc | apply Kd.N_drewN | apply Kd.N_drew)); exact HO_519000.out⟩, ⟨bk⟩, ⟨bk⟩, ⟨bk⟩, ⟨bl⟩⟩
   ·rw [if_neg c10] at H
    have c10b0 : decide (x8_1 < (l0_0.length : Int)) = false := decide_eq_false c10
    clear c10
    have H' := Aside0.mk H
    clear H
    have hnb25 := NB516_517.out
    have hnc25 := NB517_516.out
    have hnb26 := NB516_518.out
    have hnc26 := NB518_516.out
    have hcz27_0 : wr.cell? ⟨gb516, 0, none⟩ = some (.slice A0_0 l0_0.length c0_0) := (blk_cell BK516.out 0).trans rfl
    have hcz27_1 : wr.cell? ⟨gb516, 1, none⟩ = some (.slice A0_1 l0_1.length c0_1) := (blk_cell BK516.out 1).trans rfl
    have hfz27_0 := blk_frozen BK516.out 0
    have hfz27_1 := blk_frozen BK516.out 1
    go_wp2
    go_loopg [9] k1 (fun kq v9 w' => ∃ (x9_2 : Int) (x519001_2 : List (S50)) (u519001 : Value), v9 = .int .i64 x9_2 ∧ Aside0 (skewbaldlaw01_only.l1 kq a2 x9_2 l0_0 l0_1 x519000_1 x519001_2 = some (r1, r2)) ∧ Aside0 (kq ≤ k1) ∧ Aside0 (Kd.V k48 48 w' w.heap.size (fun k_ => ((P0_0_ k_ ∨ P0_1_ k_) ∨ w.heap.size ≤ k_) ∧ some k_ ≠ (u519000 : Value).ownBlock ∧ some k_ ≠ (u519001 : Value).ownBlock ∧ k_ ≠ gb516 ∧ k_ ≠ gb517 ∧ k_ ≠ gb518) (.slice A0_0 l0_0.length c0_0) l0_0) ∧ Aside0 (Kd.V k50 50 w' w.heap.size (fun k_ => ((P0_0_ k_ ∨ P0_1_ k_) ∨ w.heap.size ≤ k_) ∧ some k_ ≠ (u519000 : Value).ownBlock ∧ some k_ ≠ (u519001 : Value).ownBlock ∧ k_ ≠ gb516 ∧ k_ ≠ gb517 ∧ k_ ≠ gb518) (.slice A0_1 l0_1.length c0_1) l0_1) ∧ Aside0 (Kd.N k48 48 w' w.heap.size (fun k_ => ((P0_0_ k_ ∨ P0_1_ k_) ∨ w.heap.size ≤ k_) ∧ some k_ ≠ (u519001 : Value).ownBlock ∧ k_ ≠ gb516 ∧ k_ ≠ gb517 ∧ k_ ≠ gb518) u519000 x519000_1) ∧ Aside0 (Kd.N k50 50 w' w.heap.size (fun k_ => ((P0_0_ k_ ∨ P0_1_ k_) ∨ w.heap.size ≤ k_) ∧ some k_ ≠ (u519000 : Value).ownBlock ∧ k_ ≠ gb516 ∧ k_ ≠ gb517 ∧ k_ ≠ gb518) u519001 x519001_2) ∧ Aside0 (w'.heap[gb516]? = some (.cells #[(.slice A0_0 l0_0.length c0_0), (.slice A0_1 l0_1.length c0_1)] 25 (0, 0))) ∧ Aside0 (w'.heap[gb517]? = some (.cells #[(.slice none 0 0), (.slice none 0 0)] 25 (0, 0))) ∧ Aside0 (w'.heap[gb518]? = some (.cells #[u519000, u519001] 25 (0, 0))) ∧ Aside0 (Below w.heap.size w w'))
    case atStart => exact ⟨(0), (([] : List (S50))), (.slice none 0 0), (by first | rfl | (simp; done) | (simp [*]; done)), H', ⟨Nat.le_refl _⟩, ⟨by (with_reducible repeat (first | apply Kd.V_alloc | apply Kd.V_drewN | apply Kd.V_drew)); exact Kd.V_mono HO_517000.out (fun _ hk => ⟨hk.1, ⟨hk.2.1, ⟨(by simp [Value.ownBlock]), ⟨hk.2.2.1, ⟨hk.2.2.2.1, hk.2.2.2.2⟩⟩⟩⟩⟩)⟩, ⟨by (with_reducible repeat (first | apply Kd.V_alloc | apply Kd.V_drewN | apply Kd.V_drew)); exact Kd.V_mono HO_517001.out (fun _ hk => ⟨hk.1, ⟨hk.2.1, ⟨(by simp [Value.ownBlock]), ⟨hk.2.2.1, ⟨hk.2.2.2.1, hk.2.2.2.2⟩⟩⟩⟩⟩)⟩, ⟨by (with_reducible repeat (first | apply Kd.N_alloc | apply Kd.N_drewN | apply Kd.N_drew)); exact Kd.N_mono HO_519000.out (fun _ hk => ⟨hk.1, ⟨(by simp [Value.ownBlock]), ⟨hk.2.1, ⟨hk.2.2.1, hk.2.2.2⟩⟩⟩⟩)⟩, ⟨by first | exact Kd.S_nil _ _ _ _ _ | exact Kd.N_nil _ _ _ _ _ | exact Kd.V_nil _ _ _ _ _ | exact Kd.Q_nil _ _ _ _ _ | exact Kd.R_nil _ _ _ _ _⟩, ⟨bk⟩, ⟨bk⟩, ⟨bk⟩, ⟨bl⟩⟩
    case round =>
     clear H'
     try clear c1
     try clear c2
     try clear p2
     try clear c5
     try clear p5
     try clear q5
     try clear hx5
     try clear p6
     try clear c7
     try clear c8
     try clear c9
     try clear c10
     try clear c10b0
     try clear c12
     try clear c13
     try clear c13b0
     try clear c14
     try clear c15
     try clear c16
     try clear c22
     try clear c23
     try clear c25
     try clear c26
     try clear hcz17_0
     try clear hcz17_1
     try clear hcz24_0
     try clear hcz24_1
     try clear hcz27_0
     try clear hcz27_1
     try clear hcz9_0
     try clear hcz9_1
     try clear hfz17_0
     try clear hfz17_1
     try clear hfz24_0
     try clear hfz24_1
     try clear hfz27_0
     try clear hfz27_1
     try clear hfz9_0
     try clear hfz9_1
     try clear hx520_0
     try clear hx520_1
     try clear p2
     try clear p520
     try clear q520
     obtain ⟨x9_2, x519001_2, u519001, rfl, HA, HK2, HO_517000, HO_517001, HO_519000, HO_519001, BK516, BK517, BK518, HB⟩ := hrel
     cases gk with
     | zero => exact absurd HA.out (by simp [skewbaldlaw01_only.l1])
     | succ k2 =>
      have H := HA.out
      clear HA
      simp only [skewbaldlaw01_only.l1] at H
      by_cases c28 : x9_2 < (l0_1.length : Int)
      ·rw [if_pos c28] at H
       have c28b0 : decide (x9_2 < (l0_1.length : Int)) = true := decide_eq_true c28
       clear c28
       replace H := Option.bind_eq_some_iff.mp H
       obtain ⟨t524, A290, H⟩ := H
       replace H : (if t524 = true then (if 0 ≤ x9_2 then (if x519001_2.length < 3518437208883 then (skewbaldlaw01_only.l1 k2 a2 (wrap64 (x9_2 + 1)) l0_0 l0_1 x519000_1 (x519001_2 ++ [(⟨(rd_T50 l0_1 x9_2).f0, (rd_T50 l0_1 x9_2).f1, (rd_T50 l0_1 x9_2).f2⟩ : S50)])) else (none)) else (none)) else (skewbaldlaw01_only.l1 k2 a2 (wrap64 (x9_2 + 1)) l0_0 l0_1 x519000_1 x519001_2)) = some (r1, r2) := H
       have A29 := Aside0.mk A290
       clear A290
       by_cases c30 : t524 = true
       ·subst c30
        have H1 : (if 0 ≤ x9_2 then (if x519001_2.length < 3518437208883 then (skewbaldlaw01_only.l1 k2 a2 (wrap64 (x9_2 + 1)) l0_0 l0_1 x519000_1 (x519001_2 ++ [(⟨(rd_T50 l0_1 x9_2).f0, (rd_T50 l0_1 x9_2).f1, (rd_T50 l0_1 x9_2).f2⟩ : S50)])) else (none)) else (none)) = some (r1, r2) := by rw [if_pos rfl] at H; exact H
        clear H
        have H := H1
        clear H1
        by_cases c31 : 0 ≤ x9_2
        ·rw [if_pos c31] at H
         have c31b0 : decide (0 ≤ x9_2) = true := decide_eq_true c31
         clear c31
         by_cases c32 : x519001_2.length < 3518437208883
         ·rw [if_pos c32] at H
          have LMc32 := Aside0.mk c32
          clear c32
          obtain ⟨y526, hy526⟩ : ∃ y_ : List (S50), y_ = (x519001_2 ++ [(⟨(rd_T50 l0_1 x9_2).f0, (rd_T50 l0_1 x9_2).f1, (rd_T50 l0_1 x9_2).f2⟩ : S50)]) := ⟨_, rfl⟩
          replace H : (skewbaldlaw01_only.l1 k2 a2 (wrap64 (x9_2 + 1)) l0_0 l0_1 x519000_1 y526) = some (r1, r2) := by first | (rw [hy526]; with_reducible exact H) | (have H2_ := (Option.bind_some _ _).symm.trans H; rw [hy526]; with_reducible exact H2_) | (have H2_ := (Option.bind_some _ _).symm.trans H; with_reducible exact H2_) | with_reducible exact H | (rw [hy526]; exact H) | exact H
          have Ny526 := Aside0.mk hy526
          clear hy526
          have H' := Aside0.mk H
          clear H
          have hnb33 := NB516_517.out
          have hnc33 := NB517_516.out
          have hnb34 := NB516_518.out
          have hnc34 := NB518_516.out
          have hcz35_0 : wr.cell? ⟨gb516, 0, none⟩ = some (.slice A0_0 l0_0.length c0_0) := (blk_cell BK516.out 0).trans rfl
          have hcz35_1 : wr.cell? ⟨gb516, 1, none⟩ = some (.slice A0_1 l0_1.length c0_1) := (blk_cell BK516.out 1).trans rfl
          have hfz35_0 := blk_frozen BK516.out 0
          have hfz35_1 := blk_frozen BK516.out 1
          try go_wp2_with (first | ((with_reducible refine gate_callee (f := 95) rfl ?_); refine goesL_ (some 40) rfl rfl Tryd.func95 (by kernel_rfl) rfl #[.int .i64 a2, .int .i64 x9_2] rfl (by (try simp only [List.map_toArray, List.map_cons, List.map_nil]); first | done | rfl | (simp only [List.length_drop, List.length_take]; rfl)) ?_; (with_reducible refine (skewbaldref00_Of.calls a2 x9_2 true _ A29.out).mono ?_); rintro e w' ⟨rfl, ⟨nd, rfl⟩⟩; refine ⟨_, rfl, ?_⟩; (try (rw [drewN_self wr]; generalize hq_ : World.drewN wr _ = wr; have n0_ : Aside0 (Kd.V k48 48 wr w.heap.size (fun k_ => ((P0_0_ k_ ∨ P0_1_ k_) ∨ w.heap.size ≤ k_) ∧ some k_ ≠ (u519000 : Value).ownBlock ∧ some k_ ≠ (u519001 : Value).ownBlock ∧ k_ ≠ gb516 ∧ k_ ≠ gb517 ∧ k_ ≠ gb518) (.slice A0_0 l0_0.length c0_0) l0_0) := ⟨by rw [← hq_]; exact (by (with_reducible repeat (first | apply Kd.V_alloc | apply Kd.V_drewN | apply Kd.V_drew)); exact HO_517000.out)⟩; have n1_ : Aside0 (Kd.V k50 50 wr w.heap.size (fun k_ => ((P0_0_ k_ ∨ P0_1_ k_) ∨ w.heap.size ≤ k_) ∧ some k_ ≠ (u519000 : Value).ownBlock ∧ some k_ ≠ (u519001 : Value).ownBlock ∧ k_ ≠ gb516 ∧ k_ ≠ gb517 ∧ k_ ≠ gb518) (.slice A0_1 l0_1.length c0_1) l0_1) := ⟨by rw [← hq_]; exact (by (with_reducible repeat (first | apply Kd.V_alloc | apply Kd.V_drewN | apply Kd.V_drew)); exact HO_517001.out)⟩; have n2_ : Aside0 (Kd.N k48 48 wr w.heap.size (fun k_ => ((P0_0_ k_ ∨ P0_1_ k_) ∨ w.heap.size ≤ k_) ∧ some k_ ≠ (u519001 : Value).ownBlock ∧ k_ ≠ gb516 ∧ k_ ≠ gb517 ∧ k_ ≠ gb518) u519000 x519000_1) := ⟨by rw [← hq_]; exact (by (with_reducible repeat (first | apply Kd.N_alloc | apply Kd.N_drewN | apply Kd.N_drew)); exact HO_519000.out)⟩; have n3_ : Aside0 (Kd.N k50 50 wr w.heap.size (fun k_ => ((P0_0_ k_ ∨ P0_1_ k_) ∨ w.heap.size ≤ k_) ∧ some k_ ≠ (u519000 : Value).ownBlock ∧ k_ ≠ gb516 ∧ k_ ≠ gb517 ∧ k_ ≠ gb518) u519001 x519001_2) := ⟨by rw [← hq_]; exact (by (with_reducible repeat (first | apply Kd.N_alloc | apply Kd.N_drewN | apply Kd.N_drew)); exact HO_519001.out)⟩; have n4_ : Aside0 (wr.heap[gb516]? = some (.cells #[.slice A0_0 l0_0.length c0_0, .slice A0_1 l0_1.length c0_1] 25 (0, 0))) := ⟨by rw [← hq_]; exact bk⟩; have n5_ : Aside0 (wr.heap[gb517]? = some (.cells #[.slice none 0 0, .slice none 0 0] 25 (0, 0))) := ⟨by rw [← hq_]; exact bk⟩; have n6_ : Aside0 (wr.heap[gb518]? = some (.cells #[u519000, u519001] 25 (0, 0))) := ⟨by rw [← hq_]; exact bk⟩; have n7_ : Aside0 (Below w.heap.size w wr) := ⟨by rw [← hq_]; exact bl⟩; clear HO_517000 HO_517001 HO_519000 HO_519001 BK516 BK517 BK518 HB hq_; have HO_517000 := n0_; have HO_517001 := n1_; have HO_519000 := n2_; have HO_519001 := n3_; have BK516 := n4_; have BK517 := n5_; have BK518 := n6_; have HB := n7_; clear n0_ n1_ n2_ n3_ n4_ n5_ n6_ n7_))))
          have n0_ := Aside0.mk (Kd.V_drew HO_517000.out)
          have n1_ := Aside0.mk (Kd.V_drew HO_517001.out)
          have n2_ := Aside0.mk (Kd.N_drew HO_519000.out)
          have n3_ := Aside0.mk (Kd.N_drew HO_519001.out)
          have n4_ := Aside0.mk (blk_drew BK516.out)
          have n5_ := Aside0.mk (blk_drew BK517.out)
          have n6_ := Aside0.mk (blk_drew BK518.out)
          have n7_ := Aside0.mk (below_drew1 HB.out)
          clear HO_517000
          clear HO_517001
          clear HO_519000
          clear HO_519001
          clear BK516
          clear BK517
          clear BK518
          clear HB
          have HO_517000 := n0_
          have HO_517001 := n1_
          have HO_519000 := n2_
          have HO_519001 := n3_
          have BK516 := n4_
          have BK517 := n5_
          have BK518 := n6_
          have HB := n7_
          clear n0_ n1_ n2_ n3_ n4_ n5_ n6_ n7_
          have p525 : 0 ≤ (x9_2 : Int) := of_decide_eq_true (by first | (with_reducible assumption) | assumption)
          have q525 : x9_2 < (l0_1.length : Int) := of_decide_eq_true (by first | (with_reducible assumption) | assumption)
          obtain ⟨ad525, A525_1, c525_1, e525, hx525_0, hx525_1, hx525_2, hl525_1, hi525_1⟩ := at_T50 (Kd.V_reads' HO_517001.out).2.2 x9_2 p525 q525
          cases e525
          obtain ⟨ce525, hce525, hMe525, hcc525⟩ := Kd.V_get HO_517001.out z50 x9_2 p525 (by first | exact q525 | exact of_decide_eq_true (by first | (with_reducible assumption) | assumption) | (have e_ := (Kd.V_reads' HO_517001.out).1; omega))
          obtain ⟨ua525_1, uc525_1, rfl, ul525_1, ge525_1⟩ := k50_openF hMe525
          have hv525_1 := hcc525 1 _ rfl
          rw [add_field _ _ 1 (by omega)] at hv525_1
          replace hv525_1 := Option.some.inj (hv525_1.symm.trans hx525_1)
          injection hv525_1 with hva_ hvn_ hvc_
          rw [hva_] at ge525_1
          rw [hvc_] at ul525_1
          have HL525_1 := Aside0.mk (show Kd.V (Kd.int .i64) 3 _ w.heap.size _ _ ((rd_T50 l0_1 x9_2).f1) from Kd.V_mk ul525_1 ge525_1)
          clear hva_ hvn_ hvc_ ge525_1 ul525_1
          clear hcc525 hce525
          have HR525_1 := Aside0.mk hi525_1
          have HC525_1 := Aside0.mk hl525_1
          clear hi525_1 hl525_1
          replace p525 := eq_true p525
          replace q525 := eq_true q525
          refine start_ (n := 11) (S := fun w' => w'.cell? ⟨gb518, 0, none⟩ = some (u519000) ∧ w'.cell? ⟨gb518, 1, none⟩ = some (u519001) ∧ w'.cell? ⟨gb516, 0, none⟩ = some (.slice A0_0 l0_0.length c0_0) ∧ w'.cell? ⟨gb516, 1, none⟩ = some (.slice (some ad525) l0_1.length c0_1) ∧ w'.cell? (ad525.add ((x9_2).toNat * 3)) = some (.int .i64 ((rd_T50 l0_1 x9_2).f0)) ∧ w'.cell? ⟨(ad525.add ((x9_2).toNat * 3)).block, (ad525.add ((x9_2).toNat * 3)).off + 1, none⟩ = some (.slice A525_1 ((rd_T50 l0_1 x9_2).f1).length c525_1) ∧ w'.cell? ⟨(ad525.add ((x9_2).toNat * 3)).block, (ad525.add ((x9_2).toNat * 3)).off + 2, none⟩ = some (.bool ((rd_T50 l0_1 x9_2).f2))) (ds := [8, 10]) #[false, false, false, false, false, false, false, false, false, false, false] (by kernel_rfl) rfl rfl ⟨(blk_cell BK518.out 0).trans rfl, (blk_cell BK518.out 1).trans rfl, (blk_cell BK516.out 0).trans rfl, (blk_cell BK516.out 1).trans rfl, hx525_0, hx525_1, hx525_2⟩ (fun hHeld => ?_); refine with_tabW skewbaldlaw01_only.tab11 skewbaldlaw01_only.bits11 (fun HT_ HW_ => ?_)
          generalize wr.drew = w36 at HO_517000 HO_517001 HO_519000 HO_519001 BK516 BK517 BK518 HB HL525_1 HR525_1 hx525_0 hx525_1 hx525_2 hHeld ⊢
          refine pure_ (i := 0) (N := some 41) (v := ?_) (a' := ?_) #[true, false, false, false, false, false, false, false, false, false, false] rfl rfl (any_of HT_.out (by kernel_rfl)) (fun _ _ _ h => h) (Or.inl ⟨by rfl, ?_⟩) ?_ ?_
          rotate_left
          ·intro w'
           go_simp
           with_reducible rfl
          rotate_left
          ·simp only [Act.put, List.setIfInBounds_toArray, List.set_cons_zero, List.set_cons_succ, i64_w, i32_w]
           rfl
          refine pure_ (i := 2) (N := some 43) (v := ?_) (a' := ?_) #[true, false, true, false, false, false, false, false, false, false, false] rfl rfl (any_of HT_.out (by kernel_rfl)) (fun _ _ _ h => h) (Or.inl ⟨by rfl, ?_⟩) ?_ ?_
          rotate_left
          ·intro w'
           go_simp
           with_reducible rfl
          rotate_left
          ·simp only [Act.put, List.setIfInBounds_toArray, List.set_cons_zero, List.set_cons_succ, i64_w, i32_w]
           rfl
          refine pure_ (i := 4) (N := some 45) (v := ?_) (a' := ?_) #[true, false, true, false, true, false, false, false, false, false, false] rfl rfl (any_of HT_.out (by kernel_rfl)) (fun _ _ _ h => h) (Or.inl ⟨by rfl, ?_⟩) ?_ ?_
          rotate_left
          ·intro w'
           go_simp
           with_reducible rfl
          rotate_left
          ·simp only [Act.put, List.setIfInBounds_toArray, List.set_cons_zero, List.set_cons_succ, i64_w, i32_w]
           rfl
          refine take_ (i := 1) (N := some 42) (v := ?_) (a' := ?_) #[true, true, true, false, true, false, false, false, false, false, false] rfl rfl (take_ofW HT_.out HW_.out (by kernel_rfl)) (fun _ _ _ h => h) (Or.inl ⟨by rfl, ?_⟩) hHeld ?_ ?_
          rotate_left
          ·rintro w' ⟨s0, s1, s2, s3, s4, s5, s6⟩
           go_simp
           with_reducible rfl
          rotate_left
          ·simp only [Act.put, List.setIfInBounds_toArray, List.set_cons_zero, List.set_cons_succ, i64_w, i32_w]
           rfl
          refine take_ (i := 3) (N := some 44) (v := ?_) (a' := ?_) #[true, true, true, true, true, false, false, false, false, false, false] rfl rfl (take_ofW HT_.out HW_.out (by kernel_rfl)) (fun _ _ _ h => h) (Or.inl ⟨by rfl, ?_⟩) hHeld ?_ ?_
          rotate_left
          ·rintro w' ⟨s0, s1, s2, s3, s4, s5, s6⟩
           go_simp
           with_reducible rfl
          rotate_left
          ·simp only [Act.put, List.setIfInBounds_toArray, List.set_cons_zero, List.set_cons_succ, i64_w, i32_w]
           rfl
          refine pure_ (i := 5) (N := some 46) (v := ?_) (a' := ?_) #[true, true, true, true, true, true, false, false, false, false, false] rfl rfl (any_of HT_.out (by kernel_rfl)) (fun _ _ _ h => h) (Or.inl ⟨by rfl, ?_⟩) ?_ ?_
          rotate_left
          ·intro w'
           go_simp
           with_reducible rfl
          rotate_left
          ·simp only [Act.put, List.setIfInBounds_toArray, List.set_cons_zero, List.set_cons_succ, i64_w, i32_w]
           rfl
          refine take_ (i := 6) (N := some 47) (v := ?_) (a' := ?_) #[true, true, true, true, true, true, true, false, false, false, false] rfl rfl (take_ofW HT_.out HW_.out (by kernel_rfl)) (fun _ _ _ h => h) (Or.inl ⟨by rfl, ?_⟩) hHeld ?_ ?_
          rotate_left
          ·rintro w' ⟨s0, s1, s2, s3, s4, s5, s6⟩
           go_simp
           with_reducible rfl
          rotate_left
          ·simp only [Act.put, List.setIfInBounds_toArray, List.set_cons_zero, List.set_cons_succ, i64_w, i32_w]
           rfl
          refine one_ (i := 7) (N := some 48) #[true, true, true, true, true, true, true, true, false, false, false] rfl rfl (one_of HT_.out (by kernel_rfl)) (by decide) (fun K hK => ?_)
          refine value_ (w1 := ?_) (v := ?_) (by rfl) rfl ?_ ?_
          rotate_left 2
          ·go_simp
           constructor
           ·rfl
           ·rfl
          refine hK.out _ _ ⟨(blk_cell (blk_alloc BK518.out _) 0).trans rfl, (blk_cell (blk_alloc BK518.out _) 1).trans rfl, (blk_cell (blk_alloc BK516.out _) 0).trans rfl, (blk_cell (blk_alloc BK516.out _) 1).trans rfl, (World.cell?_alloc_lt _ _ _ (World.block_lt_of_cell? _ _ (hHeld.2.2.2.2.1))).trans (hHeld.2.2.2.2.1), (World.cell?_alloc_lt _ _ _ (World.block_lt_of_cell? _ _ (hHeld.2.2.2.2.2.1))).trans (hHeld.2.2.2.2.2.1), (World.cell?_alloc_lt _ _ _ (World.block_lt_of_cell? _ _ (hHeld.2.2.2.2.2.2))).trans (hHeld.2.2.2.2.2.2)⟩ (fun hHeld => ?_)
          clear hK K
          refine norm_ (a' := ?_) ?_ ?_
          rotate_left
          ·show Act.put _ (some 48) _ = _
           simp only [Act.put, List.setIfInBounds_toArray, List.set_cons_zero, List.set_cons_succ, i64_w, i32_w]
           rfl
          refine last_ (i := 8) (N := some 49) #[true, true, true, true, true, true, true, true, true, false, false] rfl rfl (one_of HT_.out (by kernel_rfl)) (by decide) (fun K hK => ?_)
          refine Kd.N_append_step k50 (w0 := w) w.heap.size (by rfl) (.tmp 42) (.tmp 48) 23 50 (.agg #[(.int .i64 0), (.slice none 0 0), (.bool false)]) 40 rfl Tryd.underlying23 info50 rfl (by decide) (by omega) u519001 x519001_2 (⟨(rd_T50 l0_1 x9_2).f0, (rd_T50 l0_1 x9_2).f1, (rd_T50 l0_1 x9_2).f2⟩ : S50) [.int .i64 ((rd_T50 l0_1 x9_2).f0), .slice A525_1 ((rd_T50 l0_1 x9_2).f1).length c525_1, .bool ((rd_T50 l0_1 x9_2).f2)] (fun k_ => ((P0_0_ k_ ∨ P0_1_ k_) ∨ w.heap.size ≤ k_) ∧ some k_ ≠ (u519000 : Value).ownBlock ∧ k_ ≠ gb516 ∧ k_ ≠ gb517 ∧ k_ ≠ gb518) (fun k_ => ((fun k_ => ((P0_0_ k_ ∨ P0_1_ k_) ∨ w.heap.size ≤ k_) ∧ some k_ ≠ (u519000 : Value).ownBlock ∧ k_ ≠ gb516 ∧ k_ ≠ gb517 ∧ k_ ≠ gb518)) k_ ∧ some k_ ≠ (u519001 : Value).ownBlock) rfl rfl ?aP (fun _ hk => hk) ?aF ?aO ?aB ?aS ?aL ?_
          (case aP => exact (k50_mkF _ _ (⟨(rd_T50 l0_1 x9_2).f0, (rd_T50 l0_1 x9_2).f1, (rd_T50 l0_1 x9_2).f2⟩ : S50) (Kd.V_reads' (Kd.V_mono (ok' := (fun k_ => ((fun k_ => ((P0_0_ k_ ∨ P0_1_ k_) ∨ w.heap.size ≤ k_) ∧ some k_ ≠ (u519000 : Value).ownBlock ∧ k_ ≠ gb516 ∧ k_ ≠ gb517 ∧ k_ ≠ gb518)) k_ ∧ some k_ ≠ (u519001 : Value).ownBlock)) (HL525_1.out) (fun k_ hk => ⟨⟨hk.1, ⟨hk.2.1, ⟨hk.2.2.2.1, ⟨hk.2.2.2.2.1, hk.2.2.2.2.2⟩⟩⟩⟩, hk.2.2.1⟩))).2.1 (Kd.V_F (Kd.V_mono (ok' := (fun k_ => ((fun k_ => ((P0_0_ k_ ∨ P0_1_ k_) ∨ w.heap.size ≤ k_) ∧ some k_ ≠ (u519000 : Value).ownBlock ∧ k_ ≠ gb516 ∧ k_ ≠ gb517 ∧ k_ ≠ gb518)) k_ ∧ some k_ ≠ (u519001 : Value).ownBlock)) (HL525_1.out) (fun k_ hk => ⟨⟨hk.1, ⟨hk.2.1, ⟨hk.2.2.2.1, ⟨hk.2.2.2.2.1, hk.2.2.2.2.2⟩⟩⟩⟩, hk.2.2.1⟩)))))
          (case aB => exact bl)
          (case aF => exact (fun k_ hk => ⟨(.inr (Nat.le_trans (below_size bl) hk)), Kd.fresh' (Kd.N_lt (by (with_reducible repeat (first | apply Kd.N_alloc | apply Kd.N_drewN | apply Kd.N_drew)); exact HO_519000.out)) k_ hk, Kd.freshB (g := gb516) (o := .cells #[.slice A0_0 l0_0.length c0_0, .slice (some ad525) l0_1.length c0_1] 25 (0, 0)) bk k_ hk, Kd.freshB (g := gb517) (o := .cells #[.slice none 0 0, .slice none 0 0] 25 (0, 0)) bk k_ hk, Kd.freshB (g := gb518) (o := .cells #[u519000, u519001] 25 (0, 0)) bk k_ hk⟩))
          (case aO => exact (by (with_reducible repeat (first | apply Kd.N_alloc | apply Kd.N_drewN | apply Kd.N_drew)); exact HO_519001.out))
          (case aS => exact (below_size bl))
          (case aL => have := LMc32.out; omega)
          intro v527 w37 ho hb hg hat
          rw [← Ny526.out] at ho
          have n0_ := Aside0.mk (Kd.V_afterv (ok := (fun k_ => ((P0_0_ k_ ∨ P0_1_ k_) ∨ w.heap.size ≤ k_) ∧ some k_ ≠ (u519000 : Value).ownBlock ∧ k_ ≠ gb516 ∧ k_ ≠ gb517 ∧ k_ ≠ gb518)) (by (with_reducible repeat (first | apply Kd.V_alloc | apply Kd.V_drewN | apply Kd.V_drew)); exact Kd.V_mono HO_517000.out (fun _ hk => ⟨⟨hk.1, ⟨hk.2.1, ⟨hk.2.2.2.1, ⟨hk.2.2.2.2.1, hk.2.2.2.2.2⟩⟩⟩⟩, hk.2.2.1⟩)) hg hat)
          have n1_ := Aside0.mk (Kd.V_afterv (ok := (fun k_ => ((P0_0_ k_ ∨ P0_1_ k_) ∨ w.heap.size ≤ k_) ∧ some k_ ≠ (u519000 : Value).ownBlock ∧ k_ ≠ gb516 ∧ k_ ≠ gb517 ∧ k_ ≠ gb518)) (by (with_reducible repeat (first | apply Kd.V_alloc | apply Kd.V_drewN | apply Kd.V_drew)); exact Kd.V_mono HO_517001.out (fun _ hk => ⟨⟨hk.1, ⟨hk.2.1, ⟨hk.2.2.2.1, ⟨hk.2.2.2.2.1, hk.2.2.2.2.2⟩⟩⟩⟩, hk.2.2.1⟩)) hg hat)
          have n2_ := Aside0.mk (Kd.N_afterv (ok := (fun k_ => ((P0_0_ k_ ∨ P0_1_ k_) ∨ w.heap.size ≤ k_) ∧ k_ ≠ gb516 ∧ k_ ≠ gb517 ∧ k_ ≠ gb518)) (by (with_reducible repeat (first | apply Kd.N_alloc | apply Kd.N_drewN | apply Kd.N_drew)); exact Kd.N_mono HO_519000.out (fun _ hk => ⟨⟨hk.1, ⟨hk.2.2.1, ⟨hk.2.2.2.1, hk.2.2.2.2⟩⟩⟩, hk.2.1⟩)) hg hat)
          have n3_ := Aside0.mk (blk_grown (g := gb516) (o := .cells #[.slice A0_0 l0_0.length c0_0, .slice (some ad525) l0_1.length c0_1] 25 (0, 0)) bk hg (Kd.N_ne HO_519001.out BK516.out (by decide)))
          have n4_ := Aside0.mk (blk_grown (g := gb517) (o := .cells #[.slice none 0 0, .slice none 0 0] 25 (0, 0)) bk hg (Kd.N_ne HO_519001.out BK517.out (by decide)))
          have n5_ := Aside0.mk (blk_grown (g := gb518) (o := .cells #[u519000, u519001] 25 (0, 0)) bk hg (Kd.N_ne HO_519001.out BK518.out (by decide)))
          have n6_ := Aside0.mk (Kd.V_afterv (ok := (fun k_ => ((P0_0_ k_ ∨ P0_1_ k_) ∨ w.heap.size ≤ k_) ∧ some k_ ≠ (u519000 : Value).ownBlock ∧ k_ ≠ gb516 ∧ k_ ≠ gb517 ∧ k_ ≠ gb518)) (by (with_reducible repeat (first | apply Kd.V_alloc | apply Kd.V_drewN | apply Kd.V_drew)); exact Kd.V_mono HL525_1.out (fun _ hk => ⟨⟨hk.1, ⟨hk.2.1, ⟨hk.2.2.2.1, ⟨hk.2.2.2.2.1, hk.2.2.2.2.2⟩⟩⟩⟩, hk.2.2.1⟩)) hg hat)
          have n7_ := Aside0.mk (hb)
          have n8_ := Aside0.mk (ho)
          clear HO_517000
          clear HO_517001
          clear HO_519000
          clear BK516
          clear BK517
          clear BK518
          clear HL525_1
          clear HB
          clear HO_519001
          have HO_517000 := n0_
          have HO_517001 := n1_
          have HO_519000 := n2_
          have BK516 := n3_
          have BK517 := n4_
          have BK518 := n5_
          have HL525_1 := n6_
          have HB := n7_
          have HO528 := n8_
          clear n0_ n1_ n2_ n3_ n4_ n5_ n6_ n7_ n8_
          clear ho hb hg hat
          obtain ⟨Ao38, co38, eo38⟩ := Kd.N_slice HO528.out
          (first | subst eo38 | (injection eo38 with f1_ f2_ f3_; have f4_ := f1_.symm; have f5_ := f3_.symm; clear f1_ f2_ f3_; subst f4_; subst f5_))
          refine hK.out _ _ ?_
          clear hK K
          refine norm_ (a' := ?_) ?_ ?_
          rotate_left
          ·show Act.put _ (some 49) _ = _
           simp only [Act.put, List.setIfInBounds_toArray, List.set_cons_zero, List.set_cons_succ, i64_w, i32_w]
           rfl
          refine pure_ (i := 9) (N := some 50) (v := ?_) (a' := ?_) #[true, true, true, true, true, true, true, true, true, true, false] rfl rfl (any_of HT_.out (by kernel_rfl)) (fun _ _ _ h => h) (Or.inl ⟨by rfl, ?_⟩) ?_ ?_
          rotate_left
          ·intro w'
           go_simp
           with_reducible rfl
          rotate_left
          ·simp only [Act.put, List.setIfInBounds_toArray, List.set_cons_zero, List.set_cons_succ, i64_w, i32_w]
           rfl
          refine last_ (i := 10) (N := none) #[true, true, true, true, true, true, true, true, true, true, true] rfl rfl (one_of HT_.out (by kernel_rfl)) (by decide) (fun K hK => ?_)
          have hs39 : w37.cell? ⟨gb518, 1, none⟩ = some (u519001) := (blk_cell BK518.out 1).trans rfl
          have hfs39 := blk_frozen BK518.out 1
          have hns39_0 := NB516_518.out
          have hns39_1 := NB517_518.out
          have hms39_0 := NB518_516.out
          have hms39_1 := NB518_517.out
          refine skip_ (w1 := ?_) (by rfl) rfl ?_ ?_
          rotate_left
          ·go_simp
           rfl
          refine hK.out _ _ ?_
          clear hK K
          refine done_ (done_of HT_.out (by kernel_rfl)) ?_
          try go_wp2
          go_roundg k2
          case measure => have := HK1.out; have := HK2.out; omega
          case rel => exact ⟨(wrap64 (x9_2 + 1)), (y526), (.slice Ao38 y526.length co38), (by first | rfl | (simp; done) | (simp [*]; done)), H', ⟨by have := HK1.out; have := HK2.out; omega⟩, ⟨by (with_reducible repeat (first | apply Kd.V_alloc | apply Kd.V_drewN | apply Kd.V_drew)); exact Kd.V_mono (Kd.V_far (p := ⟨gb518, 1, none⟩) (Kd.V_mono HO_517000.out (fun k_ hk => (⟨hk, hk.1.2.2.2.2⟩ : _ ∧ k_ ≠ gb518))) (fun _ hk => hk.2) (.slice Ao38 y526.length co38)) (fun _ hk => ⟨hk.1.1.1, ⟨hk.1.1.2.1, ⟨hk.1.2, ⟨hk.1.1.2.2.1, ⟨hk.1.1.2.2.2.1, hk.1.1.2.2.2.2⟩⟩⟩⟩⟩)⟩, ⟨by (with_reducible repeat (first | apply Kd.V_alloc | apply Kd.V_drewN | apply Kd.V_drew)); exact Kd.V_mono (Kd.V_far (p := ⟨gb518, 1, none⟩) (Kd.V_mono HO_517001.out (fun k_ hk => (⟨hk, hk.1.2.2.2.2⟩ : _ ∧ k_ ≠ gb518))) (fun _ hk => hk.2) (.slice Ao38 y526.length co38)) (fun _ hk => ⟨hk.1.1.1, ⟨hk.1.1.2.1, ⟨hk.1.2, ⟨hk.1.1.2.2.1, ⟨hk.1.1.2.2.2.1, hk.1.1.2.2.2.2⟩⟩⟩⟩⟩)⟩, ⟨by (with_reducible repeat (first | apply Kd.N_alloc | apply Kd.N_drewN | apply Kd.N_drew)); exact Kd.N_mono (Kd.N_far (p := ⟨gb518, 1, none⟩) (Kd.N_mono HO_519000.out (fun k_ hk => (⟨hk, hk.1.2.2.2⟩ : _ ∧ k_ ≠ gb518))) (fun _ hk => hk.2) (.slice Ao38 y526.length co38)) (fun _ hk => ⟨hk.1.1.1, ⟨hk.1.2, ⟨hk.1.1.2.1, ⟨hk.1.1.2.2.1, hk.1.1.2.2.2⟩⟩⟩⟩)⟩, ⟨by (with_reducible repeat (first | apply Kd.N_alloc | apply Kd.N_drewN | apply Kd.N_drew)); exact Kd.N_mono (Kd.N_far (p := ⟨gb518, 1, none⟩) (Kd.N_mono HO528.out (fun k_ hk => (⟨hk, hk.2.2.2.2⟩ : _ ∧ k_ ≠ gb518))) (fun _ hk => hk.2) (.slice Ao38 y526.length co38)) (fun _ hk => ⟨hk.1.1, ⟨hk.1.2.1, ⟨hk.1.2.2.1, ⟨hk.1.2.2.2.1, hk.1.2.2.2.2⟩⟩⟩⟩)⟩, ⟨by (with_reducible repeat (first | refine blk_drewN ?_ _ | refine blk_drew ?_ | refine blk_alloc ?_ _)); refine blk_far ?_ NB516_518.out _; (with_reducible repeat (first | refine blk_drewN ?_ _ | refine blk_drew ?_ | refine blk_alloc ?_ _)); exact BK516.out⟩, ⟨by (with_reducible repeat (first | refine blk_drewN ?_ _ | refine blk_drew ?_ | refine blk_alloc ?_ _)); refine blk_far ?_ NB517_518.out _; (with_reducible repeat (first | refine blk_drewN ?_ _ | refine blk_drew ?_ | refine blk_alloc ?_ _)); exact BK517.out⟩, ⟨by (with_reducible repeat (first | refine blk_drewN ?_ _ | refine blk_drew ?_ | refine blk_alloc ?_ _)); refine blk_put (cs := #[u519000, u519001]) ?_ 1 _ rfl; (with_reducible repeat (first | refine blk_drewN ?_ _ | refine blk_drew ?_ | refine blk_alloc ?_ _)); exact BK518.out⟩, ⟨bl⟩⟩
         ·rw [if_neg c32] at H
          exact absurd H (by simp)
        ·rw [if_neg c31] at H
         exact absurd H (by simp)
       ·replace c30 := Bool.eq_false_iff.mpr c30
        subst c30
        have H1 : (skewbaldlaw01_only.l1 k2 a2 (wrap64 (x9_2 + 1)) l0_0 l0_1 x519000_1 x519001_2) = some (r1, r2) := by rw [if_neg (show ¬ (false = true) by decide)] at H; exact H
        clear H
        have H := H1
        clear H1
        have H' := Aside0.mk H
        clear H
        have hnb40 := NB516_517.out
        have hnc40 := NB517_516.out
        have hnb41 := NB516_518.out
        have hnc41 := NB518_516.out
        have hcz42_0 : wr.cell? ⟨gb516, 0, none⟩ = some (.slice A0_0 l0_0.length c0_0) := (blk_cell BK516.out 0).trans rfl
        have hcz42_1 : wr.cell? ⟨gb516, 1, none⟩ = some (.slice A0_1 l0_1.length c0_1) := (blk_cell BK516.out 1).trans rfl
        have hfz42_0 := blk_frozen BK516.out 0
        have hfz42_1 := blk_frozen BK516.out 1
        go_wp2_with (first | ((with_reducible refine gate_callee (f := 95) rfl ?_); refine goesL_ (some 40) rfl rfl Tryd.func95 (by kernel_rfl) rfl #[.int .i64 a2, .int .i64 x9_2] rfl (by (try simp only [List.map_toArray, List.map_cons, List.map_nil]); first | done | rfl | (simp only [List.length_drop, List.length_take]; rfl)) ?_; (with_reducible refine (skewbaldref00_Of.calls a2 x9_2 false _ A29.out).mono ?_); rintro e w' ⟨rfl, ⟨nd, rfl⟩⟩; refine ⟨_, rfl, ?_⟩))
        go_roundg k2
        case measure => have := HK1.out; have := HK2.out; omega
        case rel => exact ⟨(wrap64 (x9_2 + 1)), (x519001_2), (u519001), (by first | rfl | (simp; done) | (simp [*]; done)), H', ⟨by have := HK1.out; have := HK2.out; omega⟩, ⟨by (with_reducible repeat (first | apply Kd.V_alloc | apply Kd.V_drewN | apply Kd.V_drew)); exact HO_517000.out⟩, ⟨by (with_reducible repeat (first | apply Kd.V_alloc | apply Kd.V_drewN | apply Kd.V_drew)); exact HO_517001.out⟩, ⟨by (with_reducible repeat (first | apply Kd.N_alloc | apply Kd.N_drewN | apply Kd.N_drew)); exact HO_519000.out⟩, ⟨by (with_reducible repeat (first | apply Kd.N_alloc | apply Kd.N_drewN | apply Kd.N_drew)); exact HO_519001.out⟩, ⟨bk⟩, ⟨bk⟩, ⟨bk⟩, ⟨bl⟩⟩
      ·rw [if_neg c28] at H
       have c28b0 : decide (x9_2 < (l0_1.length : Int)) = false := decide_eq_false c28
       clear c28
       simp only [Option.some.injEq, Prod.mk.injEq] at H
       obtain ⟨rfl, rfl⟩ := H
       have hnb43 := NB516_517.out
       have hnc43 := NB517_516.out
       have hnb44 := NB516_518.out
       have hnc44 := NB518_516.out
       have hcz45_0 : wr.cell? ⟨gb516, 0, none⟩ = some (.slice A0_0 l0_0.length c0_0) := (blk_cell BK516.out 0).trans rfl
       have hcz45_1 : wr.cell? ⟨gb516, 1, none⟩ = some (.slice A0_1 l0_1.length c0_1) := (blk_cell BK516.out 1).trans rfl
       have hfz45_0 := blk_frozen BK516.out 0
       have hfz45_1 := blk_frozen BK516.out 1
       have hnb46 := NB518_517.out
       have hnc46 := NB517_518.out
       have hcz47_0 : wr.cell? ⟨gb518, 0, none⟩ = some (u519000) := (blk_cell BK518.out 0).trans rfl
       have hcz47_1 : wr.cell? ⟨gb518, 1, none⟩ = some (u519001) := (blk_cell BK518.out 1).trans rfl
       have hfz47_0 := blk_frozen BK518.out 0
       have hfz47_1 := blk_frozen BK518.out 1
       obtain ⟨Ao48, co48, eo48⟩ := Kd.N_slice HO_519000.out
       subst eo48
       have hcz49_0 : wr.cell? ⟨gb517, 0, none⟩ = some (.slice none 0 0) := (blk_cell BK517.out 0).trans rfl
       have hcz49_1 : wr.cell? ⟨gb517, 1, none⟩ = some (.slice none 0 0) := (blk_cell BK517.out 1).trans rfl
       have hfz49_0 := blk_frozen BK517.out 0
       have hfz49_1 := blk_frozen BK517.out 1
       obtain ⟨Ao50, co50, eo50⟩ := Kd.N_slice HO_519001.out
       subst eo50
       go_wp2
       refine bodyPost_ret (results_cell_row rfl _ _ gb517 25 #[.slice Ao48 x519000_1.length co48, .slice Ao50 x519001_2.length co50] (0, 0) _ rfl (by (with_reducible repeat (first | refine blk_drewN ?_ _ | refine blk_drew ?_ | refine blk_alloc ?_ _)); refine blk_put (cs := #[.slice Ao48 x519000_1.length co48, .slice none 0 0]) ?_ 1 _ rfl; (with_reducible repeat (first | refine blk_drewN ?_ _ | refine blk_drew ?_ | refine blk_alloc ?_ _)); refine blk_put (cs := #[.slice none 0 0, .slice none 0 0]) ?_ 0 _ rfl; (with_reducible repeat (first | refine blk_drewN ?_ _ | refine blk_drew ?_ | refine blk_alloc ?_ _)); exact BK517.out) Tryd.underlying25 rfl (by kernel_rfl)) rfl ?_
       exact ⟨_, _, by first | rfl | (simp [errW_none, errW_some] <;> rfl) | (simp [*, errW_none, errW_some] <;> rfl), by (with_reducible repeat (first | apply Kd.N_alloc | apply Kd.N_drewN | apply Kd.N_drew)); exact Kd.N_mono (Kd.N_far (p := ⟨gb517, 1, none⟩) (Kd.N_far (p := ⟨gb517, 0, none⟩) (Kd.N_mono HO_519000.out (fun k_ hk => (⟨hk, hk.2.2.2.1⟩ : _ ∧ k_ ≠ gb517))) (fun _ hk => hk.2) (.slice Ao48 x519000_1.length co48)) (fun _ hk => hk.2) (.slice Ao50 x519001_2.length co50)) (fun _ hk => ⟨hk.1.1, hk.1.2.1⟩), by (with_reducible repeat (first | apply Kd.N_alloc | apply Kd.N_drewN | apply Kd.N_drew)); exact Kd.N_mono (Kd.N_far (p := ⟨gb517, 1, none⟩) (Kd.N_far (p := ⟨gb517, 0, none⟩) (Kd.N_mono HO_519001.out (fun k_ hk => (⟨hk, hk.2.2.2.1⟩ : _ ∧ k_ ≠ gb517))) (fun _ hk => hk.2) (.slice Ao48 x519000_1.length co48)) (fun _ hk => hk.2) (.slice Ao50 x519001_2.length co50)) (fun _ hk => ⟨hk.1.1, hk.1.2.1⟩), bl⟩
def skewbaldlaw01_enough.j0 : Nat → Int → Int → Bool → List (S48) → List (S50) → Option (Bool × Bool)
 | 0, _, _, _, _, _ => none
 | k + 1, x1, x2, x15, x530000, x530001 => if x15 = true then (some ((x2 == 0), true)) else ((skewbaldlaw01_only.f k x530000 x530001 x1 x2).bind fun bt530 => ((plank_Fewest.f bt530.1 bt530.2).bind fun bt536 => (if bt536.2 = 0 then (some ((bt536.2 == 0), true)) else (some ((bt536.2 == 0), (bt536.2 == 4))))))
def skewbaldlaw01_enough.f (k : Nat) (l0_0 : List (S48)) (l0_1 : List (S50)) (a1 : Int) (a2 : Int) : Option (Bool × Bool) := if a2 = 0 then (skewbaldlaw01_enough.j0 k a1 a2 true l0_0 l0_1) else (skewbaldlaw01_enough.j0 k a1 a2 (a1 == 0) l0_0 l0_1)
set_option maxHeartbeats 8000000 in
set_option maxRecDepth 100000 in
theorem skewbaldlaw01_enough.calls (k : Nat) (A0_0 : Option Addr) (c0_0 : Nat) (l0_0 : List (S48)) (A0_1 : Option Addr) (c0_1 : Nat) (l0_1 : List (S50)) (a1 : Int) (a2 : Int) (r1 : Bool) (r2 : Bool) (w : World) (hr0_0 : Kd.C k48 w A0_0 l0_0.length l0_0) (hc0_0 : l0_0.length ≤ c0_0) (hr0_1 : Kd.C k50 w A0_1 l0_1.length l0_1) (hc0_1 : l0_1.length ≤ c0_1) (hG : Glob w) (h : skewbaldlaw01_enough.f k l0_0 l0_1 a1 a2 = some (r1, r2)) :
  Calls Tryd.prog 46 #[.agg #[.slice A0_0 l0_0.length c0_0, .slice A0_1 l0_1.length c0_1], .int .i64 a1, .int .i64 a2] w fun e w' => e = .returned (.tuple #[.bool r1, .bool r2]) ∧ Below w.heap.size w w' := by
 have hu25 := Tryd.underlying25
 have HR0_0 := Aside0.mk hr0_0
 have HC0_0 := Aside0.mk hc0_0
 clear hr0_0 hc0_0
 have HR0_1 := Aside0.mk hr0_1
 have HC0_1 := Aside0.mk hc0_1
 clear hr0_1 hc0_1
 have HGL := Aside0.mk hG
 clear hG
 have HB := Aside0.mk (Below.refl w.heap.size w)
 have H : (if a2 = 0 then (skewbaldlaw01_enough.j0 k a1 a2 true l0_0 l0_1) else (skewbaldlaw01_enough.j0 k a1 a2 (a1 == 0) l0_0 l0_1)) = some (r1, r2) := h
 clear h
 have HC4 := Aside0.mk H
 clear H
 go_enter Tryd.func46, Tryd.ntmps46
 go_upto_region 1 with (first | ((with_reducible refine gate_dst (N := 3) rfl ?_); refine box_event ?hg (N := 3) ?hd (cs := #[.slice A0_0 l0_0.length c0_0, .slice A0_1 l0_1.length c0_1]) (t := 25) ?hr ?_; (case hd => rfl); (case hg => rfl); (case hr => first | (go_simp; done) | (go_simp; rfl)); intro gb529 hg w5 hbox hb; have n0_ := Aside0.mk (below_step bl hb); have n1_ := Aside0.mk (hbox); have n2_ := Aside0.mk ((by rw [hg]; exact (below_size bl) : w.heap.size ≤ gb529)); have n3_ := Aside0.mk ((by rw [hg]; exact (below_size bl) : w.heap.size ≤ gb529)); clear HB; have HB := n0_; have BK529 := n1_; have GW529 := n2_; have GE529 := n3_; clear n0_ n1_ n2_ n3_; clear hb hbox hg))
 (try simp only [Act.put, List.setIfInBounds_toArray, List.set_cons_zero, List.set_cons_succ])
 go_cut [15] (fun v15 wc => ∃ (kq : Nat) (x15_3 : Bool), v15 = .bool x15_3 ∧ Aside0 (skewbaldlaw01_enough.j0 kq a1 a2 x15_3 l0_0 l0_1 = some (r1, r2)) ∧ Aside0 (kq ≤ k) ∧ Aside0 (wc.heap[gb529]? = some (.cells #[(.slice A0_0 l0_0.length c0_0), (.slice A0_1 l0_1.length c0_1)] 25 (0, 0))) ∧ Aside0 (Below w.heap.size w wc))
 case first =>
  have H := HC4.out
  clear HC4
  by_cases c6 : a2 = 0
  ·rw [if_pos c6] at H
   have c6b0 : (a2 == 0) = true := beq_iff_eq.mpr c6
   have c6b1 : (a2 != 0) = false := bne_eq_false_iff_eq.mpr c6
   clear c6
   (first | rw [c6b0] | (simp only [i64_w, i32_w]; rw [c6b0]) | skip)
   have H' := Aside0.mk H
   clear H
   go_wp2
   go_meet
   case rel => exact ⟨_, (true), (by first | rfl | (simp; done) | (simp [*]; done)), H', ⟨by first | omega | exact Nat.le_refl _⟩, ⟨bk⟩, ⟨bl⟩⟩
  ·rw [if_neg c6] at H
   have c6b0 : (a2 == 0) = false := beq_eq_false_iff_ne.mpr c6
   have c6b1 : (a2 != 0) = true := bne_iff_ne.mpr c6
   (first | rw [c6b0] | (simp only [i64_w, i32_w]; rw [c6b0]) | skip)
   have H' := Aside0.mk H
   clear H
   go_wp2
   go_meet
   case rel => exact ⟨_, ((a1 == 0)), (by first | rfl | (simp; done) | (simp [*]; done)), H', ⟨by first | omega | exact Nat.le_refl _⟩, ⟨bk⟩, ⟨bl⟩⟩
 case rest =>
  clear HC4
  try clear p2
  try clear c4
  try clear c6
  try clear c6b0
  try clear c6b1
  obtain ⟨kq, x15_3, rfl, HA, HJ3, BK529, HB⟩ := hcut
  cases kq with
  | zero => exact absurd HA.out (by simp [skewbaldlaw01_enough.j0])
  | succ kj3 =>
   have H := HA.out
   clear HA
   simp only [skewbaldlaw01_enough.j0] at H
   by_cases c7 : x15_3 = true
   ·subst c7
    have H1 : (some ((a2 == 0), true)) = some (r1, r2) := by rw [if_pos rfl] at H; exact H
    clear H
    have H := H1
    clear H1
    simp only [Option.some.injEq, Prod.mk.injEq] at H
    obtain ⟨rfl, rfl⟩ := H
    go_wp2
    go_ret2
    exact ⟨by first | rfl | (simp [errW_none, errW_some] <;> rfl) | (simp [*, errW_none, errW_some] <;> rfl), bl⟩
   ·replace c7 := Bool.eq_false_iff.mpr c7
    subst c7
    have H1 : ((skewbaldlaw01_only.f kj3 l0_0 l0_1 a1 a2).bind fun bt530 => ((plank_Fewest.f bt530.1 bt530.2).bind fun bt536 => (if bt536.2 = 0 then (some ((bt536.2 == 0), true)) else (some ((bt536.2 == 0), (bt536.2 == 4)))))) = some (r1, r2) := by rw [if_neg (show ¬ (false = true) by decide)] at H; exact H
    clear H
    have H := H1
    clear H1
    replace H := Option.bind_eq_some_iff.mp H
    obtain ⟨⟨t530, t533⟩, A80, H⟩ := H
    replace H : ((plank_Fewest.f t530 t533).bind fun bt536 => (if bt536.2 = 0 then (some ((bt536.2 == 0), true)) else (some ((bt536.2 == 0), (bt536.2 == 4))))) = some (r1, r2) := H
    have A8 := Aside0.mk A80
    clear A80
    replace H := Option.bind_eq_some_iff.mp H
    obtain ⟨⟨t536, t539⟩, A90, H⟩ := H
    replace H : (if t539 = 0 then (some ((t539 == 0), true)) else (some ((t539 == 0), (t539 == 4)))) = some (r1, r2) := H
    have A9 := Aside0.mk A90
    clear A90
    by_cases c10 : t539 = 0
    ·rw [if_pos c10] at H
     have c10b0 : (t539 == 0) = true := beq_iff_eq.mpr c10
     have c10b1 : (t539 != 0) = false := bne_eq_false_iff_eq.mpr c10
     clear c10
     simp only [Option.some.injEq, Prod.mk.injEq] at H
     obtain ⟨rfl, rfl⟩ := H
     have hcz11_0 : wc.cell? ⟨gb529, 0, none⟩ = some (.slice A0_0 l0_0.length c0_0) := (blk_cell BK529.out 0).trans rfl
     have hcz11_1 : wc.cell? ⟨gb529, 1, none⟩ = some (.slice A0_1 l0_1.length c0_1) := (blk_cell BK529.out 1).trans rfl
     have hfz11_0 := blk_frozen BK529.out 0
     have hfz11_1 := blk_frozen BK529.out 1
     go_wp2_with (first | ((with_reducible refine gate_callee (f := 96) rfl ?_); refine goesL_ (some 22) rfl rfl Tryd.func96 (by kernel_rfl) rfl #[.agg #[.slice A0_0 l0_0.length c0_0, .slice A0_1 l0_1.length c0_1], .int .i64 a1, .int .i64 a2] rfl (by (try simp only [List.map_toArray, List.map_cons, List.map_nil]); first | done | rfl | (simp only [List.length_drop, List.length_take]; rfl)) ?_; (with_reducible refine (skewbaldlaw01_only.calls kj3 (fun k_ => k_ < w.heap.size) _ _ l0_0 (fun k_ => k_ < w.heap.size) _ _ l0_1 a1 a2 t530 t533 _ ?side1 ?side2 A8.out).mono ?_); (case side1 => exact Kd.V_mk HC0_0.out (Kd.F_below (Kd.C_F k48_heap HR0_0.out) bl)); (case side2 => exact Kd.V_mk HC0_1.out (Kd.F_below (Kd.C_F k50_heap HR0_1.out) bl)); rintro e w12 ⟨v531, v534, rfl, ho0, ho1, hb⟩; refine ⟨_, rfl, ?_⟩; have n0_ := Aside0.mk (Kd.N_lower (Kd.N_mono (ok' := fun k_ => some k_ ≠ (v534 : Value).ownBlock ∧ k_ ≠ gb529) ho0 (fun k_ hk_ => ⟨hk_.2, Or.elim hk_.1 (fun hs_ => Or.elim hs_ (fun hs_ => fun e_ => Nat.not_le.2 hs_ (by rw [e_]; exact GW529.out)) (fun hs_ => fun e_ => Nat.not_le.2 hs_ (by rw [e_]; exact GW529.out))) (fun hn_ => (Kd.freshB (g := gb529) (o := .cells #[.slice A0_0 l0_0.length c0_0, .slice A0_1 l0_1.length c0_1] 25 (0, 0)) bk k_ hn_))⟩)) (below_size bl)); have n1_ := Aside0.mk (Kd.N_lower (Kd.N_mono (ok' := fun k_ => some k_ ≠ (v531 : Value).ownBlock ∧ k_ ≠ gb529) ho1 (fun k_ hk_ => ⟨hk_.2, Or.elim hk_.1 (fun hs_ => Or.elim hs_ (fun hs_ => fun e_ => Nat.not_le.2 hs_ (by rw [e_]; exact GW529.out)) (fun hs_ => fun e_ => Nat.not_le.2 hs_ (by rw [e_]; exact GW529.out))) (fun hn_ => (Kd.freshB (g := gb529) (o := .cells #[.slice A0_0 l0_0.length c0_0, .slice A0_1 l0_1.length c0_1] 25 (0, 0)) bk k_ hn_))⟩)) (below_size bl)); have n2_ := Aside0.mk (blk_below (g := gb529) (o := .cells #[.slice A0_0 l0_0.length c0_0, .slice A0_1 l0_1.length c0_1] 25 (0, 0)) bk hb); have n3_ := Aside0.mk (below_step bl hb); clear BK529; clear HB; have HO532 := n0_; have HO535 := n1_; have BK529 := n2_; have HB := n3_; clear n0_ n1_ n2_ n3_; (try clear hb); (try clear hb2); (try clear hk); (try clear hi); (try clear ho0); (try clear ho1); obtain ⟨Ao13, co13, eo13⟩ := Kd.N_slice HO532.out; subst eo13; obtain ⟨Ao14, co14, eo14⟩ := Kd.N_slice HO535.out; subst eo14) | ((with_reducible refine gate_callee (f := 28) rfl ?_); refine goesL_ (some 23) rfl rfl Tryd.func28 (by kernel_rfl) rfl #[.agg #[.slice Ao13 t530.length co13, .slice Ao14 t533.length co14]] rfl (by (try simp only [List.map_toArray, List.map_cons, List.map_nil]); first | done | rfl | (simp only [List.length_drop, List.length_take]; rfl)) ?_; (with_reducible refine (plank_Fewest.calls _ _ t530 _ _ t533 t536 t539 _ ?side1 ?side2 ?side3 ?side4 ?side5 A9.out).mono ?_); (case side1 => repeat (first | exact (Kd.N_reads' HO532.out).2.2 | (with_reducible refine Kd.C_alloc ?_ _) | (with_reducible refine Kd.C_drewN ?_ _) | (with_reducible refine Kd.C_drew ?_))); (case side2 => exact (Kd.N_reads' HO532.out).2.1); (case side3 => repeat (first | exact (Kd.N_reads' HO535.out).2.2 | (with_reducible refine Kd.C_alloc ?_ _) | (with_reducible refine Kd.C_drewN ?_ _) | (with_reducible refine Kd.C_drew ?_))); (case side4 => exact (Kd.N_reads' HO535.out).2.1); (case side5 => exact Glob.below HGL.out bl); rintro e w15 ⟨v537, rfl, ho0, hb⟩; refine ⟨_, rfl, ?_⟩; have n0_ := Aside0.mk (Kd.N_below (by (with_reducible repeat (first | apply Kd.N_alloc | apply Kd.N_drewN | apply Kd.N_drew)); exact HO532.out) hb); have n1_ := Aside0.mk (Kd.N_below (by (with_reducible repeat (first | apply Kd.N_alloc | apply Kd.N_drewN | apply Kd.N_drew)); exact HO535.out) hb); have n2_ := Aside0.mk (Kd.V_lower (Kd.V_mono (ok' := fun k_ => some k_ ≠ (.slice Ao13 t530.length co13 : Value).ownBlock ∧ some k_ ≠ (.slice Ao14 t533.length co14 : Value).ownBlock ∧ k_ ≠ gb529) ho0 (fun k_ hk_ => ⟨(Kd.fresh' (Kd.N_lt (by (with_reducible repeat (first | apply Kd.N_alloc | apply Kd.N_drewN | apply Kd.N_drew)); exact HO532.out)) k_ hk_), (Kd.fresh' (Kd.N_lt (by (with_reducible repeat (first | apply Kd.N_alloc | apply Kd.N_drewN | apply Kd.N_drew)); exact HO535.out)) k_ hk_), (Kd.freshB (g := gb529) (o := .cells #[.slice A0_0 l0_0.length c0_0, .slice A0_1 l0_1.length c0_1] 25 (0, 0)) bk k_ hk_)⟩)) (below_size bl)); have n3_ := Aside0.mk (blk_below (g := gb529) (o := .cells #[.slice A0_0 l0_0.length c0_0, .slice A0_1 l0_1.length c0_1] 25 (0, 0)) bk hb); have n4_ := Aside0.mk (below_step bl hb); clear HO532; clear HO535; clear BK529; clear HB; have HO532 := n0_; have HO535 := n1_; have HO538 := n2_; have BK529 := n3_; have HB := n4_; clear n0_ n1_ n2_ n3_ n4_; (try clear hb); (try clear hb2); (try clear hk); (try clear hi); (try clear ho0)))
     go_ret2
     exact ⟨by first | rfl | (simp [errW_none, errW_some] <;> rfl) | (simp [*, errW_none, errW_some] <;> rfl), bl⟩
    ·rw [if_neg c10] at H
     have c10b0 : (t539 == 0) = false := beq_eq_false_iff_ne.mpr c10
     have c10b1 : (t539 != 0) = true := bne_iff_ne.mpr c10
     simp only [Option.some.injEq, Prod.mk.injEq] at H
     obtain ⟨rfl, rfl⟩ := H
     have hcz16_0 : wc.cell? ⟨gb529, 0, none⟩ = some (.slice A0_0 l0_0.length c0_0) := (blk_cell BK529.out 0).trans rfl
     have hcz16_1 : wc.cell? ⟨gb529, 1, none⟩ = some (.slice A0_1 l0_1.length c0_1) := (blk_cell BK529.out 1).trans rfl
     have hfz16_0 := blk_frozen BK529.out 0
     have hfz16_1 := blk_frozen BK529.out 1
     go_wp2_with (first | ((with_reducible refine gate_callee (f := 96) rfl ?_); refine goesL_ (some 22) rfl rfl Tryd.func96 (by kernel_rfl) rfl #[.agg #[.slice A0_0 l0_0.length c0_0, .slice A0_1 l0_1.length c0_1], .int .i64 a1, .int .i64 a2] rfl (by (try simp only [List.map_toArray, List.map_cons, List.map_nil]); first | done | rfl | (simp only [List.length_drop, List.length_take]; rfl)) ?_; (with_reducible refine (skewbaldlaw01_only.calls kj3 (fun k_ => k_ < w.heap.size) _ _ l0_0 (fun k_ => k_ < w.heap.size) _ _ l0_1 a1 a2 t530 t533 _ ?side1 ?side2 A8.out).mono ?_); (case side1 => exact Kd.V_mk HC0_0.out (Kd.F_below (Kd.C_F k48_heap HR0_0.out) bl)); (case side2 => exact Kd.V_mk HC0_1.out (Kd.F_below (Kd.C_F k50_heap HR0_1.out) bl)); rintro e w17 ⟨v531, v534, rfl, ho0, ho1, hb⟩; refine ⟨_, rfl, ?_⟩; have n0_ := Aside0.mk (Kd.N_lower (Kd.N_mono (ok' := fun k_ => some k_ ≠ (v534 : Value).ownBlock ∧ k_ ≠ gb529) ho0 (fun k_ hk_ => ⟨hk_.2, Or.elim hk_.1 (fun hs_ => Or.elim hs_ (fun hs_ => fun e_ => Nat.not_le.2 hs_ (by rw [e_]; exact GW529.out)) (fun hs_ => fun e_ => Nat.not_le.2 hs_ (by rw [e_]; exact GW529.out))) (fun hn_ => (Kd.freshB (g := gb529) (o := .cells #[.slice A0_0 l0_0.length c0_0, .slice A0_1 l0_1.length c0_1] 25 (0, 0)) bk k_ hn_))⟩)) (below_size bl)); have n1_ := Aside0.mk (Kd.N_lower (Kd.N_mono (ok' := fun k_ => some k_ ≠ (v531 : Value).ownBlock ∧ k_ ≠ gb529) ho1 (fun k_ hk_ => ⟨hk_.2, Or.elim hk_.1 (fun hs_ => Or.elim hs_ (fun hs_ => fun e_ => Nat.not_le.2 hs_ (by rw [e_]; exact GW529.out)) (fun hs_ => fun e_ => Nat.not_le.2 hs_ (by rw [e_]; exact GW529.out))) (fun hn_ => (Kd.freshB (g := gb529) (o := .cells #[.slice A0_0 l0_0.length c0_0, .slice A0_1 l0_1.length c0_1] 25 (0, 0)) bk k_ hn_))⟩)) (below_size bl)); have n2_ := Aside0.mk (blk_below (g := gb529) (o := .cells #[.slice A0_0 l0_0.length c0_0, .slice A0_1 l0_1.length c0_1] 25 (0, 0)) bk hb); have n3_ := Aside0.mk (below_step bl hb); clear BK529; clear HB; have HO532 := n0_; have HO535 := n1_; have BK529 := n2_; have HB := n3_; clear n0_ n1_ n2_ n3_; (try clear hb); (try clear hb2); (try clear hk); (try clear hi); (try clear ho0); (try clear ho1); obtain ⟨Ao18, co18, eo18⟩ := Kd.N_slice HO532.out; subst eo18; obtain ⟨Ao19, co19, eo19⟩ := Kd.N_slice HO535.out; subst eo19) | ((with_reducible refine gate_callee (f := 28) rfl ?_); refine goesL_ (some 23) rfl rfl Tryd.func28 (by kernel_rfl) rfl #[.agg #[.slice Ao18 t530.length co18, .slice Ao19 t533.length co19]] rfl (by (try simp only [List.map_toArray, List.map_cons, List.map_nil]); first | done | rfl | (simp only [List.length_drop, List.length_take]; rfl)) ?_; (with_reducible refine (plank_Fewest.calls _ _ t530 _ _ t533 t536 t539 _ ?side1 ?side2 ?side3 ?side4 ?side5 A9.out).mono ?_); (case side1 => repeat (first | exact (Kd.N_reads' HO532.out).2.2 | (with_reducible refine Kd.C_alloc ?_ _) | (with_reducible refine Kd.C_drewN ?_ _) | (with_reducible refine Kd.C_drew ?_))); (case side2 => exact (Kd.N_reads' HO532.out).2.1); (case side3 => repeat (first | exact (Kd.N_reads' HO535.out).2.2 | (with_reducible refine Kd.C_alloc ?_ _) | (with_reducible refine Kd.C_drewN ?_ _) | (with_reducible refine Kd.C_drew ?_))); (case side4 => exact (Kd.N_reads' HO535.out).2.1); (case side5 => exact Glob.below HGL.out bl); rintro e w20 ⟨v537, rfl, ho0, hb⟩; refine ⟨_, rfl, ?_⟩; have n0_ := Aside0.mk (Kd.N_below (by (with_reducible repeat (first | apply Kd.N_alloc | apply Kd.N_drewN | apply Kd.N_drew)); exact HO532.out) hb); have n1_ := Aside0.mk (Kd.N_below (by (with_reducible repeat (first | apply Kd.N_alloc | apply Kd.N_drewN | apply Kd.N_drew)); exact HO535.out) hb); have n2_ := Aside0.mk (Kd.V_lower (Kd.V_mono (ok' := fun k_ => some k_ ≠ (.slice Ao18 t530.length co18 : Value).ownBlock ∧ some k_ ≠ (.slice Ao19 t533.length co19 : Value).ownBlock ∧ k_ ≠ gb529) ho0 (fun k_ hk_ => ⟨(Kd.fresh' (Kd.N_lt (by (with_reducible repeat (first | apply Kd.N_alloc | apply Kd.N_drewN | apply Kd.N_drew)); exact HO532.out)) k_ hk_), (Kd.fresh' (Kd.N_lt (by (with_reducible repeat (first | apply Kd.N_alloc | apply Kd.N_drewN | apply Kd.N_drew)); exact HO535.out)) k_ hk_), (Kd.freshB (g := gb529) (o := .cells #[.slice A0_0 l0_0.length c0_0, .slice A0_1 l0_1.length c0_1] 25 (0, 0)) bk k_ hk_)⟩)) (below_size bl)); have n3_ := Aside0.mk (blk_below (g := gb529) (o := .cells #[.slice A0_0 l0_0.length c0_0, .slice A0_1 l0_1.length c0_1] 25 (0, 0)) bk hb); have n4_ := Aside0.mk (below_step bl hb); clear HO532; clear HO535; clear BK529; clear HB; have HO532 := n0_; have HO535 := n1_; have HO538 := n2_; have BK529 := n3_; have HB := n4_; clear n0_ n1_ n2_ n3_ n4_; (try clear hb); (try clear hb2); (try clear hk); (try clear hi); (try clear ho0)))
     go_ret2
     exact ⟨by first | rfl | (simp [errW_none, errW_some] <;> rfl) | (simp [*, errW_none, errW_some] <;> rfl), bl⟩
end Go.Proofs.YtekjlpldooihhaaDoor.PT
