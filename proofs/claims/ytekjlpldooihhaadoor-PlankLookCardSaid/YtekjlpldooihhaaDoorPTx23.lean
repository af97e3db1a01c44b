/- Package plank, plain laws: a book of some of its planks and parts. -/
import Derived.Test.YtekjlpldooihhaaDoorWTab
import Derived.Test.YtekjlpldooihhaaDoorSv
import Derived.Test.YtekjlpldooihhaaDoorPTx17
import Derived.Test.YtekjlpldooihhaaDoorHm
import Derived.Test.YtekjlpldooihhaaDoorPm
namespace Go.Proofs.YtekjlpldooihhaaDoor.PT
open Go.Proofs.YtekjlpldooihhaaDoorSh
open Go.Proofs.YtekjlpldooihhaaDoor.PA (S48 S50 S60 at_L2 at_L4 at_T48 at_T50 at_T60 errW errW_none errW_some k48 k48_mk k48_mkM k48_open k48_openM k50 k50_mk k50_mkM k50_open k50_openM k60 k60_mk k60_mkM k60_open k60_openM rd_L2 rd_L4 rd_T48 rd_T50 rd_T60 z48 z50 z60)
open Go.Proofs.YtekjlpldooihhaaDoorP Go.Proofs.YtekjlpldooihhaaDoorK
open Go.RowKit Go.Proofs.YtekjlpldooihhaaDoorW.PrintWords Go.Proofs.YtekjlpldooihhaaDoorW.PrintLast Go.Proofs.YtekjlpldooihhaaDoorW.PrintMore
attribute [local go_sem] max2_int min2_int max_two min_two max_three min_three max_four min_four   -- for this text's walks alone
set_option linter.unusedVariables false
set_option linter.unusedSimpArgs false
mutual
def skewbaldlaw01_only.l0 : Nat → Int → Int → Int → List (S48) → List (S50) → List (S48) → Option ((List (S48)) × (List (S50)))
 | 0, _, _, _, _, _, _ => none
 | k + 1, x1, x2, x8, x517000, x517001, x519000 => if x8 < (x517000.length : Int) then ((skewbaldref00_Of.f x1 x8).bind fun t519 => (if t519 = true then (if 0 ≤ x8 then (if x519000.length < 4398046511104 then (skewbaldlaw01_only.l0 k x1 x2 (wrap64 (x8 + 1)) x517000 x517001 (x519000 ++ [(⟨(rd_T48 x517000 x8).f0, (rd_T48 x517000 x8).f1⟩ : S48)])) else (none)) else (none)) else (skewbaldlaw01_only.l0 k x1 x2 (wrap64 (x8 + 1)) x517000 x517001 x519000))) else (skewbaldlaw01_only.l1 k x2 0 x517000 x517001 x519000 ([] : List (S50)))
def skewbaldlaw01_only.l1 : Nat → Int → Int → List (S48) → List (S50) → List (S48) → List (S50) → Option ((List (S48)) × (List (S50)))
 | 0, _, _, _, _, _, _ => none
 | k + 1, x2, x9, x517000, x517001, x519000, x519001 => if x9 < (x517001.length : Int) then ((skewbaldref00_Of.f x2 x9).bind fun t524 => (if t524 = true then (if 0 ≤ x9 then (if x519001.length < 3518437208883 then (skewbaldlaw01_only.l1 k x2 (wrap64 (x9 + 1)) x517000 x517001 x519000 (x519001 ++ [(⟨(rd_T50 x517001 x9).f0, (rd_T50 x517001 x9).f1, (rd_T50 x517001 x9).f2⟩ : S50)])) else (none)) else (none)) else (skewbaldlaw01_only.l1 k x2 (wrap64 (x9 + 1)) x517000 x517001 x519000 x519001))) else (some (x519000, x519001))
end
def skewbaldlaw01_only.f (k : Nat) (l0_0 : List (S48)) (l0_1 : List (S50)) (a1 : Int) (a2 : Int) : Option ((List (S48)) × (List (S50))) := skewbaldlaw01_only.l0 k a1 a2 0 l0_0 l0_1 ([] : List (S48))
def skewbaldlaw01_only.T6 : Bool × List (List Nat × List Nat) := (true, [([], []), ([0], [0]), ([], []), ([2], [2]), ([], []), ([3, 4], [3, 4]), ([5], [5]), ([6], [6]), ([1, 7], [1, 7]), ([0, 1, 2, 3, 4, 5, 6, 7, 8], []), ([9, 8, 8, 0, 1, 2, 3, 4, 5, 6, 7, 8], [8, 9])])
def skewbaldlaw01_only.B6 : List Nat := [0, 1, 0, 4, 0, 28, 60, 124, 255, 511, 1023]
theorem skewbaldlaw01_only.tab6 : rtab .any (opsOf Tryd.f96 6) = skewbaldlaw01_only.T6 := by kernel_rfl
theorem skewbaldlaw01_only.bits6 : waitsOk skewbaldlaw01_only.T6.2 skewbaldlaw01_only.B6 = true := by kernel_rfl
def skewbaldlaw01_only.T11 : Bool × List (List Nat × List Nat) := (true, [([], []), ([0], [0]), ([], []), ([2], [2]), ([], []), ([3, 4], [3, 4]), ([5], [5]), ([6], [6]), ([1, 7], [1, 7]), ([0, 1, 2, 3, 4, 5, 6, 7, 8], []), ([9, 8, 8, 0, 1, 2, 3, 4, 5, 6, 7, 8], [8, 9])])
def skewbaldlaw01_only.B11 : List Nat := [0, 1, 0, 4, 0, 28, 60, 124, 255, 511, 1023]
theorem skewbaldlaw01_only.tab11 : rtab .any (opsOf Tryd.f96 11) = skewbaldlaw01_only.T11 := by kernel_rfl
theorem skewbaldlaw01_only.bits11 : waitsOk skewbaldlaw01_only.T11.2 skewbaldlaw01_only.B11 = true := by kernel_rfl
set_option maxHeartbeats 8000000 in
set_option maxRecDepth 100000 in
theorem skewbaldlaw01_only.calls (k : Nat) (P0_0_ : Nat → Prop) (A0_0 : Option Addr) (c0_0 : Nat) (l0_0 : List (S48)) (P0_1_ : Nat → Prop) (A0_1 : Option Addr) (c0_1 : Nat) (l0_1 : List (S50)) (a1 : Int) (a2 : Int) (r1 : List (S48)) (r2 : List (S50)) (w : World) (hs0_0 : Kd.V k48 48 w w.heap.size (fun k_ => P0_0_ k_) (.slice A0_0 l0_0.length c0_0) l0_0) (hs0_1 : Kd.V k50 50 w w.heap.size (fun k_ => P0_1_ k_) (.slice A0_1 l0_1.length c0_1) l0_1) (h : skewbaldlaw01_only.f k l0_0 l0_1 a1 a2 = some (r1, r2)) :
  Calls Tryd.prog 96 #[.agg #[.slice A0_0 l0_0.length c0_0, .slice A0_1 l0_1.length c0_1], .int .i64 a1, .int .i64 a2] w fun e w' => ∃ v0_ v1_ : Value, e = .returned (.agg #[v0_, v1_]) ∧ Kd.N k48 48 w' w.heap.size (fun k_ => ((P0_0_ k_ ∨ P0_1_ k_) ∨ w.heap.size ≤ k_) ∧ some k_ ≠ (v1_ : Value).ownBlock) v0_ r1 ∧ Kd.N k50 50 w' w.heap.size (fun k_ => ((P0_0_ k_ ∨ P0_1_ k_) ∨ w.heap.size ≤ k_) ∧ some k_ ≠ (v0_ : Value).ownBlock) v1_ r2 ∧ Below w.heap.size w w' := by
 have hu25 := Tryd.underlying25
 have hu48 := Tryd.underlying48
 have hu50 := Tryd.underlying50
 have HO0_0 := Aside0.mk (show Kd.V k48 48 w w.heap.size (fun k_ => ((P0_0_ k_ ∨ P0_1_ k_) ∨ w.heap.size ≤ k_)) (.slice A0_0 l0_0.length c0_0) l0_0 from Kd.V_mono hs0_0 (fun k_ hk => .inl (.inl hk)))
 have HO0_1 := Aside0.mk (show Kd.V k50 50 w w.heap.size (fun k_ => ((P0_0_ k_ ∨ P0_1_ k_) ∨ w.heap.size ≤ k_)) (.slice A0_1 l0_1.length c0_1) l0_1 from Kd.V_mono hs0_1 (fun k_ hk => .inl (.inr hk)))
 have HB := Aside0.mk (Below.refl w.heap.size w)
 have H : (skewbaldlaw01_only.l0 k a1 a2 0 l0_0 l0_1 ([] : List (S48))) = some (r1, r2) := h
 clear h
 have H' := Aside0.mk H
 clear H
 go_enter Tryd.func96, Tryd.ntmps96
 go_wp2_with (first | ((with_reducible refine gate_dst (N := 3) rfl ?_); refine box_event ?hg (N := 3) ?hd (cs := #[.slice A0_0 l0_0.length c0_0, .slice A0_1 l0_1.length c0_1]) (t := 25) ?hr ?_; (case hd => rfl); (case hg => rfl); (case hr => first | (go_simp; done) | (go_simp; rfl)); intro gb516 hg w4 hbox hb; have n0_ := Aside0.mk (Kd.V_below (Kd.V_elderB (by (with_reducible repeat (first | apply Kd.V_alloc | apply Kd.V_drewN | apply Kd.V_drew)); exact HO0_0.out) gb516 (Nat.le_of_eq hg.symm)) hb); have n1_ := Aside0.mk (Kd.V_below (Kd.V_elderB (by (with_reducible repeat (first | apply Kd.V_alloc | apply Kd.V_drewN | apply Kd.V_drew)); exact HO0_1.out) gb516 (Nat.le_of_eq hg.symm)) hb); have n2_ := Aside0.mk (below_step bl hb); have n3_ := Aside0.mk (hbox); have n4_ := Aside0.mk ((by rw [hg]; exact (below_size bl) : w.heap.size ≤ gb516)); have n5_ := Aside0.mk ((by rw [hg]; exact (below_size bl) : w.heap.size ≤ gb516)); clear HO0_0; clear HO0_1; clear HB; have HO0_0 := n0_; have HO0_1 := n1_; have HB := n2_; have BK516 := n3_; have GW516 := n4_; have GE516 := n5_; clear n0_ n1_ n2_ n3_ n4_ n5_; clear hb hbox hg) | ((with_reducible refine gate_dst (N := 6) rfl ?_); refine box_event ?hg (N := 6) ?hd (cs := #[.slice none 0 0, .slice none 0 0]) (t := 25) ?hr ?_; (case hd => rfl); (case hg => rfl); (case hr => first | (go_simp; done) | (go_simp; rfl)); intro gb517 hg w5 hbox hb; have n0_ := Aside0.mk (Kd.V_below (Kd.V_elderB (by (with_reducible repeat (first | apply Kd.V_alloc | apply Kd.V_drewN | apply Kd.V_drew)); exact HO0_0.out) gb517 (Nat.le_of_eq hg.symm)) hb); have n1_ := Aside0.mk (Kd.V_below (Kd.V_elderB (by (with_reducible repeat (first | apply Kd.V_alloc | apply Kd.V_drewN | apply Kd.V_drew)); exact HO0_1.out) gb517 (Nat.le_of_eq hg.symm)) hb); have n2_ := Aside0.mk (blk_below (g := gb516) (o := .cells #[.slice A0_0 l0_0.length c0_0, .slice A0_1 l0_1.length c0_1] 25 (0, 0)) bk hb); have n3_ := Aside0.mk (below_step bl hb); have n4_ := Aside0.mk (hbox); have n5_ := Aside0.mk ((by rw [hg]; exact (below_size bl) : w.heap.size ≤ gb517)); have n6_ := Aside0.mk ((by rw [hg]; exact (below_size bl) : w.heap.size ≤ gb517)); have n7_ := Aside0.mk ((by rw [hg]; exact Nat.ne_of_lt (blk_lt (g := gb516) (o := .cells #[.slice A0_0 l0_0.length c0_0, .slice A0_1 l0_1.length c0_1] 25 (0, 0)) bk) : gb516 ≠ gb517)); have n8_ := Aside0.mk ((by rw [hg]; exact Nat.ne_of_gt (blk_lt (g := gb516) (o := .cells #[.slice A0_0 l0_0.length c0_0, .slice A0_1 l0_1.length c0_1] 25 (0, 0)) bk) : gb517 ≠ gb516)); clear HO0_0; clear HO0_1; clear BK516; clear HB; have HO0_0 := n0_; have HO0_1 := n1_; have BK516 := n2_; have HB := n3_; have BK517 := n4_; have GW517 := n5_; have GE517 := n6_; have NB516_517 := n7_; have NB517_516 := n8_; clear n0_ n1_ n2_ n3_ n4_ n5_ n6_ n7_ n8_; clear hb hbox hg) | ((with_reducible refine gate_dst (N := 7) rfl ?_); refine box_event ?hg (N := 7) ?hd (cs := #[.slice none 0 0, .slice none 0 0]) (t := 25) ?hr ?_; (case hd => rfl); (case hg => rfl); (case hr => first | (go_simp; done) | (go_simp; rfl)); intro gb518 hg w6 hbox hb; have n0_ := Aside0.mk (Kd.V_below (Kd.V_elderB (by (with_reducible repeat (first | apply Kd.V_alloc | apply Kd.V_drewN | apply Kd.V_drew)); exact HO0_0.out) gb518 (Nat.le_of_eq hg.symm)) hb); have n1_ := Aside0.mk (Kd.V_below (Kd.V_elderB (by (with_reducible repeat (first | apply Kd.V_alloc | apply Kd.V_drewN | apply Kd.V_drew)); exact HO0_1.out) gb518 (Nat.le_of_eq hg.symm)) hb); have n2_ := Aside0.mk (blk_below (g := gb516) (o := .cells #[.slice A0_0 l0_0.length c0_0, .slice A0_1 l0_1.length c0_1] 25 (0, 0)) bk hb); have n3_ := Aside0.mk (blk_below (g := gb517) (o := .cells #[.slice none 0 0, .slice none 0 0] 25 (0, 0)) bk hb); have n4_ := Aside0.mk (below_step bl hb); have n5_ := Aside0.mk (hbox); have n6_ := Aside0.mk ((by rw [hg]; exact (below_size bl) : w.heap.size ≤ gb518)); have n7_ := Aside0.mk ((by rw [hg]; exact (below_size bl) : w.heap.size ≤ gb518)); have n8_ := Aside0.mk ((by rw [hg]; exact Nat.ne_of_lt (blk_lt (g := gb516) (o := .cells #[.slice A0_0 l0_0.length c0_0, .slice A0_1 l0_1.length c0_1] 25 (0, 0)) bk) : gb516 ≠ gb518)); have n9_ := Aside0.mk ((by rw [hg]; exact Nat.ne_of_gt (blk_lt (g := gb516) (o := .cells #[.slice A0_0 l0_0.length c0_0, .slice A0_1 l0_1.length c0_1] 25 (0, 0)) bk) : gb518 ≠ gb516)); have n10_ := Aside0.mk ((by rw [hg]; exact Nat.ne_of_lt (blk_lt (g := gb517) (o := .cells #[.slice none 0 0, .slice none 0 0] 25 (0, 0)) bk) : gb517 ≠ gb518)); have n11_ := Aside0.mk ((by rw [hg]; exact Nat.ne_of_gt (blk_lt (g := gb517) (o := .cells #[.slice none 0 0, .slice none 0 0] 25 (0, 0)) bk) : gb518 ≠ gb517)); clear HO0_0; clear HO0_1; clear BK516; clear BK517; clear HB; have HO0_0 := n0_; have HO0_1 := n1_; have BK516 := n2_; have BK517 := n3_; have HB := n4_; have BK518 := n5_; have GW518 := n6_; have GE518 := n7_; have NB516_518 := n8_; have NB518_516 := n9_; have NB517_518 := n10_; have NB518_517 := n11_; clear n0_ n1_ n2_ n3_ n4_ n5_ n6_ n7_ n8_ n9_ n10_ n11_; clear hb hbox hg; have hnb7 := NB518_516.out; have hnc7 := NB516_518.out; have hnb8 := NB518_517.out; have hnc8 := NB517_518.out; have hcz9_0 : w6.cell? ⟨gb518, 0, none⟩ = some (.slice none 0 0) := (blk_cell BK518.out 0).trans rfl; have hcz9_1 : w6.cell? ⟨gb518, 1, none⟩ = some (.slice none 0 0) := (blk_cell BK518.out 1).trans rfl; have hfz9_0 := blk_frozen BK518.out 0; have hfz9_1 := blk_frozen BK518.out 1))
 go_loopg [8] k (fun kq v8 w' => ∃ (x8_1 : Int) (x519000_1 : List (S48)) (u519000 : Value), v8 = .int .i64 x8_1 ∧ Aside0 (skewbaldlaw01_only.l0 kq a1 a2 x8_1 l0_0 l0_1 x519000_1 = some (r1, r2)) ∧ Aside0 (kq ≤ k) ∧ Aside0 (Kd.V k48 48 w' w.heap.size (fun k_ => ((P0_0_ k_ ∨ P0_1_ k_) ∨ w.heap.size ≤ k_) ∧ some k_ ≠ (u519000 : Value).ownBlock ∧ k_ ≠ gb516 ∧ k_ ≠ gb517 ∧ k_ ≠ gb518) (.slice A0_0 l0_0.length c0_0) l0_0) ∧ Aside0 (Kd.V k50 50 w' w.heap.size (fun k_ => ((P0_0_ k_ ∨ P0_1_ k_) ∨ w.heap.size ≤ k_) ∧ some k_ ≠ (u519000 : Value).ownBlock ∧ k_ ≠ gb516 ∧ k_ ≠ gb517 ∧ k_ ≠ gb518) (.slice A0_1 l0_1.length c0_1) l0_1) ∧ Aside0 (Kd.N k48 48 w' w.heap.size (fun k_ => ((P0_0_ k_ ∨ P0_1_ k_) ∨ w.heap.size ≤ k_) ∧ k_ ≠ gb516 ∧ k_ ≠ gb517 ∧ k_ ≠ gb518) u519000 x519000_1) ∧ Aside0 (w'.heap[gb516]? = some (.cells #[(.slice A0_0 l0_0.length c0_0), (.slice A0_1 l0_1.length c0_1)] 25 (0, 0))) ∧ Aside0 (w'.heap[gb517]? = some (.cells #[(.slice none 0 0), (.slice none 0 0)] 25 (0, 0))) ∧ Aside0 (w'.heap[gb518]? = some (.cells #[u519000, (.slice none 0 0)] 25 (0, 0))) ∧ Aside0 (Below w.heap.size w w'))
 case atStart => exact ⟨(0), (([] : List (S48))), (.slice none 0 0), (by first | rfl | (simp; done) | (simp [*]; done)), H', ⟨Nat.le_refl _⟩, ⟨by (with_reducible repeat (first | apply Kd.V_alloc | apply Kd.V_drewN | apply Kd.V_drew)); exact Kd.V_mono (Kd.V_far (p := ⟨gb518, 1, none⟩) (Kd.V_far (p := ⟨gb518, 0, none⟩) (Kd.V_mono HO0_0.out (fun k_ hk => (⟨hk, hk.2⟩ : _ ∧ k_ ≠ gb518))) (fun _ hk => hk.2) (.slice none 0 0)) (fun _ hk => hk.2) (.slice none 0 0)) (fun _ hk => ⟨hk.1.1.1.1, ⟨(by simp [Value.ownBlock]), ⟨hk.1.1.1.2, ⟨hk.1.1.2, hk.1.2⟩⟩⟩⟩)⟩, ⟨by (with_reducible repeat (first | apply Kd.V_alloc | apply Kd.V_drewN | apply Kd.V_drew)); exact Kd.V_mono (Kd.V_far (p := ⟨gb518, 1, none⟩) (Kd.V_far (p := ⟨gb518, 0, none⟩) (Kd.V_mono HO0_1.out (fun k_ hk => (⟨hk, hk.2⟩ : _ ∧ k_ ≠ gb518))) (fun _ hk => hk.2) (.slice none 0 0)) (fun _ hk => hk.2) (.slice none 0 0)) (fun _ hk => ⟨hk.1.1.1.1, ⟨(by simp [Value.ownBlock]), ⟨hk.1.1.1.2, ⟨hk.1.1.2, hk.1.2⟩⟩⟩⟩)⟩, ⟨by first | exact Kd.S_nil _ _ _ _ _ | exact Kd.N_nil _ _ _ _ _ | exact Kd.V_nil _ _ _ _ _ | exact Kd.Q_nil _ _ _ _ _ | exact Kd.R_nil _ _ _ _ _⟩, ⟨by (with_reducible repeat (first | refine blk_drewN ?_ _ | refine blk_drew ?_ | refine blk_alloc ?_ _)); refine blk_far ?_ NB516_518.out _; (with_reducible repeat (first | refine blk_drewN ?_ _ | refine blk_drew ?_ | refine blk_alloc ?_ _)); refine blk_far ?_ NB516_518.out _; (with_reducible repeat (first | refine blk_drewN ?_ _ | refine blk_drew ?_ | refine blk_alloc ?_ _)); exact BK516.out⟩, ⟨by (with_reducible repeat (first | refine blk_drewN ?_ _ | refine blk_drew ?_ | refine blk_alloc ?_ _)); refine blk_far ?_ NB517_518.out _; (with_reducible repeat (first | refine blk_drewN ?_ _ | refine blk_drew ?_ | refine blk_alloc ?_ _)); refine blk_far ?_ NB517_518.out _; (with_reducible repeat (first | refine blk_drewN ?_ _ | refine blk_drew ?_ | refine blk_alloc ?_ _)); exact BK517.out⟩, ⟨by (with_reducible repeat (first | refine blk_drewN ?_ _ | refine blk_drew ?_ | refine blk_alloc ?_ _)); refine blk_put (cs := #[.slice none 0 0, .slice none 0 0]) ?_ 1 _ rfl; (with_reducible repeat (first | refine blk_drewN ?_ _ | refine blk_drew ?_ | refine blk_alloc ?_ _)); refine blk_put (cs := #[.slice none 0 0, .slice none 0 0]) ?_ 0 _ rfl; (with_reducible repeat (first | refine blk_drewN ?_ _ | refine blk_drew ?_ | refine blk_alloc ?_ _)); exact BK518.out⟩, ⟨bl⟩⟩
 case round =>
  clear H'
  try clear p2
  try clear c7
  try clear c8
  try clear c9
  try clear hcz9_0
  try clear hcz9_1
  try clear hfz9_0
  try clear hfz9_1
  obtain ⟨x8_1, x519000_1, u519000, rfl, HA, HK1, HO_517000, HO_517001, HO_519000, BK516, BK517, BK518, HB⟩ := hrel
  cases gk with
  | zero => exact absurd HA.out (by simp [skewbaldlaw01_only.l0])
  | succ k1 =>
   have H := HA.out
   clear HA
   simp only [skewbaldlaw01_only.l0] at H
   by_cases c10 : x8_1 < (l0_0.length : Int)
   ·rw [if_pos c10] at H
    have c10b0 : decide (x8_1 < (l0_0.length : Int)) = true := decide_eq_true c10
    clear c10
    replace H := Option.bind_eq_some_iff.mp H
    obtain ⟨t519, A110, H⟩ := H
    replace H : (if t519 = true then (if 0 ≤ x8_1 then (if x519000_1.length < 4398046511104 then (skewbaldlaw01_only.l0 k1 a1 a2 (wrap64 (x8_1 + 1)) l0_0 l0_1 (x519000_1 ++ [(⟨(rd_T48 l0_0 x8_1).f0, (rd_T48 l0_0 x8_1).f1⟩ : S48)])) else (none)) else (none)) else (skewbaldlaw01_only.l0 k1 a1 a2 (wrap64 (x8_1 + 1)) l0_0 l0_1 x519000_1)) = some (r1, r2) := H
    have A11 := Aside0.mk A110
    clear A110
    by_cases c12 : t519 = true
    ·subst c12
     have H1 : (if 0 ≤ x8_1 then (if x519000_1.length < 4398046511104 then (skewbaldlaw01_only.l0 k1 a1 a2 (wrap64 (x8_1 + 1)) l0_0 l0_1 (x519000_1 ++ [(⟨(rd_T48 l0_0 x8_1).f0, (rd_T48 l0_0 x8_1).f1⟩ : S48)])) else (none)) else (none)) = some (r1, r2) := by rw [if_pos rfl] at H; exact H
     clear H
     have H := H1
     clear H1
     by_cases c13 : 0 ≤ x8_1
     ·rw [if_pos c13] at H
      have c13b0 : decide (0 ≤ x8_1) = true := decide_eq_true c13
      clear c13
      by_cases c14 : x519000_1.length < 4398046511104
      ·rw [if_pos c14] at H
       have LMc14 := Aside0.mk c14
       clear c14
       obtain ⟨y521, hy521⟩ : ∃ y_ : List (S48), y_ = (x519000_1 ++ [(⟨(rd_T48 l0_0 x8_1).f0, (rd_T48 l0_0 x8_1).f1⟩ : S48)]) := ⟨_, rfl⟩
       replace H : (skewbaldlaw01_only.l0 k1 a1 a2 (wrap64 (x8_1 + 1)) l0_0 l0_1 y521) = some (r1, r2) := by first | (rw [hy521]; with_reducible exact H) | (have H2_ := (Option.bind_some _ _).symm.trans H; rw [hy521]; with_reducible exact H2_) | (have H2_ := (Option.bind_some _ _).symm.trans H; with_reducible exact H2_) | with_reducible exact H | (rw [hy521]; exact H) | exact H
       have Ny521 := Aside0.mk hy521
       clear hy521
       have H' := Aside0.mk H
       clear H
       have hnb15 := NB516_517.out
       have hnc15 := NB517_516.out
       have hnb16 := NB516_518.out
       have hnc16 := NB518_516.out
       have hcz17_0 : wr.cell? ⟨gb516, 0, none⟩ = some (.slice A0_0 l0_0.length c0_0) := (blk_cell BK516.out 0).trans rfl
       have hcz17_1 : wr.cell? ⟨gb516, 1, none⟩ = some (.slice A0_1 l0_1.length c0_1) := (blk_cell BK516.out 1).trans rfl
       have hfz17_0 := blk_frozen BK516.out 0
       have hfz17_1 := blk_frozen BK516.out 1
       try go_wp2_with (first | ((with_reducible refine gate_callee (f := 95) rfl ?_); refine goesL_ (some 20) rfl rfl Tryd.func95 (by kernel_rfl) rfl #[.int .i64 a1, .int .i64 x8_1] rfl (by (try simp only [List.map_toArray, List.map_cons, List.map_nil]); first | done | rfl | (simp only [List.length_drop, List.length_take]; rfl)) ?_; (with_reducible refine (skewbaldref00_Of.calls a1 x8_1 true _ A11.out).mono ?_); rintro e w' ⟨rfl, ⟨nd, rfl⟩⟩; refine ⟨_, rfl, ?_⟩; (try (rw [drewN_self wr]; generalize hq_ : World.drewN wr _ = wr; have n0_ : Aside0 (Kd.V k48 48 wr w.heap.size (fun k_ => ((P0_0_ k_ ∨ P0_1_ k_) ∨ w.heap.size ≤ k_) ∧ some k_ ≠ (u519000 : Value).ownBlock ∧ k_ ≠ gb516 ∧ k_ ≠ gb517 ∧ k_ ≠ gb518) (.slice A0_0 l0_0.length c0_0) l0_0) := ⟨by rw [← hq_]; exact (by (with_reducible repeat (first | apply Kd.V_alloc | apply Kd.V_drewN | apply Kd.V_drew)); exact HO_517000.out)⟩; have n1_ : Aside0 (Kd.V k50 50 wr w.heap.size (fun k_ => ((P0_0_ k_ ∨ P0_1_ k_) ∨ w.heap.size ≤ k_) ∧ some k_ ≠ (u519000 : Value).ownBlock ∧ k_ ≠ gb516 ∧ k_ ≠ gb517 ∧ k_ ≠ gb518) (.slice A0_1 l0_1.length c0_1) l0_1) := ⟨by rw [← hq_]; exact (by (with_reducible repeat (first | apply Kd.V_alloc | apply Kd.V_drewN | apply Kd.V_drew)); exact HO_517001.out)⟩; have n2_ : Aside0 (Kd.N k48 48 wr w.heap.size (fun k_ => ((P0_0_ k_ ∨ P0_1_ k_) ∨ w.heap.size ≤ k_) ∧ k_ ≠ gb516 ∧ k_ ≠ gb517 ∧ k_ ≠ gb518) u519000 x519000_1) := ⟨by rw [← hq_]; exact (by (with_reducible repeat (first | apply Kd.N_alloc | apply Kd.N_drewN | apply Kd.N_drew)); exact HO_519000.out)⟩; have n3_ : Aside0 (wr.heap[gb516]? = some (.cells #[.slice A0_0 l0_0.length c0_0, .slice A0_1 l0_1.length c0_1] 25 (0, 0))) := ⟨by rw [← hq_]; exact bk⟩; have n4_ : Aside0 (wr.heap[gb517]? = some (.cells #[.slice none 0 0, .slice none 0 0] 25 (0, 0))) := ⟨by rw [← hq_]; exact bk⟩; have n5_ : Aside0 (wr.heap[gb518]? = some (.cells #[u519000, .slice none 0 0] 25 (0, 0))) := ⟨by rw [← hq_]; exact bk⟩; have n6_ : Aside0 (Below w.heap.size w wr) := ⟨by rw [← hq_]; exact bl⟩; clear HO_517000 HO_517001 HO_519000 BK516 BK517 BK518 HB hq_; have HO_517000 := n0_; have HO_517001 := n1_; have HO_519000 := n2_; have BK516 := n3_; have BK517 := n4_; have BK518 := n5_; have HB := n6_; clear n0_ n1_ n2_ n3_ n4_ n5_ n6_))))
       have n0_ := Aside0.mk (Kd.V_drew HO_517000.out)
       have n1_ := Aside0.mk (Kd.V_drew HO_517001.out)
       have n2_ := Aside0.mk (Kd.N_drew HO_519000.out)
       have n3_ := Aside0.mk (blk_drew BK516.out)
       have n4_ := Aside0.mk (blk_drew BK517.out)
       have n5_ := Aside0.mk (blk_drew BK518.out)
       have n6_ := Aside0.mk (below_drew1 HB.out)
       clear HO_517000
       clear HO_517001
       clear HO_519000
       clear BK516
       clear BK517
       clear BK518
       clear HB
       have HO_517000 := n0_
       have HO_517001 := n1_
       have HO_519000 := n2_
       have BK516 := n3_
       have BK517 := n4_
       have BK518 := n5_
       have HB := n6_
       clear n0_ n1_ n2_ n3_ n4_ n5_ n6_
       have p520 : 0 ≤ (x8_1 : Int) := of_decide_eq_true (by first | (with_reducible assumption) | assumption)
       have q520 : x8_1 < (l0_0.length : Int) := of_decide_eq_true (by first | (with_reducible assumption) | assumption)
       obtain ⟨ad520, A520_1, c520_1, e520, hx520_0, hx520_1, hl520_1, hi520_1⟩ := at_T48 (Kd.V_reads' HO_517000.out).2.2 x8_1 p520 q520
       cases e520
       obtain ⟨ce520, hce520, hMe520, hcc520⟩ := Kd.V_get HO_517000.out z48 x8_1 p520 (by first | exact q520 | exact of_decide_eq_true (by first | (with_reducible assumption) | assumption) | (have e_ := (Kd.V_reads' HO_517000.out).1; omega))
       obtain ⟨ua520_1, uc520_1, rfl, ul520_1, ge520_1⟩ := k48_openF hMe520
       have hv520_1 := hcc520 1 _ rfl
       rw [add_field _ _ 1 (by omega)] at hv520_1
       replace hv520_1 := Option.some.inj (hv520_1.symm.trans hx520_1)
       injection hv520_1 with hva_ hvn_ hvc_
       rw [hva_] at ge520_1
       rw [hvc_] at ul520_1
       have HL520_1 := Aside0.mk (show Kd.V k60 60 _ w.heap.size _ _ ((rd_T48 l0_0 x8_1).f1) from Kd.V_mk ul520_1 ge520_1)
       clear hva_ hvn_ hvc_ ge520_1 ul520_1
       clear hcc520 hce520
       have HR520_1 := Aside0.mk hi520_1
       have HC520_1 := Aside0.mk hl520_1
       clear hi520_1 hl520_1
       replace p520 := eq_true p520
       replace q520 := eq_true q520
       refine start_ (n := 11) (S := fun w' => w'.cell? ⟨gb518, 0, none⟩ = some (u519000) ∧ w'.cell? ⟨gb518, 1, none⟩ = some (.slice none 0 0) ∧ w'.cell? ⟨gb516, 0, none⟩ = some (.slice (some ad520) l0_0.length c0_0) ∧ w'.cell? ⟨gb516, 1, none⟩ = some (.slice A0_1 l0_1.length c0_1) ∧ w'.cell? (ad520.add ((x8_1).toNat * 2)) = some (.int .i64 ((rd_T48 l0_0 x8_1).f0)) ∧ w'.cell? ⟨(ad520.add ((x8_1).toNat * 2)).block, (ad520.add ((x8_1).toNat * 2)).off + 1, none⟩ = some (.slice A520_1 ((rd_T48 l0_0 x8_1).f1).length c520_1)) (ds := [8, 10]) #[false, false, false, false, false, false, false, false, false, false, false] (by kernel_rfl) rfl rfl ⟨(blk_cell BK518.out 0).trans rfl, (blk_cell BK518.out 1).trans rfl, (blk_cell BK516.out 0).trans rfl, (blk_cell BK516.out 1).trans rfl, hx520_0, hx520_1⟩ (fun hHeld => ?_); refine with_tabW skewbaldlaw01_only.tab6 skewbaldlaw01_only.bits6 (fun HT_ HW_ => ?_)
       generalize wr.drew = w18 at HO_517000 HO_517001 HO_519000 BK516 BK517 BK518 HB HL520_1 HR520_1 hx520_0 hx520_1 hHeld ⊢
       refine pure_ (i := 0) (N := some 21) (v := ?_) (a' := ?_) #[true, false, false, false, false, false, false, false, false, false, false] rfl rfl (any_of HT_.out (by kernel_rfl)) (fun _ _ _ h => h) (Or.inl ⟨by rfl, ?_⟩) ?_ ?_
       rotate_left
       ·intro w'
        go_simp
        with_reducible rfl
       rotate_left
       ·simp only [Act.put, List.setIfInBounds_toArray, List.set_cons_zero, List.set_cons_succ, i64_w, i32_w]
        rfl
       refine pure_ (i := 2) (N := some 23) (v := ?_) (a' := ?_) #[true, false, true, false, false, false, false, false, false, false, false] rfl rfl (any_of HT_.out (by kernel_rfl)) (fun _ _ _ h => h) (Or.inl ⟨by rfl, ?_⟩) ?_ ?_
       rotate_left
       ·intro w'
        go_simp
        with_reducible rfl
       rotate_left
       ·simp only [Act.put, List.setIfInBounds_toArray, List.set_cons_zero, List.set_cons_succ, i64_w, i32_w]
        rfl
       refine pure_ (i := 4) (N := some 25) (v := ?_) (a' := ?_) #[true, false, true, false, true, false, false, false, false, false, false] rfl rfl (any_of HT_.out (by kernel_rfl)) (fun _ _ _ h => h) (Or.inl ⟨by rfl, ?_⟩) ?_ ?_
       rotate_left
       ·intro w'
        go_simp
        with_reducible rfl
       rotate_left
       ·simp only [Act.put, List.setIfInBounds_toArray, List.set_cons_zero, List.set_cons_succ, i64_w, i32_w]
        rfl
       refine take_ (i := 1) (N := some 22) (v := ?_) (a' := ?_) #[true, true, true, false, true, false, false, false, false, false, false] rfl rfl (take_ofW HT_.out HW_.out (by kernel_rfl)) (fun _ _ _ h => h) (Or.inl ⟨by rfl, ?_⟩) hHeld ?_ ?_
       rotate_left
       ·rintro w' ⟨s0, s1, s2, s3, s4, s5⟩
        go_simp
        with_reducible rfl
       rotate_left
       ·simp only [Act.put, List.setIfInBounds_toArray, List.set_cons_zero, List.set_cons_succ, i64_w, i32_w]
        rfl
       refine take_ (i := 3) (N := some 24) (v := ?_) (a' := ?_) #[true, true, true, true, true, false, false, false, false, false, false] rfl rfl (take_ofW HT_.out HW_.out (by kernel_rfl)) (fun _ _ _ h => h) (Or.inl ⟨by rfl, ?_⟩) hHeld ?_ ?_
       rotate_left
       ·rintro w' ⟨s0, s1, s2, s3, s4, s5⟩
        go_simp
        with_reducible rfl
       rotate_left
       ·simp only [Act.put, List.setIfInBounds_toArray, List.set_cons_zero, List.set_cons_succ, i64_w, i32_w]
        rfl
       refine pure_ (i := 5) (N := some 26) (v := ?_) (a' := ?_) #[true, true, true, true, true, true, false, false, false, false, false] rfl rfl (any_of HT_.out (by kernel_rfl)) (fun _ _ _ h => h) (Or.inl ⟨by rfl, ?_⟩) ?_ ?_
       rotate_left
       ·intro w'
        go_simp
        with_reducible rfl
       rotate_left
       ·simp only [Act.put, List.setIfInBounds_toArray, List.set_cons_zero, List.set_cons_succ, i64_w, i32_w]
        rfl
       refine take_ (i := 6) (N := some 27) (v := ?_) (a' := ?_) #[true, true, true, true, true, true, true, false, false, false, false] rfl rfl (take_ofW HT_.out HW_.out (by kernel_rfl)) (fun _ _ _ h => h) (Or.inl ⟨by rfl, ?_⟩) hHeld ?_ ?_
       rotate_left
       ·rintro w' ⟨s0, s1, s2, s3, s4, s5⟩
        go_simp
        with_reducible rfl
       rotate_left
       ·simp only [Act.put, List.setIfInBounds_toArray, List.set_cons_zero, List.set_cons_succ, i64_w, i32_w]
        rfl
       refine one_ (i := 7) (N := some 28) #[true, true, true, true, true, true, true, true, false, false, false] rfl rfl (one_of HT_.out (by kernel_rfl)) (by decide) (fun K hK => ?_)
       refine value_ (w1 := ?_) (v := ?_) (by rfl) rfl ?_ ?_
       rotate_left 2
       ·go_simp
        constructor
        ·rfl
        ·rfl
       refine hK.out _ _ ⟨(blk_cell (blk_alloc BK518.out _) 0).trans rfl, (blk_cell (blk_alloc BK518.out _) 1).trans rfl, (blk_cell (blk_alloc BK516.out _) 0).trans rfl, (blk_cell (blk_alloc BK516.out _) 1).trans rfl, (World.cell?_alloc_lt _ _ _ (World.block_lt_of_cell? _ _ (hHeld.2.2.2.2.1))).trans (hHeld.2.2.2.2.1), (World.cell?_alloc_lt _ _ _ (World.block_lt_of_cell? _ _ (hHeld.2.2.2.2.2))).trans (hHeld.2.2.2.2.2)⟩ (fun hHeld => ?_)
       clear hK K
       refine norm_ (a' := ?_) ?_ ?_
       rotate_left
       ·show Act.put _ (some 28) _ = _
        simp only [Act.put, List.setIfInBounds_toArray, List.set_cons_zero, List.set_cons_succ, i64_w, i32_w]
        rfl
       refine last_ (i := 8) (N := some 29) #[true, true, true, true, true, true, true, true, true, false, false] rfl rfl (one_of HT_.out (by kernel_rfl)) (by decide) (fun K hK => ?_)
       refine Kd.N_append_step k48 (w0 := w) w.heap.size (by rfl) (.tmp 22) (.tmp 28) 22 48 (.agg #[(.int .i64 0), (.slice none 0 0)]) 32 rfl Tryd.underlying22 info48 rfl (by decide) (by omega) u519000 x519000_1 (⟨(rd_T48 l0_0 x8_1).f0, (rd_T48 l0_0 x8_1).f1⟩ : S48) [.int .i64 ((rd_T48 l0_0 x8_1).f0), .slice A520_1 ((rd_T48 l0_0 x8_1).f1).length c520_1] (fun k_ => ((P0_0_ k_ ∨ P0_1_ k_) ∨ w.heap.size ≤ k_) ∧ k_ ≠ gb516 ∧ k_ ≠ gb517 ∧ k_ ≠ gb518) (fun k_ => ((fun k_ => ((P0_0_ k_ ∨ P0_1_ k_) ∨ w.heap.size ≤ k_) ∧ k_ ≠ gb516 ∧ k_ ≠ gb517 ∧ k_ ≠ gb518)) k_ ∧ some k_ ≠ (u519000 : Value).ownBlock) rfl rfl ?aP (fun _ hk => hk) ?aF ?aO ?aB ?aS ?aL ?_
       (case aP => exact (k48_mkF _ _ (⟨(rd_T48 l0_0 x8_1).f0, (rd_T48 l0_0 x8_1).f1⟩ : S48) (Kd.V_reads' (Kd.V_mono (ok' := (fun k_ => ((fun k_ => ((P0_0_ k_ ∨ P0_1_ k_) ∨ w.heap.size ≤ k_) ∧ k_ ≠ gb516 ∧ k_ ≠ gb517 ∧ k_ ≠ gb518)) k_ ∧ some k_ ≠ (u519000 : Value).ownBlock)) (HL520_1.out) (fun k_ hk => ⟨⟨hk.1, ⟨hk.2.2.1, ⟨hk.2.2.2.1, hk.2.2.2.2⟩⟩⟩, hk.2.1⟩))).2.1 (Kd.V_F (Kd.V_mono (ok' := (fun k_ => ((fun k_ => ((P0_0_ k_ ∨ P0_1_ k_) ∨ w.heap.size ≤ k_) ∧ k_ ≠ gb516 ∧ k_ ≠ gb517 ∧ k_ ≠ gb518)) k_ ∧ some k_ ≠ (u519000 : Value).ownBlock)) (HL520_1.out) (fun k_ hk => ⟨⟨hk.1, ⟨hk.2.2.1, ⟨hk.2.2.2.1, hk.2.2.2.2⟩⟩⟩, hk.2.1⟩)))))
       (case aB => exact bl)
       (case aF => exact (fun k_ hk => ⟨(.inr (Nat.le_trans (below_size bl) hk)), Kd.freshB (g := gb516) (o := .cells #[.slice (some ad520) l0_0.length c0_0, .slice A0_1 l0_1.length c0_1] 25 (0, 0)) bk k_ hk, Kd.freshB (g := gb517) (o := .cells #[.slice none 0 0, .slice none 0 0] 25 (0, 0)) bk k_ hk, Kd.freshB (g := gb518) (o := .cells #[u519000, .slice none 0 0] 25 (0, 0)) bk k_ hk⟩))
       (case aO => exact (by (with_reducible repeat (first | apply Kd.N_alloc | apply Kd.N_drewN | apply Kd.N_drew)); exact HO_519000.out))
       (case aS => exact (below_size bl))
       (case aL => have := LMc14.out; omega)
       intro v522 w19 ho hb hg hat
       rw [← Ny521.out] at ho
       have n0_ := Aside0.mk (Kd.V_afterv (ok := (fun k_ => ((P0_0_ k_ ∨ P0_1_ k_) ∨ w.heap.size ≤ k_) ∧ k_ ≠ gb516 ∧ k_ ≠ gb517 ∧ k_ ≠ gb518)) (by (with_reducible repeat (first | apply Kd.V_alloc | apply Kd.V_drewN | apply Kd.V_drew)); exact Kd.V_mono HO_517000.out (fun _ hk => ⟨⟨hk.1, ⟨hk.2.2.1, ⟨hk.2.2.2.1, hk.2.2.2.2⟩⟩⟩, hk.2.1⟩)) hg hat)
       have n1_ := Aside0.mk (Kd.V_afterv (ok := (fun k_ => ((P0_0_ k_ ∨ P0_1_ k_) ∨ w.heap.size ≤ k_) ∧ k_ ≠ gb516 ∧ k_ ≠ gb517 ∧ k_ ≠ gb518)) (by (with_reducible repeat (first | apply Kd.V_alloc | apply Kd.V_drewN | apply Kd.V_drew)); exact Kd.V_mono HO_517001.out (fun _ hk => ⟨⟨hk.1, ⟨hk.2.2.1, ⟨hk.2.2.2.1, hk.2.2.2.2⟩⟩⟩, hk.2.1⟩)) hg hat)
       have n2_ := Aside0.mk (blk_grown (g := gb516) (o := .cells #[.slice (some ad520) l0_0.length c0_0, .slice A0_1 l0_1.length c0_1] 25 (0, 0)) bk hg (Kd.N_ne HO_519000.out BK516.out (by decide)))
       have n3_ := Aside0.mk (blk_grown (g := gb517) (o := .cells #[.slice none 0 0, .slice none 0 0] 25 (0, 0)) bk hg (Kd.N_ne HO_519000.out BK517.out (by decide)))
       have n4_ := Aside0.mk (blk_grown (g := gb518) (o := .cells #[u519000, .slice none 0 0] 25 (0, 0)) bk hg (Kd.N_ne HO_519000.out BK518.out (by decide)))
       have n5_ := Aside0.mk (Kd.V_afterv (ok := (fun k_ => ((P0_0_ k_ ∨ P0_1_ k_) ∨ w.heap.size ≤ k_) ∧ k_ ≠ gb516 ∧ k_ ≠ gb517 ∧ k_ ≠ gb518)) (by (with_reducible repeat (first | apply Kd.V_alloc | apply Kd.V_drewN | apply Kd.V_drew)); exact Kd.V_mono HL520_1.out (fun _ hk => ⟨⟨hk.1, ⟨hk.2.2.1, ⟨hk.2.2.2.1, hk.2.2.2.2⟩⟩⟩, hk.2.1⟩)) hg hat)
       have n6_ := Aside0.mk (hb)
       have n7_ := Aside0.mk (ho)
       clear HO_517000
       clear HO_517001
       clear BK516
       clear BK517
       clear BK518
       clear HL520_1
       clear HB
       clear HO_519000
       have HO_517000 := n0_
       have HO_517001 := n1_
       have BK516 := n2_
       have BK517 := n3_
       have BK518 := n4_
       have HL520_1 := n5_
       have HB := n6_
       have HO523 := n7_
       clear n0_ n1_ n2_ n3_ n4_ n5_ n6_ n7_
       clear ho hb hg hat
       obtain ⟨Ao20, co20, eo20⟩ := Kd.N_slice HO523.out
       (first | subst eo20 | (injection eo20 with f1_ f2_ f3_; have f4_ := f1_.symm; have f5_ := f3_.symm; clear f1_ f2_ f3_; subst f4_; subst f5_))
       refine hK.out _ _ ?_
       clear hK K
       refine norm_ (a' := ?_) ?_ ?_
       rotate_left
       ·show Act.put _ (some 29) _ = _
        simp only [Act.put, List.setIfInBounds_toArray, List.set_cons_zero, List.set_cons_succ, i64_w, i32_w]
        rfl
       refine pure_ (i := 9) (N := some 30) (v := ?_) (a' := ?_) #[true, true, true, true, true, true, true, true, true, true, false] rfl rfl (any_of HT_.out (by kernel_rfl)) (fun _ _ _ h => h) (Or.inl ⟨by rfl, ?_⟩) ?_ ?_
       rotate_left
       ·intro w'
        go_simp
        with_reducible rfl
       rotate_left
       ·simp only [Act.put, List.setIfInBounds_toArray, List.set_cons_zero, List.set_cons_succ, i64_w, i32_w]
        rfl
       refine last_ (i := 10) (N := none) #[true, true, true, true, true, true, true, true, true, true, true] rfl rfl (one_of HT_.out (by kernel_rfl)) (by decide) (fun K hK => ?_)
       have hs21 : w19.cell? ⟨gb518, 0, none⟩ = some (u519000) := (blk_cell BK518.out 0).trans rfl
       have hfs21 := blk_frozen BK518.out 0
       have hns21_0 := NB516_518.out
       have hns21_1 := NB517_518.out
       have hms21_0 := NB518_516.out
       have hms21_1 := NB518_517.out
       refine skip_ (w1 := ?_) (by rfl) rfl ?_ ?_
       rotate_left
       ·go_simp
        rfl
       refine hK.out _ _ ?_
       clear hK K
       refine done_ (done_of HT_.out (by kernel_rfl)) ?_
       try go_wp2
       go_roundg k1
       case measure => have := HK1.out; omega
       case rel => exact ⟨(wrap64 (x8_1 + 1)), (y521), (.slice Ao20 y521.length co20), (by first | rfl | (simp; done) | (simp [*]; done)), H', ⟨by have := HK1.out; omega⟩, ⟨by (with_reducible repeat (first | apply Kd.V_alloc | apply Kd.V_drewN | apply Kd.V_drew)); exact Kd.V_mono (Kd.V_far (p := ⟨gb518, 0, none⟩) (Kd.V_mono HO_517000.out (fun k_ hk => (⟨hk, hk.1.2.2.2⟩ : _ ∧ k_ ≠ gb518))) (fun _ hk => hk.2) (.slice Ao20 y521.length co20)) (fun _ hk => ⟨hk.1.1.1, ⟨hk.1.2, ⟨hk.1.1.2.1, ⟨hk.1.1.2.2.1, hk.1.1.2.2.2⟩⟩⟩⟩)⟩, ⟨by (with_reducible repeat (first | apply Kd.V_alloc | apply Kd.V_drewN | apply Kd.V_drew)); exact Kd.V_mono (Kd.V_far (p := ⟨gb518, 0, none⟩) (Kd.V_mono HO_517001.out (fun k_ hk => (⟨hk, hk.1.2.2.2⟩ : _ ∧ k_ ≠ gb518))) (fun _ hk => hk.2) (.slice Ao20 y521.length co20)) (fun _ hk => ⟨hk.1.1.1, ⟨hk.1.2, ⟨hk.1.1.2.1, ⟨hk.1.1.2.2.1, hk.1.1.2.2.2⟩⟩⟩⟩)⟩, ⟨by (with_reducible repeat (first | apply Kd.N_alloc | apply Kd.N_drewN | apply Kd.N_drew)); exact Kd.N_mono (Kd.N_far (p := ⟨gb518, 0, none⟩) (Kd.N_mono HO523.out (fun k_ hk => (⟨hk, hk.2.2.2⟩ : _ ∧ k_ ≠ gb518))) (fun _ hk => hk.2) (.slice Ao20 y521.length co20)) (fun _ hk => ⟨hk.1.1, ⟨hk.1.2.1, ⟨hk.1.2.2.1, hk.1.2.2.2⟩⟩⟩)⟩, ⟨by (with_reducible repeat (first | refine blk_drewN ?_ _ | refine blk_drew ?_ | refine blk_alloc ?_ _)); refine blk_far ?_ NB516_518.out _; (with_reducible repeat (first | refine blk_drewN ?_ _ | refine blk_drew ?_ | refine blk_alloc ?_ _)); exact BK516.out⟩, ⟨by (with_reducible repeat (first | refine blk_drewN ?_ _ | refine blk_drew ?_ | refine blk_alloc ?_ _)); refine blk_far ?_ NB517_518.out _; (with_reducible repeat (first | refine blk_drewN ?_ _ | refine blk_drew ?_ | refine blk_alloc ?_ _)); exact BK517.out⟩, ⟨by (with_reducible repeat (first | refine blk_drewN ?_ _ | refine blk_drew ?_ | refine blk_alloc ?_ _)); refine blk_put (cs := #[u519000, .slice none 0 0]) ?_ 0 _ rfl; (with_reducible repeat (first | refine blk_drewN ?_ _ | refine blk_drew ?_ | refine blk_alloc ?_ _)); exact BK518.out⟩, ⟨bl⟩⟩
      ·rw [if_neg c14] at H
       exact absurd H (by simp)
     ·rw [if_neg c13] at H
      exact absurd H (by simp)
    ·replace c12 := Bool.eq_false_iff.mpr c12
     subst c12
     have H1 : (skewbaldlaw01_only.l0 k1 a1 a2 (wrap64 (x8_1 + 1)) l0_0 l0_1 x519000_1) = some (r1, r2) := by rw [if_neg (show ¬ (false = true) by decide)] at H; exact H
     clear H
     have H := H1
     clear H1
     have H' := Aside0.mk H
     clear H
     have hnb22 := NB516_517.out
     have hnc22 := NB517_516.out
     have hnb23 := NB516_518.out
     have hnc23 := NB518_516.out
     have hcz24_0 : wr.cell? ⟨gb516, 0, none⟩ = some (.slice A0_0 l0_0.length c0_0) := (blk_cell BK516.out 0).trans rfl
     have hcz24_1 : wr.cell? ⟨gb516, 1, none⟩ = some (.slice A0_1 l0_1.length c0_1) := (blk_cell BK516.out 1).trans rfl
     have hfz24_0 := blk_frozen BK516.out 0
     have hfz24_1 := blk_frozen BK516.out 1
     go_wp2_with (first | ((with_reducible refine gate_callee (f := 95) rfl ?_); refine goesL_ (some 20) rfl rfl Tryd.func95 (by kernel_rfl) rfl #[.int .i64 a1, .int .i64 x8_1] rfl (by (try simp only [List.map_toArray, List.map_cons, List.map_nil]); first | done | rfl | (simp only [List.length_drop, List.length_take]; rfl)) ?_; (with_reducible refine (skewbaldref00_Of.calls a1 x8_1 false _ A11.out).mono ?_); rintro e w' ⟨rfl, ⟨nd, rfl⟩⟩; refine ⟨_, rfl, ?_⟩))
     go_roundg k1
     case measure => have := HK1.out; omega
     case rel => exact ⟨(wrap64 (x8_1 + 1)), (x519000_1), (u519000), (by first | rfl | (simp; done) | (simp [*]; done)), H', ⟨by have := HK1.out; omega⟩, ⟨by (with_reducible repeat (first | apply Kd.V_alloc | apply Kd.V_drewN | apply Kd.V_drew)); exact HO_517000.out⟩, ⟨by (with_reducible repeat (first | apply Kd.V_alloc | apply Kd.V_drewN | apply Kd.V_drew)); exact HO_517001.out⟩, ⟨by (with_reducible repeat (first | apply Kd.N_alloc | apply Kd.N_drewN | apply Kd.N_drew)); exact HO_519000.out⟩, ⟨bk⟩, ⟨bk⟩, ⟨bk⟩, ⟨bl⟩⟩
   ·rw [if_neg c10] at H
    have c10b0 : decide (x8_1 < (l0_0.length : Int)) = false := decide_eq_false c10
    clear c10
    have H' := Aside0.mk H
    clear H
    have hnb25 := NB516_517.out
    have hnc25 := NB517_516.out
    have hnb26 := NB516_518.out
    have hnc26 := NB518_516.out
    have hcz27_0 : wr.cell? ⟨gb516, 0, none⟩ = some (.slice A0_0 l0_0.length c0_0) := (blk_cell BK516.out 0).trans rfl
    have hcz27_1 : wr.cell? ⟨gb516, 1, none⟩ = some (.slice A0_1 l0_1.length c0_1) := (blk_cell BK516.out 1).trans rfl
    have hfz27_0 := blk_frozen BK516.out 0
    have hfz27_1 := blk_frozen BK516.out 1
    go_wp2
    go_loopg [9] k1 (fun kq v9 w' => ∃ (x9_2 : Int) (x519001_2 : List (S50)) (u519001 : Value), v9 = .int .i64 x9_2 ∧ Aside0 (skewbaldlaw01_only.l1 kq a2 x9_2 l0_0 l0_1 x519000_1 x519001_2 = some (r1, r2)) ∧ Aside0 (kq ≤ k1) ∧ Aside0 (Kd.V k48 48 w' w.heap.size (fun k_ => ((P0_0_ k_ ∨ P0_1_ k_) ∨ w.heap.size ≤ k_) ∧ some k_ ≠ (u519000 : Value).ownBlock ∧ some k_ ≠ (u519001 : Value).ownBlock ∧ k_ ≠ gb516 ∧ k_ ≠ gb517 ∧ k_ ≠ gb518) (.slice A0_0 l0_0.length c0_0) l0_0) ∧ Aside0 (Kd.V k50 50 w' w.heap.size (fun k_ => ((P0_0_ k_ ∨ P0_1_ k_) ∨ w.heap.size ≤ k_) ∧ some k_ ≠ (u519000 : Value).ownBlock ∧ some k_ ≠ (u519001 : Value).ownBlock ∧ k_ ≠ gb516 ∧ k_ ≠ gb517 ∧ k_ ≠ gb518) (.slice A0_1 l0_1.length c0_1) l0_1) ∧ Aside0 (Kd.N k48 48 w' w.heap.size (fun k_ => ((P0_0_ k_ ∨ P0_1_ k_) ∨ w.heap.size ≤ k_) ∧ some k_ ≠ (u519001 : Value).ownBlock ∧ k_ ≠ gb516 ∧ k_ ≠ gb517 ∧ k_ ≠ gb518) u519000 x519000_1) ∧ Aside0 (Kd.N k50 50 w' w.heap.size (fun k_ => ((P0_0_ k_ ∨ P0_1_ k_) ∨ w.heap.size ≤ k_) ∧ some k_ ≠ (u519000 : Value).ownBlock ∧ k_ ≠ gb516 ∧ k_ ≠ gb517 ∧ k_ ≠ gb518) u519001 x519001_2) ∧ Aside0 (w'.heap[gb516]? = some (.cells #[(.slice A0_0 l0_0.length c0_0), (.slice A0_1 l0_1.length c0_1)] 25 (0, 0))) ∧ Aside0 (w'.heap[gb517]? = some (.cells #[(.slice none 0 0), (.slice none 0 0)] 25 (0, 0))) ∧ Aside0 (w'.heap[gb518]? = some (.cells #[u519000, u519001] 25 (0, 0))) ∧ Aside0 (Below w.heap.size w w'))
    case atStart => exact ⟨(0), (([] : List (S50))), (.slice none 0 0), (by first | rfl | (simp; done) | (simp [*]; done)), H', ⟨Nat.le_refl _⟩, ⟨by (with_reducible repeat (first | apply Kd.V_alloc | apply Kd.V_drewN | apply Kd.V_drew)); exact Kd.V_mono HO_517000.out (fun _ hk => ⟨hk.1, ⟨hk.2.1, ⟨(by simp [Value.ownBlock]), ⟨hk.2.2.1, ⟨hk.2.2.2.1, hk.2.2.2.2⟩⟩⟩⟩⟩)⟩, ⟨by (with_reducible repeat (first | apply Kd.V_alloc | apply Kd.V_drewN | apply Kd.V_drew)); exact Kd.V_mono HO_517001.out (fun _ hk => ⟨hk.1, ⟨hk.2.1, ⟨(by simp [Value.ownBlock]), ⟨hk.2.2.1, ⟨hk.2.2.2.1, hk.2.2.2.2⟩⟩⟩⟩⟩)⟩, ⟨by (with_reducible repeat (first | apply Kd.N_alloc | apply Kd.N_drewN | apply Kd.N_drew)); exact Kd.N_mono HO_519000.out (fun _ hk => ⟨hk.1, ⟨(by simp [Value.ownBlock]), ⟨hk.2.1, ⟨hk.2.2.1, hk.2.2.2⟩⟩⟩⟩)⟩, ⟨by first | exact Kd.S_nil _ _ _ _ _ | exact Kd.N_nil _ _ _ _ _ | exact Kd.V_nil _ _ _ _ _ | exact Kd.Q_nil _ _ _ _ _ | exact Kd.R_nil _ _ _ _ _⟩, ⟨bk⟩, ⟨bk⟩, ⟨bk⟩, ⟨bl⟩⟩
    case round =>
     clear H'
     try clear c1
     try clear c2
     try clear p2
     try clear c5
     try clear p5
     try clear q5
     try clear hx5
     try clear p6
     try clear c7
     try clear c8
     try clear c9
     try clear c10
     try clear c10b0
     try clear c12
     try clear c13
     try clear c13b0
     try clear c14
     try clear c15
     try clear c16
     try clear c22
     try clear c23
     try clear c25
     try clear c26
     try clear hcz17_0
     try clear hcz17_1
     try clear hcz24_0
     try clear hcz24_1
     try clear hcz27_0
     try clear hcz27_1
     try clear hcz9_0
     try clear hcz9_1
     try clear hfz17_0
     try clear hfz17_1
     try clear hfz24_0
     try clear hfz24_1
     try clear hfz27_0
     try clear hfz27_1
     try clear hfz9_0
     try clear hfz9_1
     try clear hx520_0
     try clear hx520_1
     try clear p2
     try clear p520
     try clear q520
     obtain ⟨x9_2, x519001_2, u519001, rfl, HA, HK2, HO_517000, HO_517001, HO_519000, HO_519001, BK516, BK517, BK518, HB⟩ := hrel
     cases gk with
     | zero => exact absurd HA.out (by simp [skewbaldlaw01_only.l1])
     | succ k2 =>
      have H := HA.out
      clear HA
      simp only [skewbaldlaw01_only.l1] at H
      by_cases c28 : x9_2 < (l0_1.length : Int)
      ·rw [if_pos c28] at H
       have c28b0 : decide (x9_2 < (l0_1.length : Int)) = true := decide_eq_true c28
       clear c28
       replace H := Option.bind_eq_some_iff.mp H
       obtain ⟨t524, A290, H⟩ := H
       replace H : (if t524 = true then (if 0 ≤ x9_2 then (if x519001_2.length < 3518437208883 then (skewbaldlaw01_only.l1 k2 a2 (wrap64 (x9_2 + 1)) l0_0 l0_1 x519000_1 (x519001_2 ++ [(⟨(rd_T50 l0_1 x9_2).f0, (rd_T50 l0_1 x9_2).f1, (rd_T50 l0_1 x9_2).f2⟩ : S50)])) else (none)) else (none)) else (skewbaldlaw01_only.l1 k2 a2 (wrap64 (x9_2 + 1)) l0_0 l0_1 x519000_1 x519001_2)) = some (r1, r2) := H
       have A29 := Aside0.mk A290
       clear A290
       by_cases c30 : t524 = true
       ·subst c30
        have H1 : (if 0 ≤ x9_2 then (if x519001_2.length < 3518437208883 then (skewbaldlaw01_only.l1 k2 a2 (wrap64 (x9_2 + 1)) l0_0 l0_1 x519000_1 (x519001_2 ++ [(⟨(rd_T50 l0_1 x9_2).f0, (rd_T50 l0_1 x9_2).f1, (rd_T50 l0_1 x9_2).f2⟩ : S50)])) else (none)) else (none)) = some (r1, r2) := by rw [if_pos rfl] at H; exact H
        clear H
        have H := H1
        clear H1
        by_cases c31 : 0 ≤ x9_2
        ·rw [if_pos c31] at H
         have c31b0 : decide (0 ≤ x9_2) = true := decide_eq_true c31
         clear c31
         by_cases c32 : x519001_2.length < 3518437208883
         ·rw [if_pos c32] at H
          have LMc32 := Aside0.mk c32
          clear c32
          obtain ⟨y526, hy526⟩ : ∃ y_ : List (S50), y_ = (x519001_2 ++ [(⟨(rd_T50 l0_1 x9_2).f0, (rd_T50 l0_1 x9_2).f1, (rd_T50 l0_1 x9_2).f2⟩ : S50)]) := ⟨_, rfl⟩
          replace H : (skewbaldlaw01_only.l1 k2 a2 (wrap64 (x9_2 + 1)) l0_0 l0_1 x519000_1 y526) = some (r1, r2) := by first | (rw [hy526]; with_reducible exact H) | (have H2_ := (Option.bind_some _ _).symm.trans H; rw [hy526]; with_reducible exact H2_) | (have H2_ := (Option.bind_some _ _).symm.trans H; with_reducible exact H2_) | with_reducible exact H | (rw [hy526]; exact H) | exact H
          have Ny526 := Aside0.mk hy526
          clear hy526
          have H' := Aside0.mk H
          clear H
          have hnb33 := NB516_517.out
          have hnc33 := NB517_516.out
          have hnb34 := NB516_518.out
          have hnc34 := NB518_516.out
          have hcz35_0 : wr.cell? ⟨gb516, 0, none⟩ = some (.slice A0_0 l0_0.length c0_0) := (blk_cell BK516.out 0).trans rfl
          have hcz35_1 : wr.cell? ⟨gb516, 1, none⟩ = some (.slice A0_1 l0_1.length c0_1) := (blk_cell BK516.out 1).trans rfl
          have hfz35_0 := blk_frozen BK516.out 0
          have hfz35_1 := blk_frozen BK516.out 1
          try go_wp2_with (first | ((with_reducible refine gate_callee (f := 95) rfl ?_); refine goesL_ (some 40) rfl rfl Tryd.func95 (by kernel_rfl) rfl #[.int .i64 a2, .int .i64 x9_2] rfl (by (try simp only [List.map_toArray, List.map_cons, List.map_nil]); first | done | rfl | (simp only [List.length_drop, List.length_take]; rfl)) ?_; (with_reducible refine (skewbaldref00_Of.calls a2 x9_2 true _ A29.out).mono ?_); rintro e w' ⟨rfl, ⟨nd, rfl⟩⟩; refine ⟨_, rfl, ?_⟩; (try (rw [drewN_self wr]; generalize hq_ : World.drewN wr _ = wr; have n0_ : Aside0 (Kd.V k48 48 wr w.heap.size (fun k_ => ((P0_0_ k_ ∨ P0_1_ k_) ∨ w.heap.size ≤ k_) ∧ some k_ ≠ (u519000 : Value).ownBlock ∧ some k_ ≠ (u519001 : Value).ownBlock ∧ k_ ≠ gb516 ∧ k_ ≠ gb517 ∧ k_ ≠ gb518) (.slice A0_0 l0_0.length c0_0) l0_0) := ⟨by rw [← hq_]; exact (by (with_reducible repeat (first | apply Kd.V_alloc | apply Kd.V_drewN | apply Kd.V_drew)); exact HO_517000.out)⟩; have n1_ : Aside0 (Kd.V k50 50 wr w.heap.size (fun k_ => ((P0_0_ k_ ∨ P0_1_ k_) ∨ w.heap.size ≤ k_) ∧ some k_ ≠ (u519000 : Value).ownBlock ∧ some k_ ≠ (u519001 : Value).ownBlock ∧ k_ ≠ gb516 ∧ k_ ≠ gb517 ∧ k_ ≠ gb518) (.slice A0_1 l0_1.length c0_1) l0_1) := ⟨by rw [← hq_]; exact (by (with_reducible repeat (first | apply Kd.V_alloc | apply Kd.V_drewN | apply Kd.V_drew)); exact HO_517001.out)⟩; have n2_ : Aside0 (Kd.N k48 48 wr w.heap.size (fun k_ => ((P0_0_ k_ ∨ P0_1_ k_) ∨ w.heap.size ≤ k_) ∧ some k_ ≠ (u519001 : Value).ownBlock ∧ k_ ≠ gb516 ∧ k_ ≠ gb517 ∧ k_ ≠ gb518) u519000 x519000_1) := ⟨by rw [← hq_]; exact (by (with_reducible repeat (first | apply Kd.N_alloc | apply Kd.N_drewN | apply Kd.N_drew)); exact HO_519000.out)⟩; have n3_ : Aside0 (Kd.N k50 50 wr w.heap.size (fun k_ => ((P0_0_ k_ ∨ P0_1_ k_) ∨ w.heap.size ≤ k_) ∧ some k_ ≠ (u519000 : Value).ownBlock ∧ k_ ≠ gb516 ∧ k_ ≠ gb517 ∧ k_ ≠ gb518) u519001 x519001_2) := ⟨by rw [← hq_]; exact (by (with_reducible repeat (first | apply Kd.N_alloc | apply Kd.N_drewN | apply Kd.N_drew)); exact HO_519001.out)⟩; have n4_ : Aside0 (wr.heap[gb516]? = some (.cells #[.slice A0_0 l0_0.length c0_0, .slice A0_1 l0_1.length c0_1] 25 (0, 0))) := ⟨by rw [← hq_]; exact bk⟩; have n5_ : Aside0 (wr.heap[gb517]? = some (.cells #[.slice none 0 0, .slice none 0 0] 25 (0, 0))) := ⟨by rw [← hq_]; exact bk⟩; have n6_ : Aside0 (wr.heap[gb518]? = some (.cells #[u519000, u519001] 25 (0, 0))) := ⟨by rw [← hq_]; exact bk⟩; have n7_ : Aside0 (Below w.heap.size w wr) := ⟨by rw [← hq_]; exact bl⟩; clear HO_517000 HO_517001 HO_519000 HO_519001 BK516 BK517 BK518 HB hq_; have HO_517000 := n0_; have HO_517001 := n1_; have HO_519000 := n2_; have HO_519001 := n3_; have BK516 := n4_; have BK517 := n5_; have BK518 := n6_; have HB := n7_; clear n0_ n1_ n2_ n3_ n4_ n5_ n6_ n7_))))
          have n0_ := Aside0.mk (Kd.V_drew HO_517000.out)
          have n1_ := Aside0.mk (Kd.V_drew HO_517001.out)
          have n2_ := Aside0.mk (Kd.N_drew HO_519000.out)
          have n3_ := Aside0.mk (Kd.N_drew HO_519001.out)
          have n4_ := Aside0.mk (blk_drew BK516.out)
          have n5_ := Aside0.mk (blk_drew BK517.out)
          have n6_ := Aside0.mk (blk_drew BK518.out)
          have n7_ := Aside0.mk (below_drew1 HB.out)
          clear HO_517000
          clear HO_517001
          clear HO_519000
          clear HO_519001
          clear BK516
          clear BK517
          clear BK518
          clear HB
          have HO_517000 := n0_
          have HO_517001 := n1_
          have HO_519000 := n2_
          have HO_519001 := n3_
          have BK516 := n4_
          have BK517 := n5_
          have BK518 := n6_
          have HB := n7_
          clear n0_ n1_ n2_ n3_ n4_ n5_ n6_ n7_
          have p525 : 0 ≤ (x9_2 : Int) := of_decide_eq_true (by first | (with_reducible assumption) | assumption)
          have q525 : x9_2 < (l0_1.length : Int) := of_decide_eq_true (by first | (with_reducible assumption) | assumption)
          obtain ⟨ad525, A525_1, c525_1, e525, hx525_0, hx525_1, hx525_2, hl525_1, hi525_1⟩ := at_T50 (Kd.V_reads' HO_517001.out).2.2 x9_2 p525 q525
          cases e525
          obtain ⟨ce525, hce525, hMe525, hcc525⟩ := Kd.V_get HO_517001.out z50 x9_2 p525 (by first | exact q525 | exact of_decide_eq_true (by first | (with_reducible assumption) | assumption) | (have e_ := (Kd.V_reads' HO_517001.out).1; omega))
          obtain ⟨ua525_1, uc525_1, rfl, ul525_1, ge525_1⟩ := k50_openF hMe525
          have hv525_1 := hcc525 1 _ rfl
          rw [add_field _ _ 1 (by omega)] at hv525_1
          replace hv525_1 := Option.some.inj (hv525_1.symm.trans hx525_1)
          injection hv525_1 with hva_ hvn_ hvc_
          rw [hva_] at ge525_1
          rw [hvc_] at ul525_1
          have HL525_1 := Aside0.mk (show Kd.V (Kd.int .i64) 3 _ w.heap.size _ _ ((rd_T50 l0_1 x9_2).f1) from Kd.V_mk ul525_1 ge525_1)
          clear hva_ hvn_ hvc_ ge525_1 ul525_1
          clear hcc525 hce525
          have HR525_1 := Aside0.mk hi525_1
          have HC525_1 := Aside0.mk hl525_1
          clear hi525_1 hl525_1
          replace p525 := eq_true p525
          replace q525 := eq_true q525
          refine start_ (n := 11) (S := fun w' => w'.cell? ⟨gb518, 0, none⟩ = some (u519000) ∧ w'.cell? ⟨gb518, 1, none⟩ = some (u519001) ∧ w'.cell? ⟨gb516, 0, none⟩ = some (.slice A0_0 l0_0.length c0_0) ∧ w'.cell? ⟨gb516, 1, none⟩ = some (.slice (some ad525) l0_1.length c0_1) ∧ w'.cell? (ad525.add ((x9_2).toNat * 3)) = some (.int .i64 ((rd_T50 l0_1 x9_2).f0)) ∧ w'.cell? ⟨(ad525.add ((x9_2).toNat * 3)).block, (ad525.add ((x9_2).toNat * 3)).off + 1, none⟩ = some (.slice A525_1 ((rd_T50 l0_1 x9_2).f1).length c525_1) ∧ w'.cell? ⟨(ad525.add ((x9_2).toNat * 3)).block, (ad525.add ((x9_2).toNat * 3)).off + 2, none⟩ = some (.bool ((rd_T50 l0_1 x9_2).f2))) (ds := [8, 10]) #[false, false, false, false, false, false, false, false, false, false, false] (by kernel_rfl) rfl rfl ⟨(blk_cell BK518.out 0).trans rfl, (blk_cell BK518.out 1).trans rfl, (blk_cell BK516.out 0).trans rfl, (blk_cell BK516.out 1).trans rfl, hx525_0, hx525_1, hx525_2⟩ (fun hHeld => ?_); refine with_tabW skewbaldlaw01_only.tab11 skewbaldlaw01_only.bits11 (fun HT_ HW_ => ?_)
          generalize wr.drew = w36 at HO_517000 HO_517001 HO_519000 HO_519001 BK516 BK517 BK518 HB HL525_1 HR525_1 hx525_0 hx525_1 hx525_2 hHeld ⊢
          refine pure_ (i := 0) (N := some 41) (v := ?_) (a' := ?_) #[true, false, false, false, false, false, false, false, false, false, false] rfl rfl (any_of HT_.out (by kernel_rfl)) (fun _ _ _ h => h) (Or.inl ⟨by rfl, ?_⟩) ?_ ?_
          rotate_left
          ·intro w'
           go_simp
           with_reducible rfl
          rotate_left
          ·simp only [Act.put, List.setIfInBounds_toArray, List.set_cons_zero, List.set_cons_succ, i64_w, i32_w]
           rfl
          refine pure_ (i := 2) (N := some 43) (v := ?_) (a' := ?_) #[true, false, true, false, false, false, false, false, false, false, false] rfl rfl (any_of HT_.out (by kernel_rfl)) (fun _ _ _ h => h) (Or.inl ⟨by rfl, ?_⟩) ?_ ?_
          rotate_left
          ·intro w'
           go_simp
           with_reducible rfl
          rotate_left
          ·simp only [Act.put, List.setIfInBounds_toArray, List.set_cons_zero, List.set_cons_succ, i64_w, i32_w]
           rfl
          refine pure_ (i := 4) (N := some 45) (v := ?_) (a' := ?_) #[true, false, true, false, true, false, false, false, false, false, false] rfl rfl (any_of HT_.out (by kernel_rfl)) (fun _ _ _ h => h) (Or.inl ⟨by rfl, ?_⟩) ?_ ?_
          rotate_left
          ·intro w'
           go_simp
           with_reducible rfl
          rotate_left
          ·simp only [Act.put, List.setIfInBounds_toArray, List.set_cons_zero, List.set_cons_succ, i64_w, i32_w]
           rfl
          refine take_ (i := 1) (N := some 42) (v := ?_) (a' := ?_) #[true, true, true, false, true, false, false, false, false, false, false] rfl rfl (take_ofW HT_.out HW_.out (by kernel_rfl)) (fun _ _ _ h => h) (Or.inl ⟨by rfl, ?_⟩) hHeld ?_ ?_
          rotate_left
          ·rintro w' ⟨s0, s1, s2, s3, s4, s5, s6⟩
           go_simp
           with_reducible rfl
          rotate_left
          ·simp only [Act.put, List.setIfInBounds_toArray, List.set_cons_zero, List.set_cons_succ, i64_w, i32_w]
           rfl
          refine take_ (i := 3) (N := some 44) (v := ?_) (a' := ?_) #[true, true, true, true, true, false, false, false, false, false, false] rfl rfl (take_ofW HT_.out HW_.out (by kernel_rfl)) (fun _ _ _ h => h) (Or.inl ⟨by rfl, ?_⟩) hHeld ?_ ?_
          rotate_left
          ·rintro w' ⟨s0, s1, s2, s3, s4, s5, s6⟩
           go_simp
           with_reducible rfl
          rotate_left
          ·simp only [Act.put, List.setIfInBounds_toArray, List.set_cons_zero, List.set_cons_succ, i64_w, i32_w]
           rfl
          refine pure_ (i := 5) (N := some 46) (v := ?_) (a' := ?_) #[true, true, true, true, true, true, false, false, false, false, false] rfl rfl (any_of HT_.out (by kernel_rfl)) (fun _ _ _ h => h) (Or.inl ⟨by rfl, ?_⟩) ?_ ?_
          rotate_left
          ·intro w'
           go_simp
           with_reducible rfl
          rotate_left
          ·simp only [Act.put, List.setIfInBounds_toArray, List.set_cons_zero, List.set_cons_succ, i64_w, i32_w]
           rfl
          refine take_ (i := 6) (N := some 47) (v := ?_) (a' := ?_) #[true, true, true, true, true, true, true, false, false, false, false] rfl rfl (take_ofW HT_.out HW_.out (by kernel_rfl)) (fun _ _ _ h => h) (Or.inl ⟨by rfl, ?_⟩) hHeld ?_ ?_
          rotate_left
          ·rintro w' ⟨s0, s1, s2, s3, s4, s5, s6⟩
           go_simp
           with_reducible rfl
          rotate_left
          ·simp only [Act.put, List.setIfInBounds_toArray, List.set_cons_zero, List.set_cons_succ, i64_w, i32_w]
           rfl
          refine one_ (i := 7) (N := some 48) #[true, true, true, true, true, true, true, true, false, false, false] rfl rfl (one_of HT_.out (by kernel_rfl)) (by decide) (fun K hK => ?_)
          refine value_ (w1 := ?_) (v := ?_) (by rfl) rfl ?_ ?_
          rotate_left 2
          ·go_simp
           constructor
           ·rfl
           ·rfl
          refine hK.out _ _ ⟨(blk_cell (blk_alloc BK518.out _) 0).trans rfl, (blk_cell (blk_alloc BK518.out _) 1).trans rfl, (blk_cell (blk_alloc BK516.out _) 0).trans rfl, (blk_cell (blk_alloc BK516.out _) 1).trans rfl, (World.cell?_alloc_lt _ _ _ (World.block_lt_of_cell? _ _ (hHeld.2.2.2.2.1))).trans (hHeld.2.2.2.2.1), (World.cell?_alloc_lt _ _ _ (World.block_lt_of_cell? _ _ (hHeld.2.2.2.2.2.1))).trans (hHeld.2.2.2.2.2.1), (World.cell?_alloc_lt _ _ _ (World.block_lt_of_cell? _ _ (hHeld.2.2.2.2.2.2))).trans (hHeld.2.2.2.2.2.2)⟩ (fun hHeld => ?_)
          clear hK K
          refine norm_ (a' := ?_) ?_ ?_
          rotate_left
          ·show Act.put _ (some 48) _ = _
           simp only [Act.put, List.setIfInBounds_toArray, List.set_cons_zero, List.set_cons_succ, i64_w, i32_w]
           rfl
          refine last_ (i := 8) (N := some 49) #[true, true, true, true, true, true, true, true, true, false, false] rfl rfl (one_of HT_.out (by kernel_rfl)) (by decide) (fun K hK => ?_)
          refine Kd.N_append_step k50 (w0 := w) w.heap.size (by rfl) (.tmp 42) (.tmp 48) 23 50 (.agg #[(.int .i64 0), (.slice none 0 0), (.bool false)]) 40 rfl Tryd.underlying23 info50 rfl (by decide) (by omega) u519001 x519001_2 (⟨(rd_T50 l0_1 x9_2).f0, (rd_T50 l0_1 x9_2).f1, (rd_T50 l0_1 x9_2).f2⟩ : S50) [.int .i64 ((rd_T50 l0_1 x9_2).f0), .slice A525_1 ((rd_T50 l0_1 x9_2).f1).length c525_1, .bool ((rd_T50 l0_1 x9_2).f2)] (fun k_ => ((P0_0_ k_ ∨ P0_1_ k_) ∨ w.heap.size ≤ k_) ∧ some k_ ≠ (u519000 : Value).ownBlock ∧ k_ ≠ gb516 ∧ k_ ≠ gb517 ∧ k_ ≠ gb518) (fun k_ => ((fun k_ => ((P0_0_ k_ ∨ P0_1_ k_) ∨ w.heap.size ≤ k_) ∧ some k_ ≠ (u519000 : Value).ownBlock ∧ k_ ≠ gb516 ∧ k_ ≠ gb517 ∧ k_ ≠ gb518)) k_ ∧ some k_ ≠ (u519001 : Value).ownBlock) rfl rfl ?aP (fun _ hk => hk) ?aF ?aO ?aB ?aS ?aL ?_
          (case aP => exact (k50_mkF _ _ (⟨(rd_T50 l0_1 x9_2).f0, (rd_T50 l0_1 x9_2).f1, (rd_T50 l0_1 x9_2).f2⟩ : S50) (Kd.V_reads' (Kd.V_mono (ok' := (fun k_ => ((fun k_ => ((P0_0_ k_ ∨ P0_1_ k_) ∨ w.heap.size ≤ k_) ∧ some k_ ≠ (u519000 : Value).ownBlock ∧ k_ ≠ gb516 ∧ k_ ≠ gb517 ∧ k_ ≠ gb518)) k_ ∧ some k_ ≠ (u519001 : Value).ownBlock)) (HL525_1.out) (fun k_ hk => ⟨⟨hk.1, ⟨hk.2.1, ⟨hk.2.2.2.1, ⟨hk.2.2.2.2.1, hk.2.2.2.2.2⟩⟩⟩⟩, hk.2.2.1⟩))).2.1 (Kd.V_F (Kd.V_mono (ok' := (fun k_ => ((fun k_ => ((P0_0_ k_ ∨ P0_1_ k_) ∨ w.heap.size ≤ k_) ∧ some k_ ≠ (u519000 : Value).ownBlock ∧ k_ ≠ gb516 ∧ k_ ≠ gb517 ∧ k_ ≠ gb518)) k_ ∧ some k_ ≠ (u519001 : Value).ownBlock)) (HL525_1.out) (fun k_ hk => ⟨⟨hk.1, ⟨hk.2.1, ⟨hk.2.2.2.1, ⟨hk.2.2.2.2.1, hk.2.2.2.2.2⟩⟩⟩⟩, hk.2.2.1⟩)))))
          (case aB => exact bl)
          (case aF => exact (fun k_ hk => ⟨(.inr (Nat.le_trans (below_size bl) hk)), Kd.fresh' (Kd.N_lt (by (with_reducible repeat (first | apply Kd.N_alloc | apply Kd.N_drewN | apply Kd.N_drew)); exact HO_519000.out)) k_ hk, Kd.freshB (g := gb516) (o := .cells #[.slice A0_0 l0_0.length c0_0, .slice (some ad525) l0_1.length c0_1] 25 (0, 0)) bk k_ hk, Kd.freshB (g := gb517) (o := .cells #[.slice none 0 0, .slice none 0 0] 25 (0, 0)) bk k_ hk, Kd.freshB (g := gb518) (o := .cells #[u519000, u519001] 25 (0, 0)) bk k_ hk⟩))
          (case aO => exact (by (with_reducible repeat (first | apply Kd.N_alloc | apply Kd.N_drewN | apply Kd.N_drew)); exact HO_519001.out))
          (case aS => exact (below_size bl))
          (case aL => have := LMc32.out; omega)
          intro v527 w37 ho hb hg hat
          rw [← Ny526.out] at ho
          have n0_ := Aside0.mk (Kd.V_afterv (ok := (fun k_ => ((P0_0_ k_ ∨ P0_1_ k_) ∨ w.heap.size ≤ k_) ∧ some k_ ≠ (u519000 : Value).ownBlock ∧ k_ ≠ gb516 ∧ k_ ≠ gb517 ∧ k_ ≠ gb518)) (by (with_reducible repeat (first | apply Kd.V_alloc | apply Kd.V_drewN | apply Kd.V_drew)); exact Kd.V_mono HO_517000.out (fun _ hk => ⟨⟨hk.1, ⟨hk.2.1, ⟨hk.2.2.2.1, ⟨hk.2.2.2.2.1, hk.2.2.2.2.2⟩⟩⟩⟩, hk.2.2.1⟩)) hg hat)
          have n1_ := Aside0.mk (Kd.V_afterv (ok := (fun k_ => ((P0_0_ k_ ∨ P0_1_ k_) ∨ w.heap.size ≤ k_) ∧ some k_ ≠ (u519000 : Value).ownBlock ∧ k_ ≠ gb516 ∧ k_ ≠ gb517 ∧ k_ ≠ gb518)) (by (with_reducible repeat (first | apply Kd.V_alloc | apply Kd.V_drewN | apply Kd.V_drew)); exact Kd.V_mono HO_517001.out (fun _ hk => ⟨⟨hk.1, ⟨hk.2.1, ⟨hk.2.2.2.1, ⟨hk.2.2.2.2.1, hk.2.2.2.2.2⟩⟩⟩⟩, hk.2.2.1⟩)) hg hat)
          have n2_ := Aside0.mk (Kd.N_afterv (ok := (fun k_ => ((P0_0_ k_ ∨ P0_1_ k_) ∨ w.heap.size ≤ k_) ∧ k_ ≠ gb516 ∧ k_ ≠ gb517 ∧ k_ ≠ gb518)) (by (with_reducible repeat (first | apply Kd.N_alloc | apply Kd.N_drewN | apply Kd.N_drew)); exact Kd.N_mono HO_519000.out (fun _ hk => ⟨⟨hk.1, ⟨hk.2.2.1, ⟨hk.2.2.2.1, hk.2.2.2.2⟩⟩⟩, hk.2.1⟩)) hg hat)
          have n3_ := Aside0.mk (blk_grown (g := gb516) (o := .cells #[.slice A0_0 l0_0.length c0_0, .slice (some ad525) l0_1.length c0_1] 25 (0, 0)) bk hg (Kd.N_ne HO_519001.out BK516.out (by decide)))
          have n4_ := Aside0.mk (blk_grown (g := gb517) (o := .cells #[.slice none 0 0, .slice none 0 0] 25 (0, 0)) bk hg (Kd.N_ne HO_519001.out BK517.out (by decide)))
          have n5_ := Aside0.mk (blk_grown (g := gb518) (o := .cells #[u519000, u519001] 25 (0, 0)) bk hg (Kd.N_ne HO_519001.out BK518.out (by decide)))
          have n6_ := Aside0.mk (Kd.V_afterv (ok := (fun k_ => ((P0_0_ k_ ∨ P0_1_ k_) ∨ w.heap.size ≤ k_) ∧ some k_ ≠ (u519000 : Value).ownBlock ∧ k_ ≠ gb516 ∧ k_ ≠ gb517 ∧ k_ ≠ gb518)) (by (with_reducible repeat (first | apply Kd.V_alloc | apply Kd.V_drewN | apply Kd.V_drew)); exact Kd.V_mono HL525_1.out (fun _ hk => ⟨⟨hk.1, ⟨hk.2.1, ⟨hk.2.2.2.1, ⟨hk.2.2.2.2.1, hk.2.2.2.2.2⟩⟩⟩⟩, hk.2.2.1⟩)) hg hat)
          have n7_ := Aside0.mk (hb)
          have n8_ := Aside0.mk (ho)
          clear HO_517000
          clear HO_517001
          clear HO_519000
          clear BK516
          clear BK517
          clear BK518
          clear HL525_1
          clear HB
          clear HO_519001
          have HO_517000 := n0_
          have HO_517001 := n1_
          have HO_519000 := n2_
          have BK516 := n3_
          have BK517 := n4_
          have BK518 := n5_
          have HL525_1 := n6_
          have HB := n7_
          have HO528 := n8_
          clear n0_ n1_ n2_ n3_ n4_ n5_ n6_ n7_ n8_
          clear ho hb hg hat
          obtain ⟨Ao38, co38, eo38⟩ := Kd.N_slice HO528.out
          (first | subst eo38 | (injection eo38 with f1_ f2_ f3_; have f4_ := f1_.symm; have f5_ := f3_.symm; clear f1_ f2_ f3_; subst f4_; subst f5_))
          refine hK.out _ _ ?_
          clear hK K
          refine norm_ (a' := ?_) ?_ ?_
          rotate_left
          ·show Act.put _ (some 49) _ = _
           simp only [Act.put, List.setIfInBounds_toArray, List.set_cons_zero, List.set_cons_succ, i64_w, i32_w]
           rfl
          refine pure_ (i := 9) (N := some 50) (v := ?_) (a' := ?_) #[true, true, true, true, true, true, true, true, true, true, false] rfl rfl (any_of HT_.out (by kernel_rfl)) (fun _ _ _ h => h) (Or.inl ⟨by rfl, ?_⟩) ?_ ?_
          rotate_left
          ·intro w'
           go_simp
           with_reducible rfl
          rotate_left
          ·simp only [Act.put, List.setIfInBounds_toArray, List.set_cons_zero, List.set_cons_succ, i64_w, i32_w]
           rfl
          refine last_ (i := 10) (N := none) #[true, true, true, true, true, true, true, true, true, true, true] rfl rfl (one_of HT_.out (by kernel_rfl)) (by decide) (fun K hK => ?_)
          have hs39 : w37.cell? ⟨gb518, 1, none⟩ = some (u519001) := (blk_cell BK518.out 1).trans rfl
          have hfs39 := blk_frozen BK518.out 1
          have hns39_0 := NB516_518.out
          have hns39_1 := NB517_518.out
          have hms39_0 := NB518_516.out
          have hms39_1 := NB518_517.out
          refine skip_ (w1 := ?_) (by rfl) rfl ?_ ?_
          rotate_left
          ·go_simp
           rfl
          refine hK.out _ _ ?_
          clear hK K
          refine done_ (done_of HT_.out (by kernel_rfl)) ?_
          try go_wp2
          go_roundg k2
          case measure => have := HK1.out; have := HK2.out; omega
          case rel => exact ⟨(wrap64 (x9_2 + 1)), (y526), (.slice Ao38 y526.length co38), (by first | rfl | (simp; done) | (simp [*]; done)), H', ⟨by have := HK1.out; have := HK2.out; omega⟩, ⟨by (with_reducible repeat (first | apply Kd.V_alloc | apply Kd.V_drewN | apply Kd.V_drew)); exact Kd.V_mono (Kd.V_far (p := ⟨gb518, 1, none⟩) (Kd.V_mono HO_517000.out (fun k_ hk => (⟨hk, hk.1.2.2.2.2⟩ : _ ∧ k_ ≠ gb518))) (fun _ hk => hk.2) (.slice Ao38 y526.length co38)) (fun _ hk => ⟨hk.1.1.1, ⟨hk.1.1.2.1, ⟨hk.1.2, ⟨hk.1.1.2.2.1, ⟨hk.1.1.2.2.2.1, hk.1.1.2.2.2.2⟩⟩⟩⟩⟩)⟩, ⟨by (with_reducible repeat (first | apply Kd.V_alloc | apply Kd.V_drewN | apply Kd.V_drew)); exact Kd.V_mono (Kd.V_far (p := ⟨gb518, 1, none⟩) (Kd.V_mono HO_517001.out (fun k_ hk => (⟨hk, hk.1.2.2.2.2⟩ : _ ∧ k_ ≠ gb518))) (fun _ hk => hk.2) (.slice Ao38 y526.length co38)) (fun _ hk => ⟨hk.1.1.1, ⟨hk.1.1.2.1, ⟨hk.1.2, ⟨hk.1.1.2.2.1, ⟨hk.1.1.2.2.2.1, hk.1.1.2.2.2.2⟩⟩⟩⟩⟩)⟩, ⟨by (with_reducible repeat (first | apply Kd.N_alloc | apply Kd.N_drewN | apply Kd.N_drew)); exact Kd.N_mono (Kd.N_far (p := ⟨gb518, 1, none⟩) (Kd.N_mono HO_519000.out (fun k_ hk => (⟨hk, hk.1.2.2.2⟩ : _ ∧ k_ ≠ gb518))) (fun _ hk => hk.2) (.slice Ao38 y526.length co38)) (fun _ hk => ⟨hk.1.1.1, ⟨hk.1.2, ⟨hk.1.1.2.1, ⟨hk.1.1.2.2.1, hk.1.1.2.2.2⟩⟩⟩⟩)⟩, ⟨by (with_reducible repeat (first | apply Kd.N_alloc | apply Kd.N_drewN | apply Kd.N_drew)); exact Kd.N_mono (Kd.N_far (p := ⟨gb518, 1, none⟩) (Kd.N_mono HO528.out (fun k_ hk => (⟨hk, hk.2.2.2.2⟩ : _ ∧ k_ ≠ gb518))) (fun _ hk => hk.2) (.slice Ao38 y526.length co38)) (fun _ hk => ⟨hk.1.1, ⟨hk.1.2.1, ⟨hk.1.2.2.1, ⟨hk.1.2.2.2.1, hk.1.2.2.2.2⟩⟩⟩⟩)⟩, ⟨by (with_reducible repeat (first | refine blk_drewN ?_ _ | refine blk_drew ?_ | refine blk_alloc ?_ _)); refine blk_far ?_ NB516_518.out _; (with_reducible repeat (first | refine blk_drewN ?_ _ | refine blk_drew ?_ | refine blk_alloc ?_ _)); exact BK516.out⟩, ⟨by (with_reducible repeat (first | refine blk_drewN ?_ _ | refine blk_drew ?_ | refine blk_alloc ?_ _)); refine blk_far ?_ NB517_518.out _; (with_reducible repeat (first | refine blk_drewN ?_ _ | refine blk_drew ?_ | refine blk_alloc ?_ _)); exact BK517.out⟩, ⟨by (with_reducible repeat (first | refine blk_drewN ?_ _ | refine blk_drew ?_ | refine blk_alloc ?_ _)); refine blk_put (cs := #[u519000, u519001]) ?_ 1 _ rfl; (with_reducible repeat (first | refine blk_drewN ?_ _ | refine blk_drew ?_ | refine blk_alloc ?_ _)); exact BK518.out⟩, ⟨bl⟩⟩
         ·rw [if_neg c32] at H
          exact absurd H (by simp)
        ·rw [if_neg c31] at H
         exact absurd H (by simp)
       ·replace c30 := Bool.eq_false_iff.mpr c30
        subst c30
        have H1 : (skewbaldlaw01_only.l1 k2 a2 (wrap64 (x9_2 + 1)) l0_0 l0_1 x519000_1 x519001_2) = some (r1, r2) := by rw [if_neg (show ¬ (false = true) by decide)] at H; exact H
        clear H
        have H := H1
        clear H1
        have H' := Aside0.mk H
        clear H
        have hnb40 := NB516_517.out
        have hnc40 := NB517_516.out
        have hnb41 := NB516_518.out
        have hnc41 := NB518_516.out
        have hcz42_0 : wr.cell? ⟨gb516, 0, none⟩ = some (.slice A0_0 l0_0.length c0_0) := (blk_cell BK516.out 0).trans rfl
        have hcz42_1 : wr.cell? ⟨gb516, 1, none⟩ = some (.slice A0_1 l0_1.length c0_1) := (blk_cell BK516.out 1).trans rfl
        have hfz42_0 := blk_frozen BK516.out 0
        have hfz42_1 := blk_frozen BK516.out 1
        go_wp2_with (first | ((with_reducible refine gate_callee (f := 95) rfl ?_); refine goesL_ (some 40) rfl rfl Tryd.func95 (by kernel_rfl) rfl #[.int .i64 a2, .int .i64 x9_2] rfl (by (try simp only [List.map_toArray, List.map_cons, List.map_nil]); first | done | rfl | (simp only [List.length_drop, List.length_take]; rfl)) ?_; (with_reducible refine (skewbaldref00_Of.calls a2 x9_2 false _ A29.out).mono ?_); rintro e w' ⟨rfl, ⟨nd, rfl⟩⟩; refine ⟨_, rfl, ?_⟩))
        go_roundg k2
        case measure => have := HK1.out; have := HK2.out; omega
        case rel => exact ⟨(wrap64 (x9_2 + 1)), (x519001_2), (u519001), (by first | rfl | (simp; done) | (simp [*]; done)), H', ⟨by have := HK1.out; have := HK2.out; omega⟩, ⟨by (with_reducible repeat (first | apply Kd.V_alloc | apply Kd.V_drewN | apply Kd.V_drew)); exact HO_517000.out⟩, ⟨by (with_reducible repeat (first | apply Kd.V_alloc | apply Kd.V_drewN | apply Kd.V_drew)); exact HO_517001.out⟩, ⟨by (with_reducible repeat (first | apply Kd.N_alloc | apply Kd.N_drewN | apply Kd.N_drew)); exact HO_519000.out⟩, ⟨by (with_reducible repeat (first | apply Kd.N_alloc | apply Kd.N_drewN | apply Kd.N_drew)); exact HO_519001.out⟩, ⟨bk⟩, ⟨bk⟩, ⟨bk⟩, ⟨bl⟩⟩
      ·rw [if_neg c28] at H
       have c28b0 : decide (x9_2 < (l0_1.length : Int)) = false := decide_eq_false c28
       clear c28
       simp only [Option.some.injEq, Prod.mk.injEq] at H
       obtain ⟨rfl, rfl⟩ := H
       have hnb43 := NB516_517.out
       have hnc43 := NB517_516.out
       have hnb44 := NB516_518.out
       have hnc44 := NB518_516.out
       have hcz45_0 : wr.cell? ⟨gb516, 0, none⟩ = some (.slice A0_0 l0_0.length c0_0) := (blk_cell BK516.out 0).trans rfl
       have hcz45_1 : wr.cell? ⟨gb516, 1, none⟩ = some (.slice A0_1 l0_1.length c0_1) := (blk_cell BK516.out 1).trans rfl
       have hfz45_0 := blk_frozen BK516.out 0
       have hfz45_1 := blk_frozen BK516.out 1
       have hnb46 := NB518_517.out
       have hnc46 := NB517_518.out
       have hcz47_0 : wr.cell? ⟨gb518, 0, none⟩ = some (u519000) := (blk_cell BK518.out 0).trans rfl
       have hcz47_1 : wr.cell? ⟨gb518, 1, none⟩ = some (u519001) := (blk_cell BK518.out 1).trans rfl
       have hfz47_0 := blk_frozen BK518.out 0
       have hfz47_1 := blk_frozen BK518.out 1
       obtain ⟨Ao48, co48, eo48⟩ := Kd.N_slice HO_519000.out
       subst eo48
       have hcz49_0 : wr.cell? ⟨gb517, 0, none⟩ = some (.slice none 0 0) := (blk_cell BK517.out 0).trans rfl
       have hcz49_1 : wr.cell? ⟨gb517, 1, none⟩ = some (.slice none 0 0) := (blk_cell BK517.out 1).trans rfl
       have hfz49_0 := blk_frozen BK517.out 0
       have hfz49_1 := blk_frozen BK517.out 1
       obtain ⟨Ao50, co50, eo50⟩ := Kd.N_slice HO_519001.out
       subst eo50
       go_wp2
       refine bodyPost_ret (results_cell_row rfl _ _ gb517 25 #[.slice Ao48 x519000_1.length co48, .slice Ao50 x519001_2.length co50] (0, 0) _ rfl (by (with_reducible repeat (first | refine blk_drewN ?_ _ | refine blk_drew ?_ | refine blk_alloc ?_ _)); refine blk_put (cs := #[.slice Ao48 x519000_1.length co48, .slice none 0 0]) ?_ 1 _ rfl; (with_reducible repeat (first | refine blk_drewN ?_ _ | refine blk_drew ?_ | refine blk_alloc ?_ _)); refine blk_put (cs := #[.slice none 0 0, .slice none 0 0]) ?_ 0 _ rfl; (with_reducible repeat (first | refine blk_drewN ?_ _ | refine blk_drew ?_ | refine blk_alloc ?_ _)); exact BK517.out) Tryd.underlying25 rfl (by kernel_rfl)) rfl ?_
       exact ⟨_, _, by first | rfl | (simp [errW_none, errW_some] <;> rfl) | (simp [*, errW_none, errW_some] <;> rfl), by (with_reducible repeat (first | apply Kd.N_alloc | apply Kd.N_drewN | apply Kd.N_drew)); exact Kd.N_mono (Kd.N_far (p := ⟨gb517, 1, none⟩) (Kd.N_far (p := ⟨gb517, 0, none⟩) (Kd.N_mono HO_519000.out (fun k_ hk => (⟨hk, hk.2.2.2.1⟩ : _ ∧ k_ ≠ gb517))) (fun _ hk => hk.2) (.slice Ao48 x519000_1.length co48)) (fun _ hk => hk.2) (.slice Ao50 x519001_2.length co50)) (fun _ hk => ⟨hk.1.1, hk.1.2.1⟩), by (with_reducible repeat (first | apply Kd.N_alloc | apply Kd.N_drewN | apply Kd.N_drew)); exact Kd.N_mono (Kd.N_far (p := ⟨gb517, 1, none⟩) (Kd.N_far (p := ⟨gb517, 0, none⟩) (Kd.N_mono HO_519001.out (fun k_ hk => (⟨hk, hk.2.2.2.1⟩ : _ ∧ k_ ≠ gb517))) (fun _ hk => hk.2) (.slice Ao48 x519000_1.length co48)) (fun _ hk => hk.2) (.slice Ao50 x519001_2.length co50)) (fun _ hk => ⟨hk.1.1, hk.1.2.1⟩), bl⟩
def skewbaldlaw01_enough.j0 : Nat → Int → Int → Bool → List (S48) → List (S50) → Option (Bool × Bool)
 | 0, _, _, _, _, _ => none
 | k + 1, x1, x2, x15, x530000, x530001 => if x15 = true then (some ((x2 == 0), true)) else ((skewbaldlaw01_only.f k x530000 x530001 x1 x2).bind fun bt530 => ((plank_Fewest.f bt530.1 bt530.2).bind fun bt536 => (if bt536.2 = 0 then (some ((bt536.2 == 0), true)) else (some ((bt536.2 == 0), (bt536.2 == 4))))))
def skewbaldlaw01_enough.f (k : Nat) (l0_0 : List (S48)) (l0_1 : List (S50)) (a1 : Int) (a2 : Int) : Option (Bool × Bool) := if a2 = 0 then (skewbaldlaw01_enough.j0 k a1 a2 true l0_0 l0_1) else (skewbaldlaw01_enough.j0 k a1 a2 (a1 == 0) l0_0 l0_1)
set_option maxHeartbeats 8000000 in
set_option maxRecDepth 100000 in
theorem skewbaldlaw01_enough.calls (k : Nat) (A0_0 : Option Addr) (c0_0 : Nat) (l0_0 : List (S48)) (A0_1 : Option Addr) (c0_1 : Nat) (l0_1 : List (S50)) (a1 : Int) (a2 : Int) (r1 : Bool) (r2 : Bool) (w : World) (hr0_0 : Kd.C k48 w A0_0 l0_0.length l0_0) (hc0_0 : l0_0.length ≤ c0_0) (hr0_1 : Kd.C k50 w A0_1 l0_1.length l0_1) (hc0_1 : l0_1.length ≤ c0_1) (hG : Glob w) (h : skewbaldlaw01_enough.f k l0_0 l0_1 a1 a2 = some (r1, r2)) :
  Calls Tryd.prog 46 #[.agg #[.slice A0_0 l0_0.length c0_0, .slice A0_1 l0_1.length c0_1], .int .i64 a1, .int .i64 a2] w fun e w' => e = .returned (.tuple #[.bool r1, .bool r2]) ∧ Below w.heap.size w w' := by
 have hu25 := Tryd.underlying25
 have HR0_0 := Aside0.mk hr0_0
 have HC0_0 := Aside0.mk hc0_0
 clear hr0_0 hc0_0
 have HR0_1 := Aside0.mk hr0_1
 have HC0_1 := Aside0.mk hc0_1
 clear hr0_1 hc0_1
 have HGL := Aside0.mk hG
 clear hG
 have HB := Aside0.mk (Below.refl w.heap.size w)
 have H : (if a2 = 0 then (skewbaldlaw01_enough.j0 k a1 a2 true l0_0 l0_1) else (skewbaldlaw01_enough.j0 k a1 a2 (a1 == 0) l0_0 l0_1)) = some (r1, r2) := h
 clear h
 have HC4 := Aside0.mk H
 clear H
 go_enter Tryd.func46, Tryd.ntmps46
 go_upto_region 1 with (first | ((with_reducible refine gate_dst (N := 3) rfl ?_); refine box_event ?hg (N := 3) ?hd (cs := #[.slice A0_0 l0_0.length c0_0, .slice A0_1 l0_1.length c0_1]) (t := 25) ?hr ?_; (case hd => rfl); (case hg => rfl); (case hr => first | (go_simp; done) | (go_simp; rfl)); intro gb529 hg w5 hbox hb; have n0_ := Aside0.mk (below_step bl hb); have n1_ := Aside0.mk (hbox); have n2_ := Aside0.mk ((by rw [hg]; exact (below_size bl) : w.heap.size ≤ gb529)); have n3_ := Aside0.mk ((by rw [hg]; exact (below_size bl) : w.heap.size ≤ gb529)); clear HB; have HB := n0_; have BK529 := n1_; have GW529 := n2_; have GE529 := n3_; clear n0_ n1_ n2_ n3_; clear hb hbox hg))
 (try simp only [Act.put, List.setIfInBounds_toArray, List.set_cons_zero, List.set_cons_succ])
 go_cut [15] (fun v15 wc => ∃ (kq : Nat) (x15_3 : Bool), v15 = .bool x15_3 ∧ Aside0 (skewbaldlaw01_enough.j0 kq a1 a2 x15_3 l0_0 l0_1 = some (r1, r2)) ∧ Aside0 (kq ≤ k) ∧ Aside0 (wc.heap[gb529]? = some (.cells #[(.slice A0_0 l0_0.length c0_0), (.slice A0_1 l0_1.length c0_1)] 25 (0, 0))) ∧ Aside0 (Below w.heap.size w wc))
 case first =>
  have H := HC4.out
  clear HC4
  by_cases c6 : a2 = 0
  ·rw [if_pos c6] at H
   have c6b0 : (a2 == 0) = true := beq_iff_eq.mpr c6
   have c6b1 : (a2 != 0) = false := bne_eq_false_iff_eq.mpr c6
   clear c6
   (first | rw [c6b0] | (simp only [i64_w, i32_w]; rw [c6b0]) | skip)
   have H' := Aside0.mk H
   clear H
   go_wp2
   go_meet
   case rel => exact ⟨_, (true), (by first | rfl | (simp; done) | (simp [*]; done)), H', ⟨by first | omega | exact Nat.le_refl _⟩, ⟨bk⟩, ⟨bl⟩⟩
  ·rw [if_neg c6] at H
   have c6b0 : (a2 == 0) = false := beq_eq_false_iff_ne.mpr c6
   have c6b1 : (a2 != 0) = true := bne_iff_ne.mpr c6
   (first | rw [c6b0] | (simp only [i64_w, i32_w]; rw [c6b0]) | skip)
   have H' := Aside0.mk H
   clear H
   go_wp2
   go_meet
   case rel => exact ⟨_, ((a1 == 0)), (by first | rfl | (simp; done) | (simp [*]; done)), H', ⟨by first | omega | exact Nat.le_refl _⟩, ⟨bk⟩, ⟨bl⟩⟩
 case rest =>
  clear HC4
  try clear p2
  try clear c4
  try clear c6
  try clear c6b0
  try clear c6b1
  obtain ⟨kq, x15_3, rfl, HA, HJ3, BK529, HB⟩ := hcut
  cases kq with
  | zero => exact absurd HA.out (by simp [skewbaldlaw01_enough.j0])
  | succ kj3 =>
   have H := HA.out
   clear HA
   simp only [skewbaldlaw01_enough.j0] at H
   by_cases c7 : x15_3 = true
   ·subst c7
    have H1 : (some ((a2 == 0), true)) = some (r1, r2) := by rw [if_pos rfl] at H; exact H
    clear H
    have H := H1
    clear H1
    simp only [Option.some.injEq, Prod.mk.injEq] at H
    obtain ⟨rfl, rfl⟩ := H
    go_wp2
    go_ret2
    exact ⟨by first | rfl | (simp [errW_none, errW_some] <;> rfl) | (simp [*, errW_none, errW_some] <;> rfl), bl⟩
   ·replace c7 := Bool.eq_false_iff.mpr c7
    subst c7
    have H1 : ((skewbaldlaw01_only.f kj3 l0_0 l0_1 a1 a2).bind fun bt530 => ((plank_Fewest.f bt530.1 bt530.2).bind fun bt536 => (if bt536.2 = 0 then (some ((bt536.2 == 0), true)) else (some ((bt536.2 == 0), (bt536.2 == 4)))))) = some (r1, r2) := by rw [if_neg (show ¬ (false = true) by decide)] at H; exact H
    clear H
    have H := H1
    clear H1
    replace H := Option.bind_eq_some_iff.mp H
    obtain ⟨⟨t530, t533⟩, A80, H⟩ := H
    replace H : ((plank_Fewest.f t530 t533).bind fun bt536 => (if bt536.2 = 0 then (some ((bt536.2 == 0), true)) else (some ((bt536.2 == 0), (bt536.2 == 4))))) = some (r1, r2) := H
    have A8 := Aside0.mk A80
    clear A80
    replace H := Option.bind_eq_some_iff.mp H
    obtain ⟨⟨t536, t539⟩, A90, H⟩ := H
    replace H : (if t539 = 0 then (some ((t539 == 0), true)) else (some ((t539 == 0), (t539 == 4)))) = some (r1, r2) := H
    have A9 := Aside0.mk A90
    clear A90
    by_cases c10 : t539 = 0
    ·rw [if_pos c10] at H
     have c10b0 : (t539 == 0) = true := beq_iff_eq.mpr c10
     have c10b1 : (t539 != 0) = false := bne_eq_false_iff_eq.mpr c10
     clear c10
     simp only [Option.some.injEq, Prod.mk.injEq] at H
     obtain ⟨rfl, rfl⟩ := H
     have hcz11_0 : wc.cell? ⟨gb529, 0, none⟩ = some (.slice A0_0 l0_0.length c0_0) := (blk_cell BK529.out 0).trans rfl
     have hcz11_1 : wc.cell? ⟨gb529, 1, none⟩ = some (.slice A0_1 l0_1.length c0_1) := (blk_cell BK529.out 1).trans rfl
     have hfz11_0 := blk_frozen BK529.out 0
     have hfz11_1 := blk_frozen BK529.out 1
     go_wp2_with (first | ((with_reducible refine gate_callee (f := 96) rfl ?_); refine goesL_ (some 22) rfl rfl Tryd.func96 (by kernel_rfl) rfl #[.agg #[.slice A0_0 l0_0.length c0_0, .slice A0_1 l0_1.length c0_1], .int .i64 a1, .int .i64 a2] rfl (by (try simp only [List.map_toArray, List.map_cons, List.map_nil]); first | done | rfl | (simp only [List.length_drop, List.length_take]; rfl)) ?_; (with_reducible refine (skewbaldlaw01_only.calls kj3 (fun k_ => k_ < w.heap.size) _ _ l0_0 (fun k_ => k_ < w.heap.size) _ _ l0_1 a1 a2 t530 t533 _ ?side1 ?side2 A8.out).mono ?_); (case side1 => exact Kd.V_mk HC0_0.out (Kd.F_below (Kd.C_F k48_heap HR0_0.out) bl)); (case side2 => exact Kd.V_mk HC0_1.out (Kd.F_below (Kd.C_F k50_heap HR0_1.out) bl)); rintro e w12 ⟨v531, v534, rfl, ho0, ho1, hb⟩; refine ⟨_, rfl, ?_⟩; have n0_ := Aside0.mk (Kd.N_lower (Kd.N_mono (ok' := fun k_ => some k_ ≠ (v534 : Value).ownBlock ∧ k_ ≠ gb529) ho0 (fun k_ hk_ => ⟨hk_.2, Or.elim hk_.1 (fun hs_ => Or.elim hs_ (fun hs_ => fun e_ => Nat.not_le.2 hs_ (by rw [e_]; exact GW529.out)) (fun hs_ => fun e_ => Nat.not_le.2 hs_ (by rw [e_]; exact GW529.out))) (fun hn_ => (Kd.freshB (g := gb529) (o := .cells #[.slice A0_0 l0_0.length c0_0, .slice A0_1 l0_1.length c0_1] 25 (0, 0)) bk k_ hn_))⟩)) (below_size bl)); have n1_ := Aside0.mk (Kd.N_lower (Kd.N_mono (ok' := fun k_ => some k_ ≠ (v531 : Value).ownBlock ∧ k_ ≠ gb529) ho1 (fun k_ hk_ => ⟨hk_.2, Or.elim hk_.1 (fun hs_ => Or.elim hs_ (fun hs_ => fun e_ => Nat.not_le.2 hs_ (by rw [e_]; exact GW529.out)) (fun hs_ => fun e_ => Nat.not_le.2 hs_ (by rw [e_]; exact GW529.out))) (fun hn_ => (Kd.freshB (g := gb529) (o := .cells #[.slice A0_0 l0_0.length c0_0, .slice A0_1 l0_1.length c0_1] 25 (0, 0)) bk k_ hn_))⟩)) (below_size bl)); have n2_ := Aside0.mk (blk_below (g := gb529) (o := .cells #[.slice A0_0 l0_0.length c0_0, .slice A0_1 l0_1.length c0_1] 25 (0, 0)) bk hb); have n3_ := Aside0.mk (below_step bl hb); clear BK529; clear HB; have HO532 := n0_; have HO535 := n1_; have BK529 := n2_; have HB := n3_; clear n0_ n1_ n2_ n3_; (try clear hb); (try clear hb2); (try clear hk); (try clear hi); (try clear ho0); (try clear ho1); obtain ⟨Ao13, co13, eo13⟩ := Kd.N_slice HO532.out; subst eo13; obtain ⟨Ao14, co14, eo14⟩ := Kd.N_slice HO535.out; subst eo14) | ((with_reducible refine gate_callee (f := 28) rfl ?_); refine goesL_ (some 23) rfl rfl Tryd.func28 (by kernel_rfl) rfl #[.agg #[.slice Ao13 t530.length co13, .slice Ao14 t533.length co14]] rfl (by (try simp only [List.map_toArray, List.map_cons, List.map_nil]); first | done | rfl | (simp only [List.length_drop, List.length_take]; rfl)) ?_; (with_reducible refine (plank_Fewest.calls _ _ t530 _ _ t533 t536 t539 _ ?side1 ?side2 ?side3 ?side4 ?side5 A9.out).mono ?_); (case side1 => repeat (first | exact (Kd.N_reads' HO532.out).2.2 | (with_reducible refine Kd.C_alloc ?_ _) | (with_reducible refine Kd.C_drewN ?_ _) | (with_reducible refine Kd.C_drew ?_))); (case side2 => exact (Kd.N_reads' HO532.out).2.1); (case side3 => repeat (first | exact (Kd.N_reads' HO535.out).2.2 | (with_reducible refine Kd.C_alloc ?_ _) | (with_reducible refine Kd.C_drewN ?_ _) | (with_reducible refine Kd.C_drew ?_))); (case side4 => exact (Kd.N_reads' HO535.out).2.1); (case side5 => exact Glob.below HGL.out bl); rintro e w15 ⟨v537, rfl, ho0, hb⟩; refine ⟨_, rfl, ?_⟩; have n0_ := Aside0.mk (Kd.N_below (by (with_reducible repeat (first | apply Kd.N_alloc | apply Kd.N_drewN | apply Kd.N_drew)); exact HO532.out) hb); have n1_ := Aside0.mk (Kd.N_below (by (with_reducible repeat (first | apply Kd.N_alloc | apply Kd.N_drewN | apply Kd.N_drew)); exact HO535.out) hb); have n2_ := Aside0.mk (Kd.V_lower (Kd.V_mono (ok' := fun k_ => some k_ ≠ (.slice Ao13 t530.length co13 : Value).ownBlock ∧ some k_ ≠ (.slice Ao14 t533.length co14 : Value).ownBlock ∧ k_ ≠ gb529) ho0 (fun k_ hk_ => ⟨(Kd.fresh' (Kd.N_lt (by (with_reducible repeat (first | apply Kd.N_alloc | apply Kd.N_drewN | apply Kd.N_drew)); exact HO532.out)) k_ hk_), (Kd.fresh' (Kd.N_lt (by (with_reducible repeat (first | apply Kd.N_alloc | apply Kd.N_drewN | apply Kd.N_drew)); exact HO535.out)) k_ hk_), (Kd.freshB (g := gb529) (o := .cells #[.slice A0_0 l0_0.length c0_0, .slice A0_1 l0_1.length c0_1] 25 (0, 0)) bk k_ hk_)⟩)) (below_size bl)); have n3_ := Aside0.mk (blk_below (g := gb529) (o := .cells #[.slice A0_0 l0_0.length c0_0, .slice A0_1 l0_1.length c0_1] 25 (0, 0)) bk hb); have n4_ := Aside0.mk (below_step bl hb); clear HO532; clear HO535; clear BK529; clear HB; have HO532 := n0_; have HO535 := n1_; have HO538 := n2_; have BK529 := n3_; have HB := n4_; clear n0_ n1_ n2_ n3_ n4_; (try clear hb); (try clear hb2); (try clear hk); (try clear hi); (try clear ho0)))
     go_ret2
     exact ⟨by first | rfl | (simp [errW_none, errW_some] <;> rfl) | (simp [*, errW_none, errW_some] <;> rfl), bl⟩
    ·rw [if_neg c10] at H
     have c10b0 : (t539 == 0) = false := beq_eq_false_iff_ne.mpr c10
     have c10b1 : (t539 != 0) = true := bne_iff_ne.mpr c10
     simp only [Option.some.injEq, Prod.mk.injEq] at H
     obtain ⟨rfl, rfl⟩ := H
     have hcz16_0 : wc.cell? ⟨gb529, 0, none⟩ = some (.slice A0_0 l0_0.length c0_0) := (blk_cell BK529.out 0).trans rfl
     have hcz16_1 : wc.cell? ⟨gb529, 1, none⟩ = some (.slice A0_1 l0_1.length c0_1) := (blk_cell BK529.out 1).trans rfl
     have hfz16_0 := blk_frozen BK529.out 0
     have hfz16_1 := blk_frozen BK529.out 1
     go_wp2_with (first | ((with_reducible refine gate_callee (f := 96) rfl ?_); refine goesL_ (some 22) rfl rfl Tryd.func96 (by kernel_rfl) rfl #[.agg #[.slice A0_0 l0_0.length c0_0, .slice A0_1 l0_1.length c0_1], .int .i64 a1, .int .i64 a2] rfl (by (try simp only [List.map_toArray, List.map_cons, List.map_nil]); first | done | rfl | (simp only [List.length_drop, List.length_take]; rfl)) ?_; (with_reducible refine (skewbaldlaw01_only.calls kj3 (fun k_ => k_ < w.heap.size) _ _ l0_0 (fun k_ => k_ < w.heap.size) _ _ l0_1 a1 a2 t530 t533 _ ?side1 ?side2 A8.out).mono ?_); (case side1 => exact Kd.V_mk HC0_0.out (Kd.F_below (Kd.C_F k48_heap HR0_0.out) bl)); (case side2 => exact Kd.V_mk HC0_1.out (Kd.F_below (Kd.C_F k50_heap HR0_1.out) bl)); rintro e w17 ⟨v531, v534, rfl, ho0, ho1, hb⟩; refine ⟨_, rfl, ?_⟩; have n0_ := Aside0.mk (Kd.N_lower (Kd.N_mono (ok' := fun k_ => some k_ ≠ (v534 : Value).ownBlock ∧ k_ ≠ gb529) ho0 (fun k_ hk_ => ⟨hk_.2, Or.elim hk_.1 (fun hs_ => Or.elim hs_ (fun hs_ => fun e_ => Nat.not_le.2 hs_ (by rw [e_]; exact GW529.out)) (fun hs_ => fun e_ => Nat.not_le.2 hs_ (by rw [e_]; exact GW529.out))) (fun hn_ => (Kd.freshB (g := gb529) (o := .cells #[.slice A0_0 l0_0.length c0_0, .slice A0_1 l0_1.length c0_1] 25 (0, 0)) bk k_ hn_))⟩)) (below_size bl)); have n1_ := Aside0.mk (Kd.N_lower (Kd.N_mono (ok' := fun k_ => some k_ ≠ (v531 : Value).ownBlock ∧ k_ ≠ gb529) ho1 (fun k_ hk_ => ⟨hk_.2, Or.elim hk_.1 (fun hs_ => Or.elim hs_ (fun hs_ => fun e_ => Nat.not_le.2 hs_ (by rw [e_]; exact GW529.out)) (fun hs_ => fun e_ => Nat.not_le.2 hs_ (by rw [e_]; exact GW529.out))) (fun hn_ => (Kd.freshB (g := gb529) (o := .cells #[.slice A0_0 l0_0.length c0_0, .slice A0_1 l0_1.length c0_1] 25 (0, 0)) bk k_ hn_))⟩)) (below_size bl)); have n2_ := Aside0.mk (blk_below (g := gb529) (o := .cells #[.slice A0_0 l0_0.length c0_0, .slice A0_1 l0_1.length c0_1] 25 (0, 0)) bk hb); have n3_ := Aside0.mk (below_step bl hb); clear BK529; clear HB; have HO532 := n0_; have HO535 := n1_; have BK529 := n2_; have HB := n3_; clear n0_ n1_ n2_ n3_; (try clear hb); (try clear hb2); (try clear hk); (try clear hi); (try clear ho0); (try clear ho1); obtain ⟨Ao18, co18, eo18⟩ := Kd.N_slice HO532.out; subst eo18; obtain ⟨Ao19, co19, eo19⟩ := Kd.N_slice HO535.out; subst eo19) | ((with_reducible refine gate_callee (f := 28) rfl ?_); refine goesL_ (some 23) rfl rfl Tryd.func28 (by kernel_rfl) rfl #[.agg #[.slice Ao18 t530.length co18, .slice Ao19 t533.length co19]] rfl (by (try simp only [List.map_toArray, List.map_cons, List.map_nil]); first | done | rfl | (simp only [List.length_drop, List.length_take]; rfl)) ?_; (with_reducible refine (plank_Fewest.calls _ _ t530 _ _ t533 t536 t539 _ ?side1 ?side2 ?side3 ?side4 ?side5 A9.out).mono ?_); (case side1 => repeat (first | exact (Kd.N_reads' HO532.out).2.2 | (with_reducible refine Kd.C_alloc ?_ _) | (with_reducible refine Kd.C_drewN ?_ _) | (with_reducible refine Kd.C_drew ?_))); (case side2 => exact (Kd.N_reads' HO532.out).2.1); (case side3 => repeat (first | exact (Kd.N_reads' HO535.out).2.2 | (with_reducible refine Kd.C_alloc ?_ _) | (with_reducible refine Kd.C_drewN ?_ _) | (with_reducible refine Kd.C_drew ?_))); (case side4 => exact (Kd.N_reads' HO535.out).2.1); (case side5 => exact Glob.below HGL.out bl); rintro e w20 ⟨v537, rfl, ho0, hb⟩; refine ⟨_, rfl, ?_⟩; have n0_ := Aside0.mk (Kd.N_below (by (with_reducible repeat (first | apply Kd.N_alloc | apply Kd.N_drewN | apply Kd.N_drew)); exact HO532.out) hb); have n1_ := Aside0.mk (Kd.N_below (by (with_reducible repeat (first | apply Kd.N_alloc | apply Kd.N_drewN | apply Kd.N_drew)); exact HO535.out) hb); have n2_ := Aside0.mk (Kd.V_lower (Kd.V_mono (ok' := fun k_ => some k_ ≠ (.slice Ao18 t530.length co18 : Value).ownBlock ∧ some k_ ≠ (.slice Ao19 t533.length co19 : Value).ownBlock ∧ k_ ≠ gb529) ho0 (fun k_ hk_ => ⟨(Kd.fresh' (Kd.N_lt (by (with_reducible repeat (first | apply Kd.N_alloc | apply Kd.N_drewN | apply Kd.N_drew)); exact HO532.out)) k_ hk_), (Kd.fresh' (Kd.N_lt (by (with_reducible repeat (first | apply Kd.N_alloc | apply Kd.N_drewN | apply Kd.N_drew)); exact HO535.out)) k_ hk_), (Kd.freshB (g := gb529) (o := .cells #[.slice A0_0 l0_0.length c0_0, .slice A0_1 l0_1.length c0_1] 25 (0, 0)) bk k_ hk_)⟩)) (below_size bl)); have n3_ := Aside0.mk (blk_below (g := gb529) (o := .cells #[.slice A0_0 l0_0.length c0_0, .slice A0_1 l0_1.length c0_1] 25 (0, 0)) bk hb); have n4_ := Aside0.mk (below_step bl hb); clear HO532; clear HO535; clear BK529; clear HB; have HO532 := n0_; have HO535 := n1_; have HO538 := n2_; have BK529 := n3_; have HB := n4_; clear n0_ n1_ n2_ n3_ n4_; (try clear hb); (try clear hb2); (try clear hk); (try clear hi); (try clear ho0)))
     go_ret2
     exact ⟨by first | rfl | (simp [errW_none, errW_some] <;> rfl) | (simp [*, errW_none, errW_some] <;> rfl), bl⟩
end Go.Proofs.YtekjlpldooihhaaDoor.PT
namespace Go.Proofs.YtekjlpldooihhaaDoor.PT
open Go.Proofs.YtekjlpldooihhaaDoorSh
open Go.Proofs.YtekjlpldooihhaaDoor.PA (S48 S50 S60 at_L2 at_L4 at_T48 at_T50 at_T60 errW errW_none errW_some k48 k48_mk k48_mkM k48_open k48_openM k50 k50_mk k50_mkM k50_open k50_openM k60 k60_mk k60_mkM k60_open k60_openM rd_L2 rd_L4 rd_T48 rd_T50 rd_T60 z48 z50 z60)
open Go.Proofs.YtekjlpldooihhaaDoorP Go.Proofs.YtekjlpldooihhaaDoorK
open Go.RowKit Go.Proofs.YtekjlpldooihhaaDoorW.PrintWords Go.Proofs.YtekjlpldooihhaaDoorW.PrintLast Go.Proofs.YtekjlpldooihhaaDoorW.PrintMore
attribute [local go_sem] max2_int min2_int max_two min_two max_three min_three max_four min_four   -- for this text's walks alone
set_option linter.unusedVariables false
set_option linter.unusedSimpArgs false
mutual
def skewbaldref01_Check.j0 : Nat → Bool → List (S48) → List (S50) → Option (Int)
 | 0, _, _, _ => none
 | k + 1, x3, x106000, x106001 => skewbaldref01_Check.l0 k x3 0 x106000 x106001
def skewbaldref01_Check.l0 : Nat → Bool → Int → List (S48) → List (S50) → Option (Int)
 | 0, _, _, _, _ => none
 | k + 1, x3, x4, x106000, x106001 => if x3 = true then (skewbaldref01_Check.j2 k x3 x4 (decide (x4 < (x106000.length : Int))) x106000 x106001) else (skewbaldref01_Check.j2 k x3 x4 false x106000 x106001)
def skewbaldref01_Check.j2 : Nat → Bool → Int → Bool → List (S48) → List (S50) → Option (Int)
 | 0, _, _, _, _, _ => none
 | k + 1, x3, x4, x26, x106000, x106001 => if x26 = true then (if 0 ≤ x4 then (if x4 < (x106000.length : Int) then ((skewbaldref00_In.f ((rd_T48 x106000 x4).f0) 1 16).bind fun t110 => (if t110 = true then (skewbaldref01_Check.j3 k (decide ((((rd_T48 x106000 x4).f1).length : Int) ≤ 3)) x4 x106000 x106001 ((rd_T48 x106000 x4).f0) ((rd_T48 x106000 x4).f1)) else (skewbaldref01_Check.j3 k false x4 x106000 x106001 ((rd_T48 x106000 x4).f0) ((rd_T48 x106000 x4).f1)))) else (none)) else (none)) else (skewbaldref01_Check.l2 k x3 0 x106000 x106001)
def skewbaldref01_Check.j3 : Nat → Bool → Int → List (S48) → List (S50) → Int → List (S60) → Option (Int)
 | 0, _, _, _, _, _, _ => none
 | k + 1, x3, x4, x106000, x106001, x110000, x110001 => skewbaldref01_Check.l1 k x3 x4 0 x106000 x106001 x110000 x110001
def skewbaldref01_Check.l1 : Nat → Bool → Int → Int → List (S48) → List (S50) → Int → List (S60) → Option (Int)
 | 0, _, _, _, _, _, _, _ => none
 | k + 1, x3, x4, x6, x106000, x106001, x110000, x110001 => if x3 = true then (if x6 < (x110001.length : Int) then (if 0 ≤ x6 then ((skewbaldref00_Ordered.f ((rd_T60 x110001 x6).f0) ((rd_T60 x110001 x6).f1) 0 (wrap64 (x110000 - 1))).bind fun t112 => (if t112 = true then (skewbaldref01_Check.l1 k (decide ((wrap64 (((rd_T60 x110001 x6).f1) - ((rd_T60 x110001 x6).f0))) ≤ 6)) x4 (wrap64 (x6 + 1)) x106000 x106001 x110000 x110001) else (skewbaldref01_Check.l1 k false x4 (wrap64 (x6 + 1)) x106000 x106001 x110000 x110001))) else (none)) else (skewbaldref01_Check.l0 k x3 (wrap64 (x4 + 1)) x106000 x106001)) else (skewbaldref01_Check.l0 k x3 (wrap64 (x4 + 1)) x106000 x106001)
def skewbaldref01_Check.l2 : Nat → Bool → Int → List (S48) → List (S50) → Option (Int)
 | 0, _, _, _, _ => none
 | k + 1, x3, x7, x106000, x106001 => if x3 = true then (skewbaldref01_Check.j6 k x3 x7 (decide (x7 < (x106001.length : Int))) x106000 x106001) else (skewbaldref01_Check.j6 k x3 x7 false x106000 x106001)
def skewbaldref01_Check.j6 : Nat → Bool → Int → Bool → List (S48) → List (S50) → Option (Int)
 | 0, _, _, _, _, _ => none
 | k + 1, x3, x7, x85, x106000, x106001 => if x85 = true then (if 0 ≤ x7 then (if x7 < (x106001.length : Int) then ((skewbaldref00_In.f ((rd_T50 x106001 x7).f0) 1 12).bind fun t117 => (if t117 = true then (if (((rd_T50 x106001 x7).f1).length : Int) ≤ 3 then ((skewbaldref00_Grows.f k ((rd_T50 x106001 x7).f1) ((rd_T50 x106001 x7).f0)).bind fun t118 => (skewbaldref01_Check.l2 k t118 (wrap64 (x7 + 1)) x106000 x106001)) else (skewbaldref01_Check.l2 k false (wrap64 (x7 + 1)) x106000 x106001)) else (skewbaldref01_Check.l2 k false (wrap64 (x7 + 1)) x106000 x106001))) else (none)) else (none)) else (if x3 = true then (some 0) else (some 10))
end
def skewbaldref01_Check.f (k : Nat) (l0_0 : List (S48)) (l0_1 : List (S50)) : Option (Int) := (skewbaldref00_In.f (l0_0.length : Int) 1 3).bind fun t106 => (if t106 = true then ((skewbaldref00_In.f (l0_1.length : Int) 1 5).bind fun t107 => (skewbaldref01_Check.j0 k t107 l0_0 l0_1)) else (skewbaldref01_Check.j0 k false l0_0 l0_1))
def skewbaldref01_Check.T10 : Bool × List (List Nat × List Nat) := (true, [([], []), ([0], [0]), ([], []), ([1, 2], [1, 2]), ([3], [3]), ([], []), ([5], [5]), ([6], [6]), ([4, 7], [4, 7]), ([8, 8], [8]), ([9], [9]), ([10, 9], [9, 10]), ([9], [9]), ([11, 12, 9], [9, 11, 12]), ([13, 9], [9, 13]), ([14, 9], [9, 14]), ([9], [9]), ([16, 9], [9, 16]), ([9], [9]), ([17, 18, 9], [9, 17, 18]), ([19, 9], [9, 19]), ([20, 9], [9, 20]), ([15, 21, 9], [9, 15, 21]), ([22, 9], [9, 22]), ([9, 23], [9, 23]), ([24, 9, 0, 1, 2, 3, 4, 5, 6, 7, 8, 9, 10, 11, 12, 13, 14, 15, 16, 17, 18, 19, 20, 21, 22, 23, 24], [24])])
def skewbaldref01_Check.B10 : List Nat := [0, 1, 0, 7, 15, 0, 32, 96, 255, 511, 1023, 2047, 1023, 8191, 16383, 32767, 1023, 66559, 1023, 459775, 984063, 2032639, 4194303, 8388607, 16777215, 33554431]
theorem skewbaldref01_Check.tab10 : rtab .any (opsOf Tryd.f19 10) = skewbaldref01_Check.T10 := by kernel_rfl
theorem skewbaldref01_Check.bits10 : waitsOk skewbaldref01_Check.T10.2 skewbaldref01_Check.B10 = true := by kernel_rfl
end Go.Proofs.YtekjlpldooihhaaDoor.PT
namespace Go.Proofs.YtekjlpldooihhaaDoor.PT
open Go.Proofs.YtekjlpldooihhaaDoorSh
open Go.Proofs.YtekjlpldooihhaaDoor.PA (S48 S50 S60 at_L2 at_L4 at_T48 at_T50 at_T60 errW errW_none errW_some k48 k48_mk k48_mkM k48_open k48_openM k50 k50_mk k50_mkM k50_open k50_openM k60 k60_mk k60_mkM k60_open k60_openM rd_L2 rd_L4 rd_T48 rd_T50 rd_T60 z48 z50 z60)
open Go.Proofs.YtekjlpldooihhaaDoorP Go.Proofs.YtekjlpldooihhaaDoorK
open Go.RowKit Go.Proofs.YtekjlpldooihhaaDoorW.PrintWords Go.Proofs.YtekjlpldooihhaaDoorW.PrintLast Go.Proofs.YtekjlpldooihhaaDoorW.PrintMore
attribute [local go_sem] max2_int min2_int max_two min_two max_three min_three max_four min_four   -- for this text's walks alone
set_option linter.unusedVariables false
set_option linter.unusedSimpArgs false
def skewbaldref00_Round.f (a0 : Int) (a1 : Int) : Option (Int) := if a1 < 1 then (some 0) else (if a1 = 0 then (none) else (if (Int.tmod a0 a1) < 0 then (some (wrap64 ((Int.tmod a0 a1) + a1))) else (some (Int.tmod a0 a1))))
set_option maxHeartbeats 8000000 in
set_option maxRecDepth 100000 in
theorem skewbaldref00_Round.calls (a0 : Int) (a1 : Int) (r : Int) (w : World) (h : skewbaldref00_Round.f a0 a1 = some r) :
  Calls Tryd.prog 35 #[.int .i64 a0, .int .i64 a1] w fun e w' => e = .returned (.int .i64 r) ∧ Drawn0 w w' := by
 have H : (if a1 < 1 then (some 0) else (if a1 = 0 then (none) else (if (Int.tmod a0 a1) < 0 then (some (wrap64 ((Int.tmod a0 a1) + a1))) else (some (Int.tmod a0 a1))))) = some r := h
 clear h
 by_cases c3 : a1 < 1
 ·rw [if_pos c3] at H
  have c3b0 : decide (a1 < 1) = true := decide_eq_true c3
  clear c3
  obtain rfl := Option.some.inj H
  go_enter Tryd.func35, Tryd.ntmps35
  go_wp2
  go_ret
  exact ⟨by first | rfl | (simp; done) | (simp [*]; done), by repeat (first | exact Drawn0.refl _ | apply Drawn0.step)⟩
 ·rw [if_neg c3] at H
  have c3b0 : decide (a1 < 1) = false := decide_eq_false c3
  clear c3
  by_cases c4 : a1 = 0
  ·rw [if_pos c4] at H
   exact absurd H (by simp)
  ·rw [if_neg c4] at H
   have c4b0 : (a1 == 0) = false := beq_eq_false_iff_ne.mpr c4
   have c4b1 : (a1 != 0) = true := bne_iff_ne.mpr c4
   by_cases c5 : (Int.tmod a0 a1) < 0
   ·rw [if_pos c5] at H
    have c5b0 : decide ((Int.tmod a0 a1) < 0) = true := decide_eq_true c5
    clear c5
    obtain rfl := Option.some.inj H
    go_enter Tryd.func35, Tryd.ntmps35
    go_wp2
    go_ret
    exact ⟨by first | rfl | (simp; done) | (simp [*]; done), by repeat (first | exact Drawn0.refl _ | apply Drawn0.step)⟩
   ·rw [if_neg c5] at H
    have c5b0 : decide ((Int.tmod a0 a1) < 0) = false := decide_eq_false c5
    clear c5
    obtain rfl := Option.some.inj H
    go_enter Tryd.func35, Tryd.ntmps35
    go_wp2
    go_ret
    exact ⟨by first | rfl | (simp; done) | (simp [*]; done), by repeat (first | exact Drawn0.refl _ | apply Drawn0.step)⟩
def skewbaldlaw01_truly.T5 : Bool × List (List Nat × List Nat) := (true, [([], []), ([], []), ([1], [1]), ([], []), ([2, 3], [2, 3]), ([4], [4]), ([], []), ([], []), ([6, 7], [6, 7]), ([5, 8, 8], [5, 8]), ([9], [9]), ([0, 10, 9], [0, 10]), ([11, 11, 0, 1, 2, 3, 4, 5, 6, 7, 8, 9, 10, 11], [0, 11])])
def skewbaldlaw01_truly.B5 : List Nat := [0, 0, 2, 0, 14, 30, 0, 0, 192, 510, 1022, 2047, 4095]
theorem skewbaldlaw01_truly.tab5 : rtab .any (opsOf Tryd.f36 5) = skewbaldlaw01_truly.T5 := by kernel_rfl
theorem skewbaldlaw01_truly.bits5 : waitsOk skewbaldlaw01_truly.T5.2 skewbaldlaw01_truly.B5 = true := by kernel_rfl
end Go.Proofs.YtekjlpldooihhaaDoor.PT
namespace Go.Proofs.YtekjlpldooihhaaDoor.PT
open Go.Proofs.YtekjlpldooihhaaDoorSh
open Go.Proofs.YtekjlpldooihhaaDoor.PA (S48 S50 S60 at_L2 at_L4 at_T48 at_T50 at_T60 errW errW_none errW_some k48 k48_mk k48_mkM k48_open k48_openM k50 k50_mk k50_mkM k50_open k50_openM k60 k60_mk k60_mkM k60_open k60_openM rd_L2 rd_L4 rd_T48 rd_T50 rd_T60 z48 z50 z60)
open Go.Proofs.YtekjlpldooihhaaDoorP Go.Proofs.YtekjlpldooihhaaDoorK
open Go.RowKit Go.Proofs.YtekjlpldooihhaaDoorW.PrintWords Go.Proofs.YtekjlpldooihhaaDoorW.PrintLast Go.Proofs.YtekjlpldooihhaaDoorW.PrintMore
attribute [local go_sem] max2_int min2_int max_two min_two max_three min_three max_four min_four   -- for this text's walks alone
set_option linter.unusedVariables false
set_option linter.unusedSimpArgs false
mutual
def skewbaldlaw01_shared.l0 : Nat → List Int → Int → Int → List (S48) → List (S50) → Option (Bool)
 | 0, _, _, _, _, _ => none
 | k + 1, x1, x2, x7, x541000, x541001 => if x7 ≥ 0 then (if (Go.bits .and .i64 x7 x2) = x7 then (if 0 < (x1.length : Int) then ((skewbaldref00_List.f k x7 (x541001.length : Int)).bind fun t542 => ((plank_Lay.f x541000 x541001 (rd x1 0) t542).bind fun bt545 => (if bt545.2 = 0 then (if 1 ≤ (x1.length : Int) then ((skewbaldlaw01_shared.f k x541000 x541001 (x1.drop 1) (wrap64 (x2 - x7))).bind fun t550 => (if t550 = true then (some true) else (skewbaldlaw01_shared.l0 k x1 x2 (wrap64 (x7 - 1)) x541000 x541001))) else (none)) else (skewbaldlaw01_shared.l0 k x1 x2 (wrap64 (x7 - 1)) x541000 x541001)))) else (none)) else (skewbaldlaw01_shared.l0 k x1 x2 (wrap64 (x7 - 1)) x541000 x541001)) else (some false)
def skewbaldlaw01_shared.f : Nat → List (S48) → List (S50) → List Int → Int → Option (Bool)
 | 0, _, _, _, _ => none
 | k + 1, l0_0, l0_1, l1, a2 => if (l1.length : Int) = 0 then (some (a2 == 0)) else (skewbaldlaw01_shared.l0 k l1 a2 a2 l0_0 l0_1)
end
end Go.Proofs.YtekjlpldooihhaaDoor.PT
namespace Go.Proofs.YtekjlpldooihhaaDoor.PT
open Go.Proofs.YtekjlpldooihhaaDoorSh
open Go.Proofs.YtekjlpldooihhaaDoor.PA (S48 S50 S60 at_L2 at_L4 at_T48 at_T50 at_T60 errW errW_none errW_some k48 k48_mk k48_mkM k48_open k48_openM k50 k50_mk k50_mkM k50_open k50_openM k60 k60_mk k60_mkM k60_open k60_openM rd_L2 rd_L4 rd_T48 rd_T50 rd_T60 z48 z50 z60)
open Go.Proofs.YtekjlpldooihhaaDoorP Go.Proofs.YtekjlpldooihhaaDoorK
open Go.RowKit Go.Proofs.YtekjlpldooihhaaDoorW.PrintWords Go.Proofs.YtekjlpldooihhaaDoorW.PrintLast Go.Proofs.YtekjlpldooihhaaDoorW.PrintMore
attribute [local go_sem] max2_int min2_int max_two min_two max_three min_three max_four min_four   -- for this text's walks alone
set_option linter.unusedVariables false
set_option linter.unusedSimpArgs false
def skewbaldlaw01_PlankFewest.j0 : Nat → List Int → Int → Bool → List (S48) → List (S50) → Option (Bool)
 | 0, _, _, _, _, _ => none
 | k + 1, x5, x7, x92, x552000, x552001 => if x92 = true then (some false) else ((skewbaldlaw01_shared.f k x552000 x552001 x5 x7).bind fun t567 => (if t567 = true then ((skewbaldlaw01_sawn.f).bind fun t568 => (some t568)) else (some false)))
def skewbaldlaw01_PlankFewest.f (k : Nat) (l0_0 : List (S48)) (l0_1 : List (S50)) (a1 : Int) : Option (Bool) := (plank_Fewest.f l0_0 l0_1).bind fun bt552 => ((skewbaldlaw01_sound.f k l0_0 l0_1).bind fun t556 => (if t556 = true then ((skewbaldref00_Round.f a1 (shl .i64 1 (l0_0.length : Int))).bind fun t558 => ((skewbaldlaw01_enough.f k l0_0 l0_1 t558 (wrap64 ((shl .i64 1 (l0_1.length : Int)) - 1))).bind fun bt559 => (if bt552.2 = 0 then (if bt559.2 = true then ((skewbaldref00_Grows.f k bt552.1 (l0_0.length : Int)).bind fun t562 => (if t562 = true then (if (bt552.1.length : Int) = 0 then (skewbaldlaw01_PlankFewest.j0 k bt552.1 (wrap64 ((shl .i64 1 (l0_1.length : Int)) - 1)) true l0_0 l0_1) else (if bt559.1 = true then ((skewbaldref00_List.f k t558 (l0_0.length : Int)).bind fun t563 => ((skewbaldref00_Shorter.f k t563 bt552.1).bind fun t566 => (skewbaldlaw01_PlankFewest.j0 k bt552.1 (wrap64 ((shl .i64 1 (l0_1.length : Int)) - 1)) t566 l0_0 l0_1))) else (skewbaldlaw01_PlankFewest.j0 k bt552.1 (wrap64 ((shl .i64 1 (l0_1.length : Int)) - 1)) false l0_0 l0_1))) else (skewbaldlaw01_PlankFewest.j0 k bt552.1 (wrap64 ((shl .i64 1 (l0_1.length : Int)) - 1)) true l0_0 l0_1))) else (skewbaldlaw01_PlankFewest.j0 k bt552.1 (wrap64 ((shl .i64 1 (l0_1.length : Int)) - 1)) true l0_0 l0_1)) else (if bt552.2 = 4 then (if (bt552.1.length : Int) = 0 then (if bt559.2 = true then (if bt559.1 = true then (some false) else ((skewbaldlaw01_sawn.f).bind fun t561 => (some t561))) else (some false)) else (some false)) else (some false))))) else (if bt552.2 = 10 then (if (bt552.1.length : Int) = 0 then ((skewbaldlaw01_sawn.f).bind fun t557 => (some t557)) else (some false)) else (some false))))
end Go.Proofs.YtekjlpldooihhaaDoor.PT
namespace Go.Proofs.YtekjlpldooihhaaDoor.PT
open Go.Proofs.YtekjlpldooihhaaDoorSh
open Go.Proofs.YtekjlpldooihhaaDoor.PA (S48 S50 S60 at_L2 at_L4 at_T48 at_T50 at_T60 errW errW_none errW_some k48 k48_mk k48_mkM k48_open k48_openM k50 k50_mk k50_mkM k50_open k50_openM k60 k60_mk k60_mkM k60_open k60_openM rd_L2 rd_L4 rd_T48 rd_T50 rd_T60 z48 z50 z60)
open Go.Proofs.YtekjlpldooihhaaDoorP Go.Proofs.YtekjlpldooihhaaDoorK
open Go.RowKit Go.Proofs.YtekjlpldooihhaaDoorW.PrintWords Go.Proofs.YtekjlpldooihhaaDoorW.PrintLast Go.Proofs.YtekjlpldooihhaaDoorW.PrintMore
attribute [local go_sem] max2_int min2_int max_two min_two max_three min_three max_four min_four   -- for this text's walks alone
set_option linter.unusedVariables false
set_option linter.unusedSimpArgs false
def skewbaldref01_ends.T10 : Bool × List (List Nat × List Nat) := (true, [([], []), ([], []), ([], []), ([2], [2]), ([1, 3], [1, 3]), ([0, 4], [0, 4]), ([5], [5]), ([], []), ([], []), ([], []), ([7, 8, 9], [7, 8, 9]), ([6, 10, 0, 1, 2, 3, 4, 5, 6], [6]), ([10, 11, 0, 1, 2, 3, 4, 5, 6, 7, 8, 9, 10, 11], [10])])
def skewbaldref01_ends.B10 : List Nat := [0, 0, 0, 4, 14, 31, 63, 0, 0, 0, 896, 2047, 4095]
theorem skewbaldref01_ends.tab10 : rtab .any (opsOf Tryd.f77 10) = skewbaldref01_ends.T10 := by kernel_rfl
theorem skewbaldref01_ends.bits10 : waitsOk skewbaldref01_ends.T10.2 skewbaldref01_ends.B10 = true := by kernel_rfl
end Go.Proofs.YtekjlpldooihhaaDoor.PT
namespace Go.Proofs.YtekjlpldooihhaaDoor.PT
open Go.Proofs.YtekjlpldooihhaaDoor.PA (S48 S50 S60 at_L2 at_L4 at_T48 at_T50 at_T60 errW errW_none errW_some k48 k48_mk k48_mkM k48_open k48_openM k50 k50_mk k50_mkM k50_open k50_openM k60 k60_mk k60_mkM k60_open k60_openM rd_L2 rd_L4 rd_T48 rd_T50 rd_T60 z48 z50 z60)
open Go.Proofs.YtekjlpldooihhaaDoorP Go.Proofs.YtekjlpldooihhaaDoorK
open Go.RowKit Go.Proofs.YtekjlpldooihhaaDoorW.PrintWords Go.Proofs.YtekjlpldooihhaaDoorW.PrintLast Go.Proofs.YtekjlpldooihhaaDoorW.PrintMore
attribute [local go_sem] max2_int min2_int max_two min_two max_three min_three max_four min_four   -- for this text's walks alone
set_option linter.unusedVariables false
set_option linter.unusedSimpArgs false
def skewbaldref00_Equal.l0 : Nat → List Int → List Int → Bool → Int → Option (Bool)
 | 0, _, _, _, _ => none
 | k + 1, x0, x1, x5, x6 => if x5 = true then (if x6 < (x0.length : Int) then (if 0 ≤ x6 then (if x6 < (x1.length : Int) then (skewbaldref00_Equal.l0 k x0 x1 ((rd x0 x6) == (rd x1 x6)) (wrap64 (x6 + 1))) else (none)) else (none)) else (some x5)) else (some x5)
def skewbaldref00_Equal.f (k : Nat) (l0 : List Int) (l1 : List Int) : Option (Bool) := skewbaldref00_Equal.l0 k l0 l1 ((l0.length : Int) == (l1.length : Int)) 0
set_option maxHeartbeats 8000000 in
set_option maxRecDepth 100000 in
theorem skewbaldref00_Equal.calls (k : Nat) (A0 : Option Addr) (c0 : Nat) (l0 : List Int) (A1 : Option Addr) (c1 : Nat) (l1 : List Int) (r : Bool) (w : World) (hr0 : Kd.C (Kd.int .i64) w A0 l0.length l0) (hc0 : l0.length ≤ c0) (hr1 : Kd.C (Kd.int .i64) w A1 l1.length l1) (hc1 : l1.length ≤ c1) (h : skewbaldref00_Equal.f k l0 l1 = some r) :
  Calls Tryd.prog 22 #[.slice A0 l0.length c0, .slice A1 l1.length c1] w fun e w' => e = .returned (.bool r) ∧ Drawn0 w w' := by
 have HR0 := Aside0.mk hr0
 have HC0 := Aside0.mk hc0
 clear hr0 hc0
 have HR1 := Aside0.mk hr1
 have HC1 := Aside0.mk hc1
 clear hr1 hc1
 have H : (skewbaldref00_Equal.l0 k l0 l1 ((l0.length : Int) == (l1.length : Int)) 0) = some r := h
 clear h
 have H' := Aside0.mk H
 clear H
 go_enter Tryd.func22, Tryd.ntmps22
 go_wp2
 repeat (go_quiet (fail); try go_wp2)
 go_loopg [5, 6] k (fun kq v5 v6 w' => ∃ (x5_1 : Bool) (x6_1 : Int), v5 = .bool x5_1 ∧ v6 = .int .i64 x6_1 ∧ Aside0 (skewbaldref00_Equal.l0 kq l0 l1 x5_1 x6_1 = some r) ∧ Aside0 (kq ≤ k) ∧ Drawn0 w w')
 case atStart => exact ⟨(((l0.length : Int) == (l1.length : Int))), (0), (by first | rfl | (simp; done) | (simp [*]; done)), (by first | rfl | (simp; done) | (simp [*]; done)), H', ⟨Nat.le_refl _⟩, by repeat (first | exact Drawn0.refl _ | apply Drawn0.step)⟩
 case round =>
  clear H'
  try clear c1
  try clear c2
  try clear p2
  obtain ⟨x5_1, x6_1, rfl, rfl, HA, HK1, ⟨m1, rfl⟩⟩ := hrel
  cases gk with
  | zero => exact absurd HA.out (by simp [skewbaldref00_Equal.l0])
  | succ k1 =>
   have H := HA.out
   clear HA
   simp only [skewbaldref00_Equal.l0] at H
   by_cases c3 : x5_1 = true
   ·subst c3
    have H1 : (if x6_1 < (l0.length : Int) then (if 0 ≤ x6_1 then (if x6_1 < (l1.length : Int) then (skewbaldref00_Equal.l0 k1 l0 l1 ((rd l0 x6_1) == (rd l1 x6_1)) (wrap64 (x6_1 + 1))) else (none)) else (none)) else (some true)) = some r := by rw [if_pos rfl] at H; exact H
    clear H
    have H := H1
    clear H1
    by_cases c4 : x6_1 < (l0.length : Int)
    ·rw [if_pos c4] at H
     have c4b0 : decide (x6_1 < (l0.length : Int)) = true := decide_eq_true c4
     clear c4
     by_cases c5 : 0 ≤ x6_1
     ·rw [if_pos c5] at H
      have c5b0 : decide (0 ≤ x6_1) = true := decide_eq_true c5
      clear c5
      by_cases c6 : x6_1 < (l1.length : Int)
      ·rw [if_pos c6] at H
       have c6b0 : decide (x6_1 < (l1.length : Int)) = true := decide_eq_true c6
       clear c6
       have H' := Aside0.mk H
       clear H
       have p194 : 0 ≤ (x6_1 : Int) := of_decide_eq_true (by first | (with_reducible assumption) | assumption)
       have q194 : x6_1 < (l0.length : Int) := of_decide_eq_true (by first | (with_reducible assumption) | assumption)
       obtain ⟨ad194, e194, hx194_0⟩ := Kd.at_int HR0.out x6_1 p194 q194
       cases e194
       replace p194 := eq_true p194
       replace q194 := eq_true q194
       have p195 : 0 ≤ (x6_1 : Int) := of_decide_eq_true (by first | (with_reducible assumption) | assumption)
       have q195 : x6_1 < (l1.length : Int) := of_decide_eq_true (by first | (with_reducible assumption) | assumption)
       obtain ⟨ad195, e195, hx195_0⟩ := Kd.at_int HR1.out x6_1 p195 q195
       cases e195
       replace p195 := eq_true p195
       replace q195 := eq_true q195
       go_wp2
       repeat (go_quiet (fail); try go_wp2)
       go_roundg k1
       case measure => have := HK1.out; omega
       case rel => exact ⟨(((rd l0 x6_1) == (rd l1 x6_1))), (wrap64 (x6_1 + 1)), (by first | rfl | (simp; done) | (simp [*]; done)), (by first | rfl | (simp; done) | (simp [*]; done)), H', ⟨by have := HK1.out; omega⟩, by repeat (first | exact Drawn0.refl _ | apply Drawn0.step)⟩
      ·rw [if_neg c6] at H
       exact absurd H (by simp)
     ·rw [if_neg c5] at H
      exact absurd H (by simp)
    ·rw [if_neg c4] at H
     have c4b0 : decide (x6_1 < (l0.length : Int)) = false := decide_eq_false c4
     clear c4
     obtain rfl := Option.some.inj H
     go_wp2
     repeat (go_quiet (fail); try go_wp2)
     go_ret
     exact ⟨by first | rfl | (simp; done) | (simp [*]; done), by repeat (first | exact Drawn0.refl _ | apply Drawn0.step)⟩
   ·replace c3 := Bool.eq_false_iff.mpr c3
    subst c3
    have H1 : (some false) = some r := by rw [if_neg (show ¬ (false = true) by decide)] at H; exact H
    clear H
    have H := H1
    clear H1
    obtain rfl := Option.some.inj H
    go_wp2
    repeat (go_quiet (fail); try go_wp2)
    go_ret
    exact ⟨by first | rfl | (simp; done) | (simp [*]; done), by repeat (first | exact Drawn0.refl _ | apply Drawn0.step)⟩
end Go.Proofs.YtekjlpldooihhaaDoor.PT
namespace Go.Proofs.YtekjlpldooihhaaDoorP
open Go.RowKit Go.Proofs.YtekjlpldooihhaaDoorW.PrintWords Go.Proofs.YtekjlpldooihhaaDoorH Go.Proofs.YtekjlpldooihhaaDoorEv Go.Proofs.YtekjlpldooihhaaDoor.PA
set_option linter.unusedVariables false
set_option linter.unusedSimpArgs false
def lenQ (Q : List S50) (p : Nat) : Nat := (Q.getD p z50).f0.toNat
def Apart (Q : List S50) (pos : Nat → Nat) (p q : Nat) : Prop := pos p + lenQ Q p ≤ pos q ∨ pos q + lenQ Q q ≤ pos p
theorem Apart.symm {Q : List S50} {pos : Nat → Nat} {p q : Nat} (h : Apart Q pos p q) : Apart Q pos q p := Or.symm h
def Good (y : S48) (Q : List S50) : List Nat → (Nat → Bool) → List Nat → Prop
  | [], _, [] => True
  | p :: ps, taken, a :: us => spotB y (Q.getD p z50) a = true ∧ freeB taken a (lenQ Q p) = true ∧ Good y Q ps (markB taken a (lenQ Q p)) us
  | _, _, _ => False
def lexLe : List Nat → List Nat → Prop
  | [], _ => True
  | _ :: _, [] => False
  | a :: us, b :: bs => a < b ∨ (a = b ∧ lexLe us bs)
theorem spot_lt {y : S48} {x : S50} {a : Nat} (h : spotB y x a = true) : (a : Int) + x.f0 ≤ y.f0 ∧ canN y x a = 2 := by
  unfold spotB liesB at h
  simp only [Bool.and_eq_true, decide_eq_true_eq, beq_iff_eq] at h
  exact ⟨by omega, h.2⟩
theorem mem_spots {y : S48} {x : S50} (h1 : 1 ≤ x.f0) {a : Nat} : a ∈ spotsL y x ↔ spotB y x a = true := by
  unfold spotsL
  rw [List.mem_filter, List.mem_range]
  constructor
  · exact fun h => h.2
  · intro h
    have := (spot_lt h).1
    exact ⟨by omega, h⟩
theorem spots_sorted (y : S48) (x : S50) : (spotsL y x).Pairwise (· < ·) := List.pairwise_lt_range.filter _
theorem laidFrom_none {y : S48} {Q : List S50} : ∀ (ps : List Nat) (hL : ∀ p ∈ ps, 1 ≤ (Q.getD p z50).f0) (taken : Nat → Bool) (out : List Nat), laidFrom y Q ps taken out = none → ∀ bs, ¬ Good y Q ps taken bs
  | [], _, _, _, h, _, _ => by simp [laidFrom] at h
  | p :: ps, hL, taken, out, h, [], hg => hg
  | p :: ps, hL, taken, out, h, b :: bs, hg => by
    obtain ⟨g1, g2, g3⟩ := hg
    unfold laidFrom at h
    rw [List.findSome?_eq_none_iff] at h
    have h' := h b ((mem_spots (hL p (by simp))).2 g1)
    unfold lenQ at g2 g3
    rw [if_pos g2] at h'
    exact laidFrom_none ps (fun q hq => hL q (by simp [hq])) _ _ h' bs g3
theorem laidFrom_some {y : S48} {Q : List S50} : ∀ (ps : List Nat) (hL : ∀ p ∈ ps, 1 ≤ (Q.getD p z50).f0) (taken : Nat → Bool) (out o : List Nat), laidFrom y Q ps taken out = some o → ∃ us, o = out ++ us ∧ Good y Q ps taken us ∧ ∀ bs, Good y Q ps taken bs → lexLe us bs
  | [], _, taken, out, o, h => by
    simp only [laidFrom, Option.some.injEq] at h
    exact ⟨[], by simp [h], trivial, fun _ _ => trivial⟩
  | p :: ps, hL, taken, out, o, h => by
    have hL' : ∀ q ∈ ps, 1 ≤ (Q.getD q z50).f0 := fun q hq => hL q (by simp [hq])
    unfold laidFrom at h
    obtain ⟨l1, a, l2, e, hf, hn⟩ := List.findSome?_eq_some_iff.1 h
    have hs := (mem_spots (y := y) (hL p (by simp))).1 (by rw [e]; simp : a ∈ _)
    by_cases hfr : freeB taken a (Q.getD p z50).f0.toNat = true
    · rw [if_pos hfr] at hf
      obtain ⟨us, e1, e2, e3⟩ := laidFrom_some ps hL' _ _ _ hf
      refine ⟨a :: us, by rw [e1]; simp, ⟨hs, hfr, e2⟩, fun bs hb => ?_⟩
      match bs, hb with
      | b :: bs, hb =>
        obtain ⟨g1, g2, g3⟩ := hb
        have hm := (mem_spots (hL p (by simp))).2 g1
        rw [e] at hm
        simp only [List.mem_append, List.mem_cons] at hm
        rcases hm with hm | rfl | hm
        · have h' := hn b hm
          unfold lenQ at g2 g3
          rw [if_pos g2] at h'
          exact absurd g3 (laidFrom_none ps hL' _ _ h' bs)
        · exact .inr ⟨rfl, e3 bs g3⟩
        · have hp := spots_sorted y (Q.getD p z50)
          rw [e, List.pairwise_append] at hp
          exact .inl ((List.pairwise_cons.1 hp.2.1).1 b hm)
    · rw [if_neg hfr] at hf
      simp at hf
theorem free_iff {taken : Nat → Bool} {a L : Nat} : freeB taken a L = true ↔ ∀ j, a ≤ j → j < a + L → taken j = false := by
  unfold freeB
  rw [Bool.not_eq_true', List.any_eq_false]
  simp only [List.mem_range'_1, Bool.not_eq_true]
  exact ⟨fun h j h1 h2 => h j ⟨h1, h2⟩, fun h j hj => h j hj.1 hj.2⟩
theorem free_none (a L : Nat) : freeB (fun _ => false) a L = true := free_iff.2 fun _ _ _ => rfl
theorem free_mark {taken : Nat → Bool} {a L b M : Nat} (hL : 1 ≤ L) (hM : 1 ≤ M) : freeB (markB taken a L) b M = true ↔ freeB taken b M = true ∧ (a + L ≤ b ∨ b + M ≤ a) := by
  rw [free_iff, free_iff]
  unfold markB
  simp only [Bool.or_eq_false_iff, Bool.and_eq_false_iff, decide_eq_false_iff_not]
  constructor
  · intro h
    refine ⟨fun j h1 h2 => (h j h1 h2).1, ?_⟩
    by_cases hab : a ≤ b
    · have := (h b (Nat.le_refl _) (by omega)).2; omega
    · by_cases hba : a < b + M
      · have := (h a (by omega) hba).2; omega
      · omega
  · rintro ⟨h1, h2⟩ j h3 h4
    exact ⟨h1 j h3 h4, by omega⟩
theorem good_pos {y : S48} {Q : List S50} (pos : Nat → Nat) : ∀ (ps : List Nat) (hL : ∀ p ∈ ps, 1 ≤ lenQ Q p) (taken : Nat → Bool),
    Good y Q ps taken (ps.map pos) ↔ (∀ p ∈ ps, spotB y (Q.getD p z50) (pos p) = true ∧ freeB taken (pos p) (lenQ Q p) = true) ∧ ps.Pairwise (Apart Q pos)
  | [], _, taken => by simp [Good]
  | p :: ps, hL, taken => by
    have h1 := hL p (by simp)
    have ih := good_pos (y := y) pos ps (fun q hq => hL q (by simp [hq])) (markB taken (pos p) (lenQ Q p))
    show (_ ∧ _ ∧ Good y Q ps _ (ps.map pos)) ↔ _
    rw [ih, List.pairwise_cons]
    constructor
    · rintro ⟨a, b, c, d⟩
      refine ⟨fun q hq => ?_, fun q hq => ?_, d⟩
      · rcases List.mem_cons.1 hq with rfl | hq
        · exact ⟨a, b⟩
        · exact ⟨(c q hq).1, ((free_mark h1 (hL q (by simp [hq]))).1 (c q hq).2).1⟩
      · exact ((free_mark h1 (hL q (by simp [hq]))).1 (c q hq).2).2
    · rintro ⟨a, b, c⟩
      exact ⟨(a p (by simp)).1, (a p (by simp)).2, fun q hq => ⟨(a q (by simp [hq])).1, (free_mark h1 (hL q (by simp [hq]))).2 ⟨(a q (by simp [hq])).2, b q hq⟩⟩, c⟩
theorem good_length {y : S48} {Q : List S50} : ∀ (ps : List Nat) (taken : Nat → Bool) (us : List Nat), Good y Q ps taken us → us.length = ps.length
  | [], _, [], _ => rfl
  | [], _, _ :: _, h => h.elim
  | _ :: _, _, [], h => h.elim
  | p :: ps, taken, a :: us, h => by simp [good_length ps _ us h.2.2]
def posOf (ps us : List Nat) (p : Nat) : Nat := us.getD (ps.idxOf p) 0
theorem map_posOf {ps us : List Nat} (hn : ps.Nodup) (hl : us.length = ps.length) : ps.map (posOf ps us) = us := by
  apply List.ext_getElem
  · simp [hl]
  · intro i h1 h2
    rw [List.getElem_map]
    have hi : i < ps.length := by simpa using h1
    unfold posOf
    rw [List.Nodup.idxOf_getElem hn i hi]
    simp [h2]
def LiesOn (y : S48) (Q : List S50) (S : Nat → Prop) (pos : Nat → Nat) : Prop := (∀ p, S p → spotB y (Q.getD p z50) (pos p) = true) ∧ ∀ p q, S p → S q → p ≠ q → Apart Q pos p q
theorem pairwise_apart {Q : List S50} {pos : Nat → Nat} {ps : List Nat} (hn : ps.Nodup) : ps.Pairwise (Apart Q pos) ↔ ∀ p q, p ∈ ps → q ∈ ps → p ≠ q → Apart Q pos p q := by
  constructor
  · intro h p q hp hq hne
    exact List.Pairwise.forall_of_forall_of_flip (R := fun a b => a ≠ b → Apart Q pos a b) (fun a _ e => absurd rfl e) (h.imp (S := fun a b => a ≠ b → Apart Q pos a b) fun h _ => h) (h.imp (S := flip fun a b => a ≠ b → Apart Q pos a b) fun h _ => h.symm) hp hq hne
  · intro h
    exact List.Pairwise.imp_of_mem (fun ha hb hne => h _ _ ha hb hne) hn
theorem good_lies {y : S48} {Q : List S50} {ps : List Nat} (hn : ps.Nodup) (hL : ∀ p ∈ ps, 1 ≤ lenQ Q p) {pos : Nat → Nat} : Good y Q ps (fun _ => false) (ps.map pos) ↔ LiesOn y Q (· ∈ ps) pos := by
  rw [good_pos pos ps hL, pairwise_apart hn]
  unfold LiesOn
  constructor
  · exact fun h => ⟨fun p hp => (h.1 p hp).1, h.2⟩
  · exact fun h => ⟨fun p hp => ⟨h.1 p hp, free_none _ _⟩, h.2⟩
theorem laid_some {y : S48} {Q : List S50} {ps : List Nat} (hn : ps.Nodup) (hL : ∀ p ∈ ps, 1 ≤ (Q.getD p z50).f0) {o : List Nat} (h : laidB y Q ps = some o) :
    o.length = ps.length ∧ LiesOn y Q (· ∈ ps) (posOf ps o) ∧ ∀ pos, LiesOn y Q (· ∈ ps) pos → lexLe o (ps.map pos) := by
  have hL' : ∀ p ∈ ps, 1 ≤ lenQ Q p := fun p hp => by have := hL p hp; unfold lenQ; omega
  obtain ⟨us, e, hg, hm⟩ := laidFrom_some ps hL _ _ _ h
  rw [List.nil_append] at e
  subst e
  have hl := good_length _ _ _ hg
  refine ⟨hl, ?_, fun pos hp => hm _ ((good_lies hn hL').2 hp)⟩
  rw [← good_lies hn hL', map_posOf hn hl]
  exact hg
theorem laid_iff {y : S48} {Q : List S50} {ps : List Nat} (hn : ps.Nodup) (hL : ∀ p ∈ ps, 1 ≤ (Q.getD p z50).f0) : (laidB y Q ps).isSome = true ↔ ∃ pos, LiesOn y Q (· ∈ ps) pos := by
  have hL' : ∀ p ∈ ps, 1 ≤ lenQ Q p := fun p hp => by have := hL p hp; unfold lenQ; omega
  constructor
  · intro h
    obtain ⟨o, ho⟩ := Option.isSome_iff_exists.1 h
    exact ⟨_, (laid_some hn hL ho).2.1⟩
  · rintro ⟨pos, hp⟩
    cases h : laidB y Q ps with
    | some o => rfl
    | none => exact absurd ((good_lies hn hL').2 hp) (laidFrom_none ps hL _ _ h _)
theorem ints_inj {a b : List Nat} (h : ints a = ints b) : a = b := by
  unfold ints at h
  exact (List.map_inj_right (fun x y e => Int.ofNat.inj e)).1 h
theorem setL_nodup (s : Nat) : (setL s).Nodup := List.nodup_range.filter _
theorem mem_setL {s p : Nat} : p ∈ setL s ↔ p < 5 ∧ bitB s p = true := by unfold setL; rw [List.mem_filter, List.mem_range]
def numB (f : Nat → Bool) : Nat := (f 0).toNat + 2 * (f 1).toNat + 4 * (f 2).toNat + 8 * (f 3).toNat + 16 * (f 4).toNat
theorem numB_lt (f : Nat → Bool) : numB f < 32 := by
  unfold numB
  have := Bool.toNat_le (f 0); have := Bool.toNat_le (f 1); have := Bool.toNat_le (f 2); have := Bool.toNat_le (f 3); have := Bool.toNat_le (f 4)
  omega
theorem bit_numB (f : Nat → Bool) {q : Nat} (hq : q < 5) : bitB (numB f) q = f q := by
  unfold numB
  obtain rfl | rfl | rfl | rfl | rfl : q = 0 ∨ q = 1 ∨ q = 2 ∨ q = 3 ∨ q = 4 := by omega
  all_goals (cases f 0 <;> cases f 1 <;> cases f 2 <;> cases f 3 <;> cases f 4 <;> rfl)
theorem num_bits : ∀ s, s < 32 → numB (bitB s) = s := by decide
theorem eq_of_bits {s t : Nat} (hs : s < 32) (ht : t < 32) (h : ∀ q, q < 5 → bitB s q = bitB t q) : s = t := by
  rw [← num_bits s hs, ← num_bits t ht]
  unfold numB
  rw [h 0 (by omega), h 1 (by omega), h 2 (by omega), h 3 (by omega), h 4 (by omega)]
theorem bits_sub : ∀ s, s < 32 → ∀ t, t < 32 → (t &&& s == t) = true → ∀ q, q < 5 → bitB (s - t) q = (bitB s q && !bitB t q) ∧ (bitB t q = true → bitB s q = true) := by decide
theorem sub_of_bits : ∀ s, s < 32 → ∀ t, t < 32 → (∀ q, q < 5 → bitB t q = true → bitB s q = true) → (t &&& s == t) = true ∧ t ≤ s := by decide
theorem set_empty {s : Nat} (hs : s < 32) : setL s = [] ↔ s = 0 := by
  constructor
  · intro h
    refine eq_of_bits hs (by omega) (fun q hq => ?_)
    have : ¬ (q ∈ setL s) := by rw [h]; simp
    rw [mem_setL] at this
    have e : bitB s q = false := by simpa [hq] using this
    rw [e]
    unfold bitB; simp
  · rintro rfl; decide
def Cuts (P : List S48) (Q : List S50) (l : List Nat) (S : Nat → Prop) (a pos : Nat → Nat) : Prop :=
  (∀ p, S p → a p ∈ l ∧ spotB (P.getD (a p) z48) (Q.getD p z50) (pos p) = true) ∧ ∀ p q, S p → S q → p ≠ q → a p = a q → Apart Q pos p q
theorem cut_iff {P : List S48} {Q : List S50} (hq : ∀ p, p < Q.length → 1 ≤ (Q.getD p z50).f0) : ∀ (l : List Nat) (hl : l.Nodup) (s : Nat) (hs : s < 32) (hb : ∀ p ∈ setL s, p < Q.length),
    cutB P Q l s = true ↔ ∃ a pos, Cuts P Q l (· ∈ setL s) a pos
  | [], _, s, hs, hb => by
    unfold cutB
    rw [beq_iff_eq, ← set_empty hs]
    constructor
    · intro h
      exact ⟨fun _ => 0, fun _ => 0, fun p hp => by rw [h] at hp; simp at hp, fun p q hp => by rw [h] at hp; simp at hp⟩
    · rintro ⟨a, pos, h1, _⟩
      cases e : setL s with
      | nil => rfl
      | cons p t => exact absurd (h1 p (by rw [e]; simp)).1 (by simp)
  | i :: l, hl, s, hs, hb => by
    have hl' := (List.nodup_cons.1 hl)
    unfold cutB
    rw [Bool.or_eq_true, beq_iff_eq, List.any_eq_true]
    constructor
    · rintro (rfl | ⟨t, ht, h⟩)
      · have e := (set_empty (by omega : 0 < 32)).2 rfl
        exact ⟨fun _ => 0, fun _ => 0, fun p hp => by rw [e] at hp; simp at hp, fun p q hp => by rw [e] at hp; simp at hp⟩
      · rw [List.mem_range] at ht
        rw [Bool.and_eq_true, Bool.and_eq_true] at h
        obtain ⟨h1, h2, h3⟩ := h
        have hbits := bits_sub s hs t (by omega) h1
        have hbt : ∀ p ∈ setL t, p ∈ setL s := fun p hp => by
          rw [mem_setL] at hp ⊢
          exact ⟨hp.1, (hbits p hp.1).2 hp.2⟩
        have hbd : ∀ p, p ∈ setL (s - t) ↔ p ∈ setL s ∧ ¬ p ∈ setL t := fun p => by
          rw [mem_setL, mem_setL, mem_setL]
          constructor
          · rintro ⟨a, b⟩
            rw [(hbits p a).1, Bool.and_eq_true, Bool.not_eq_true'] at b
            exact ⟨⟨a, b.1⟩, fun h => by rw [b.2] at h; exact absurd h.2 (by simp)⟩
          · rintro ⟨⟨a, b⟩, c⟩
            refine ⟨a, ?_⟩
            rw [(hbits p a).1, b]
            cases e : bitB t p with
            | false => rfl
            | true => exact absurd ⟨a, e⟩ c
        obtain ⟨pos1, g1, g2⟩ := (laid_iff (setL_nodup t) (fun p hp => hq p (hb p (hbt p hp)))).1 h2
        obtain ⟨a2, pos2, g3, g4⟩ := (cut_iff hq l hl'.2 (s - t) (by omega) (fun p hp => hb p ((hbd p).1 hp).1)).1 h3
        classical
        refine ⟨fun p => if p ∈ setL t then i else a2 p, fun p => if p ∈ setL t then pos1 p else pos2 p, fun p hp => ?_, fun p q hp hq hne he => ?_⟩
        · by_cases hpt : p ∈ setL t
          · simp only [if_pos hpt]
            exact ⟨by simp, g1 p hpt⟩
          · simp only [if_neg hpt]
            have := g3 p ((hbd p).2 ⟨hp, hpt⟩)
            exact ⟨by simp [this.1], this.2⟩
        · unfold Apart
          by_cases hpt : p ∈ setL t <;> by_cases hqt : q ∈ setL t
          · simp only [hpt, hqt, if_true]
            exact g2 p q hpt hqt hne
          · simp only [hpt, hqt, if_true, if_false] at he
            exact absurd (he ▸ (g3 q ((hbd q).2 ⟨hq, hqt⟩)).1) hl'.1
          · simp only [hpt, hqt, if_true, if_false] at he
            exact absurd (he ▸ (g3 p ((hbd p).2 ⟨hp, hpt⟩)).1) hl'.1
          · simp only [hpt, hqt, if_false] at he ⊢
            exact g4 p q ((hbd p).2 ⟨hp, hpt⟩) ((hbd q).2 ⟨hq, hqt⟩) hne he
    · rintro ⟨a, pos, h1, h2⟩
      right
      let t := numB fun p => bitB s p && decide (a p = i)
      have ht : t < 32 := numB_lt _
      have hbit : ∀ q, q < 5 → bitB t q = (bitB s q && decide (a q = i)) := fun q hq => bit_numB (fun p => bitB s p && decide (a p = i)) hq
      obtain ⟨e1, e2⟩ := sub_of_bits s hs t ht (fun q hq h => by rw [hbit q hq, Bool.and_eq_true] at h; exact h.1)
      have hbits := bits_sub s hs t ht e1
      have hmt : ∀ p, p ∈ setL t ↔ p ∈ setL s ∧ a p = i := fun p => by
        rw [mem_setL, mem_setL]
        constructor
        · rintro ⟨c, d⟩; rw [hbit p c, Bool.and_eq_true, decide_eq_true_eq] at d; exact ⟨⟨c, d.1⟩, d.2⟩
        · rintro ⟨⟨c, d⟩, e⟩; exact ⟨c, by rw [hbit p c, d, e]; simp⟩
      have hbd : ∀ p, p ∈ setL (s - t) → p ∈ setL s ∧ ¬ a p = i := fun p hp => by
        rw [mem_setL] at hp
        obtain ⟨c, d⟩ := hp
        rw [(hbits p c).1, hbit p c, Bool.and_eq_true] at d
        refine ⟨mem_setL.2 ⟨c, d.1⟩, fun e => ?_⟩
        rw [d.1] at d
        simp [e] at d
      refine ⟨t, by rw [List.mem_range]; omega, ?_⟩
      rw [Bool.and_eq_true, Bool.and_eq_true]
      refine ⟨e1, ?_, ?_⟩
      · refine (laid_iff (setL_nodup t) (fun p hp => hq p (hb p ((hmt p).1 hp).1))).2 ⟨pos, fun p hp => ?_, fun p q hp hq hne => ?_⟩
        · obtain ⟨c, d⟩ := (hmt p).1 hp
          have := (h1 p c).2
          rwa [d] at this
        · exact h2 p q ((hmt p).1 hp).1 ((hmt q).1 hq).1 hne (((hmt p).1 hp).2.trans ((hmt q).1 hq).2.symm)
      · refine (cut_iff hq l hl'.2 (s - t) (by omega) (fun p hp => hb p (hbd p hp).1)).2 ⟨a, pos, fun p hp => ?_, fun p q hp hq hne he => h2 p q (hbd p hp).1 (hbd q hq).1 hne he⟩
        obtain ⟨c, d⟩ := hbd p hp
        have := h1 p c
        exact ⟨by simpa [d] using this.1, this.2⟩
end Go.Proofs.YtekjlpldooihhaaDoorP
namespace Go.Proofs.YtekjlpldooihhaaDoorP
open Go.RowKit Go.Proofs.YtekjlpldooihhaaDoorW.PrintWords Go.Proofs.YtekjlpldooihhaaDoorH Go.Proofs.YtekjlpldooihhaaDoorEv Go.Proofs.YtekjlpldooihhaaDoor.PA
set_option linter.unusedVariables false
set_option linter.unusedSimpArgs false
theorem cmp_self : ∀ l : List Int, cmpL l l = 0
  | [] => rfl
  | a :: l => by simp [cmpL, cmp_self l]
theorem cmp_zero : ∀ l m : List Int, cmpL l m = 0 → l = m
  | [], [], _ => rfl
  | [], _ :: _, h => by simp [cmpL] at h
  | _ :: _, [], h => by simp [cmpL] at h
  | a :: l, b :: m, h => by
    unfold cmpL at h
    split at h
    · simp at h
    · split at h
      · simp at h
      · obtain rfl : a = b := by omega
        rw [cmp_zero l m h]
theorem cmp_neg : ∀ l m : List Int, cmpL m l = - cmpL l m
  | [], [] => rfl
  | [], _ :: _ => rfl
  | _ :: _, [] => rfl
  | a :: l, b :: m => by
    unfold cmpL
    rw [cmp_neg l m]
    split <;> split <;> (try omega) <;> simp_all <;> omega
theorem cmp_trans : ∀ l m n : List Int, cmpL l m < 0 → cmpL m n < 0 → cmpL l n < 0
  | [], [], n, h, _ => by simp [cmpL] at h
  | [], _ :: _, [], _, h => by simp [cmpL] at h
  | [], _ :: _, _ :: _, _, _ => by simp [cmpL]
  | _ :: _, [], n, h, _ => by simp [cmpL] at h
  | _ :: _, _ :: _, [], _, h => by simp [cmpL] at h
  | a :: l, b :: m, c :: n, h1, h2 => by
    unfold cmpL at h1 h2 ⊢
    rcases Int.lt_trichotomy a b with x | rfl | x
    · rcases Int.lt_trichotomy b c with y | rfl | y
      · rw [if_pos (by omega)]; omega
      · rw [if_pos (by omega)]; omega
      · rw [if_neg (by omega), if_pos y] at h2; omega
    · rcases Int.lt_trichotomy a c with y | rfl | y
      · rw [if_pos y]; omega
      · rw [if_neg (by omega), if_neg (by omega)] at h1 h2 ⊢
        exact cmp_trans l m n h1 h2
      · rw [if_neg (by omega), if_pos y] at h2; omega
    · rw [if_neg (by omega), if_pos x] at h1; omega
structure Strict (bt : List Int → List Int → Bool) : Prop where
  irr : ∀ l, bt l l = false
  trans : ∀ a b c, bt a b = true → bt b c = true → bt a c = true
  tot : ∀ a b, a = b ∨ bt a b = true ∨ bt b a = true
theorem strict_few : Strict betterL := by
  refine ⟨fun l => ?_, fun a b c h1 h2 => ?_, fun a b => ?_⟩
  · unfold betterL; rw [cmp_self]; simp
  · unfold betterL at *
    simp only [Bool.or_eq_true, Bool.and_eq_true, decide_eq_true_eq, beq_iff_eq] at *
    rcases h1 with h1 | ⟨h1, h3⟩ <;> rcases h2 with h2 | ⟨h2, h4⟩
    · left; omega
    · left; omega
    · left; omega
    · right; exact ⟨by omega, cmp_trans a b c h3 h4⟩
  · unfold betterL
    simp only [Bool.or_eq_true, Bool.and_eq_true, decide_eq_true_eq, beq_iff_eq]
    have h1 := cmp_zero a b
    have h2 := cmp_neg a b
    by_cases h : cmpL a b = 0
    · exact .inl (h1 h)
    · rcases Nat.lt_trichotomy a.length b.length with h3 | h3 | h3
      · exact .inr (.inl (.inl h3))
      · by_cases h4 : cmpL a b < 0
        · exact .inr (.inl (.inr ⟨h3, h4⟩))
        · exact .inr (.inr (.inr ⟨h3.symm, by omega⟩))
      · exact .inr (.inr (.inl h3))
theorem strict_more : Strict moreL := by
  refine ⟨fun l => ?_, fun a b c h1 h2 => ?_, fun a b => ?_⟩
  · unfold moreL; rw [cmp_self]; simp
  · unfold moreL at *
    simp only [Bool.or_eq_true, Bool.and_eq_true, decide_eq_true_eq, beq_iff_eq] at *
    rcases h1 with h1 | ⟨h1, h3⟩ <;> rcases h2 with h2 | ⟨h2, h4⟩
    · left; omega
    · left; omega
    · left; omega
    · right; exact ⟨by omega, cmp_trans a b c h3 h4⟩
  · unfold moreL
    simp only [Bool.or_eq_true, Bool.and_eq_true, decide_eq_true_eq, beq_iff_eq]
    have h1 := cmp_zero a b
    have h2 := cmp_neg a b
    by_cases h : cmpL a b = 0
    · exact .inl (h1 h)
    · rcases Nat.lt_trichotomy a.length b.length with h3 | h3 | h3
      · exact .inr (.inr (.inl h3))
      · by_cases h4 : cmpL a b < 0
        · exact .inr (.inl (.inr ⟨h3, h4⟩))
        · exact .inr (.inr (.inr ⟨h3.symm, by omega⟩))
      · exact .inr (.inl (.inl h3))
def BestOf (bt : List Int → List Int → Bool) (is : Nat → Bool) (n : Nat) (l : List Nat) : Prop :=
  (∃ s, s < n ∧ l = setL s ∧ is s = true) ∧ ∀ s, s < n → is s = true → setL s = l ∨ bt (ints l) (ints (setL s)) = true
theorem bestTo_spec {bt : List Int → List Int → Bool} (hS : Strict bt) (is : Nat → Bool) : ∀ n, (bestTo bt is n = (false, []) ∧ ∀ s, s < n → is s = false) ∨ ∃ l, bestTo bt is n = (true, l) ∧ BestOf bt is n l
  | 0 => .inl ⟨rfl, fun s h => absurd h (by omega)⟩
  | n + 1 => by
    show (bestStep bt is n (bestTo bt is n) = _ ∧ _) ∨ ∃ l, bestStep bt is n (bestTo bt is n) = _ ∧ _
    rcases bestTo_spec hS is n with ⟨e, h⟩ | ⟨l, e, ⟨s0, h1, rfl, h2⟩, h3⟩
    · rw [e]
      unfold bestStep
      cases hn : is n with
      | false =>
        left
        refine ⟨by simp, fun s hs => ?_⟩
        rcases Nat.lt_or_ge s n with h' | h'
        · exact h s h'
        · obtain rfl : s = n := by omega
          exact hn
      | true =>
        right
        refine ⟨setL n, by simp, ⟨n, by omega, rfl, hn⟩, fun s hs his => ?_⟩
        rcases Nat.lt_or_ge s n with h' | h'
        · rw [h s h'] at his; exact absurd his (by simp)
        · obtain rfl : s = n := by omega
          exact .inl rfl
    · rw [e]
      right
      unfold bestStep
      cases hn : is n with
      | false =>
        refine ⟨setL s0, by simp, ⟨s0, by omega, rfl, h2⟩, fun s hs his => ?_⟩
        rcases Nat.lt_or_ge s n with h' | h'
        · exact h3 s h' his
        · obtain rfl : s = n := by omega
          rw [hn] at his; exact absurd his (by simp)
      | true =>
        cases hb : bt (ints (setL n)) (ints (setL s0)) with
        | true =>
          refine ⟨setL n, by simp, ⟨n, by omega, rfl, hn⟩, fun s hs his => ?_⟩
          rcases Nat.lt_or_ge s n with h' | h'
          · rcases h3 s h' his with h4 | h4
            · rw [h4]; exact .inr hb
            · exact .inr (hS.trans _ _ _ hb h4)
          · obtain rfl : s = n := by omega
            exact .inl rfl
        | false =>
          refine ⟨setL s0, by simp, ⟨s0, by omega, rfl, h2⟩, fun s hs his => ?_⟩
          rcases Nat.lt_or_ge s n with h' | h'
          · exact h3 s h' his
          · obtain rfl : s = n := by omega
            rcases hS.tot (ints (setL s0)) (ints (setL s)) with h4 | h4 | h4
            · exact .inl (ints_inj h4).symm
            · exact .inr h4
            · rw [hb] at h4; exact absurd h4 (by simp)
theorem cut_zero (P : List S48) (Q : List S50) (l : List Nat) : cutB P Q l 0 = true := by cases l <;> simp [cutB]
theorem most_spec (P : List S48) (Q : List S50) : BestOf moreL (fun s => cutB P Q (setL (2 ^ P.length - 1)) s) (2 ^ Q.length) (mostN P Q) := by
  unfold mostN
  rcases bestTo_spec strict_more (fun s => cutB P Q (setL (2 ^ P.length - 1)) s) (2 ^ Q.length) with ⟨_, h⟩ | ⟨l, e, h⟩
  · have := h 0 (Nat.pos_of_ne_zero (by simp))
    simp only [cut_zero] at this
    exact absurd this (by simp)
  · rw [e]; exact h
theorem fewest_spec (P : List S48) (Q : List S50) : (fewestZ P Q = (false, []) ∧ ∀ s, s < 2 ^ P.length → cutB P Q (setL s) (2 ^ Q.length - 1) = false) ∨ ∃ l, fewestZ P Q = (true, l) ∧ BestOf betterL (fun s => cutB P Q (setL s) (2 ^ Q.length - 1)) (2 ^ P.length) l :=
  bestTo_spec strict_few _ _
end Go.Proofs.YtekjlpldooihhaaDoorP
namespace Go.Proofs.YtekjlpldooihhaaDoorP
open Go.RowKit Go.Proofs.YtekjlpldooihhaaDoorW.PrintWords Go.Proofs.YtekjlpldooihhaaDoorH Go.Proofs.YtekjlpldooihhaaDoorEv Go.Proofs.YtekjlpldooihhaaDoor.PA
set_option linter.unusedVariables false
set_option linter.unusedSimpArgs false
theorem greatest_of {f : Nat → Nat} : ∀ (l : List Nat), l ≠ [] → ∃ p ∈ l, ∀ q ∈ l, f q ≤ f p
  | [], h => absurd rfl h
  | [a], _ => ⟨a, by simp, by simp⟩
  | a :: b :: l, _ => by
    obtain ⟨p, hp, h⟩ := greatest_of (f := f) (b :: l) (by simp)
    by_cases hab : f p ≤ f a
    · exact ⟨a, by simp, fun q hq => by
        rcases List.mem_cons.1 hq with rfl | hq
        · exact Nat.le_refl _
        · exact Nat.le_trans (h q hq) hab⟩
    · exact ⟨p, by simp [hp], fun q hq => by
        rcases List.mem_cons.1 hq with rfl | hq
        · omega
        · exact h q hq⟩
theorem bits_one : ∀ s, s < 32 → ∀ p, p < 5 → bitB s p = true → 2 ^ p ≤ s ∧ (2 ^ p &&& s == 2 ^ p) = true ∧ ∀ q, q < 5 → bitB (s - 2 ^ p) q = (bitB s q && !decide (q = p)) := by decide
theorem mem_less {s p : Nat} (hs : s < 32) (hp : p ∈ setL s) (q : Nat) : q ∈ setL (s - 2 ^ p) ↔ q ∈ setL s ∧ q ≠ p := by
  obtain ⟨h5, hb⟩ := mem_setL.1 hp
  have h := (bits_one s hs p h5 hb).2.2
  rw [mem_setL, mem_setL]
  constructor
  · rintro ⟨a, b⟩
    rw [h q a, Bool.and_eq_true, Bool.not_eq_true', decide_eq_false_iff_not] at b
    exact ⟨⟨a, b.1⟩, b.2⟩
  · rintro ⟨⟨a, b⟩, c⟩
    exact ⟨a, by rw [h q a, b]; simp [c]⟩
def EndAt (y : S48) (Q : List S50) (s : Nat) (e : Int) : Prop :=
  (e = 99 ∧ ∀ pos, ¬ LiesOn y Q (· ∈ setL s) pos) ∨
  (e < 99 ∧ 0 ≤ e ∧ (∃ pos, LiesOn y Q (· ∈ setL s) pos ∧ ∀ p, p ∈ setL s → (pos p + lenQ Q p : Nat) ≤ e) ∧ ∀ pos, LiesOn y Q (· ∈ setL s) pos → ∀ M : Int, 0 ≤ M → (∀ p, p ∈ setL s → (pos p + lenQ Q p : Nat) ≤ M) → e ≤ M)
theorem EndAt.zero (y : S48) (Q : List S50) : EndAt y Q 0 0 := by
  have e := (set_empty (by omega : 0 < 32)).2 rfl
  refine .inr ⟨by omega, by omega, ⟨fun _ => 0, ⟨fun p hp => ?_, fun p q hp => ?_⟩, fun p hp => ?_⟩, fun _ _ M h _ => h⟩
  all_goals (rw [e] at hp; simp at hp)
theorem EndAt.step {y : S48} {Q : List S50} {s : Nat} (hs : s < 32) (h0 : s ≠ 0) (hy : y.f0 ≤ 16) (hL : ∀ p ∈ setL s, 1 ≤ (Q.getD p z50).f0) {E : Nat → Int} (hE : ∀ p ∈ setL s, EndAt y Q (s - 2 ^ p) (E p)) {e : Int} (h3 : e ≤ 99)
    (h1 : e = 99 ∨ ∃ p ∈ setL s, ∃ a ∈ spotsL y (Q.getD p z50), E p ≤ (a : Int) ∧ e = (a : Int) + (Q.getD p z50).f0)
    (h2 : ∀ p ∈ setL s, ∀ a ∈ spotsL y (Q.getD p z50), E p ≤ (a : Int) → e ≤ (a : Int) + (Q.getD p z50).f0) : EndAt y Q s e := by
  have hlen : ∀ p ∈ setL s, ((lenQ Q p : Nat) : Int) = (Q.getD p z50).f0 := fun p hp => by have := hL p hp; unfold lenQ; omega
  have key : ∀ pos, LiesOn y Q (· ∈ setL s) pos → ∃ p ∈ setL s, e ≤ (pos p + lenQ Q p : Nat) ∧ (pos p + lenQ Q p : Nat) ≤ (16 : Int) := by
    intro pos hl
    obtain ⟨p, hp, hm⟩ := greatest_of (f := pos) (setL s) (fun h => h0 ((set_empty hs).1 h))
    have hsp := hl.1 p hp
    have hsl := (spot_lt hsp).1
    have hlp := hlen p hp
    have hrest : ∀ q, q ∈ setL (s - 2 ^ p) → pos q + lenQ Q q ≤ pos p := fun q hq => by
      obtain ⟨hqs, hne⟩ := (mem_less hs hp q).1 hq
      rcases hl.2 q p hqs hp hne with h | h
      · exact h
      · have := hm q hqs
        have := hlen p hp
        have := hL p hp
        omega
    have hlr : LiesOn y Q (· ∈ setL (s - 2 ^ p)) pos := ⟨fun q hq => hl.1 q ((mem_less hs hp q).1 hq).1, fun q r hq hr hne => hl.2 q r ((mem_less hs hp q).1 hq).1 ((mem_less hs hp r).1 hr).1 hne⟩
    have hep : E p ≤ (pos p : Int) := by
      rcases hE p hp with ⟨_, hno⟩ | ⟨_, _, _, hmin⟩
      · exact absurd hlr (hno pos)
      · exact hmin pos hlr (pos p) (by omega) (fun q hq => by have := hrest q hq; omega)
    have := h2 p hp (pos p) ((mem_spots (hL p hp)).2 hsp) hep
    exact ⟨p, hp, by omega, by omega⟩
  rcases h1 with rfl | ⟨p, hp, a, ha, hle, rfl⟩
  · refine .inl ⟨rfl, fun pos hl => ?_⟩
    obtain ⟨p, _, h, h'⟩ := key pos hl
    omega
  · have hsp := (mem_spots (hL p hp)).1 ha
    have hsl := (spot_lt hsp).1
    have hlp := hlen p hp
    have hl1 := hL p hp
    refine .inr ⟨by omega, by omega, ?_, fun pos hl M _ hM => ?_⟩
    · rcases hE p hp with ⟨e99, _⟩ | ⟨_, _, ⟨pos, hl, hends⟩, _⟩
      · omega
      · refine ⟨fun q => if q = p then a else pos q, ⟨fun q hq => ?_, fun q r hq hr hne => ?_⟩, fun q hq => ?_⟩
        · by_cases h : q = p
          · subst h; simpa using hsp
          · simp only [h, if_false]; exact hl.1 q ((mem_less hs hp q).2 ⟨hq, h⟩)
        · unfold Apart
          by_cases h : q = p
          · subst h
            have hr' := (mem_less hs hp r).2 ⟨hr, fun e => hne e.symm⟩
            simp only [if_true, if_neg (fun e => hne e.symm : ¬ r = q)]
            have := hends r hr'
            right; omega
          · by_cases h' : r = p
            · subst h'
              have hq' := (mem_less hs hp q).2 ⟨hq, h⟩
              simp only [if_true, if_neg h]
              have := hends q hq'
              left; omega
            · simp only [h, h', if_false]
              exact hl.2 q r ((mem_less hs hp q).2 ⟨hq, h⟩) ((mem_less hs hp r).2 ⟨hr, h'⟩) hne
        · by_cases h : q = p
          · subst h; simp only [if_true]; omega
          · simp only [h, if_false]
            have := hends q ((mem_less hs hp q).2 ⟨hq, h⟩)
            omega
    · obtain ⟨q, hq, h, _⟩ := key pos hl
      have := hM q hq
      omega
theorem EndAt.laid {y : S48} {Q : List S50} {s : Nat} {e : Int} (hL : ∀ p ∈ setL s, 1 ≤ (Q.getD p z50).f0) (h : EndAt y Q s e) : decide (e < 99) = (laidB y Q (setL s)).isSome ∧ (e = 99 ↔ laidB y Q (setL s) = none) := by
  have hi := laid_iff (y := y) (setL_nodup s) hL
  rcases h with ⟨rfl, h⟩ | ⟨h1, _, ⟨pos, h2, _⟩, _⟩
  · have hn : laidB y Q (setL s) = none := by
      cases hc : laidB y Q (setL s) with
      | none => rfl
      | some o => rw [hc] at hi; obtain ⟨pos, hp⟩ := hi.1 rfl; exact absurd hp (h pos)
    rw [hn]; simp
  · have hs := hi.2 ⟨pos, h2⟩
    rw [hs]
    refine ⟨by simpa using h1, ⟨fun e => by omega, fun e => by rw [e] at hs; simp at hs⟩⟩
theorem cuts_weaker {P P' : List S48} {Q Q' : List S50} {l l' : List Nat} {S S' : Nat → Prop} {a pos : Nat → Nat} (h : Cuts P Q l S a pos) (hl : ∀ i, i ∈ l → i ∈ l') (hS : ∀ p, S' p → S p)
    (hsp : ∀ i p n, i ∈ l → S' p → spotB (P.getD i z48) (Q.getD p z50) n = true → spotB (P'.getD i z48) (Q'.getD p z50) n = true) (hlen : ∀ p, S' p → lenQ Q' p = lenQ Q p) : Cuts P' Q' l' S' a pos :=
  ⟨fun p hp => ⟨hl _ (h.1 p (hS p hp)).1, hsp _ _ _ (h.1 p (hS p hp)).1 hp (h.1 p (hS p hp)).2⟩, fun p q hp hq hne he => by
    have := h.2 p q (hS p hp) (hS q hq) hne he
    unfold Apart at *
    rw [hlen p hp, hlen q hq]
    exact this⟩
theorem full_bits : ∀ n, n ≤ 5 → ∀ q, q < 5 → bitB (2 ^ n - 1) q = decide (q < n) := by decide
theorem mem_full {n : Nat} (hn : n ≤ 5) (q : Nat) : q ∈ setL (2 ^ n - 1) ↔ q < n := by
  rw [mem_setL]
  constructor
  · rintro ⟨a, b⟩; rw [full_bits n hn q a] at b; simpa using b
  · intro h; exact ⟨by omega, by rw [full_bits n hn q (by omega)]; simpa using h⟩
theorem Ok.part1 {P : List S48} {Q : List S50} (h : Ok P Q) (p : Nat) (hp : p < Q.length) : 1 ≤ (Q.getD p z50).f0 := (h.shape _ (by rw [show Q.getD p z50 = Q[p] from by simp [hp]]; exact List.getElem_mem hp)).1
theorem lt32 {n s : Nat} (hn : n ≤ 5) (hs : s < 2 ^ n) : s < 32 := Nat.lt_of_lt_of_le hs (Nat.pow_le_pow_right (by omega : 0 < 2) hn)
theorem Ok.cut {P : List S48} {Q : List S50} (h : Ok P Q) (t : Nat) (s : Nat) (hs : s < 2 ^ Q.length) : cutB P Q (setL t) s = true ↔ ∃ a pos, Cuts P Q (setL t) (· ∈ setL s) a pos :=
  cut_iff h.part1 (setL t) (setL_nodup t) s (lt32 h.q5 hs) (fun p hp => setL_lt hs hp)
end Go.Proofs.YtekjlpldooihhaaDoorP
namespace Go.Proofs.YtekjlpldooihhaaDoorP
open Go.RowKit Go.Proofs.YtekjlpldooihhaaDoorW.PrintWords Go.Proofs.YtekjlpldooihhaaDoorH Go.Proofs.YtekjlpldooihhaaDoorEv Go.Proofs.YtekjlpldooihhaaDoor.PA
set_option linter.unusedVariables false
set_option linter.unusedSimpArgs false
theorem setL_le : ∀ n, n ≤ 5 → ∀ s, s < 2 ^ n → (setL s).length ≤ n := by decide
def pick {α : Type} (z : α) (L : List α) (u : Nat) : List α := (setL u).map fun i => L.getD i z
theorem pick_length {α : Type} (z : α) (L : List α) (u : Nat) : (pick z L u).length = (setL u).length := by simp [pick]
theorem pick_getD {α : Type} (z : α) (L : List α) (u : Nat) {i : Nat} (hi : i < (setL u).length) : (pick z L u).getD i z = L.getD ((setL u).getD i 0) z := by simp [pick, hi]
theorem pick_mem {α : Type} {z : α} {L : List α} {u : Nat} (hu : ∀ i ∈ setL u, i < L.length) {x : α} (hx : x ∈ pick z L u) : x ∈ L := by
  unfold pick at hx
  obtain ⟨i, hi, rfl⟩ := List.mem_map.1 hx
  have := hu i hi
  rw [show L.getD i z = L[i] from by simp [this]]
  exact List.getElem_mem _
theorem Ok.pick {P : List S48} {Q : List S50} (h : Ok P Q) {u v : Nat} (hu : u < 2 ^ P.length) (hv : v < 2 ^ Q.length) : Ok (pick z48 P u) (pick z50 Q v) := by
  have h3 := h.p3
  have h5 := h.q5
  refine ⟨?_, ?_, fun y hy => h.wood y (pick_mem (fun i hi => setL_lt hu hi) hy), fun x hx => h.shape x (pick_mem (fun i hi => setL_lt hv hi) hx)⟩
  · rw [pick_length]; have := setL_le P.length (by omega) u hu; omega
  · rw [pick_length]; have := setL_le Q.length h5 v hv; omega
theorem getD_mem0 {l : List Nat} {i : Nat} (hi : i < l.length) : l.getD i 0 ∈ l := by rw [show l.getD i 0 = l[i] from by simp [hi]]; exact List.getElem_mem _
theorem idx_lt {l : List Nat} {p : Nat} (hp : p ∈ l) : l.idxOf p < l.length := List.idxOf_lt_length_iff.2 hp
theorem getD_idx {l : List Nat} {p : Nat} (hp : p ∈ l) : l.getD (l.idxOf p) 0 = p := by
  have h := idx_lt hp
  rw [show l.getD (l.idxOf p) 0 = l[l.idxOf p] from by simp [h]]
  exact List.getElem_idxOf h
theorem idx_getD {l : List Nat} (hn : l.Nodup) {i : Nat} (hi : i < l.length) : l.idxOf (l.getD i 0) = i := by
  rw [show l.getD i 0 = l[i] from by simp [hi]]
  exact List.Nodup.idxOf_getElem hn i hi
theorem cut_pick {P : List S48} {Q : List S50} (h : Ok P Q) {u v : Nat} (hu : u < 2 ^ P.length) (hv : v < 2 ^ Q.length) :
    cutB (pick z48 P u) (pick z50 Q v) (setL (2 ^ (pick z48 P u).length - 1)) (2 ^ (pick z50 Q v).length - 1) = cutB P Q (setL u) v := by
  have hok := h.pick hu hv
  have h3 : (setL u).length ≤ 5 := by have := hok.p3; rw [pick_length] at this; omega
  have h5 : (setL v).length ≤ 5 := by have := hok.q5; rwa [pick_length] at this
  have hpow : 0 < 2 ^ (pick z50 Q v).length := Nat.pos_of_ne_zero (by simp)
  rw [Bool.eq_iff_iff, hok.cut _ _ (by omega), h.cut _ _ hv, pick_length, pick_length]
  have hlen : ∀ i, i < (setL v).length → lenQ (pick z50 Q v) i = lenQ Q ((setL v).getD i 0) := fun i hi => by unfold lenQ; rw [pick_getD _ _ _ hi]
  have hun := setL_nodup u
  have hvn := setL_nodup v
  constructor
  · rintro ⟨a, pos, h1, h2⟩
    refine ⟨fun p => (setL u).getD (a ((setL v).idxOf p)) 0, fun p => pos ((setL v).idxOf p), fun p hp => ?_, fun p q hp hq hne he => ?_⟩
    · have hi := idx_lt hp
      obtain ⟨h3', h4⟩ := h1 _ ((mem_full h5 _).2 hi)
      have hj := (mem_full h3 _).1 h3'
      rw [pick_getD _ _ _ hj, pick_getD _ _ _ hi, getD_idx hp] at h4
      exact ⟨getD_mem0 hj, h4⟩
    · have hi := idx_lt hp
      have hi' := idx_lt hq
      have hj := (mem_full h3 _).1 (h1 _ ((mem_full h5 _).2 hi)).1
      have hj' := (mem_full h3 _).1 (h1 _ ((mem_full h5 _).2 hi')).1
      have e : a ((setL v).idxOf p) = a ((setL v).idxOf q) := by
        have := congrArg (setL u).idxOf he
        simp only at this
        rwa [idx_getD hun hj, idx_getD hun hj'] at this
      have hne' : (setL v).idxOf p ≠ (setL v).idxOf q := fun e' => hne (by rw [← getD_idx hp, ← getD_idx hq, e'])
      have := h2 _ _ ((mem_full h5 _).2 hi) ((mem_full h5 _).2 hi') hne' e
      unfold Apart at this ⊢
      rwa [hlen _ hi, hlen _ hi', getD_idx hp, getD_idx hq] at this
  · rintro ⟨a, pos, h1, h2⟩
    refine ⟨fun i => (setL u).idxOf (a ((setL v).getD i 0)), fun i => pos ((setL v).getD i 0), fun i hi => ?_, fun i j hi hj hne he => ?_⟩
    · have hi := (mem_full h5 _).1 hi
      obtain ⟨h3', h4⟩ := h1 _ (getD_mem0 hi)
      have hk := idx_lt h3'
      refine ⟨(mem_full h3 _).2 hk, ?_⟩
      rw [pick_getD _ _ _ hk, pick_getD _ _ _ hi, getD_idx h3']
      exact h4
    · have hi := (mem_full h5 _).1 hi
      have hj := (mem_full h5 _).1 hj
      have hk := (h1 _ (getD_mem0 hi)).1
      have hk' := (h1 _ (getD_mem0 hj)).1
      have hne' : (setL v).getD i 0 ≠ (setL v).getD j 0 := fun e => hne (by rw [← idx_getD hvn hi, ← idx_getD hvn hj, e])
      have e : a ((setL v).getD i 0) = a ((setL v).getD j 0) := by
        have := congrArg (fun k => (setL u).getD k 0) he
        simp only at this
        rwa [getD_idx hk, getD_idx hk'] at this
      have := h2 _ _ (getD_mem0 hi) (getD_mem0 hj) hne' e
      unfold Apart at this ⊢
      rwa [hlen _ hi, hlen _ hj]
end Go.Proofs.YtekjlpldooihhaaDoorP
