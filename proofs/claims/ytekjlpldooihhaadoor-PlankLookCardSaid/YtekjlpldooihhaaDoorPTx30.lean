/- Package plank, plain laws: PlankLook. -/
import Derived.Test.YtekjlpldooihhaaDoorWTab
import Derived.Test.YtekjlpldooihhaaDoorSv
import Derived.Test.YtekjlpldooihhaaDoorPTx17
import Derived.Test.YtekjlpldooihhaaDoorPTx23
import Derived.Test.YtekjlpldooihhaaDoorRa
namespace Go.Proofs.YtekjlpldooihhaaDoor.PT
open Go.Proofs.YtekjlpldooihhaaDoorSh
open Go.Proofs.YtekjlpldooihhaaDoor.PA (S48 S50 S60 at_L2 at_L4 at_T48 at_T50 at_T60 errW errW_none errW_some k48 k48_mk k48_mkM k48_open k48_openM k50 k50_mk k50_mkM k50_open k50_openM k60 k60_mk k60_mkM k60_open k60_openM rd_L2 rd_L4 rd_T48 rd_T50 rd_T60 z48 z50 z60)
open Go.Proofs.YtekjlpldooihhaaDoorP Go.Proofs.YtekjlpldooihhaaDoorK
open Go.RowKit Go.Proofs.YtekjlpldooihhaaDoorW.PrintWords Go.Proofs.YtekjlpldooihhaaDoorW.PrintLast Go.Proofs.YtekjlpldooihhaaDoorW.PrintMore
attribute [local go_sem] max2_int min2_int max_two min_two max_three min_three max_four min_four   -- for this text's walks alone
set_option linter.unusedVariables false
set_option linter.unusedSimpArgs false
mutual
def skewbaldlaw01_PlankLook.l0 : Nat → Int → Int → Int → Int → Int → List (S48) → List (S50) → Int → Int → Option (Bool)
 | 0, _, _, _, _, _, _, _, _, _ => none
 | k + 1, x5, x6, x7, x8, x9, x627000, x627001, x628000, x628001 => if x9 < (x627000.length : Int) then (if 0 ≤ x9 then (skewbaldlaw01_PlankLook.l0 k x5 x6 x7 (wrap64 (x8 + (((rd_T48 x627000 x9).f1).length : Int))) (wrap64 (x9 + 1)) x627000 x627001 x628000 x628001) else (none)) else (if ((x7 == 4) != (x8 == 0)) = true then (skewbaldlaw01_PlankLook.j1 k x5 x6 x7 true x627000 x627001 x628000 x628001) else (if x7 = 0 then (skewbaldlaw01_PlankLook.j1 k x5 x6 x7 false x627000 x627001 x628000 x628001) else (if x7 = 4 then (if x5 = 0 then (skewbaldlaw01_PlankLook.j1 k x5 x6 x7 (x6 != 0) x627000 x627001 x628000 x628001) else (skewbaldlaw01_PlankLook.j1 k x5 x6 x7 true x627000 x627001 x628000 x628001)) else (skewbaldlaw01_PlankLook.j1 k x5 x6 x7 true x627000 x627001 x628000 x628001))))
def skewbaldlaw01_PlankLook.j1 : Nat → Int → Int → Int → Bool → List (S48) → List (S50) → Int → Int → Option (Bool)
 | 0, _, _, _, _, _, _, _, _ => none
 | k + 1, x5, x6, x7, x70, x627000, x627001, x628000, x628001 => if x70 = true then (some false) else (if x7 = 0 then ((skewbaldref00_In.f x5 0 (wrap64 ((x627000.length : Int) - 1))).bind fun t635 => (if t635 = true then (if 0 ≤ x5 then (if x5 < (x627000.length : Int) then ((skewbaldref00_In.f x6 0 (wrap64 ((((rd_T48 x627000 x5).f1).length : Int) - 1))).bind fun t637 => (skewbaldlaw01_PlankLook.j2 k x5 x6 (!t637) x627000 x627001 x628000 x628001)) else (none)) else (none)) else (skewbaldlaw01_PlankLook.j2 k x5 x6 true x627000 x627001 x628000 x628001))) else ((skewbaldlaw01_sawn.f).bind fun t634 => (some t634)))
def skewbaldlaw01_PlankLook.j2 : Nat → Int → Int → Bool → List (S48) → List (S50) → Int → Int → Option (Bool)
 | 0, _, _, _, _, _, _, _ => none
 | k + 1, x5, x6, x93, x627000, x627001, x628000, x628001 => if x93 = true then (some false) else ((skewbaldref00_Round.f x628000 (x627000.length : Int)).bind fun t638 => (if 0 ≤ t638 then (if t638 < (x627000.length : Int) then (if (((rd_T48 x627000 t638).f1).length : Int) = 0 then ((skewbaldlaw01_sawn.f).bind fun t640 => (some t640)) else ((skewbaldref00_Round.f x628001 (((rd_T48 x627000 t638).f1).length : Int)).bind fun t642 => ((skewbaldlaw01_worst.f k x627000 x627001 x5 x6).bind fun t643 => ((skewbaldlaw01_worst.f k x627000 x627001 t638 t642).bind fun t644 => (if t643 ≥ 0 then (if t644 ≥ 0 then (if t643 > t644 then ((skewbaldlaw01_sawn.f).bind fun t645 => (some t645)) else (if t643 = t644 then (if x5 < t638 then ((skewbaldlaw01_sawn.f).bind fun t646 => (some t646)) else (if x5 = t638 then (if x6 ≤ t642 then ((skewbaldlaw01_sawn.f).bind fun t647 => (some t647)) else (some false)) else (some false))) else (some false))) else (some false)) else (some false)))))) else (none)) else (none)))
end
def skewbaldlaw01_PlankLook.f (k : Nat) (l0_0 : List (S48)) (l0_1 : List (S50)) (a1_0 : Int) (a1_1 : Int) : Option (Bool) := (plank_Look.f l0_0 l0_1).bind fun bt628 => ((skewbaldlaw01_sound.f k l0_0 l0_1).bind fun t631 => (if t631 = true then (skewbaldlaw01_PlankLook.l0 k bt628.1 bt628.2.1 bt628.2.2 0 0 l0_0 l0_1 a1_0 a1_1) else (if bt628.2.2 = 10 then (if (wrap64 (bt628.1 + bt628.2.1)) = 0 then ((skewbaldlaw01_sawn.f).bind fun t632 => (some t632)) else (some false)) else (some false))))
def skewbaldlaw01_PlankLook.T18 : Bool × List (List Nat × List Nat) := (true, [([], []), ([0], [0]), ([], []), ([2], [2]), ([], []), ([3, 4], [3, 4]), ([5], [5]), ([6], [6]), ([7], [7]), ([1, 8], [1, 8]), ([9, 9, 0, 1, 2, 3, 4, 5, 6, 7, 8, 9], [9])])
def skewbaldlaw01_PlankLook.B18 : List Nat := [0, 1, 0, 4, 0, 28, 60, 124, 252, 511, 1023]
theorem skewbaldlaw01_PlankLook.tab18 : rtab .any (opsOf Tryd.f12 18) = skewbaldlaw01_PlankLook.T18 := by kernel_rfl
theorem skewbaldlaw01_PlankLook.bits18 : waitsOk skewbaldlaw01_PlankLook.T18.2 skewbaldlaw01_PlankLook.B18 = true := by kernel_rfl
def skewbaldlaw01_PlankLook.T19 : Bool × List (List Nat × List Nat) := (true, [([], []), ([], []), ([], []), ([0, 1, 2], [0, 1, 2]), ([], []), ([], []), ([], []), ([4, 5, 6, 3], [4, 5, 6]), ([3, 7, 0, 1, 2, 3], [3]), ([7, 8, 0, 1, 2, 3, 4, 5, 6, 7, 8], [7])])
def skewbaldlaw01_PlankLook.B19 : List Nat := [0, 0, 0, 7, 0, 0, 0, 127, 255, 511]
theorem skewbaldlaw01_PlankLook.tab19 : rtab .any (opsOf Tryd.f12 19) = skewbaldlaw01_PlankLook.T19 := by kernel_rfl
theorem skewbaldlaw01_PlankLook.bits19 : waitsOk skewbaldlaw01_PlankLook.T19.2 skewbaldlaw01_PlankLook.B19 = true := by kernel_rfl
set_option maxHeartbeats 8000000 in
set_option maxRecDepth 100000 in
theorem skewbaldlaw01_PlankLook.calls (k : Nat) (A0_0 : Option Addr) (c0_0 : Nat) (l0_0 : List (S48)) (A0_1 : Option Addr) (c0_1 : Nat) (l0_1 : List (S50)) (a1_0 : Int) (a1_1 : Int) (w : World) (hr0_0 : Kd.C k48 w A0_0 l0_0.length l0_0) (hc0_0 : l0_0.length ≤ c0_0) (hr0_1 : Kd.C k50 w A0_1 l0_1.length l0_1) (hc0_1 : l0_1.length ≤ c0_1) (hG : Glob w) (h : skewbaldlaw01_PlankLook.f k l0_0 l0_1 a1_0 a1_1 = some true) :
  Calls Tryd.prog 12 #[.agg #[.slice A0_0 l0_0.length c0_0, .slice A0_1 l0_1.length c0_1], .agg #[.int .i64 a1_0, .int .i64 a1_1]] w fun e w' => e = .returned (.bool true) ∧ Below w.heap.size w w' := by
 have hu25 := Tryd.underlying25
 have hu69 := Tryd.underlying69
 have HR0_0 := Aside0.mk hr0_0
 have HC0_0 := Aside0.mk hc0_0
 clear hr0_0 hc0_0
 have HR0_1 := Aside0.mk hr0_1
 have HC0_1 := Aside0.mk hc0_1
 clear hr0_1 hc0_1
 have HGL := Aside0.mk hG
 clear hG
 have HB := Aside0.mk (Below.refl w.heap.size w)
 have H : ((plank_Look.f l0_0 l0_1).bind fun bt628 => ((skewbaldlaw01_sound.f k l0_0 l0_1).bind fun t631 => (if t631 = true then (skewbaldlaw01_PlankLook.l0 k bt628.1 bt628.2.1 bt628.2.2 0 0 l0_0 l0_1 a1_0 a1_1) else (if bt628.2.2 = 10 then (if (wrap64 (bt628.1 + bt628.2.1)) = 0 then ((skewbaldlaw01_sawn.f).bind fun t632 => (some t632)) else (some false)) else (some false))))) = some true := h
 clear h
 replace H := Option.bind_eq_some_iff.mp H
 obtain ⟨⟨t628, t629, t630⟩, A30, H⟩ := H
 replace H : ((skewbaldlaw01_sound.f k l0_0 l0_1).bind fun t631 => (if t631 = true then (skewbaldlaw01_PlankLook.l0 k t628 t629 t630 0 0 l0_0 l0_1 a1_0 a1_1) else (if t630 = 10 then (if (wrap64 (t628 + t629)) = 0 then ((skewbaldlaw01_sawn.f).bind fun t632 => (some t632)) else (some false)) else (some false)))) = some true := H
 have A3 := Aside0.mk A30
 clear A30
 replace H := Option.bind_eq_some_iff.mp H
 obtain ⟨t631, A40, H⟩ := H
 replace H : (if t631 = true then (skewbaldlaw01_PlankLook.l0 k t628 t629 t630 0 0 l0_0 l0_1 a1_0 a1_1) else (if t630 = 10 then (if (wrap64 (t628 + t629)) = 0 then ((skewbaldlaw01_sawn.f).bind fun t632 => (some t632)) else (some false)) else (some false))) = some true := H
 have A4 := Aside0.mk A40
 clear A40
 by_cases c5 : t631 = true
 ·subst c5
  have H1 : (skewbaldlaw01_PlankLook.l0 k t628 t629 t630 0 0 l0_0 l0_1 a1_0 a1_1) = some true := by rw [if_pos rfl] at H; exact H
  clear H
  have H := H1
  clear H1
  have H' := Aside0.mk H
  clear H
  go_enter Tryd.func12, Tryd.ntmps12
  go_wp2_with (first | ((with_reducible refine gate_dst (N := 2) rfl ?_); (try (refine gate_guard (by rfl) ?_; dsimp only)); refine box_event ?hg (N := 2) ?hd (cs := #[.slice A0_0 l0_0.length c0_0, .slice A0_1 l0_1.length c0_1]) (t := 25) ?hr ?_; (case hd => rfl); (case hg => rfl); (case hr => first | (go_simp; done) | (go_simp; rfl)); intro gb626 hg w6 hbox hb; have n0_ := Aside0.mk (below_step bl hb); have n1_ := Aside0.mk (hbox); have n2_ := Aside0.mk ((by rw [hg]; exact (below_size bl) : w.heap.size ≤ gb626)); have n3_ := Aside0.mk ((by rw [hg]; exact (below_size bl) : w.heap.size ≤ gb626)); clear HB; have HB := n0_; have BK626 := n1_; have GW626 := n2_; have GE626 := n3_; clear n0_ n1_ n2_ n3_; clear hb hbox hg) | ((with_reducible refine gate_dst (N := 3) rfl ?_); (try (refine gate_guard (by rfl) ?_; dsimp only)); refine box_event ?hg (N := 3) ?hd (cs := #[.int .i64 a1_0, .int .i64 a1_1]) (t := 69) ?hr ?_; (case hd => rfl); (case hg => rfl); (case hr => first | (go_simp; done) | (go_simp; rfl)); intro gb627 hg w7 hbox hb; have n0_ := Aside0.mk (blk_below (g := gb626) (o := .cells #[.slice A0_0 l0_0.length c0_0, .slice A0_1 l0_1.length c0_1] 25 (0, 0)) bk hb); have n1_ := Aside0.mk (below_step bl hb); have n2_ := Aside0.mk (hbox); have n3_ := Aside0.mk ((by rw [hg]; exact (below_size bl) : w.heap.size ≤ gb627)); have n4_ := Aside0.mk ((by rw [hg]; exact (below_size bl) : w.heap.size ≤ gb627)); have n5_ := Aside0.mk ((by rw [hg]; exact Nat.ne_of_lt (blk_lt (g := gb626) (o := .cells #[.slice A0_0 l0_0.length c0_0, .slice A0_1 l0_1.length c0_1] 25 (0, 0)) bk) : gb626 ≠ gb627)); have n6_ := Aside0.mk ((by rw [hg]; exact Nat.ne_of_gt (blk_lt (g := gb626) (o := .cells #[.slice A0_0 l0_0.length c0_0, .slice A0_1 l0_1.length c0_1] 25 (0, 0)) bk) : gb627 ≠ gb626)); clear BK626; clear HB; have BK626 := n0_; have HB := n1_; have BK627 := n2_; have GW627 := n3_; have GE627 := n4_; have NB626_627 := n5_; have NB627_626 := n6_; clear n0_ n1_ n2_ n3_ n4_ n5_ n6_; clear hb hbox hg; have hnb8 := NB626_627.out; have hnc8 := NB627_626.out; have hcz9_0 : w7.cell? ⟨gb626, 0, none⟩ = some (.slice A0_0 l0_0.length c0_0) := (blk_cell BK626.out 0).trans rfl; have hcz9_1 : w7.cell? ⟨gb626, 1, none⟩ = some (.slice A0_1 l0_1.length c0_1) := (blk_cell BK626.out 1).trans rfl; have hfz9_0 := blk_frozen BK626.out 0; have hfz9_1 := blk_frozen BK626.out 1) | ((with_reducible refine gate_callee (f := 32) rfl ?_); refine goesL_ (some 16) rfl rfl Tryd.func32 (by kernel_rfl) rfl #[.agg #[.slice A0_0 l0_0.length c0_0, .slice A0_1 l0_1.length c0_1]] rfl (by (try simp only [List.map_toArray, List.map_cons, List.map_nil]); first | done | rfl | (simp only [List.length_drop, List.length_take]; rfl)) ?_; (with_reducible refine (plank_Look.calls _ _ l0_0 _ _ l0_1 t628 t629 t630 _ ?side1 ?side2 ?side3 ?side4 ?side5 A3.out).mono ?_); (case side1 => exact cl); (case side2 => exact HC0_0.out); (case side3 => exact cl); (case side4 => exact HC0_1.out); (case side5 => exact Glob.below HGL.out bl); rintro e w10 ⟨rfl, hb⟩; refine ⟨_, rfl, ?_⟩; have n0_ := Aside0.mk (blk_below (g := gb626) (o := .cells #[.slice A0_0 l0_0.length c0_0, .slice A0_1 l0_1.length c0_1] 25 (0, 0)) bk hb); have n1_ := Aside0.mk (blk_below (g := gb627) (o := .cells #[.int .i64 a1_0, .int .i64 a1_1] 69 (0, 0)) bk hb); have n2_ := Aside0.mk (below_step bl hb); clear BK626; clear BK627; clear HB; have BK626 := n0_; have BK627 := n1_; have HB := n2_; clear n0_ n1_ n2_; (try clear hb); (try clear hb2); (try clear hk); (try clear hi); have hcz11_0 : w10.cell? ⟨gb626, 0, none⟩ = some (.slice A0_0 l0_0.length c0_0) := (blk_cell BK626.out 0).trans rfl; have hcz11_1 : w10.cell? ⟨gb626, 1, none⟩ = some (.slice A0_1 l0_1.length c0_1) := (blk_cell BK626.out 1).trans rfl; have hfz11_0 := blk_frozen BK626.out 0; have hfz11_1 := blk_frozen BK626.out 1) | ((with_reducible refine gate_callee (f := 34) rfl ?_); refine goesL_ (some 21) rfl rfl Tryd.func34 (by kernel_rfl) rfl #[.agg #[.slice A0_0 l0_0.length c0_0, .slice A0_1 l0_1.length c0_1]] rfl (by (try simp only [List.map_toArray, List.map_cons, List.map_nil]); first | done | rfl | (simp only [List.length_drop, List.length_take]; rfl)) ?_; (with_reducible refine (skewbaldlaw01_sound.calls k _ _ l0_0 _ _ l0_1 true _ ?side1 ?side2 ?side3 ?side4 A4.out).mono ?_); (case side1 => exact cl); (case side2 => exact HC0_0.out); (case side3 => exact cl); (case side4 => exact HC0_1.out); rintro e w12 ⟨rfl, hb⟩; refine ⟨_, rfl, ?_⟩; have n0_ := Aside0.mk (blk_below (g := gb626) (o := .cells #[.slice A0_0 l0_0.length c0_0, .slice A0_1 l0_1.length c0_1] 25 (0, 0)) bk hb); have n1_ := Aside0.mk (blk_below (g := gb627) (o := .cells #[.int .i64 a1_0, .int .i64 a1_1] 69 (0, 0)) bk hb); have n2_ := Aside0.mk (below_step bl hb); clear BK626; clear BK627; clear HB; have BK626 := n0_; have BK627 := n1_; have HB := n2_; clear n0_ n1_ n2_; (try clear hb); (try clear hb2); (try clear hk); (try clear hi)))
  go_loopg [8, 9] k (fun kq v8 v9 w' => ∃ (x8_1 : Int) (x9_1 : Int), v8 = .int .i64 x8_1 ∧ v9 = .int .i64 x9_1 ∧ Aside0 (skewbaldlaw01_PlankLook.l0 kq t628 t629 t630 x8_1 x9_1 l0_0 l0_1 a1_0 a1_1 = some true) ∧ Aside0 (kq ≤ k) ∧ Aside0 (w'.heap[gb626]? = some (.cells #[(.slice A0_0 l0_0.length c0_0), (.slice A0_1 l0_1.length c0_1)] 25 (0, 0))) ∧ Aside0 (w'.heap[gb627]? = some (.cells #[.int .i64 a1_0, .int .i64 a1_1] 69 (0, 0))) ∧ Aside0 (Below w.heap.size w w'))
  case atStart => exact ⟨(0), (0), (by first | rfl | (simp; done) | (simp [*]; done)), (by first | rfl | (simp; done) | (simp [*]; done)), H', ⟨Nat.le_refl _⟩, ⟨bk⟩, ⟨bk⟩, ⟨bl⟩⟩
  case round =>
   clear H'
   try clear c1
   try clear p2
   try clear c3
   try clear c5
   try clear p6
   try clear c8
   try clear c12
   try clear hcz11_0
   try clear hcz11_1
   try clear hcz9_0
   try clear hcz9_1
   try clear hfz11_0
   try clear hfz11_1
   try clear hfz9_0
   try clear hfz9_1
   obtain ⟨x8_1, x9_1, rfl, rfl, HA, HK1, BK626, BK627, HB⟩ := hrel
   cases gk with
   | zero => exact absurd HA.out (by simp [skewbaldlaw01_PlankLook.l0])
   | succ k1 =>
    have H := HA.out
    clear HA
    simp only [skewbaldlaw01_PlankLook.l0] at H
    by_cases c13 : x9_1 < (l0_0.length : Int)
    ·rw [if_pos c13] at H
     have c13b0 : decide (x9_1 < (l0_0.length : Int)) = true := decide_eq_true c13
     clear c13
     by_cases c14 : 0 ≤ x9_1
     ·rw [if_pos c14] at H
      have c14b0 : decide (0 ≤ x9_1) = true := decide_eq_true c14
      clear c14
      have H' := Aside0.mk H
      clear H
      have hnb15 := NB626_627.out
      have hnc15 := NB627_626.out
      have hcz16_0 : wr.cell? ⟨gb626, 0, none⟩ = some (.slice A0_0 l0_0.length c0_0) := (blk_cell BK626.out 0).trans rfl
      have hcz16_1 : wr.cell? ⟨gb626, 1, none⟩ = some (.slice A0_1 l0_1.length c0_1) := (blk_cell BK626.out 1).trans rfl
      have hfz16_0 := blk_frozen BK626.out 0
      have hfz16_1 := blk_frozen BK626.out 1
      have p633 : 0 ≤ (x9_1 : Int) := of_decide_eq_true (by first | (with_reducible assumption) | assumption)
      have q633 : x9_1 < (l0_0.length : Int) := of_decide_eq_true (by first | (with_reducible assumption) | assumption)
      obtain ⟨ad633, A633_1, c633_1, e633, hx633_0, hx633_1, hl633_1, hi633_1⟩ := at_T48 HR0_0.out x9_1 p633 q633
      cases e633
      replace hx633_0 := (HB.out.cell (World.block_lt_of_cell? w _ hx633_0)).trans hx633_0
      replace hx633_1 := (HB.out.cell (World.block_lt_of_cell? w _ hx633_1)).trans hx633_1
      have HR633_1 := Aside0.mk hi633_1
      have HC633_1 := Aside0.mk hl633_1
      clear hi633_1 hl633_1
      replace p633 := eq_true p633
      replace q633 := eq_true q633
      go_wp2
      go_roundg k1
      case measure => have := HK1.out; omega
      case rel => exact ⟨(wrap64 (x8_1 + (((rd_T48 l0_0 x9_1).f1).length : Int))), (wrap64 (x9_1 + 1)), (by first | rfl | (simp; done) | (simp [*]; done)), (by first | rfl | (simp; done) | (simp [*]; done)), H', ⟨by have := HK1.out; omega⟩, ⟨bk⟩, ⟨bk⟩, ⟨bl⟩⟩
     ·rw [if_neg c14] at H
      exact absurd H (by simp)
    ·rw [if_neg c13] at H
     have c13b0 : decide (x9_1 < (l0_0.length : Int)) = false := decide_eq_false c13
     clear c13
     have HC17 := Aside0.mk H
     clear H
     have hnb18 := NB626_627.out
     have hnc18 := NB627_626.out
     have hcz19_0 : wr.cell? ⟨gb626, 0, none⟩ = some (.slice A0_0 l0_0.length c0_0) := (blk_cell BK626.out 0).trans rfl
     have hcz19_1 : wr.cell? ⟨gb626, 1, none⟩ = some (.slice A0_1 l0_1.length c0_1) := (blk_cell BK626.out 1).trans rfl
     have hfz19_0 := blk_frozen BK626.out 0
     have hfz19_1 := blk_frozen BK626.out 1
     go_upto_region 9 with (fail)
     go_cut [70] (fun v70 wc => ∃ (kq : Nat) (x70_16 : Bool), v70 = .bool x70_16 ∧ Aside0 (skewbaldlaw01_PlankLook.j1 kq t628 t629 t630 x70_16 l0_0 l0_1 a1_0 a1_1 = some true) ∧ Aside0 (kq ≤ k1) ∧ Aside0 (wc.heap[gb626]? = some (.cells #[(.slice A0_0 l0_0.length c0_0), (.slice A0_1 l0_1.length c0_1)] 25 (0, 0))) ∧ Aside0 (wc.heap[gb627]? = some (.cells #[.int .i64 a1_0, .int .i64 a1_1] 69 (0, 0))) ∧ Aside0 (Below w.heap.size w wc))
     case first =>
      have H := HC17.out
      clear HC17
      by_cases c20 : ((t630 == 4) != (x8_1 == 0)) = true
      ·rw [if_pos c20] at H
       have c20b0 : ((t630 == 4) != (x8_1 == 0)) = true := c20
       (try (have c20b1 : decide ((t630 == 4) = (x8_1 == 0)) = false := by simpa using c20))
       (try (have c20b2 : ((t630 == 4) == (x8_1 == 0)) = false := by simpa using c20))
       (try (have c20b3 : ¬ ((t630 == 4) = (x8_1 == 0)) := by simpa using c20))
       clear c20
       (first | rw [c20b0] | (simp only [i64_w, i32_w]; rw [c20b0]) | skip)
       exact absurd H (by rcases k1 with _ | k1 <;> (first | (simp [skewbaldlaw01_PlankLook.j1]; done) | (rcases k1 with _ | k1 <;> simp [skewbaldlaw01_PlankLook.j1])))
      ·rw [if_neg c20] at H
       have c20b0 : ((t630 == 4) != (x8_1 == 0)) = false := by simpa using c20
       (try (have c20b1 : decide ((t630 == 4) = (x8_1 == 0)) = true := by simpa using c20))
       (try (have c20b2 : ((t630 == 4) == (x8_1 == 0)) = true := by simpa using c20))
       clear c20
       (first | rw [c20b0] | (simp only [i64_w, i32_w]; rw [c20b0]) | skip)
       by_cases c21 : t630 = 0
       ·rw [if_pos c21] at H
        have c21b0 : (t630 == 0) = true := beq_iff_eq.mpr c21
        have c21b1 : (t630 != 0) = false := bne_eq_false_iff_eq.mpr c21
        clear c21
        have H' := Aside0.mk H
        clear H
        go_wp2
        go_meet
        case rel => exact ⟨_, (false), (by first | rfl | (simp; done) | (simp [*]; done)), H', ⟨by have := HK1.out; first | omega | exact Nat.le_refl _⟩, ⟨bk⟩, ⟨bk⟩, ⟨bl⟩⟩
       ·rw [if_neg c21] at H
        have c21b0 : (t630 == 0) = false := beq_eq_false_iff_ne.mpr c21
        have c21b1 : (t630 != 0) = true := bne_iff_ne.mpr c21
        by_cases c22 : t630 = 4
        ·rw [if_pos c22] at H
         have c22b0 : (t630 == 4) = true := beq_iff_eq.mpr c22
         have c22b1 : (t630 != 4) = false := bne_eq_false_iff_eq.mpr c22
         obtain rfl : x8_1 = 0 := by
           have h_ := c20b0
           rw [c22b0] at h_
           simpa using h_
         clear c22
         by_cases c23 : t628 = 0
         ·rw [if_pos c23] at H
          have c23b0 : (t628 == 0) = true := beq_iff_eq.mpr c23
          have c23b1 : (t628 != 0) = false := bne_eq_false_iff_eq.mpr c23
          clear c23
          have H' := Aside0.mk H
          clear H
          go_wp2
          go_meet
          case rel => exact ⟨_, ((t629 != 0)), (by first | rfl | (simp; done) | (simp [*]; done)), H', ⟨by have := HK1.out; first | omega | exact Nat.le_refl _⟩, ⟨bk⟩, ⟨bk⟩, ⟨bl⟩⟩
         ·rw [if_neg c23] at H
          have c23b0 : (t628 == 0) = false := beq_eq_false_iff_ne.mpr c23
          have c23b1 : (t628 != 0) = true := bne_iff_ne.mpr c23
          exact absurd H (by rcases k1 with _ | k1 <;> (first | (simp [skewbaldlaw01_PlankLook.j1]; done) | (rcases k1 with _ | k1 <;> simp [skewbaldlaw01_PlankLook.j1])))
        ·rw [if_neg c22] at H
         have c22b0 : (t630 == 4) = false := beq_eq_false_iff_ne.mpr c22
         have c22b1 : (t630 != 4) = true := bne_iff_ne.mpr c22
         exact absurd H (by rcases k1 with _ | k1 <;> (first | (simp [skewbaldlaw01_PlankLook.j1]; done) | (rcases k1 with _ | k1 <;> simp [skewbaldlaw01_PlankLook.j1])))
     case rest =>
      clear HC17
      try clear c1
      try clear c2
      try clear p2
      try clear c3
      try clear c5
      try clear c6
      try clear p6
      try clear q6
      try clear hx6
      try clear c8
      try clear c12
      try clear c13
      try clear c13b0
      try clear c14
      try clear c14b0
      try clear c15
      try clear c18
      try clear c20
      try clear c20b0
      try clear c20b1
      try clear c20b2
      try clear c21
      try clear c21b0
      try clear c21b1
      try clear c22
      try clear c22b0
      try clear c22b1
      try clear c23
      try clear c23b0
      try clear c23b1
      try clear hcz11_0
      try clear hcz11_1
      try clear hcz16_0
      try clear hcz16_1
      try clear hcz19_0
      try clear hcz19_1
      try clear hcz9_0
      try clear hcz9_1
      try clear hfz11_0
      try clear hfz11_1
      try clear hfz16_0
      try clear hfz16_1
      try clear hfz19_0
      try clear hfz19_1
      try clear hfz9_0
      try clear hfz9_1
      try clear hx633_0
      try clear hx633_1
      try clear p2
      try clear p6
      try clear p633
      try clear q633
      obtain ⟨kq, x70_16, rfl, HA, HJ16, BK626, BK627, HB⟩ := hcut
      cases kq with
      | zero => exact absurd HA.out (by simp [skewbaldlaw01_PlankLook.j1])
      | succ kj16 =>
       have H := HA.out
       clear HA
       simp only [skewbaldlaw01_PlankLook.j1] at H
       by_cases c24 : x70_16 = true
       ·subst c24
        have H1 : (some false) = some true := by rw [if_pos rfl] at H; exact H
        clear H
        have H := H1
        clear H1
        exact absurd H (by simp)
       ·replace c24 := Bool.eq_false_iff.mpr c24
        subst c24
        have H1 : (if t630 = 0 then ((skewbaldref00_In.f t628 0 (wrap64 ((l0_0.length : Int) - 1))).bind fun t635 => (if t635 = true then (if 0 ≤ t628 then (if t628 < (l0_0.length : Int) then ((skewbaldref00_In.f t629 0 (wrap64 ((((rd_T48 l0_0 t628).f1).length : Int) - 1))).bind fun t637 => (skewbaldlaw01_PlankLook.j2 kj16 t628 t629 (!t637) l0_0 l0_1 a1_0 a1_1)) else (none)) else (none)) else (skewbaldlaw01_PlankLook.j2 kj16 t628 t629 true l0_0 l0_1 a1_0 a1_1))) else ((skewbaldlaw01_sawn.f).bind fun t634 => (some t634))) = some true := by rw [if_neg (show ¬ (false = true) by decide)] at H; exact H
        clear H
        have H := H1
        clear H1
        by_cases c25 : t630 = 0
        ·rw [if_pos c25] at H
         have c25b0 : (t630 == 0) = true := beq_iff_eq.mpr c25
         have c25b1 : (t630 != 0) = false := bne_eq_false_iff_eq.mpr c25
         clear c25
         have HC26 := Aside0.mk H
         clear H
         go_upto_region 13 with (fail)
         go_cut [93] (fun v93 wc => ∃ (kq : Nat) (x93_25 : Bool), v93 = .bool x93_25 ∧ Aside0 (skewbaldlaw01_PlankLook.j2 kq t628 t629 x93_25 l0_0 l0_1 a1_0 a1_1 = some true) ∧ Aside0 (kq ≤ kj16) ∧ Aside0 (wc.heap[gb626]? = some (.cells #[(.slice A0_0 l0_0.length c0_0), (.slice A0_1 l0_1.length c0_1)] 25 (0, 0))) ∧ Aside0 (wc.heap[gb627]? = some (.cells #[.int .i64 a1_0, .int .i64 a1_1] 69 (0, 0))) ∧ Aside0 (Below w.heap.size w wc))
         case first =>
          have H := HC26.out
          clear HC26
          replace H := Option.bind_eq_some_iff.mp H
          obtain ⟨t635, A270, H⟩ := H
          replace H : (if t635 = true then (if 0 ≤ t628 then (if t628 < (l0_0.length : Int) then ((skewbaldref00_In.f t629 0 (wrap64 ((((rd_T48 l0_0 t628).f1).length : Int) - 1))).bind fun t637 => (skewbaldlaw01_PlankLook.j2 kj16 t628 t629 (!t637) l0_0 l0_1 a1_0 a1_1)) else (none)) else (none)) else (skewbaldlaw01_PlankLook.j2 kj16 t628 t629 true l0_0 l0_1 a1_0 a1_1)) = some true := H
          have A27 := Aside0.mk A270
          clear A270
          by_cases c28 : t635 = true
          ·subst c28
           have H1 : (if 0 ≤ t628 then (if t628 < (l0_0.length : Int) then ((skewbaldref00_In.f t629 0 (wrap64 ((((rd_T48 l0_0 t628).f1).length : Int) - 1))).bind fun t637 => (skewbaldlaw01_PlankLook.j2 kj16 t628 t629 (!t637) l0_0 l0_1 a1_0 a1_1)) else (none)) else (none)) = some true := by rw [if_pos rfl] at H; exact H
           clear H
           have H := H1
           clear H1
           by_cases c29 : 0 ≤ t628
           ·rw [if_pos c29] at H
            have c29b0 : decide (0 ≤ t628) = true := decide_eq_true c29
            clear c29
            (first | rw [c29b0] | (simp only [i64_w, i32_w]; rw [c29b0]) | skip)
            by_cases c30 : t628 < (l0_0.length : Int)
            ·rw [if_pos c30] at H
             have c30b0 : decide (t628 < (l0_0.length : Int)) = true := decide_eq_true c30
             clear c30
             replace H := Option.bind_eq_some_iff.mp H
             obtain ⟨t637, A310, H⟩ := H
             replace H : (skewbaldlaw01_PlankLook.j2 kj16 t628 t629 (!t637) l0_0 l0_1 a1_0 a1_1) = some true := H
             have A31 := Aside0.mk A310
             clear A310
             have H' := Aside0.mk H
             clear H
             have hnb32 := NB626_627.out
             have hnc32 := NB627_626.out
             have hcz33_0 : wc.cell? ⟨gb626, 0, none⟩ = some (.slice A0_0 l0_0.length c0_0) := (blk_cell BK626.out 0).trans rfl
             have hcz33_1 : wc.cell? ⟨gb626, 1, none⟩ = some (.slice A0_1 l0_1.length c0_1) := (blk_cell BK626.out 1).trans rfl
             have hfz33_0 := blk_frozen BK626.out 0
             have hfz33_1 := blk_frozen BK626.out 1
             go_wp2_with (first | ((with_reducible refine gate_callee (f := 38) rfl ?_); refine goesL_ (some 79) rfl rfl Tryd.func38 (by kernel_rfl) rfl #[.int .i64 t628, .int .i64 0, .int .i64 (wrap64 ((l0_0.length : Int) - 1))] rfl (by (try simp only [List.map_toArray, List.map_cons, List.map_nil]); first | done | rfl | (simp only [List.length_drop, List.length_take]; rfl)) ?_; (with_reducible refine (skewbaldref00_In.calls t628 0 (wrap64 ((l0_0.length : Int) - 1)) true _ A27.out).mono ?_); rintro e w' ⟨rfl, ⟨nd, rfl⟩⟩; refine ⟨_, rfl, ?_⟩; have p636 : 0 ≤ (t628 : Int) := of_decide_eq_true (by first | (with_reducible assumption) | assumption); have q636 : t628 < (l0_0.length : Int) := of_decide_eq_true (by first | (with_reducible assumption) | assumption); obtain ⟨ad636, A636_1, c636_1, e636, hx636_0, hx636_1, hl636_1, hi636_1⟩ := at_T48 HR0_0.out t628 p636 q636; cases e636; replace hx636_0 := (HB.out.cell (World.block_lt_of_cell? w _ hx636_0)).trans hx636_0; replace hx636_1 := (HB.out.cell (World.block_lt_of_cell? w _ hx636_1)).trans hx636_1; have HR636_1 := Aside0.mk hi636_1; have HC636_1 := Aside0.mk hl636_1; clear hi636_1 hl636_1; replace p636 := eq_true p636; replace q636 := eq_true q636) | (go_at_call 38; (with_reducible refine (skewbaldref00_In.calls t629 0 (wrap64 ((((rd_T48 l0_0 t628).f1).length : Int) - 1)) t637 _ A31.out).mono ?_); rintro e w' ⟨rfl, ⟨nd, rfl⟩⟩))
             go_meet
             case rel => exact ⟨_, (!t637), (by first | rfl | (simp; done) | (simp [*]; done)), H', ⟨by have := HK1.out; have := HJ16.out; first | omega | exact Nat.le_refl _⟩, ⟨bk⟩, ⟨bk⟩, ⟨bl⟩⟩
            ·rw [if_neg c30] at H
             exact absurd H (by simp)
           ·rw [if_neg c29] at H
            exact absurd H (by simp)
          ·replace c28 := Bool.eq_false_iff.mpr c28
           subst c28
           have H1 : (skewbaldlaw01_PlankLook.j2 kj16 t628 t629 true l0_0 l0_1 a1_0 a1_1) = some true := by rw [if_neg (show ¬ (false = true) by decide)] at H; exact H
           clear H
           have H := H1
           clear H1
           exact absurd H (by rcases kj16 with _ | kj16 <;> (first | (simp [skewbaldlaw01_PlankLook.j2]; done) | (rcases kj16 with _ | kj16 <;> simp [skewbaldlaw01_PlankLook.j2])))
         case rest =>
          clear HC26
          try clear c1
          try clear c2
          try clear p2
          try clear c3
          try clear c5
          try clear c6
          try clear p6
          try clear q6
          try clear hx6
          try clear c8
          try clear c12
          try clear c13
          try clear c13b0
          try clear c14
          try clear c14b0
          try clear c15
          try clear c18
          try clear c20
          try clear c20b0
          try clear c20b1
          try clear c20b2
          try clear c21
          try clear c21b0
          try clear c21b1
          try clear c22
          try clear c22b0
          try clear c22b1
          try clear c23
          try clear c23b0
          try clear c23b1
          try clear c24
          try clear c25
          try clear c25b0
          try clear c25b1
          try clear c28
          try clear c29
          try clear c29b0
          try clear c30
          try clear c30b0
          try clear c32
          try clear hcz11_0
          try clear hcz11_1
          try clear hcz16_0
          try clear hcz16_1
          try clear hcz19_0
          try clear hcz19_1
          try clear hcz33_0
          try clear hcz33_1
          try clear hcz9_0
          try clear hcz9_1
          try clear hfz11_0
          try clear hfz11_1
          try clear hfz16_0
          try clear hfz16_1
          try clear hfz19_0
          try clear hfz19_1
          try clear hfz33_0
          try clear hfz33_1
          try clear hfz9_0
          try clear hfz9_1
          try clear hx633_0
          try clear hx633_1
          try clear hx636_0
          try clear hx636_1
          try clear p2
          try clear p6
          try clear p633
          try clear p636
          try clear q6
          try clear q633
          try clear q636
          obtain ⟨kq, x93_25, rfl, HA, HJ25, BK626, BK627, HB⟩ := hcut
          cases kq with
          | zero => exact absurd HA.out (by simp [skewbaldlaw01_PlankLook.j2])
          | succ kj25 =>
           have H := HA.out
           clear HA
           simp only [skewbaldlaw01_PlankLook.j2] at H
           by_cases c34 : x93_25 = true
           ·subst c34
            have H1 : (some false) = some true := by rw [if_pos rfl] at H; exact H
            clear H
            have H := H1
            clear H1
            exact absurd H (by simp)
           ·replace c34 := Bool.eq_false_iff.mpr c34
            subst c34
            have H1 : ((skewbaldref00_Round.f a1_0 (l0_0.length : Int)).bind fun t638 => (if 0 ≤ t638 then (if t638 < (l0_0.length : Int) then (if (((rd_T48 l0_0 t638).f1).length : Int) = 0 then ((skewbaldlaw01_sawn.f).bind fun t640 => (some t640)) else ((skewbaldref00_Round.f a1_1 (((rd_T48 l0_0 t638).f1).length : Int)).bind fun t642 => ((skewbaldlaw01_worst.f kj25 l0_0 l0_1 t628 t629).bind fun t643 => ((skewbaldlaw01_worst.f kj25 l0_0 l0_1 t638 t642).bind fun t644 => (if t643 ≥ 0 then (if t644 ≥ 0 then (if t643 > t644 then ((skewbaldlaw01_sawn.f).bind fun t645 => (some t645)) else (if t643 = t644 then (if t628 < t638 then ((skewbaldlaw01_sawn.f).bind fun t646 => (some t646)) else (if t628 = t638 then (if t629 ≤ t642 then ((skewbaldlaw01_sawn.f).bind fun t647 => (some t647)) else (some false)) else (some false))) else (some false))) else (some false)) else (some false)))))) else (none)) else (none))) = some true := by rw [if_neg (show ¬ (false = true) by decide)] at H; exact H
            clear H
            have H := H1
            clear H1
            replace H := Option.bind_eq_some_iff.mp H
            obtain ⟨t638, A350, H⟩ := H
            replace H : (if 0 ≤ t638 then (if t638 < (l0_0.length : Int) then (if (((rd_T48 l0_0 t638).f1).length : Int) = 0 then ((skewbaldlaw01_sawn.f).bind fun t640 => (some t640)) else ((skewbaldref00_Round.f a1_1 (((rd_T48 l0_0 t638).f1).length : Int)).bind fun t642 => ((skewbaldlaw01_worst.f kj25 l0_0 l0_1 t628 t629).bind fun t643 => ((skewbaldlaw01_worst.f kj25 l0_0 l0_1 t638 t642).bind fun t644 => (if t643 ≥ 0 then (if t644 ≥ 0 then (if t643 > t644 then ((skewbaldlaw01_sawn.f).bind fun t645 => (some t645)) else (if t643 = t644 then (if t628 < t638 then ((skewbaldlaw01_sawn.f).bind fun t646 => (some t646)) else (if t628 = t638 then (if t629 ≤ t642 then ((skewbaldlaw01_sawn.f).bind fun t647 => (some t647)) else (some false)) else (some false))) else (some false))) else (some false)) else (some false)))))) else (none)) else (none)) = some true := H
            have A35 := Aside0.mk A350
            clear A350
            by_cases c36 : 0 ≤ t638
            ·rw [if_pos c36] at H
             have c36b0 : decide (0 ≤ t638) = true := decide_eq_true c36
             clear c36
             by_cases c37 : t638 < (l0_0.length : Int)
             ·rw [if_pos c37] at H
              have c37b0 : decide (t638 < (l0_0.length : Int)) = true := decide_eq_true c37
              clear c37
              by_cases c38 : (((rd_T48 l0_0 t638).f1).length : Int) = 0
              ·rw [if_pos c38] at H
               have c38b0 : ((((rd_T48 l0_0 t638).f1).length : Int) == 0) = true := beq_iff_eq.mpr c38
               have c38b1 : ((((rd_T48 l0_0 t638).f1).length : Int) != 0) = false := bne_eq_false_iff_eq.mpr c38
               clear c38
               replace H := Option.bind_eq_some_iff.mp H
               obtain ⟨t640, A390, H⟩ := H
               replace H : (some t640) = some true := H
               have A39 := Aside0.mk A390
               clear A390
               have HE_ := Aside0.mk (Option.some.inj H)
               clear H
               have hnb40 := NB627_626.out
               have hnc40 := NB626_627.out
               have hcz41_0 : wc.cell? ⟨gb627, 0, none⟩ = some (.int .i64 a1_0) := (blk_cell BK627.out 0).trans rfl
               have hcz41_1 : wc.cell? ⟨gb627, 1, none⟩ = some (.int .i64 a1_1) := (blk_cell BK627.out 1).trans rfl
               have hfz41_0 := blk_frozen BK627.out 0
               have hfz41_1 := blk_frozen BK627.out 1
               have hcz42_0 : wc.cell? ⟨gb626, 0, none⟩ = some (.slice A0_0 l0_0.length c0_0) := (blk_cell BK626.out 0).trans rfl
               have hcz42_1 : wc.cell? ⟨gb626, 1, none⟩ = some (.slice A0_1 l0_1.length c0_1) := (blk_cell BK626.out 1).trans rfl
               have hfz42_0 := blk_frozen BK626.out 0
               have hfz42_1 := blk_frozen BK626.out 1
               go_wp2_with (first | ((with_reducible refine gate_callee (f := 35) rfl ?_); refine goesL_ (some 99) rfl rfl Tryd.func35 (by kernel_rfl) rfl #[.int .i64 a1_0, .int .i64 (l0_0.length : Int)] rfl (by (try simp only [List.map_toArray, List.map_cons, List.map_nil]); first | done | rfl | (simp only [List.length_drop, List.length_take]; rfl)) ?_; (with_reducible refine (skewbaldref00_Round.calls a1_0 (l0_0.length : Int) t638 _ A35.out).mono ?_); rintro e w' ⟨rfl, ⟨nd, rfl⟩⟩; refine ⟨_, rfl, ?_⟩; have p639 : 0 ≤ (t638 : Int) := of_decide_eq_true (by first | (with_reducible assumption) | assumption); have q639 : t638 < (l0_0.length : Int) := of_decide_eq_true (by first | (with_reducible assumption) | assumption); obtain ⟨ad639, A639_1, c639_1, e639, hx639_0, hx639_1, hl639_1, hi639_1⟩ := at_T48 HR0_0.out t638 p639 q639; cases e639; replace hx639_0 := (HB.out.cell (World.block_lt_of_cell? w _ hx639_0)).trans hx639_0; replace hx639_1 := (HB.out.cell (World.block_lt_of_cell? w _ hx639_1)).trans hx639_1; have HR639_1 := Aside0.mk hi639_1; have HC639_1 := Aside0.mk hl639_1; clear hi639_1 hl639_1; replace p639 := eq_true p639; replace q639 := eq_true q639) | ((with_reducible refine gate_callee (f := 23) rfl ?_); refine goesL_ (some 108) rfl rfl Tryd.func23 (by kernel_rfl) rfl #[] rfl (by (try simp only [List.map_toArray, List.map_cons, List.map_nil]); first | done | rfl | (simp only [List.length_drop, List.length_take]; rfl)) ?_; (with_reducible refine (skewbaldlaw01_sawn.calls  t640 _ ?side1 A39.out).mono ?_); (case side1 => exact Glob.below HGL.out bl); rintro e w43 ⟨rfl, hb⟩; refine ⟨_, rfl, ?_⟩; have n0_ := Aside0.mk (blk_below (g := gb626) (o := .cells #[.slice (some ad639) l0_0.length c0_0, .slice A0_1 l0_1.length c0_1] 25 (0, 0)) bk hb); have n1_ := Aside0.mk (blk_below (g := gb627) (o := .cells #[.int .i64 a1_0, .int .i64 a1_1] 69 (0, 0)) bk hb); have n2_ := Aside0.mk (below_step bl hb); clear BK626; clear BK627; clear HB; have BK626 := n0_; have BK627 := n1_; have HB := n2_; clear n0_ n1_ n2_; (try clear hb); (try clear hb2); (try clear hk); (try clear hi)))
               go_ret
               exact ⟨by first | rfl | (rw [HE_.out]; done) | (simp [HE_.out]; done) | (simp [errW_none, errW_some] <;> rfl) | (simp [*, errW_none, errW_some] <;> rfl), bl⟩
              ·rw [if_neg c38] at H
               have c38b0 : ((((rd_T48 l0_0 t638).f1).length : Int) == 0) = false := beq_eq_false_iff_ne.mpr c38
               have c38b1 : ((((rd_T48 l0_0 t638).f1).length : Int) != 0) = true := bne_iff_ne.mpr c38
               have c38b2 : ¬ (((rd_T48 l0_0 t638).f1) = []) := fun h_ => c38 (by rw [h_]; rfl)
               replace H := Option.bind_eq_some_iff.mp H
               obtain ⟨t642, A440, H⟩ := H
               replace H : ((skewbaldlaw01_worst.f kj25 l0_0 l0_1 t628 t629).bind fun t643 => ((skewbaldlaw01_worst.f kj25 l0_0 l0_1 t638 t642).bind fun t644 => (if t643 ≥ 0 then (if t644 ≥ 0 then (if t643 > t644 then ((skewbaldlaw01_sawn.f).bind fun t645 => (some t645)) else (if t643 = t644 then (if t628 < t638 then ((skewbaldlaw01_sawn.f).bind fun t646 => (some t646)) else (if t628 = t638 then (if t629 ≤ t642 then ((skewbaldlaw01_sawn.f).bind fun t647 => (some t647)) else (some false)) else (some false))) else (some false))) else (some false)) else (some false)))) = some true := H
               have A44 := Aside0.mk A440
               clear A440
               replace H := Option.bind_eq_some_iff.mp H
               obtain ⟨t643, A450, H⟩ := H
               replace H : ((skewbaldlaw01_worst.f kj25 l0_0 l0_1 t638 t642).bind fun t644 => (if t643 ≥ 0 then (if t644 ≥ 0 then (if t643 > t644 then ((skewbaldlaw01_sawn.f).bind fun t645 => (some t645)) else (if t643 = t644 then (if t628 < t638 then ((skewbaldlaw01_sawn.f).bind fun t646 => (some t646)) else (if t628 = t638 then (if t629 ≤ t642 then ((skewbaldlaw01_sawn.f).bind fun t647 => (some t647)) else (some false)) else (some false))) else (some false))) else (some false)) else (some false))) = some true := H
               have A45 := Aside0.mk A450
               clear A450
               replace H := Option.bind_eq_some_iff.mp H
               obtain ⟨t644, A460, H⟩ := H
               replace H : (if t643 ≥ 0 then (if t644 ≥ 0 then (if t643 > t644 then ((skewbaldlaw01_sawn.f).bind fun t645 => (some t645)) else (if t643 = t644 then (if t628 < t638 then ((skewbaldlaw01_sawn.f).bind fun t646 => (some t646)) else (if t628 = t638 then (if t629 ≤ t642 then ((skewbaldlaw01_sawn.f).bind fun t647 => (some t647)) else (some false)) else (some false))) else (some false))) else (some false)) else (some false)) = some true := H
               have A46 := Aside0.mk A460
               clear A460
               by_cases c47 : t643 ≥ 0
               ·rw [if_pos c47] at H
                have c47b0 : decide (0 ≤ t643) = true := decide_eq_true c47
                clear c47
                by_cases c48 : t644 ≥ 0
                ·rw [if_pos c48] at H
                 have c48b0 : decide (0 ≤ t644) = true := decide_eq_true c48
                 clear c48
                 by_cases c49 : t643 > t644
                 ·rw [if_pos c49] at H
                  have c49b0 : decide (t644 < t643) = true := decide_eq_true c49
                  clear c49
                  replace H := Option.bind_eq_some_iff.mp H
                  obtain ⟨t645, A500, H⟩ := H
                  replace H : (some t645) = some true := H
                  have A50 := Aside0.mk A500
                  clear A500
                  have HE_ := Aside0.mk (Option.some.inj H)
                  clear H
                  have hnb51 := NB627_626.out
                  have hnc51 := NB626_627.out
                  have hcz52_0 : wc.cell? ⟨gb627, 0, none⟩ = some (.int .i64 a1_0) := (blk_cell BK627.out 0).trans rfl
                  have hcz52_1 : wc.cell? ⟨gb627, 1, none⟩ = some (.int .i64 a1_1) := (blk_cell BK627.out 1).trans rfl
                  have hfz52_0 := blk_frozen BK627.out 0
                  have hfz52_1 := blk_frozen BK627.out 1
                  have hcz53_0 : wc.cell? ⟨gb626, 0, none⟩ = some (.slice A0_0 l0_0.length c0_0) := (blk_cell BK626.out 0).trans rfl
                  have hcz53_1 : wc.cell? ⟨gb626, 1, none⟩ = some (.slice A0_1 l0_1.length c0_1) := (blk_cell BK626.out 1).trans rfl
                  have hfz53_0 := blk_frozen BK626.out 0
                  have hfz53_1 := blk_frozen BK626.out 1
                  try go_wp2_with (first | ((with_reducible refine gate_callee (f := 35) rfl ?_); refine goesL_ (some 99) rfl rfl Tryd.func35 (by kernel_rfl) rfl #[.int .i64 a1_0, .int .i64 (l0_0.length : Int)] rfl (by (try simp only [List.map_toArray, List.map_cons, List.map_nil]); first | done | rfl | (simp only [List.length_drop, List.length_take]; rfl)) ?_; (with_reducible refine (skewbaldref00_Round.calls a1_0 (l0_0.length : Int) t638 _ A35.out).mono ?_); rintro e w' ⟨rfl, ⟨nd, rfl⟩⟩; refine ⟨_, rfl, ?_⟩; have p639 : 0 ≤ (t638 : Int) := of_decide_eq_true (by first | (with_reducible assumption) | assumption); have q639 : t638 < (l0_0.length : Int) := of_decide_eq_true (by first | (with_reducible assumption) | assumption); obtain ⟨ad639, A639_1, c639_1, e639, hx639_0, hx639_1, hl639_1, hi639_1⟩ := at_T48 HR0_0.out t638 p639 q639; cases e639; replace hx639_0 := (HB.out.cell (World.block_lt_of_cell? w _ hx639_0)).trans hx639_0; replace hx639_1 := (HB.out.cell (World.block_lt_of_cell? w _ hx639_1)).trans hx639_1; have HR639_1 := Aside0.mk hi639_1; have HC639_1 := Aside0.mk hl639_1; clear hi639_1 hl639_1; replace p639 := eq_true p639; replace q639 := eq_true q639))
                  (try (rw [drewN_self wc]; generalize hq_ : World.drewN wc _ = wc; have n0_ : Aside0 (wc.heap[gb626]? = some (.cells #[.slice (some ad639) l0_0.length c0_0, .slice A0_1 l0_1.length c0_1] 25 (0, 0))) := ⟨by rw [← hq_]; exact bk⟩; have n1_ : Aside0 (wc.heap[gb627]? = some (.cells #[.int .i64 a1_0, .int .i64 a1_1] 69 (0, 0))) := ⟨by rw [← hq_]; exact bk⟩; have n2_ : Aside0 (Below w.heap.size w wc) := ⟨by rw [← hq_]; exact bl⟩; clear BK626 BK627 HB hq_; have BK626 := n0_; have BK627 := n1_; have HB := n2_; clear n0_ n1_ n2_))
                  have n0_ := Aside0.mk (blk_drew BK626.out)
                  have n1_ := Aside0.mk (blk_drew BK627.out)
                  have n2_ := Aside0.mk (below_drew1 HB.out)
                  clear BK626
                  clear BK627
                  clear HB
                  have BK626 := n0_
                  have BK627 := n1_
                  have HB := n2_
                  clear n0_ n1_ n2_
                  have p641 : 0 ≤ (t638 : Int) := of_decide_eq_true (by first | (with_reducible assumption) | assumption)
                  have q641 : t638 < (l0_0.length : Int) := of_decide_eq_true (by first | (with_reducible assumption) | assumption)
                  obtain ⟨ad641, A641_1, c641_1, e641, hx641_0, hx641_1, hl641_1, hi641_1⟩ := at_T48 HR0_0.out t638 p641 q641
                  have hw641_1 := hx641_1
                  have hw641_0 := hx641_0
                  obtain rfl : ad639 = ad641 := (by injection e641)
                  replace hx641_0 := (HB.out.cell (World.block_lt_of_cell? w _ hx641_0)).trans hx641_0
                  replace hx641_1 := (HB.out.cell (World.block_lt_of_cell? w _ hx641_1)).trans hx641_1
                  have HR641_1 := Aside0.mk hi641_1
                  have HC641_1 := Aside0.mk hl641_1
                  clear hi641_1 hl641_1
                  replace p641 := eq_true p641
                  replace q641 := eq_true q641
                  refine start_ (n := 11) (S := fun w' => w'.cell? ⟨gb627, 0, none⟩ = some (.int .i64 a1_0) ∧ w'.cell? ⟨gb627, 1, none⟩ = some (.int .i64 a1_1) ∧ w'.cell? ⟨gb626, 0, none⟩ = some (.slice (some ad639) l0_0.length c0_0) ∧ w'.cell? ⟨gb626, 1, none⟩ = some (.slice A0_1 l0_1.length c0_1) ∧ w'.cell? (ad639.add ((t638).toNat * 2)) = some (.int .i64 ((rd_T48 l0_0 t638).f0)) ∧ w'.cell? ⟨(ad639.add ((t638).toNat * 2)).block, (ad639.add ((t638).toNat * 2)).off + 1, none⟩ = some (.slice A641_1 ((rd_T48 l0_0 t638).f1).length c641_1)) (ds := []) #[false, false, false, false, false, false, false, false, false, false, false] (by kernel_rfl) rfl rfl ⟨(blk_cell BK627.out 0).trans rfl, (blk_cell BK627.out 1).trans rfl, (blk_cell BK626.out 0).trans rfl, (blk_cell BK626.out 1).trans rfl, ((HB.out.cell (World.block_lt_of_cell? w _ hw641_0)).trans hw641_0), ((HB.out.cell (World.block_lt_of_cell? w _ hw641_1)).trans hw641_1)⟩ (fun hHeld => ?_); refine with_tabW skewbaldlaw01_PlankLook.tab18 skewbaldlaw01_PlankLook.bits18 (fun HT_ HW_ => ?_)
                  generalize wc.drew = w54 at BK626 BK627 HB HR641_1 hx641_0 hx641_1 hHeld ⊢
                  refine pure_ (i := 0) (N := some 109) (v := ?_) (a' := ?_) #[true, false, false, false, false, false, false, false, false, false, false] rfl rfl (any_of HT_.out (by kernel_rfl)) (fun _ _ _ h => h) (Or.inl ⟨by rfl, ?_⟩) ?_ ?_
                  rotate_left
                  ·intro w'
                   go_simp
                   with_reducible rfl
                  rotate_left
                  ·simp only [Act.put, List.setIfInBounds_toArray, List.set_cons_zero, List.set_cons_succ, i64_w, i32_w]
                   rfl
                  refine pure_ (i := 2) (N := some 111) (v := ?_) (a' := ?_) #[true, false, true, false, false, false, false, false, false, false, false] rfl rfl (any_of HT_.out (by kernel_rfl)) (fun _ _ _ h => h) (Or.inl ⟨by rfl, ?_⟩) ?_ ?_
                  rotate_left
                  ·intro w'
                   go_simp
                   with_reducible rfl
                  rotate_left
                  ·simp only [Act.put, List.setIfInBounds_toArray, List.set_cons_zero, List.set_cons_succ, i64_w, i32_w]
                   rfl
                  refine pure_ (i := 4) (N := some 113) (v := ?_) (a' := ?_) #[true, false, true, false, true, false, false, false, false, false, false] rfl rfl (any_of HT_.out (by kernel_rfl)) (fun _ _ _ h => h) (Or.inl ⟨by rfl, ?_⟩) ?_ ?_
                  rotate_left
                  ·intro w'
                   go_simp
                   with_reducible rfl
                  rotate_left
                  ·simp only [Act.put, List.setIfInBounds_toArray, List.set_cons_zero, List.set_cons_succ, i64_w, i32_w]
                   rfl
                  refine take_ (i := 1) (N := some 110) (v := ?_) (a' := ?_) #[true, true, true, false, true, false, false, false, false, false, false] rfl rfl (take_ofW HT_.out HW_.out (by kernel_rfl)) (fun _ _ _ h => h) (Or.inl ⟨by rfl, ?_⟩) hHeld ?_ ?_
                  rotate_left
                  ·rintro w' ⟨s0, s1, s2, s3, s4, s5⟩
                   go_simp
                   with_reducible rfl
                  rotate_left
                  ·simp only [Act.put, List.setIfInBounds_toArray, List.set_cons_zero, List.set_cons_succ, i64_w, i32_w]
                   rfl
                  refine take_ (i := 3) (N := some 112) (v := ?_) (a' := ?_) #[true, true, true, true, true, false, false, false, false, false, false] rfl rfl (take_ofW HT_.out HW_.out (by kernel_rfl)) (fun _ _ _ h => h) (Or.inl ⟨by rfl, ?_⟩) hHeld ?_ ?_
                  rotate_left
                  ·rintro w' ⟨s0, s1, s2, s3, s4, s5⟩
                   go_simp
                   with_reducible rfl
                  rotate_left
                  ·simp only [Act.put, List.setIfInBounds_toArray, List.set_cons_zero, List.set_cons_succ, i64_w, i32_w]
                   rfl
                  refine pure_ (i := 5) (N := some 114) (v := ?_) (a' := ?_) #[true, true, true, true, true, true, false, false, false, false, false] rfl rfl (any_of HT_.out (by kernel_rfl)) (fun _ _ _ h => h) (Or.inl ⟨by rfl, ?_⟩) ?_ ?_
                  rotate_left
                  ·intro w'
                   go_simp
                   with_reducible rfl
                  rotate_left
                  ·simp only [Act.put, List.setIfInBounds_toArray, List.set_cons_zero, List.set_cons_succ, i64_w, i32_w]
                   rfl
                  refine pure_ (i := 6) (N := some 115) (v := ?_) (a' := ?_) #[true, true, true, true, true, true, true, false, false, false, false] rfl rfl (any_of HT_.out (by kernel_rfl)) (fun _ _ _ h => h) (Or.inl ⟨by rfl, ?_⟩) ?_ ?_
                  rotate_left
                  ·intro w'
                   go_simp
                   with_reducible rfl
                  rotate_left
                  ·simp only [Act.put, List.setIfInBounds_toArray, List.set_cons_zero, List.set_cons_succ, i64_w, i32_w]
                   rfl
                  refine take_ (i := 7) (N := some 116) (v := ?_) (a' := ?_) #[true, true, true, true, true, true, true, true, false, false, false] rfl rfl (take_ofW HT_.out HW_.out (by kernel_rfl)) (fun _ _ _ h => h) (Or.inl ⟨by rfl, ?_⟩) hHeld ?_ ?_
                  rotate_left
                  ·rintro w' ⟨s0, s1, s2, s3, s4, s5⟩
                   go_simp
                   with_reducible rfl
                  rotate_left
                  ·simp only [Act.put, List.setIfInBounds_toArray, List.set_cons_zero, List.set_cons_succ, i64_w, i32_w]
                   rfl
                  refine pure_ (i := 8) (N := some 117) (v := ?_) (a' := ?_) #[true, true, true, true, true, true, true, true, true, false, false] rfl rfl (any_of HT_.out (by kernel_rfl)) (fun _ _ _ h => h) (Or.inl ⟨by rfl, ?_⟩) ?_ ?_
                  rotate_left
                  ·intro w'
                   go_simp
                   with_reducible rfl
                  rotate_left
                  ·simp only [Act.put, List.setIfInBounds_toArray, List.set_cons_zero, List.set_cons_succ, i64_w, i32_w]
                   rfl
                  refine one_ (i := 9) (N := some 118) #[true, true, true, true, true, true, true, true, true, true, false] rfl rfl (one_of HT_.out (by kernel_rfl)) (by decide) (fun K hK => ?_)
                  refine goes_ Tryd.func35 (by kernel_rfl) rfl #[.int .i64 a1_1, .int .i64 (((rd_T48 l0_0 t638).f1).length : Int)] (by rfl) rfl rfl (by (try simp only [List.map_toArray, List.map_cons, List.map_nil]); first | done | rfl | (simp only [List.length_drop, List.length_take]; rfl)) ?_
                  with_reducible refine (skewbaldref00_Round.calls a1_1 (((rd_T48 l0_0 t638).f1).length : Int) t642 _ A44.out).mono ?_
                  rintro e w' ⟨rfl, ⟨nd, rfl⟩⟩
                  refine ⟨_, rfl, ?_⟩
                  refine hK.out _ _ ⟨(blk_cell BK627.out 0).trans rfl, (blk_cell BK627.out 1).trans rfl, (blk_cell BK626.out 0).trans rfl, (blk_cell BK626.out 1).trans rfl, ((HB.out.cell (World.block_lt_of_cell? w _ hw641_0)).trans hw641_0), ((HB.out.cell (World.block_lt_of_cell? w _ hw641_1)).trans hw641_1)⟩ (fun hHeld => ?_)
                  clear hK K
                  refine norm_ (a' := ?_) ?_ ?_
                  rotate_left
                  ·show Act.put _ (some 118) _ = _
                   simp only [Act.put, List.setIfInBounds_toArray, List.set_cons_zero, List.set_cons_succ, i64_w, i32_w]
                   rfl
                  refine pure_ (i := 10) (N := some 11) (v := ?_) (a' := ?_) #[true, true, true, true, true, true, true, true, true, true, true] rfl rfl (any_of HT_.out (by kernel_rfl)) (fun _ _ _ h => h) (Or.inl ⟨by rfl, ?_⟩) ?_ ?_
                  rotate_left
                  ·intro w'
                   go_simp
                   with_reducible rfl
                  rotate_left
                  ·simp only [Act.put, List.setIfInBounds_toArray, List.set_cons_zero, List.set_cons_succ, i64_w, i32_w]
                   rfl
                  refine done_ (done_of HT_.out (by kernel_rfl)) ?_
                  try go_wp2
                  (try (rw [drewN_self w54]; generalize hq_ : World.drewN w54 _ = w54; have n0_ : Aside0 (w54.heap[gb626]? = some (.cells #[.slice (some ad639) l0_0.length c0_0, .slice A0_1 l0_1.length c0_1] 25 (0, 0))) := ⟨by rw [← hq_]; exact bk⟩; have n1_ : Aside0 (w54.heap[gb627]? = some (.cells #[.int .i64 a1_0, .int .i64 a1_1] 69 (0, 0))) := ⟨by rw [← hq_]; exact bk⟩; have n2_ : Aside0 (Below w.heap.size w w54) := ⟨by rw [← hq_]; exact bl⟩; clear BK626 BK627 HB hq_; have BK626 := n0_; have BK627 := n1_; have HB := n2_; clear n0_ n1_ n2_))
                  have n0_ := Aside0.mk (blk_drew BK626.out)
                  have n1_ := Aside0.mk (blk_drew BK627.out)
                  have n2_ := Aside0.mk (below_drew1 HB.out)
                  clear BK626
                  clear BK627
                  clear HB
                  have BK626 := n0_
                  have BK627 := n1_
                  have HB := n2_
                  clear n0_ n1_ n2_
                  refine start_ (n := 10) (S := fun w' => w'.cell? ⟨gb626, 0, none⟩ = some (.slice (some ad639) l0_0.length c0_0) ∧ w'.cell? ⟨gb626, 1, none⟩ = some (.slice A0_1 l0_1.length c0_1)) (ds := []) #[false, false, false, false, false, false, false, false, false, false] (by kernel_rfl) rfl rfl ⟨(blk_cell BK626.out 0).trans rfl, (blk_cell BK626.out 1).trans rfl⟩ (fun hHeld => ?_); refine with_tabW skewbaldlaw01_PlankLook.tab19 skewbaldlaw01_PlankLook.bits19 (fun HT_ HW_ => ?_)
                  generalize w54.drew = w55 at BK626 BK627 HB hHeld ⊢
                  refine pure_ (i := 1) (N := some 120) (v := ?_) (a' := ?_) #[false, true, false, false, false, false, false, false, false, false] rfl rfl (any_of HT_.out (by kernel_rfl)) (fun _ _ _ h => h) (Or.inl ⟨by rfl, ?_⟩) ?_ ?_
                  rotate_left
                  ·intro w'
                   go_simp
                   with_reducible rfl
                  rotate_left
                  ·simp only [Act.put, List.setIfInBounds_toArray, List.set_cons_zero, List.set_cons_succ, i64_w, i32_w]
                   rfl
                  refine pure_ (i := 2) (N := some 121) (v := ?_) (a' := ?_) #[false, true, true, false, false, false, false, false, false, false] rfl rfl (any_of HT_.out (by kernel_rfl)) (fun _ _ _ h => h) (Or.inl ⟨by rfl, ?_⟩) ?_ ?_
                  rotate_left
                  ·intro w'
                   go_simp
                   with_reducible rfl
                  rotate_left
                  ·simp only [Act.put, List.setIfInBounds_toArray, List.set_cons_zero, List.set_cons_succ, i64_w, i32_w]
                   rfl
                  refine pure_ (i := 5) (N := some 124) (v := ?_) (a' := ?_) #[false, true, true, false, false, true, false, false, false, false] rfl rfl (any_of HT_.out (by kernel_rfl)) (fun _ _ _ h => h) (Or.inl ⟨by rfl, ?_⟩) ?_ ?_
                  rotate_left
                  ·intro w'
                   go_simp
                   with_reducible rfl
                  rotate_left
                  ·simp only [Act.put, List.setIfInBounds_toArray, List.set_cons_zero, List.set_cons_succ, i64_w, i32_w]
                   rfl
                  refine pure_ (i := 6) (N := some 125) (v := ?_) (a' := ?_) #[false, true, true, false, false, true, true, false, false, false] rfl rfl (any_of HT_.out (by kernel_rfl)) (fun _ _ _ h => h) (Or.inl ⟨by rfl, ?_⟩) ?_ ?_
                  rotate_left
                  ·intro w'
                   go_simp
                   with_reducible rfl
                  rotate_left
                  ·simp only [Act.put, List.setIfInBounds_toArray, List.set_cons_zero, List.set_cons_succ, i64_w, i32_w]
                   rfl
                  refine take_ (i := 0) (N := some 119) (v := ?_) (a' := ?_) #[true, true, true, false, false, true, true, false, false, false] rfl rfl (take_ofW HT_.out HW_.out (by kernel_rfl)) (fun _ _ _ h => h) (Or.inl ⟨by rfl, ?_⟩) hHeld ?_ ?_
                  rotate_left
                  ·rintro w' ⟨s0, s1⟩
                   go_simp
                   with_reducible rfl
                  rotate_left
                  ·simp only [Act.put, List.setIfInBounds_toArray, List.set_cons_zero, List.set_cons_succ, i64_w, i32_w]
                   rfl
                  refine take_ (i := 4) (N := some 123) (v := ?_) (a' := ?_) #[true, true, true, false, true, true, true, false, false, false] rfl rfl (take_ofW HT_.out HW_.out (by kernel_rfl)) (fun _ _ _ h => h) (Or.inl ⟨by rfl, ?_⟩) hHeld ?_ ?_
                  rotate_left
                  ·rintro w' ⟨s0, s1⟩
                   go_simp
                   with_reducible rfl
                  rotate_left
                  ·simp only [Act.put, List.setIfInBounds_toArray, List.set_cons_zero, List.set_cons_succ, i64_w, i32_w]
                   rfl
                  refine one_ (i := 3) (N := some 122) #[true, true, true, true, true, true, true, false, false, false] rfl rfl (one_of HT_.out (by kernel_rfl)) (by decide) (fun K hK => ?_)
                  refine goes_ Tryd.func50 (by kernel_rfl) rfl #[.agg #[.slice (some ad639) l0_0.length c0_0, .slice A0_1 l0_1.length c0_1], .int .i64 t628, .int .i64 t629] (by rfl) rfl rfl (by (try simp only [List.map_toArray, List.map_cons, List.map_nil]); first | done | rfl | (simp only [List.length_drop, List.length_take]; rfl)) ?_
                  with_reducible refine (skewbaldlaw01_worst.calls kj25 _ _ l0_0 _ _ l0_1 t628 t629 t643 _ ?side1 ?side2 ?side3 ?side4 ?side5 A45.out).mono ?_
                  (case side1 => exact cl)
                  (case side2 => exact HC0_0.out)
                  (case side3 => exact cl)
                  (case side4 => exact HC0_1.out)
                  (case side5 => exact Glob.below HGL.out bl)
                  rintro e w56 ⟨rfl, hb⟩
                  refine ⟨_, rfl, ?_⟩
                  have n0_ := Aside0.mk (blk_below (g := gb626) (o := .cells #[.slice (some ad639) l0_0.length c0_0, .slice A0_1 l0_1.length c0_1] 25 (0, 0)) bk hb)
                  have n1_ := Aside0.mk (blk_below (g := gb627) (o := .cells #[.int .i64 a1_0, .int .i64 a1_1] 69 (0, 0)) bk hb)
                  have n2_ := Aside0.mk (below_step bl hb)
                  clear BK626
                  clear BK627
                  clear HB
                  have BK626 := n0_
                  have BK627 := n1_
                  have HB := n2_
                  clear n0_ n1_ n2_
                  (try clear hb)
                  (try clear hb2)
                  (try clear hk)
                  (try clear hi)
                  refine hK.out _ _ ⟨(blk_cell BK626.out 0).trans rfl, (blk_cell BK626.out 1).trans rfl⟩ (fun hHeld => ?_)
                  clear hK K
                  refine norm_ (a' := ?_) ?_ ?_
                  rotate_left
                  ·show Act.put _ (some 122) _ = _
                   simp only [Act.put, List.setIfInBounds_toArray, List.set_cons_zero, List.set_cons_succ, i64_w, i32_w]
                   rfl
                  refine one_ (i := 7) (N := some 126) #[true, true, true, true, true, true, true, true, false, false] rfl rfl (one_of HT_.out (by kernel_rfl)) (by decide) (fun K hK => ?_)
                  refine goes_ Tryd.func50 (by kernel_rfl) rfl #[.agg #[.slice (some ad639) l0_0.length c0_0, .slice A0_1 l0_1.length c0_1], .int .i64 t638, .int .i64 t642] (by rfl) rfl rfl (by (try simp only [List.map_toArray, List.map_cons, List.map_nil]); first | done | rfl | (simp only [List.length_drop, List.length_take]; rfl)) ?_
                  with_reducible refine (skewbaldlaw01_worst.calls kj25 _ _ l0_0 _ _ l0_1 t638 t642 t644 _ ?side1 ?side2 ?side3 ?side4 ?side5 A46.out).mono ?_
                  (case side1 => exact cl)
                  (case side2 => exact HC0_0.out)
                  (case side3 => exact cl)
                  (case side4 => exact HC0_1.out)
                  (case side5 => exact Glob.below HGL.out bl)
                  rintro e w57 ⟨rfl, hb⟩
                  refine ⟨_, rfl, ?_⟩
                  have n0_ := Aside0.mk (blk_below (g := gb626) (o := .cells #[.slice (some ad639) l0_0.length c0_0, .slice A0_1 l0_1.length c0_1] 25 (0, 0)) bk hb)
                  have n1_ := Aside0.mk (blk_below (g := gb627) (o := .cells #[.int .i64 a1_0, .int .i64 a1_1] 69 (0, 0)) bk hb)
                  have n2_ := Aside0.mk (below_step bl hb)
                  clear BK626
                  clear BK627
                  clear HB
                  have BK626 := n0_
                  have BK627 := n1_
                  have HB := n2_
                  clear n0_ n1_ n2_
                  (try clear hb)
                  (try clear hb2)
                  (try clear hk)
                  (try clear hi)
                  refine hK.out _ _ ⟨(blk_cell BK626.out 0).trans rfl, (blk_cell BK626.out 1).trans rfl⟩ (fun hHeld => ?_)
                  clear hK K
                  refine norm_ (a' := ?_) ?_ ?_
                  rotate_left
                  ·show Act.put _ (some 126) _ = _
                   simp only [Act.put, List.setIfInBounds_toArray, List.set_cons_zero, List.set_cons_succ, i64_w, i32_w]
                   rfl
                  refine pure_ (i := 8) (N := some 12) (v := ?_) (a' := ?_) #[true, true, true, true, true, true, true, true, true, false] rfl rfl (any_of HT_.out (by kernel_rfl)) (fun _ _ _ h => h) (Or.inl ⟨by rfl, ?_⟩) ?_ ?_
                  rotate_left
                  ·intro w'
                   go_simp
                   with_reducible rfl
                  rotate_left
                  ·simp only [Act.put, List.setIfInBounds_toArray, List.set_cons_zero, List.set_cons_succ, i64_w, i32_w]
                   rfl
                  refine pure_ (i := 9) (N := some 13) (v := ?_) (a' := ?_) #[true, true, true, true, true, true, true, true, true, true] rfl rfl (any_of HT_.out (by kernel_rfl)) (fun _ _ _ h => h) (Or.inl ⟨by rfl, ?_⟩) ?_ ?_
                  rotate_left
                  ·intro w'
                   go_simp
                   with_reducible rfl
                  rotate_left
                  ·simp only [Act.put, List.setIfInBounds_toArray, List.set_cons_zero, List.set_cons_succ, i64_w, i32_w]
                   rfl
                  refine done_ (done_of HT_.out (by kernel_rfl)) ?_
                  try go_wp2_with (first | (go_at_call 23; (with_reducible refine (skewbaldlaw01_sawn.calls  t645 _ ?side1 A50.out).mono ?_); (case side1 => exact Glob.below HGL.out bl); rintro e w58 ⟨rfl, hb⟩; have n0_ := Aside0.mk (blk_below (g := gb626) (o := .cells #[.slice (some ad639) l0_0.length c0_0, .slice A0_1 l0_1.length c0_1] 25 (0, 0)) bk hb); have n1_ := Aside0.mk (blk_below (g := gb627) (o := .cells #[.int .i64 a1_0, .int .i64 a1_1] 69 (0, 0)) bk hb); have n2_ := Aside0.mk (below_step bl hb); clear BK626; clear BK627; clear HB; have BK626 := n0_; have BK627 := n1_; have HB := n2_; clear n0_ n1_ n2_; (try clear hb); (try clear hb2); (try clear hk); (try clear hi)))
                  go_ret
                  exact ⟨by first | rfl | (rw [HE_.out]; done) | (simp [HE_.out]; done) | (simp [errW_none, errW_some] <;> rfl) | (simp [*, errW_none, errW_some] <;> rfl), bl⟩
                 ·rw [if_neg c49] at H
                  have c49b0 : decide (t644 < t643) = false := decide_eq_false c49
                  clear c49
                  by_cases c59 : t643 = t644
                  ·rw [if_pos c59] at H
                   have c59b0 : (t643 == t644) = true := beq_iff_eq.mpr c59
                   have c59b1 : (t643 != t644) = false := bne_eq_false_iff_eq.mpr c59
                   clear c59
                   by_cases c60 : t628 < t638
                   ·rw [if_pos c60] at H
                    have c60b0 : decide (t628 < t638) = true := decide_eq_true c60
                    clear c60
                    replace H := Option.bind_eq_some_iff.mp H
                    obtain ⟨t646, A610, H⟩ := H
                    replace H : (some t646) = some true := H
                    have A61 := Aside0.mk A610
                    clear A610
                    have HE_ := Aside0.mk (Option.some.inj H)
                    clear H
                    have hnb62 := NB627_626.out
                    have hnc62 := NB626_627.out
                    have hcz63_0 : wc.cell? ⟨gb627, 0, none⟩ = some (.int .i64 a1_0) := (blk_cell BK627.out 0).trans rfl
                    have hcz63_1 : wc.cell? ⟨gb627, 1, none⟩ = some (.int .i64 a1_1) := (blk_cell BK627.out 1).trans rfl
                    have hfz63_0 := blk_frozen BK627.out 0
                    have hfz63_1 := blk_frozen BK627.out 1
                    have hcz64_0 : wc.cell? ⟨gb626, 0, none⟩ = some (.slice A0_0 l0_0.length c0_0) := (blk_cell BK626.out 0).trans rfl
                    have hcz64_1 : wc.cell? ⟨gb626, 1, none⟩ = some (.slice A0_1 l0_1.length c0_1) := (blk_cell BK626.out 1).trans rfl
                    have hfz64_0 := blk_frozen BK626.out 0
                    have hfz64_1 := blk_frozen BK626.out 1
                    try go_wp2_with (first | ((with_reducible refine gate_callee (f := 35) rfl ?_); refine goesL_ (some 99) rfl rfl Tryd.func35 (by kernel_rfl) rfl #[.int .i64 a1_0, .int .i64 (l0_0.length : Int)] rfl (by (try simp only [List.map_toArray, List.map_cons, List.map_nil]); first | done | rfl | (simp only [List.length_drop, List.length_take]; rfl)) ?_; (with_reducible refine (skewbaldref00_Round.calls a1_0 (l0_0.length : Int) t638 _ A35.out).mono ?_); rintro e w' ⟨rfl, ⟨nd, rfl⟩⟩; refine ⟨_, rfl, ?_⟩; have p639 : 0 ≤ (t638 : Int) := of_decide_eq_true (by first | (with_reducible assumption) | assumption); have q639 : t638 < (l0_0.length : Int) := of_decide_eq_true (by first | (with_reducible assumption) | assumption); obtain ⟨ad639, A639_1, c639_1, e639, hx639_0, hx639_1, hl639_1, hi639_1⟩ := at_T48 HR0_0.out t638 p639 q639; cases e639; replace hx639_0 := (HB.out.cell (World.block_lt_of_cell? w _ hx639_0)).trans hx639_0; replace hx639_1 := (HB.out.cell (World.block_lt_of_cell? w _ hx639_1)).trans hx639_1; have HR639_1 := Aside0.mk hi639_1; have HC639_1 := Aside0.mk hl639_1; clear hi639_1 hl639_1; replace p639 := eq_true p639; replace q639 := eq_true q639))
                    (try (rw [drewN_self wc]; generalize hq_ : World.drewN wc _ = wc; have n0_ : Aside0 (wc.heap[gb626]? = some (.cells #[.slice (some ad639) l0_0.length c0_0, .slice A0_1 l0_1.length c0_1] 25 (0, 0))) := ⟨by rw [← hq_]; exact bk⟩; have n1_ : Aside0 (wc.heap[gb627]? = some (.cells #[.int .i64 a1_0, .int .i64 a1_1] 69 (0, 0))) := ⟨by rw [← hq_]; exact bk⟩; have n2_ : Aside0 (Below w.heap.size w wc) := ⟨by rw [← hq_]; exact bl⟩; clear BK626 BK627 HB hq_; have BK626 := n0_; have BK627 := n1_; have HB := n2_; clear n0_ n1_ n2_))
                    have n0_ := Aside0.mk (blk_drew BK626.out)
                    have n1_ := Aside0.mk (blk_drew BK627.out)
                    have n2_ := Aside0.mk (below_drew1 HB.out)
                    clear BK626
                    clear BK627
                    clear HB
                    have BK626 := n0_
                    have BK627 := n1_
                    have HB := n2_
                    clear n0_ n1_ n2_
                    have p641 : 0 ≤ (t638 : Int) := of_decide_eq_true (by first | (with_reducible assumption) | assumption)
                    have q641 : t638 < (l0_0.length : Int) := of_decide_eq_true (by first | (with_reducible assumption) | assumption)
                    obtain ⟨ad641, A641_1, c641_1, e641, hx641_0, hx641_1, hl641_1, hi641_1⟩ := at_T48 HR0_0.out t638 p641 q641
                    have hw641_1 := hx641_1
                    have hw641_0 := hx641_0
                    obtain rfl : ad639 = ad641 := (by injection e641)
                    replace hx641_0 := (HB.out.cell (World.block_lt_of_cell? w _ hx641_0)).trans hx641_0
                    replace hx641_1 := (HB.out.cell (World.block_lt_of_cell? w _ hx641_1)).trans hx641_1
                    have HR641_1 := Aside0.mk hi641_1
                    have HC641_1 := Aside0.mk hl641_1
                    clear hi641_1 hl641_1
                    replace p641 := eq_true p641
                    replace q641 := eq_true q641
                    refine start_ (n := 11) (S := fun w' => w'.cell? ⟨gb627, 0, none⟩ = some (.int .i64 a1_0) ∧ w'.cell? ⟨gb627, 1, none⟩ = some (.int .i64 a1_1) ∧ w'.cell? ⟨gb626, 0, none⟩ = some (.slice (some ad639) l0_0.length c0_0) ∧ w'.cell? ⟨gb626, 1, none⟩ = some (.slice A0_1 l0_1.length c0_1) ∧ w'.cell? (ad639.add ((t638).toNat * 2)) = some (.int .i64 ((rd_T48 l0_0 t638).f0)) ∧ w'.cell? ⟨(ad639.add ((t638).toNat * 2)).block, (ad639.add ((t638).toNat * 2)).off + 1, none⟩ = some (.slice A641_1 ((rd_T48 l0_0 t638).f1).length c641_1)) (ds := []) #[false, false, false, false, false, false, false, false, false, false, false] (by kernel_rfl) rfl rfl ⟨(blk_cell BK627.out 0).trans rfl, (blk_cell BK627.out 1).trans rfl, (blk_cell BK626.out 0).trans rfl, (blk_cell BK626.out 1).trans rfl, ((HB.out.cell (World.block_lt_of_cell? w _ hw641_0)).trans hw641_0), ((HB.out.cell (World.block_lt_of_cell? w _ hw641_1)).trans hw641_1)⟩ (fun hHeld => ?_); refine with_tabW skewbaldlaw01_PlankLook.tab18 skewbaldlaw01_PlankLook.bits18 (fun HT_ HW_ => ?_)
                    generalize wc.drew = w65 at BK626 BK627 HB HR641_1 hx641_0 hx641_1 hHeld ⊢
                    refine pure_ (i := 0) (N := some 109) (v := ?_) (a' := ?_) #[true, false, false, false, false, false, false, false, false, false, false] rfl rfl (any_of HT_.out (by kernel_rfl)) (fun _ _ _ h => h) (Or.inl ⟨by rfl, ?_⟩) ?_ ?_
                    rotate_left
                    ·intro w'
                     go_simp
                     with_reducible rfl
                    rotate_left
                    ·simp only [Act.put, List.setIfInBounds_toArray, List.set_cons_zero, List.set_cons_succ, i64_w, i32_w]
                     rfl
                    refine pure_ (i := 2) (N := some 111) (v := ?_) (a' := ?_) #[true, false, true, false, false, false, false, false, false, false, false] rfl rfl (any_of HT_.out (by kernel_rfl)) (fun _ _ _ h => h) (Or.inl ⟨by rfl, ?_⟩) ?_ ?_
                    rotate_left
                    ·intro w'
                     go_simp
                     with_reducible rfl
                    rotate_left
                    ·simp only [Act.put, List.setIfInBounds_toArray, List.set_cons_zero, List.set_cons_succ, i64_w, i32_w]
                     rfl
                    refine pure_ (i := 4) (N := some 113) (v := ?_) (a' := ?_) #[true, false, true, false, true, false, false, false, false, false, false] rfl rfl (any_of HT_.out (by kernel_rfl)) (fun _ _ _ h => h) (Or.inl ⟨by rfl, ?_⟩) ?_ ?_
                    rotate_left
                    ·intro w'
                     go_simp
                     with_reducible rfl
                    rotate_left
                    ·simp only [Act.put, List.setIfInBounds_toArray, List.set_cons_zero, List.set_cons_succ, i64_w, i32_w]
                     rfl
                    refine take_ (i := 1) (N := some 110) (v := ?_) (a' := ?_) #[true, true, true, false, true, false, false, false, false, false, false] rfl rfl (take_ofW HT_.out HW_.out (by kernel_rfl)) (fun _ _ _ h => h) (Or.inl ⟨by rfl, ?_⟩) hHeld ?_ ?_
                    rotate_left
                    ·rintro w' ⟨s0, s1, s2, s3, s4, s5⟩
                     go_simp
                     with_reducible rfl
                    rotate_left
                    ·simp only [Act.put, List.setIfInBounds_toArray, List.set_cons_zero, List.set_cons_succ, i64_w, i32_w]
                     rfl
                    refine take_ (i := 3) (N := some 112) (v := ?_) (a' := ?_) #[true, true, true, true, true, false, false, false, false, false, false] rfl rfl (take_ofW HT_.out HW_.out (by kernel_rfl)) (fun _ _ _ h => h) (Or.inl ⟨by rfl, ?_⟩) hHeld ?_ ?_
                    rotate_left
                    ·rintro w' ⟨s0, s1, s2, s3, s4, s5⟩
                     go_simp
                     with_reducible rfl
                    rotate_left
                    ·simp only [Act.put, List.setIfInBounds_toArray, List.set_cons_zero, List.set_cons_succ, i64_w, i32_w]
                     rfl
                    refine pure_ (i := 5) (N := some 114) (v := ?_) (a' := ?_) #[true, true, true, true, true, true, false, false, false, false, false] rfl rfl (any_of HT_.out (by kernel_rfl)) (fun _ _ _ h => h) (Or.inl ⟨by rfl, ?_⟩) ?_ ?_
                    rotate_left
                    ·intro w'
                     go_simp
                     with_reducible rfl
                    rotate_left
                    ·simp only [Act.put, List.setIfInBounds_toArray, List.set_cons_zero, List.set_cons_succ, i64_w, i32_w]
                     rfl
                    refine pure_ (i := 6) (N := some 115) (v := ?_) (a' := ?_) #[true, true, true, true, true, true, true, false, false, false, false] rfl rfl (any_of HT_.out (by kernel_rfl)) (fun _ _ _ h => h) (Or.inl ⟨by rfl, ?_⟩) ?_ ?_
                    rotate_left
                    ·intro w'
                     go_simp
                     with_reducible rfl
                    rotate_left
                    ·simp only [Act.put, List.setIfInBounds_toArray, List.set_cons_zero, List.set_cons_succ, i64_w, i32_w]
                     rfl
                    refine take_ (i := 7) (N := some 116) (v := ?_) (a' := ?_) #[true, true, true, true, true, true, true, true, false, false, false] rfl rfl (take_ofW HT_.out HW_.out (by kernel_rfl)) (fun _ _ _ h => h) (Or.inl ⟨by rfl, ?_⟩) hHeld ?_ ?_
                    rotate_left
                    ·rintro w' ⟨s0, s1, s2, s3, s4, s5⟩
                     go_simp
                     with_reducible rfl
                    rotate_left
                    ·simp only [Act.put, List.setIfInBounds_toArray, List.set_cons_zero, List.set_cons_succ, i64_w, i32_w]
                     rfl
                    refine pure_ (i := 8) (N := some 117) (v := ?_) (a' := ?_) #[true, true, true, true, true, true, true, true, true, false, false] rfl rfl (any_of HT_.out (by kernel_rfl)) (fun _ _ _ h => h) (Or.inl ⟨by rfl, ?_⟩) ?_ ?_
                    rotate_left
                    ·intro w'
                     go_simp
                     with_reducible rfl
                    rotate_left
                    ·simp only [Act.put, List.setIfInBounds_toArray, List.set_cons_zero, List.set_cons_succ, i64_w, i32_w]
                     rfl
                    refine one_ (i := 9) (N := some 118) #[true, true, true, true, true, true, true, true, true, true, false] rfl rfl (one_of HT_.out (by kernel_rfl)) (by decide) (fun K hK => ?_)
                    refine goes_ Tryd.func35 (by kernel_rfl) rfl #[.int .i64 a1_1, .int .i64 (((rd_T48 l0_0 t638).f1).length : Int)] (by rfl) rfl rfl (by (try simp only [List.map_toArray, List.map_cons, List.map_nil]); first | done | rfl | (simp only [List.length_drop, List.length_take]; rfl)) ?_
                    with_reducible refine (skewbaldref00_Round.calls a1_1 (((rd_T48 l0_0 t638).f1).length : Int) t642 _ A44.out).mono ?_
                    rintro e w' ⟨rfl, ⟨nd, rfl⟩⟩
                    refine ⟨_, rfl, ?_⟩
                    refine hK.out _ _ ⟨(blk_cell BK627.out 0).trans rfl, (blk_cell BK627.out 1).trans rfl, (blk_cell BK626.out 0).trans rfl, (blk_cell BK626.out 1).trans rfl, ((HB.out.cell (World.block_lt_of_cell? w _ hw641_0)).trans hw641_0), ((HB.out.cell (World.block_lt_of_cell? w _ hw641_1)).trans hw641_1)⟩ (fun hHeld => ?_)
                    clear hK K
                    refine norm_ (a' := ?_) ?_ ?_
                    rotate_left
                    ·show Act.put _ (some 118) _ = _
                     simp only [Act.put, List.setIfInBounds_toArray, List.set_cons_zero, List.set_cons_succ, i64_w, i32_w]
                     rfl
                    refine pure_ (i := 10) (N := some 11) (v := ?_) (a' := ?_) #[true, true, true, true, true, true, true, true, true, true, true] rfl rfl (any_of HT_.out (by kernel_rfl)) (fun _ _ _ h => h) (Or.inl ⟨by rfl, ?_⟩) ?_ ?_
                    rotate_left
                    ·intro w'
                     go_simp
                     with_reducible rfl
                    rotate_left
                    ·simp only [Act.put, List.setIfInBounds_toArray, List.set_cons_zero, List.set_cons_succ, i64_w, i32_w]
                     rfl
                    refine done_ (done_of HT_.out (by kernel_rfl)) ?_
                    try go_wp2
                    (try (rw [drewN_self w65]; generalize hq_ : World.drewN w65 _ = w65; have n0_ : Aside0 (w65.heap[gb626]? = some (.cells #[.slice (some ad639) l0_0.length c0_0, .slice A0_1 l0_1.length c0_1] 25 (0, 0))) := ⟨by rw [← hq_]; exact bk⟩; have n1_ : Aside0 (w65.heap[gb627]? = some (.cells #[.int .i64 a1_0, .int .i64 a1_1] 69 (0, 0))) := ⟨by rw [← hq_]; exact bk⟩; have n2_ : Aside0 (Below w.heap.size w w65) := ⟨by rw [← hq_]; exact bl⟩; clear BK626 BK627 HB hq_; have BK626 := n0_; have BK627 := n1_; have HB := n2_; clear n0_ n1_ n2_))
                    have n0_ := Aside0.mk (blk_drew BK626.out)
                    have n1_ := Aside0.mk (blk_drew BK627.out)
                    have n2_ := Aside0.mk (below_drew1 HB.out)
                    clear BK626
                    clear BK627
                    clear HB
                    have BK626 := n0_
                    have BK627 := n1_
                    have HB := n2_
                    clear n0_ n1_ n2_
                    refine start_ (n := 10) (S := fun w' => w'.cell? ⟨gb626, 0, none⟩ = some (.slice (some ad639) l0_0.length c0_0) ∧ w'.cell? ⟨gb626, 1, none⟩ = some (.slice A0_1 l0_1.length c0_1)) (ds := []) #[false, false, false, false, false, false, false, false, false, false] (by kernel_rfl) rfl rfl ⟨(blk_cell BK626.out 0).trans rfl, (blk_cell BK626.out 1).trans rfl⟩ (fun hHeld => ?_); refine with_tabW skewbaldlaw01_PlankLook.tab19 skewbaldlaw01_PlankLook.bits19 (fun HT_ HW_ => ?_)
                    generalize w65.drew = w66 at BK626 BK627 HB hHeld ⊢
                    refine pure_ (i := 1) (N := some 120) (v := ?_) (a' := ?_) #[false, true, false, false, false, false, false, false, false, false] rfl rfl (any_of HT_.out (by kernel_rfl)) (fun _ _ _ h => h) (Or.inl ⟨by rfl, ?_⟩) ?_ ?_
                    rotate_left
                    ·intro w'
                     go_simp
                     with_reducible rfl
                    rotate_left
                    ·simp only [Act.put, List.setIfInBounds_toArray, List.set_cons_zero, List.set_cons_succ, i64_w, i32_w]
                     rfl
                    refine pure_ (i := 2) (N := some 121) (v := ?_) (a' := ?_) #[false, true, true, false, false, false, false, false, false, false] rfl rfl (any_of HT_.out (by kernel_rfl)) (fun _ _ _ h => h) (Or.inl ⟨by rfl, ?_⟩) ?_ ?_
                    rotate_left
                    ·intro w'
                     go_simp
                     with_reducible rfl
                    rotate_left
                    ·simp only [Act.put, List.setIfInBounds_toArray, List.set_cons_zero, List.set_cons_succ, i64_w, i32_w]
                     rfl
                    refine pure_ (i := 5) (N := some 124) (v := ?_) (a' := ?_) #[false, true, true, false, false, true, false, false, false, false] rfl rfl (any_of HT_.out (by kernel_rfl)) (fun _ _ _ h => h) (Or.inl ⟨by rfl, ?_⟩) ?_ ?_
                    rotate_left
                    ·intro w'
                     go_simp
                     with_reducible rfl
                    rotate_left
                    ·simp only [Act.put, List.setIfInBounds_toArray, List.set_cons_zero, List.set_cons_succ, i64_w, i32_w]
                     rfl
                    refine pure_ (i := 6) (N := some 125) (v := ?_) (a' := ?_) #[false, true, true, false, false, true, true, false, false, false] rfl rfl (any_of HT_.out (by kernel_rfl)) (fun _ _ _ h => h) (Or.inl ⟨by rfl, ?_⟩) ?_ ?_
                    rotate_left
                    ·intro w'
                     go_simp
                     with_reducible rfl
                    rotate_left
                    ·simp only [Act.put, List.setIfInBounds_toArray, List.set_cons_zero, List.set_cons_succ, i64_w, i32_w]
                     rfl
                    refine take_ (i := 0) (N := some 119) (v := ?_) (a' := ?_) #[true, true, true, false, false, true, true, false, false, false] rfl rfl (take_ofW HT_.out HW_.out (by kernel_rfl)) (fun _ _ _ h => h) (Or.inl ⟨by rfl, ?_⟩) hHeld ?_ ?_
                    rotate_left
                    ·rintro w' ⟨s0, s1⟩
                     go_simp
                     with_reducible rfl
                    rotate_left
                    ·simp only [Act.put, List.setIfInBounds_toArray, List.set_cons_zero, List.set_cons_succ, i64_w, i32_w]
                     rfl
                    refine take_ (i := 4) (N := some 123) (v := ?_) (a' := ?_) #[true, true, true, false, true, true, true, false, false, false] rfl rfl (take_ofW HT_.out HW_.out (by kernel_rfl)) (fun _ _ _ h => h) (Or.inl ⟨by rfl, ?_⟩) hHeld ?_ ?_
                    rotate_left
                    ·rintro w' ⟨s0, s1⟩
                     go_simp
                     with_reducible rfl
                    rotate_left
                    ·simp only [Act.put, List.setIfInBounds_toArray, List.set_cons_zero, List.set_cons_succ, i64_w, i32_w]
                     rfl
                    refine one_ (i := 3) (N := some 122) #[true, true, true, true, true, true, true, false, false, false] rfl rfl (one_of HT_.out (by kernel_rfl)) (by decide) (fun K hK => ?_)
                    refine goes_ Tryd.func50 (by kernel_rfl) rfl #[.agg #[.slice (some ad639) l0_0.length c0_0, .slice A0_1 l0_1.length c0_1], .int .i64 t628, .int .i64 t629] (by rfl) rfl rfl (by (try simp only [List.map_toArray, List.map_cons, List.map_nil]); first | done | rfl | (simp only [List.length_drop, List.length_take]; rfl)) ?_
                    with_reducible refine (skewbaldlaw01_worst.calls kj25 _ _ l0_0 _ _ l0_1 t628 t629 t643 _ ?side1 ?side2 ?side3 ?side4 ?side5 A45.out).mono ?_
                    (case side1 => exact cl)
                    (case side2 => exact HC0_0.out)
                    (case side3 => exact cl)
                    (case side4 => exact HC0_1.out)
                    (case side5 => exact Glob.below HGL.out bl)
                    rintro e w67 ⟨rfl, hb⟩
                    refine ⟨_, rfl, ?_⟩
                    have n0_ := Aside0.mk (blk_below (g := gb626) (o := .cells #[.slice (some ad639) l0_0.length c0_0, .slice A0_1 l0_1.length c0_1] 25 (0, 0)) bk hb)
                    have n1_ := Aside0.mk (blk_below (g := gb627) (o := .cells #[.int .i64 a1_0, .int .i64 a1_1] 69 (0, 0)) bk hb)
                    have n2_ := Aside0.mk (below_step bl hb)
                    clear BK626
                    clear BK627
                    clear HB
                    have BK626 := n0_
                    have BK627 := n1_
                    have HB := n2_
                    clear n0_ n1_ n2_
                    (try clear hb)
                    (try clear hb2)
                    (try clear hk)
                    (try clear hi)
                    refine hK.out _ _ ⟨(blk_cell BK626.out 0).trans rfl, (blk_cell BK626.out 1).trans rfl⟩ (fun hHeld => ?_)
                    clear hK K
                    refine norm_ (a' := ?_) ?_ ?_
                    rotate_left
                    ·show Act.put _ (some 122) _ = _
                     simp only [Act.put, List.setIfInBounds_toArray, List.set_cons_zero, List.set_cons_succ, i64_w, i32_w]
                     rfl
                    refine one_ (i := 7) (N := some 126) #[true, true, true, true, true, true, true, true, false, false] rfl rfl (one_of HT_.out (by kernel_rfl)) (by decide) (fun K hK => ?_)
                    refine goes_ Tryd.func50 (by kernel_rfl) rfl #[.agg #[.slice (some ad639) l0_0.length c0_0, .slice A0_1 l0_1.length c0_1], .int .i64 t638, .int .i64 t642] (by rfl) rfl rfl (by (try simp only [List.map_toArray, List.map_cons, List.map_nil]); first | done | rfl | (simp only [List.length_drop, List.length_take]; rfl)) ?_
                    with_reducible refine (skewbaldlaw01_worst.calls kj25 _ _ l0_0 _ _ l0_1 t638 t642 t644 _ ?side1 ?side2 ?side3 ?side4 ?side5 A46.out).mono ?_
                    (case side1 => exact cl)
                    (case side2 => exact HC0_0.out)
                    (case side3 => exact cl)
                    (case side4 => exact HC0_1.out)
                    (case side5 => exact Glob.below HGL.out bl)
                    rintro e w68 ⟨rfl, hb⟩
                    refine ⟨_, rfl, ?_⟩
                    have n0_ := Aside0.mk (blk_below (g := gb626) (o := .cells #[.slice (some ad639) l0_0.length c0_0, .slice A0_1 l0_1.length c0_1] 25 (0, 0)) bk hb)
                    have n1_ := Aside0.mk (blk_below (g := gb627) (o := .cells #[.int .i64 a1_0, .int .i64 a1_1] 69 (0, 0)) bk hb)
                    have n2_ := Aside0.mk (below_step bl hb)
                    clear BK626
                    clear BK627
                    clear HB
                    have BK626 := n0_
                    have BK627 := n1_
                    have HB := n2_
                    clear n0_ n1_ n2_
                    (try clear hb)
                    (try clear hb2)
                    (try clear hk)
                    (try clear hi)
                    refine hK.out _ _ ⟨(blk_cell BK626.out 0).trans rfl, (blk_cell BK626.out 1).trans rfl⟩ (fun hHeld => ?_)
                    clear hK K
                    refine norm_ (a' := ?_) ?_ ?_
                    rotate_left
                    ·show Act.put _ (some 126) _ = _
                     simp only [Act.put, List.setIfInBounds_toArray, List.set_cons_zero, List.set_cons_succ, i64_w, i32_w]
                     rfl
                    refine pure_ (i := 8) (N := some 12) (v := ?_) (a' := ?_) #[true, true, true, true, true, true, true, true, true, false] rfl rfl (any_of HT_.out (by kernel_rfl)) (fun _ _ _ h => h) (Or.inl ⟨by rfl, ?_⟩) ?_ ?_
                    rotate_left
                    ·intro w'
                     go_simp
                     with_reducible rfl
                    rotate_left
                    ·simp only [Act.put, List.setIfInBounds_toArray, List.set_cons_zero, List.set_cons_succ, i64_w, i32_w]
                     rfl
                    refine pure_ (i := 9) (N := some 13) (v := ?_) (a' := ?_) #[true, true, true, true, true, true, true, true, true, true] rfl rfl (any_of HT_.out (by kernel_rfl)) (fun _ _ _ h => h) (Or.inl ⟨by rfl, ?_⟩) ?_ ?_
                    rotate_left
                    ·intro w'
                     go_simp
                     with_reducible rfl
                    rotate_left
                    ·simp only [Act.put, List.setIfInBounds_toArray, List.set_cons_zero, List.set_cons_succ, i64_w, i32_w]
                     rfl
                    refine done_ (done_of HT_.out (by kernel_rfl)) ?_
                    try go_wp2_with (first | (go_at_call 23; (with_reducible refine (skewbaldlaw01_sawn.calls  t646 _ ?side1 A61.out).mono ?_); (case side1 => exact Glob.below HGL.out bl); rintro e w69 ⟨rfl, hb⟩; have n0_ := Aside0.mk (blk_below (g := gb626) (o := .cells #[.slice (some ad639) l0_0.length c0_0, .slice A0_1 l0_1.length c0_1] 25 (0, 0)) bk hb); have n1_ := Aside0.mk (blk_below (g := gb627) (o := .cells #[.int .i64 a1_0, .int .i64 a1_1] 69 (0, 0)) bk hb); have n2_ := Aside0.mk (below_step bl hb); clear BK626; clear BK627; clear HB; have BK626 := n0_; have BK627 := n1_; have HB := n2_; clear n0_ n1_ n2_; (try clear hb); (try clear hb2); (try clear hk); (try clear hi)))
                    go_ret
                    exact ⟨by first | rfl | (rw [HE_.out]; done) | (simp [HE_.out]; done) | (simp [errW_none, errW_some] <;> rfl) | (simp [*, errW_none, errW_some] <;> rfl), bl⟩
                   ·rw [if_neg c60] at H
                    have c60b0 : decide (t628 < t638) = false := decide_eq_false c60
                    clear c60
                    by_cases c70 : t628 = t638
                    ·rw [if_pos c70] at H
                     have c70b0 : (t628 == t638) = true := beq_iff_eq.mpr c70
                     have c70b1 : (t628 != t638) = false := bne_eq_false_iff_eq.mpr c70
                     clear c70
                     by_cases c71 : t629 ≤ t642
                     ·rw [if_pos c71] at H
                      have c71b0 : decide (t629 ≤ t642) = true := decide_eq_true c71
                      clear c71
                      replace H := Option.bind_eq_some_iff.mp H
                      obtain ⟨t647, A720, H⟩ := H
                      replace H : (some t647) = some true := H
                      have A72 := Aside0.mk A720
                      clear A720
                      have HE_ := Aside0.mk (Option.some.inj H)
                      clear H
                      have hnb73 := NB627_626.out
                      have hnc73 := NB626_627.out
                      have hcz74_0 : wc.cell? ⟨gb627, 0, none⟩ = some (.int .i64 a1_0) := (blk_cell BK627.out 0).trans rfl
                      have hcz74_1 : wc.cell? ⟨gb627, 1, none⟩ = some (.int .i64 a1_1) := (blk_cell BK627.out 1).trans rfl
                      have hfz74_0 := blk_frozen BK627.out 0
                      have hfz74_1 := blk_frozen BK627.out 1
                      have hcz75_0 : wc.cell? ⟨gb626, 0, none⟩ = some (.slice A0_0 l0_0.length c0_0) := (blk_cell BK626.out 0).trans rfl
                      have hcz75_1 : wc.cell? ⟨gb626, 1, none⟩ = some (.slice A0_1 l0_1.length c0_1) := (blk_cell BK626.out 1).trans rfl
                      have hfz75_0 := blk_frozen BK626.out 0
                      have hfz75_1 := blk_frozen BK626.out 1
                      try go_wp2_with (first | ((with_reducible refine gate_callee (f := 35) rfl ?_); refine goesL_ (some 99) rfl rfl Tryd.func35 (by kernel_rfl) rfl #[.int .i64 a1_0, .int .i64 (l0_0.length : Int)] rfl (by (try simp only [List.map_toArray, List.map_cons, List.map_nil]); first | done | rfl | (simp only [List.length_drop, List.length_take]; rfl)) ?_; (with_reducible refine (skewbaldref00_Round.calls a1_0 (l0_0.length : Int) t638 _ A35.out).mono ?_); rintro e w' ⟨rfl, ⟨nd, rfl⟩⟩; refine ⟨_, rfl, ?_⟩; have p639 : 0 ≤ (t638 : Int) := of_decide_eq_true (by first | (with_reducible assumption) | assumption); have q639 : t638 < (l0_0.length : Int) := of_decide_eq_true (by first | (with_reducible assumption) | assumption); obtain ⟨ad639, A639_1, c639_1, e639, hx639_0, hx639_1, hl639_1, hi639_1⟩ := at_T48 HR0_0.out t638 p639 q639; cases e639; replace hx639_0 := (HB.out.cell (World.block_lt_of_cell? w _ hx639_0)).trans hx639_0; replace hx639_1 := (HB.out.cell (World.block_lt_of_cell? w _ hx639_1)).trans hx639_1; have HR639_1 := Aside0.mk hi639_1; have HC639_1 := Aside0.mk hl639_1; clear hi639_1 hl639_1; replace p639 := eq_true p639; replace q639 := eq_true q639))
                      (try (rw [drewN_self wc]; generalize hq_ : World.drewN wc _ = wc; have n0_ : Aside0 (wc.heap[gb626]? = some (.cells #[.slice (some ad639) l0_0.length c0_0, .slice A0_1 l0_1.length c0_1] 25 (0, 0))) := ⟨by rw [← hq_]; exact bk⟩; have n1_ : Aside0 (wc.heap[gb627]? = some (.cells #[.int .i64 a1_0, .int .i64 a1_1] 69 (0, 0))) := ⟨by rw [← hq_]; exact bk⟩; have n2_ : Aside0 (Below w.heap.size w wc) := ⟨by rw [← hq_]; exact bl⟩; clear BK626 BK627 HB hq_; have BK626 := n0_; have BK627 := n1_; have HB := n2_; clear n0_ n1_ n2_))
                      have n0_ := Aside0.mk (blk_drew BK626.out)
                      have n1_ := Aside0.mk (blk_drew BK627.out)
                      have n2_ := Aside0.mk (below_drew1 HB.out)
                      clear BK626
                      clear BK627
                      clear HB
                      have BK626 := n0_
                      have BK627 := n1_
                      have HB := n2_
                      clear n0_ n1_ n2_
                      have p641 : 0 ≤ (t638 : Int) := of_decide_eq_true (by first | (with_reducible assumption) | assumption)
                      have q641 : t638 < (l0_0.length : Int) := of_decide_eq_true (by first | (with_reducible assumption) | assumption)
                      obtain ⟨ad641, A641_1, c641_1, e641, hx641_0, hx641_1, hl641_1, hi641_1⟩ := at_T48 HR0_0.out t638 p641 q641
                      have hw641_1 := hx641_1
                      have hw641_0 := hx641_0
                      obtain rfl : ad639 = ad641 := (by injection e641)
                      replace hx641_0 := (HB.out.cell (World.block_lt_of_cell? w _ hx641_0)).trans hx641_0
                      replace hx641_1 := (HB.out.cell (World.block_lt_of_cell? w _ hx641_1)).trans hx641_1
                      have HR641_1 := Aside0.mk hi641_1
                      have HC641_1 := Aside0.mk hl641_1
                      clear hi641_1 hl641_1
                      replace p641 := eq_true p641
                      replace q641 := eq_true q641
                      refine start_ (n := 11) (S := fun w' => w'.cell? ⟨gb627, 0, none⟩ = some (.int .i64 a1_0) ∧ w'.cell? ⟨gb627, 1, none⟩ = some (.int .i64 a1_1) ∧ w'.cell? ⟨gb626, 0, none⟩ = some (.slice (some ad639) l0_0.length c0_0) ∧ w'.cell? ⟨gb626, 1, none⟩ = some (.slice A0_1 l0_1.length c0_1) ∧ w'.cell? (ad639.add ((t638).toNat * 2)) = some (.int .i64 ((rd_T48 l0_0 t638).f0)) ∧ w'.cell? ⟨(ad639.add ((t638).toNat * 2)).block, (ad639.add ((t638).toNat * 2)).off + 1, none⟩ = some (.slice A641_1 ((rd_T48 l0_0 t638).f1).length c641_1)) (ds := []) #[false, false, false, false, false, false, false, false, false, false, false] (by kernel_rfl) rfl rfl ⟨(blk_cell BK627.out 0).trans rfl, (blk_cell BK627.out 1).trans rfl, (blk_cell BK626.out 0).trans rfl, (blk_cell BK626.out 1).trans rfl, ((HB.out.cell (World.block_lt_of_cell? w _ hw641_0)).trans hw641_0), ((HB.out.cell (World.block_lt_of_cell? w _ hw641_1)).trans hw641_1)⟩ (fun hHeld => ?_); refine with_tabW skewbaldlaw01_PlankLook.tab18 skewbaldlaw01_PlankLook.bits18 (fun HT_ HW_ => ?_)
                      generalize wc.drew = w76 at BK626 BK627 HB HR641_1 hx641_0 hx641_1 hHeld ⊢
                      refine pure_ (i := 0) (N := some 109) (v := ?_) (a' := ?_) #[true, false, false, false, false, false, false, false, false, false, false] rfl rfl (any_of HT_.out (by kernel_rfl)) (fun _ _ _ h => h) (Or.inl ⟨by rfl, ?_⟩) ?_ ?_
                      rotate_left
                      ·intro w'
                       go_simp
                       with_reducible rfl
                      rotate_left
                      ·simp only [Act.put, List.setIfInBounds_toArray, List.set_cons_zero, List.set_cons_succ, i64_w, i32_w]
                       rfl
                      refine pure_ (i := 2) (N := some 111) (v := ?_) (a' := ?_) #[true, false, true, false, false, false, false, false, false, false, false] rfl rfl (any_of HT_.out (by kernel_rfl)) (fun _ _ _ h => h) (Or.inl ⟨by rfl, ?_⟩) ?_ ?_
                      rotate_left
                      ·intro w'
                       go_simp
                       with_reducible rfl
                      rotate_left
                      ·simp only [Act.put, List.setIfInBounds_toArray, List.set_cons_zero, List.set_cons_succ, i64_w, i32_w]
                       rfl
                      refine pure_ (i := 4) (N := some 113) (v := ?_) (a' := ?_) #[true, false, true, false, true, false, false, false, false, false, false] rfl rfl (any_of HT_.out (by kernel_rfl)) (fun _ _ _ h => h) (Or.inl ⟨by rfl, ?_⟩) ?_ ?_
                      rotate_left
                      ·intro w'
                       go_simp
                       with_reducible rfl
                      rotate_left
                      ·simp only [Act.put, List.setIfInBounds_toArray, List.set_cons_zero, List.set_cons_succ, i64_w, i32_w]
                       rfl
                      refine take_ (i := 1) (N := some 110) (v := ?_) (a' := ?_) #[true, true, true, false, true, false, false, false, false, false, false] rfl rfl (take_ofW HT_.out HW_.out (by kernel_rfl)) (fun _ _ _ h => h) (Or.inl ⟨by rfl, ?_⟩) hHeld ?_ ?_
                      rotate_left
                      ·rintro w' ⟨s0, s1, s2, s3, s4, s5⟩
                       go_simp
                       with_reducible rfl
                      rotate_left
                      ·simp only [Act.put, List.setIfInBounds_toArray, List.set_cons_zero, List.set_cons_succ, i64_w, i32_w]
                       rfl
                      refine take_ (i := 3) (N := some 112) (v := ?_) (a' := ?_) #[true, true, true, true, true, false, false, false, false, false, false] rfl rfl (take_ofW HT_.out HW_.out (by kernel_rfl)) (fun _ _ _ h => h) (Or.inl ⟨by rfl, ?_⟩) hHeld ?_ ?_
                      rotate_left
                      ·rintro w' ⟨s0, s1, s2, s3, s4, s5⟩
                       go_simp
                       with_reducible rfl
                      rotate_left
                      ·simp only [Act.put, List.setIfInBounds_toArray, List.set_cons_zero, List.set_cons_succ, i64_w, i32_w]
                       rfl
                      refine pure_ (i := 5) (N := some 114) (v := ?_) (a' := ?_) #[true, true, true, true, true, true, false, false, false, false, false] rfl rfl (any_of HT_.out (by kernel_rfl)) (fun _ _ _ h => h) (Or.inl ⟨by rfl, ?_⟩) ?_ ?_
                      rotate_left
                      ·intro w'
                       go_simp
                       with_reducible rfl
                      rotate_left
                      ·simp only [Act.put, List.setIfInBounds_toArray, List.set_cons_zero, List.set_cons_succ, i64_w, i32_w]
                       rfl
                      refine pure_ (i := 6) (N := some 115) (v := ?_) (a' := ?_) #[true, true, true, true, true, true, true, false, false, false, false] rfl rfl (any_of HT_.out (by kernel_rfl)) (fun _ _ _ h => h) (Or.inl ⟨by rfl, ?_⟩) ?_ ?_
                      rotate_left
                      ·intro w'
                       go_simp
                       with_reducible rfl
                      rotate_left
                      ·simp only [Act.put, List.setIfInBounds_toArray, List.set_cons_zero, List.set_cons_succ, i64_w, i32_w]
                       rfl
                      refine take_ (i := 7) (N := some 116) (v := ?_) (a' := ?_) #[true, true, true, true, true, true, true, true, false, false, false] rfl rfl (take_ofW HT_.out HW_.out (by kernel_rfl)) (fun _ _ _ h => h) (Or.inl ⟨by rfl, ?_⟩) hHeld ?_ ?_
                      rotate_left
                      ·rintro w' ⟨s0, s1, s2, s3, s4, s5⟩
                       go_simp
                       with_reducible rfl
                      rotate_left
                      ·simp only [Act.put, List.setIfInBounds_toArray, List.set_cons_zero, List.set_cons_succ, i64_w, i32_w]
                       rfl
                      refine pure_ (i := 8) (N := some 117) (v := ?_) (a' := ?_) #[true, true, true, true, true, true, true, true, true, false, false] rfl rfl (any_of HT_.out (by kernel_rfl)) (fun _ _ _ h => h) (Or.inl ⟨by rfl, ?_⟩) ?_ ?_
                      rotate_left
                      ·intro w'
                       go_simp
                       with_reducible rfl
                      rotate_left
                      ·simp only [Act.put, List.setIfInBounds_toArray, List.set_cons_zero, List.set_cons_succ, i64_w, i32_w]
                       rfl
                      refine one_ (i := 9) (N := some 118) #[true, true, true, true, true, true, true, true, true, true, false] rfl rfl (one_of HT_.out (by kernel_rfl)) (by decide) (fun K hK => ?_)
                      refine goes_ Tryd.func35 (by kernel_rfl) rfl #[.int .i64 a1_1, .int .i64 (((rd_T48 l0_0 t638).f1).length : Int)] (by rfl) rfl rfl (by (try simp only [List.map_toArray, List.map_cons, List.map_nil]); first | done | rfl | (simp only [List.length_drop, List.length_take]; rfl)) ?_
                      with_reducible refine (skewbaldref00_Round.calls a1_1 (((rd_T48 l0_0 t638).f1).length : Int) t642 _ A44.out).mono ?_
                      rintro e w' ⟨rfl, ⟨nd, rfl⟩⟩
                      refine ⟨_, rfl, ?_⟩
                      refine hK.out _ _ ⟨(blk_cell BK627.out 0).trans rfl, (blk_cell BK627.out 1).trans rfl, (blk_cell BK626.out 0).trans rfl, (blk_cell BK626.out 1).trans rfl, ((HB.out.cell (World.block_lt_of_cell? w _ hw641_0)).trans hw641_0), ((HB.out.cell (World.block_lt_of_cell? w _ hw641_1)).trans hw641_1)⟩ (fun hHeld => ?_)
                      clear hK K
                      refine norm_ (a' := ?_) ?_ ?_
                      rotate_left
                      ·show Act.put _ (some 118) _ = _
                       simp only [Act.put, List.setIfInBounds_toArray, List.set_cons_zero, List.set_cons_succ, i64_w, i32_w]
                       rfl
                      refine pure_ (i := 10) (N := some 11) (v := ?_) (a' := ?_) #[true, true, true, true, true, true, true, true, true, true, true] rfl rfl (any_of HT_.out (by kernel_rfl)) (fun _ _ _ h => h) (Or.inl ⟨by rfl, ?_⟩) ?_ ?_
                      rotate_left
                      ·intro w'
                       go_simp
                       with_reducible rfl
                      rotate_left
                      ·simp only [Act.put, List.setIfInBounds_toArray, List.set_cons_zero, List.set_cons_succ, i64_w, i32_w]
                       rfl
                      refine done_ (done_of HT_.out (by kernel_rfl)) ?_
                      try go_wp2
                      (try (rw [drewN_self w76]; generalize hq_ : World.drewN w76 _ = w76; have n0_ : Aside0 (w76.heap[gb626]? = some (.cells #[.slice (some ad639) l0_0.length c0_0, .slice A0_1 l0_1.length c0_1] 25 (0, 0))) := ⟨by rw [← hq_]; exact bk⟩; have n1_ : Aside0 (w76.heap[gb627]? = some (.cells #[.int .i64 a1_0, .int .i64 a1_1] 69 (0, 0))) := ⟨by rw [← hq_]; exact bk⟩; have n2_ : Aside0 (Below w.heap.size w w76) := ⟨by rw [← hq_]; exact bl⟩; clear BK626 BK627 HB hq_; have BK626 := n0_; have BK627 := n1_; have HB := n2_; clear n0_ n1_ n2_))
                      have n0_ := Aside0.mk (blk_drew BK626.out)
                      have n1_ := Aside0.mk (blk_drew BK627.out)
                      have n2_ := Aside0.mk (below_drew1 HB.out)
                      clear BK626
                      clear BK627
                      clear HB
                      have BK626 := n0_
                      have BK627 := n1_
                      have HB := n2_
                      clear n0_ n1_ n2_
                      refine start_ (n := 10) (S := fun w' => w'.cell? ⟨gb626, 0, none⟩ = some (.slice (some ad639) l0_0.length c0_0) ∧ w'.cell? ⟨gb626, 1, none⟩ = some (.slice A0_1 l0_1.length c0_1)) (ds := []) #[false, false, false, false, false, false, false, false, false, false] (by kernel_rfl) rfl rfl ⟨(blk_cell BK626.out 0).trans rfl, (blk_cell BK626.out 1).trans rfl⟩ (fun hHeld => ?_); refine with_tabW skewbaldlaw01_PlankLook.tab19 skewbaldlaw01_PlankLook.bits19 (fun HT_ HW_ => ?_)
                      generalize w76.drew = w77 at BK626 BK627 HB hHeld ⊢
                      refine pure_ (i := 1) (N := some 120) (v := ?_) (a' := ?_) #[false, true, false, false, false, false, false, false, false, false] rfl rfl (any_of HT_.out (by kernel_rfl)) (fun _ _ _ h => h) (Or.inl ⟨by rfl, ?_⟩) ?_ ?_
                      rotate_left
                      ·intro w'
                       go_simp
                       with_reducible rfl
                      rotate_left
                      ·simp only [Act.put, List.setIfInBounds_toArray, List.set_cons_zero, List.set_cons_succ, i64_w, i32_w]
                       rfl
                      refine pure_ (i := 2) (N := some 121) (v := ?_) (a' := ?_) #[false, true, true, false, false, false, false, false, false, false] rfl rfl (any_of HT_.out (by kernel_rfl)) (fun _ _ _ h => h) (Or.inl ⟨by rfl, ?_⟩) ?_ ?_
                      rotate_left
                      ·intro w'
                       go_simp
                       with_reducible rfl
                      rotate_left
                      ·simp only [Act.put, List.setIfInBounds_toArray, List.set_cons_zero, List.set_cons_succ, i64_w, i32_w]
                       rfl
                      refine pure_ (i := 5) (N := some 124) (v := ?_) (a' := ?_) #[false, true, true, false, false, true, false, false, false, false] rfl rfl (any_of HT_.out (by kernel_rfl)) (fun _ _ _ h => h) (Or.inl ⟨by rfl, ?_⟩) ?_ ?_
                      rotate_left
                      ·intro w'
                       go_simp
                       with_reducible rfl
                      rotate_left
                      ·simp only [Act.put, List.setIfInBounds_toArray, List.set_cons_zero, List.set_cons_succ, i64_w, i32_w]
                       rfl
                      refine pure_ (i := 6) (N := some 125) (v := ?_) (a' := ?_) #[false, true, true, false, false, true, true, false, false, false] rfl rfl (any_of HT_.out (by kernel_rfl)) (fun _ _ _ h => h) (Or.inl ⟨by rfl, ?_⟩) ?_ ?_
                      rotate_left
                      ·intro w'
                       go_simp
                       with_reducible rfl
                      rotate_left
                      ·simp only [Act.put, List.setIfInBounds_toArray, List.set_cons_zero, List.set_cons_succ, i64_w, i32_w]
                       rfl
                      refine take_ (i := 0) (N := some 119) (v := ?_) (a' := ?_) #[true, true, true, false, false, true, true, false, false, false] rfl rfl (take_ofW HT_.out HW_.out (by kernel_rfl)) (fun _ _ _ h => h) (Or.inl ⟨by rfl, ?_⟩) hHeld ?_ ?_
                      rotate_left
                      ·rintro w' ⟨s0, s1⟩
                       go_simp
                       with_reducible rfl
                      rotate_left
                      ·simp only [Act.put, List.setIfInBounds_toArray, List.set_cons_zero, List.set_cons_succ, i64_w, i32_w]
                       rfl
                      refine take_ (i := 4) (N := some 123) (v := ?_) (a' := ?_) #[true, true, true, false, true, true, true, false, false, false] rfl rfl (take_ofW HT_.out HW_.out (by kernel_rfl)) (fun _ _ _ h => h) (Or.inl ⟨by rfl, ?_⟩) hHeld ?_ ?_
                      rotate_left
                      ·rintro w' ⟨s0, s1⟩
                       go_simp
                       with_reducible rfl
                      rotate_left
                      ·simp only [Act.put, List.setIfInBounds_toArray, List.set_cons_zero, List.set_cons_succ, i64_w, i32_w]
                       rfl
                      refine one_ (i := 3) (N := some 122) #[true, true, true, true, true, true, true, false, false, false] rfl rfl (one_of HT_.out (by kernel_rfl)) (by decide) (fun K hK => ?_)
                      refine goes_ Tryd.func50 (by kernel_rfl) rfl #[.agg #[.slice (some ad639) l0_0.length c0_0, .slice A0_1 l0_1.length c0_1], .int .i64 t628, .int .i64 t629] (by rfl) rfl rfl (by (try simp only [List.map_toArray, List.map_cons, List.map_nil]); first | done | rfl | (simp only [List.length_drop, List.length_take]; rfl)) ?_
                      with_reducible refine (skewbaldlaw01_worst.calls kj25 _ _ l0_0 _ _ l0_1 t628 t629 t643 _ ?side1 ?side2 ?side3 ?side4 ?side5 A45.out).mono ?_
                      (case side1 => exact cl)
                      (case side2 => exact HC0_0.out)
                      (case side3 => exact cl)
                      (case side4 => exact HC0_1.out)
                      (case side5 => exact Glob.below HGL.out bl)
                      rintro e w78 ⟨rfl, hb⟩
                      refine ⟨_, rfl, ?_⟩
                      have n0_ := Aside0.mk (blk_below (g := gb626) (o := .cells #[.slice (some ad639) l0_0.length c0_0, .slice A0_1 l0_1.length c0_1] 25 (0, 0)) bk hb)
                      have n1_ := Aside0.mk (blk_below (g := gb627) (o := .cells #[.int .i64 a1_0, .int .i64 a1_1] 69 (0, 0)) bk hb)
                      have n2_ := Aside0.mk (below_step bl hb)
                      clear BK626
                      clear BK627
                      clear HB
                      have BK626 := n0_
                      have BK627 := n1_
                      have HB := n2_
                      clear n0_ n1_ n2_
                      (try clear hb)
                      (try clear hb2)
                      (try clear hk)
                      (try clear hi)
                      refine hK.out _ _ ⟨(blk_cell BK626.out 0).trans rfl, (blk_cell BK626.out 1).trans rfl⟩ (fun hHeld => ?_)
                      clear hK K
                      refine norm_ (a' := ?_) ?_ ?_
                      rotate_left
                      ·show Act.put _ (some 122) _ = _
                       simp only [Act.put, List.setIfInBounds_toArray, List.set_cons_zero, List.set_cons_succ, i64_w, i32_w]
                       rfl
                      refine one_ (i := 7) (N := some 126) #[true, true, true, true, true, true, true, true, false, false] rfl rfl (one_of HT_.out (by kernel_rfl)) (by decide) (fun K hK => ?_)
                      refine goes_ Tryd.func50 (by kernel_rfl) rfl #[.agg #[.slice (some ad639) l0_0.length c0_0, .slice A0_1 l0_1.length c0_1], .int .i64 t638, .int .i64 t642] (by rfl) rfl rfl (by (try simp only [List.map_toArray, List.map_cons, List.map_nil]); first | done | rfl | (simp only [List.length_drop, List.length_take]; rfl)) ?_
                      with_reducible refine (skewbaldlaw01_worst.calls kj25 _ _ l0_0 _ _ l0_1 t638 t642 t644 _ ?side1 ?side2 ?side3 ?side4 ?side5 A46.out).mono ?_
                      (case side1 => exact cl)
                      (case side2 => exact HC0_0.out)
                      (case side3 => exact cl)
                      (case side4 => exact HC0_1.out)
                      (case side5 => exact Glob.below HGL.out bl)
                      rintro e w79 ⟨rfl, hb⟩
                      refine ⟨_, rfl, ?_⟩
                      have n0_ := Aside0.mk (blk_below (g := gb626) (o := .cells #[.slice (some ad639) l0_0.length c0_0, .slice A0_1 l0_1.length c0_1] 25 (0, 0)) bk hb)
                      have n1_ := Aside0.mk (blk_below (g := gb627) (o := .cells #[.int .i64 a1_0, .int .i64 a1_1] 69 (0, 0)) bk hb)
                      have n2_ := Aside0.mk (below_step bl hb)
                      clear BK626
                      clear BK627
                      clear HB
                      have BK626 := n0_
                      have BK627 := n1_
                      have HB := n2_
                      clear n0_ n1_ n2_
                      (try clear hb)
                      (try clear hb2)
                      (try clear hk)
                      (try clear hi)
                      refine hK.out _ _ ⟨(blk_cell BK626.out 0).trans rfl, (blk_cell BK626.out 1).trans rfl⟩ (fun hHeld => ?_)
                      clear hK K
                      refine norm_ (a' := ?_) ?_ ?_
                      rotate_left
                      ·show Act.put _ (some 126) _ = _
                       simp only [Act.put, List.setIfInBounds_toArray, List.set_cons_zero, List.set_cons_succ, i64_w, i32_w]
                       rfl
                      refine pure_ (i := 8) (N := some 12) (v := ?_) (a' := ?_) #[true, true, true, true, true, true, true, true, true, false] rfl rfl (any_of HT_.out (by kernel_rfl)) (fun _ _ _ h => h) (Or.inl ⟨by rfl, ?_⟩) ?_ ?_
                      rotate_left
                      ·intro w'
                       go_simp
                       with_reducible rfl
                      rotate_left
                      ·simp only [Act.put, List.setIfInBounds_toArray, List.set_cons_zero, List.set_cons_succ, i64_w, i32_w]
                       rfl
                      refine pure_ (i := 9) (N := some 13) (v := ?_) (a' := ?_) #[true, true, true, true, true, true, true, true, true, true] rfl rfl (any_of HT_.out (by kernel_rfl)) (fun _ _ _ h => h) (Or.inl ⟨by rfl, ?_⟩) ?_ ?_
                      rotate_left
                      ·intro w'
                       go_simp
                       with_reducible rfl
                      rotate_left
                      ·simp only [Act.put, List.setIfInBounds_toArray, List.set_cons_zero, List.set_cons_succ, i64_w, i32_w]
                       rfl
                      refine done_ (done_of HT_.out (by kernel_rfl)) ?_
                      try go_wp2_with (first | (go_at_call 23; (with_reducible refine (skewbaldlaw01_sawn.calls  t647 _ ?side1 A72.out).mono ?_); (case side1 => exact Glob.below HGL.out bl); rintro e w80 ⟨rfl, hb⟩; have n0_ := Aside0.mk (blk_below (g := gb626) (o := .cells #[.slice (some ad639) l0_0.length c0_0, .slice A0_1 l0_1.length c0_1] 25 (0, 0)) bk hb); have n1_ := Aside0.mk (blk_below (g := gb627) (o := .cells #[.int .i64 a1_0, .int .i64 a1_1] 69 (0, 0)) bk hb); have n2_ := Aside0.mk (below_step bl hb); clear BK626; clear BK627; clear HB; have BK626 := n0_; have BK627 := n1_; have HB := n2_; clear n0_ n1_ n2_; (try clear hb); (try clear hb2); (try clear hk); (try clear hi)))
                      go_ret
                      exact ⟨by first | rfl | (rw [HE_.out]; done) | (simp [HE_.out]; done) | (simp [errW_none, errW_some] <;> rfl) | (simp [*, errW_none, errW_some] <;> rfl), bl⟩
                     ·rw [if_neg c71] at H
                      have c71b0 : decide (t629 ≤ t642) = false := decide_eq_false c71
                      clear c71
                      exact absurd H (by simp)
                    ·rw [if_neg c70] at H
                     have c70b0 : (t628 == t638) = false := beq_eq_false_iff_ne.mpr c70
                     have c70b1 : (t628 != t638) = true := bne_iff_ne.mpr c70
                     exact absurd H (by simp)
                  ·rw [if_neg c59] at H
                   have c59b0 : (t643 == t644) = false := beq_eq_false_iff_ne.mpr c59
                   have c59b1 : (t643 != t644) = true := bne_iff_ne.mpr c59
                   exact absurd H (by simp)
                ·rw [if_neg c48] at H
                 have c48b0 : decide (0 ≤ t644) = false := decide_eq_false c48
                 clear c48
                 exact absurd H (by simp)
               ·rw [if_neg c47] at H
                have c47b0 : decide (0 ≤ t643) = false := decide_eq_false c47
                clear c47
                exact absurd H (by simp)
             ·rw [if_neg c37] at H
              exact absurd H (by simp)
            ·rw [if_neg c36] at H
             exact absurd H (by simp)
        ·rw [if_neg c25] at H
         have c25b0 : (t630 == 0) = false := beq_eq_false_iff_ne.mpr c25
         have c25b1 : (t630 != 0) = true := bne_iff_ne.mpr c25
         replace H := Option.bind_eq_some_iff.mp H
         obtain ⟨t634, A810, H⟩ := H
         replace H : (some t634) = some true := H
         have A81 := Aside0.mk A810
         clear A810
         have HE_ := Aside0.mk (Option.some.inj H)
         clear H
         go_wp2_with (first | ((with_reducible refine gate_callee (f := 23) rfl ?_); refine goesL_ (some 73) rfl rfl Tryd.func23 (by kernel_rfl) rfl #[] rfl (by (try simp only [List.map_toArray, List.map_cons, List.map_nil]); first | done | rfl | (simp only [List.length_drop, List.length_take]; rfl)) ?_; (with_reducible refine (skewbaldlaw01_sawn.calls  t634 _ ?side1 A81.out).mono ?_); (case side1 => exact Glob.below HGL.out bl); rintro e w82 ⟨rfl, hb⟩; refine ⟨_, rfl, ?_⟩; have n0_ := Aside0.mk (blk_below (g := gb626) (o := .cells #[.slice A0_0 l0_0.length c0_0, .slice A0_1 l0_1.length c0_1] 25 (0, 0)) bk hb); have n1_ := Aside0.mk (blk_below (g := gb627) (o := .cells #[.int .i64 a1_0, .int .i64 a1_1] 69 (0, 0)) bk hb); have n2_ := Aside0.mk (below_step bl hb); clear BK626; clear BK627; clear HB; have BK626 := n0_; have BK627 := n1_; have HB := n2_; clear n0_ n1_ n2_; (try clear hb); (try clear hb2); (try clear hk); (try clear hi)))
         go_ret
         exact ⟨by first | rfl | (rw [HE_.out]; done) | (simp [HE_.out]; done) | (simp [errW_none, errW_some] <;> rfl) | (simp [*, errW_none, errW_some] <;> rfl), bl⟩
 ·replace c5 := Bool.eq_false_iff.mpr c5
  subst c5
  have H1 : (if t630 = 10 then (if (wrap64 (t628 + t629)) = 0 then ((skewbaldlaw01_sawn.f).bind fun t632 => (some t632)) else (some false)) else (some false)) = some true := by rw [if_neg (show ¬ (false = true) by decide)] at H; exact H
  clear H
  have H := H1
  clear H1
  by_cases c83 : t630 = 10
  ·rw [if_pos c83] at H
   have c83b0 : (t630 == 10) = true := beq_iff_eq.mpr c83
   have c83b1 : (t630 != 10) = false := bne_eq_false_iff_eq.mpr c83
   clear c83
   by_cases c84 : (wrap64 (t628 + t629)) = 0
   ·rw [if_pos c84] at H
    have c84b0 : ((wrap64 (t628 + t629)) == 0) = true := beq_iff_eq.mpr c84
    have c84b1 : ((wrap64 (t628 + t629)) != 0) = false := bne_eq_false_iff_eq.mpr c84
    clear c84
    replace H := Option.bind_eq_some_iff.mp H
    obtain ⟨t632, A850, H⟩ := H
    replace H : (some t632) = some true := H
    have A85 := Aside0.mk A850
    clear A850
    have HE_ := Aside0.mk (Option.some.inj H)
    clear H
    go_enter Tryd.func12, Tryd.ntmps12
    go_wp2_with (first | ((with_reducible refine gate_dst (N := 2) rfl ?_); (try (refine gate_guard (by rfl) ?_; dsimp only)); refine box_event ?hg (N := 2) ?hd (cs := #[.slice A0_0 l0_0.length c0_0, .slice A0_1 l0_1.length c0_1]) (t := 25) ?hr ?_; (case hd => rfl); (case hg => rfl); (case hr => first | (go_simp; done) | (go_simp; rfl)); intro gb626 hg w86 hbox hb; have n0_ := Aside0.mk (below_step bl hb); have n1_ := Aside0.mk (hbox); have n2_ := Aside0.mk ((by rw [hg]; exact (below_size bl) : w.heap.size ≤ gb626)); have n3_ := Aside0.mk ((by rw [hg]; exact (below_size bl) : w.heap.size ≤ gb626)); clear HB; have HB := n0_; have BK626 := n1_; have GW626 := n2_; have GE626 := n3_; clear n0_ n1_ n2_ n3_; clear hb hbox hg) | ((with_reducible refine gate_dst (N := 3) rfl ?_); (try (refine gate_guard (by rfl) ?_; dsimp only)); refine box_event ?hg (N := 3) ?hd (cs := #[.int .i64 a1_0, .int .i64 a1_1]) (t := 69) ?hr ?_; (case hd => rfl); (case hg => rfl); (case hr => first | (go_simp; done) | (go_simp; rfl)); intro gb627 hg w87 hbox hb; have n0_ := Aside0.mk (blk_below (g := gb626) (o := .cells #[.slice A0_0 l0_0.length c0_0, .slice A0_1 l0_1.length c0_1] 25 (0, 0)) bk hb); have n1_ := Aside0.mk (below_step bl hb); have n2_ := Aside0.mk (hbox); have n3_ := Aside0.mk ((by rw [hg]; exact (below_size bl) : w.heap.size ≤ gb627)); have n4_ := Aside0.mk ((by rw [hg]; exact (below_size bl) : w.heap.size ≤ gb627)); have n5_ := Aside0.mk ((by rw [hg]; exact Nat.ne_of_lt (blk_lt (g := gb626) (o := .cells #[.slice A0_0 l0_0.length c0_0, .slice A0_1 l0_1.length c0_1] 25 (0, 0)) bk) : gb626 ≠ gb627)); have n6_ := Aside0.mk ((by rw [hg]; exact Nat.ne_of_gt (blk_lt (g := gb626) (o := .cells #[.slice A0_0 l0_0.length c0_0, .slice A0_1 l0_1.length c0_1] 25 (0, 0)) bk) : gb627 ≠ gb626)); clear BK626; clear HB; have BK626 := n0_; have HB := n1_; have BK627 := n2_; have GW627 := n3_; have GE627 := n4_; have NB626_627 := n5_; have NB627_626 := n6_; clear n0_ n1_ n2_ n3_ n4_ n5_ n6_; clear hb hbox hg; have hnb88 := NB626_627.out; have hnc88 := NB627_626.out; have hcz89_0 : w87.cell? ⟨gb626, 0, none⟩ = some (.slice A0_0 l0_0.length c0_0) := (blk_cell BK626.out 0).trans rfl; have hcz89_1 : w87.cell? ⟨gb626, 1, none⟩ = some (.slice A0_1 l0_1.length c0_1) := (blk_cell BK626.out 1).trans rfl; have hfz89_0 := blk_frozen BK626.out 0; have hfz89_1 := blk_frozen BK626.out 1) | ((with_reducible refine gate_callee (f := 32) rfl ?_); refine goesL_ (some 16) rfl rfl Tryd.func32 (by kernel_rfl) rfl #[.agg #[.slice A0_0 l0_0.length c0_0, .slice A0_1 l0_1.length c0_1]] rfl (by (try simp only [List.map_toArray, List.map_cons, List.map_nil]); first | done | rfl | (simp only [List.length_drop, List.length_take]; rfl)) ?_; (with_reducible refine (plank_Look.calls _ _ l0_0 _ _ l0_1 t628 t629 t630 _ ?side1 ?side2 ?side3 ?side4 ?side5 A3.out).mono ?_); (case side1 => exact cl); (case side2 => exact HC0_0.out); (case side3 => exact cl); (case side4 => exact HC0_1.out); (case side5 => exact Glob.below HGL.out bl); rintro e w90 ⟨rfl, hb⟩; refine ⟨_, rfl, ?_⟩; have n0_ := Aside0.mk (blk_below (g := gb626) (o := .cells #[.slice A0_0 l0_0.length c0_0, .slice A0_1 l0_1.length c0_1] 25 (0, 0)) bk hb); have n1_ := Aside0.mk (blk_below (g := gb627) (o := .cells #[.int .i64 a1_0, .int .i64 a1_1] 69 (0, 0)) bk hb); have n2_ := Aside0.mk (below_step bl hb); clear BK626; clear BK627; clear HB; have BK626 := n0_; have BK627 := n1_; have HB := n2_; clear n0_ n1_ n2_; (try clear hb); (try clear hb2); (try clear hk); (try clear hi); have hcz91_0 : w90.cell? ⟨gb626, 0, none⟩ = some (.slice A0_0 l0_0.length c0_0) := (blk_cell BK626.out 0).trans rfl; have hcz91_1 : w90.cell? ⟨gb626, 1, none⟩ = some (.slice A0_1 l0_1.length c0_1) := (blk_cell BK626.out 1).trans rfl; have hfz91_0 := blk_frozen BK626.out 0; have hfz91_1 := blk_frozen BK626.out 1) | ((with_reducible refine gate_callee (f := 34) rfl ?_); refine goesL_ (some 21) rfl rfl Tryd.func34 (by kernel_rfl) rfl #[.agg #[.slice A0_0 l0_0.length c0_0, .slice A0_1 l0_1.length c0_1]] rfl (by (try simp only [List.map_toArray, List.map_cons, List.map_nil]); first | done | rfl | (simp only [List.length_drop, List.length_take]; rfl)) ?_; (with_reducible refine (skewbaldlaw01_sound.calls k _ _ l0_0 _ _ l0_1 false _ ?side1 ?side2 ?side3 ?side4 A4.out).mono ?_); (case side1 => exact cl); (case side2 => exact HC0_0.out); (case side3 => exact cl); (case side4 => exact HC0_1.out); rintro e w92 ⟨rfl, hb⟩; refine ⟨_, rfl, ?_⟩; have n0_ := Aside0.mk (blk_below (g := gb626) (o := .cells #[.slice A0_0 l0_0.length c0_0, .slice A0_1 l0_1.length c0_1] 25 (0, 0)) bk hb); have n1_ := Aside0.mk (blk_below (g := gb627) (o := .cells #[.int .i64 a1_0, .int .i64 a1_1] 69 (0, 0)) bk hb); have n2_ := Aside0.mk (below_step bl hb); clear BK626; clear BK627; clear HB; have BK626 := n0_; have BK627 := n1_; have HB := n2_; clear n0_ n1_ n2_; (try clear hb); (try clear hb2); (try clear hk); (try clear hi)) | (go_at_call 23; (with_reducible refine (skewbaldlaw01_sawn.calls  t632 _ ?side1 A85.out).mono ?_); (case side1 => exact Glob.below HGL.out bl); rintro e w93 ⟨rfl, hb⟩; have n0_ := Aside0.mk (blk_below (g := gb626) (o := .cells #[.slice A0_0 l0_0.length c0_0, .slice A0_1 l0_1.length c0_1] 25 (0, 0)) bk hb); have n1_ := Aside0.mk (blk_below (g := gb627) (o := .cells #[.int .i64 a1_0, .int .i64 a1_1] 69 (0, 0)) bk hb); have n2_ := Aside0.mk (below_step bl hb); clear BK626; clear BK627; clear HB; have BK626 := n0_; have BK627 := n1_; have HB := n2_; clear n0_ n1_ n2_; (try clear hb); (try clear hb2); (try clear hk); (try clear hi)))
    go_ret
    exact ⟨by first | rfl | (rw [HE_.out]; done) | (simp [HE_.out]; done) | (simp [errW_none, errW_some] <;> rfl) | (simp [*, errW_none, errW_some] <;> rfl), bl⟩
   ·rw [if_neg c84] at H
    have c84b0 : ((wrap64 (t628 + t629)) == 0) = false := beq_eq_false_iff_ne.mpr c84
    have c84b1 : ((wrap64 (t628 + t629)) != 0) = true := bne_iff_ne.mpr c84
    exact absurd H (by simp)
  ·rw [if_neg c83] at H
   have c83b0 : (t630 == 10) = false := beq_eq_false_iff_ne.mpr c83
   have c83b1 : (t630 != 10) = true := bne_iff_ne.mpr c83
   exact absurd H (by simp)
end Go.Proofs.YtekjlpldooihhaaDoor.PT
namespace Go.Proofs.YtekjlpldooihhaaDoor.PR
open Go.RowKit Go.Proofs.YtekjlpldooihhaaDoorW.PrintWords Go.Proofs.YtekjlpldooihhaaDoorW.PrintMore Go.Proofs.YtekjlpldooihhaaDoorEv Go.Proofs.YtekjlpldooihhaaDoorP Go.Proofs.YtekjlpldooihhaaDoor.PT Go.Proofs.YtekjlpldooihhaaDoorH Go.Proofs.YtekjlpldooihhaaDoorK
open Go.Proofs.YtekjlpldooihhaaDoor.PA (S48 S50 S60 k48 k50 k60 z48 z50 z60 rd_T48 rd_T50 rd_T60 rd_L4)
set_option linter.unusedVariables false
set_option linter.unusedSimpArgs false
theorem valid_set {P : List S48} {Q : List S50} (hv : validB P Q = true) {p k : Nat} (hp : p < P.length) {n : Int} (h0 : 0 ≤ n) (hL : n < (P.getD p z48).f0) : validB (setKnot P p k n) Q = true := by
  obtain ⟨h1, h3, h4, h5, hw, hq⟩ := valid_told hv
  unfold validB
  rw [set_length]
  simp only [Bool.and_eq_true, decide_eq_true_eq, List.all_eq_true]
  refine ⟨⟨⟨h1, h3⟩, h4, h5⟩, fun y hy => ?_, hq⟩
  unfold setKnot at hy
  rcases List.mem_or_eq_of_mem_set hy with h | rfl
  · exact hw y h
  · have hm : P.getD p z48 ∈ P := by rw [getD_el hp]; exact List.getElem_mem hp
    obtain ⟨a, b, c, d⟩ := woodB_told (hw _ hm)
    unfold woodB
    simp only [Bool.and_eq_true, decide_eq_true_eq, List.all_eq_true, List.length_set]
    refine ⟨⟨a, b⟩, c, fun s hs => ?_⟩
    rcases List.mem_or_eq_of_mem_set hs with h | rfl
    · exact d s h
    · unfold knotB
      simp only [Bool.and_eq_true, decide_eq_true_eq]
      exact ⟨h0, Int.le_refl _, hL, by omega⟩
theorem most_len2 {P : List S48} {Q : List S50} (hq : Q.length ≤ 5) : (mostN P Q).length ≤ Q.length := by
  obtain ⟨⟨s, hs, e, _⟩, _⟩ := most_spec P Q
  rw [e]
  exact setL_le Q.length hq s hs
theorem foldl_start {M : Int} : ∀ (l : List Int), l ≠ [] → (∀ x ∈ l, x ≤ M) → l.foldl mn M = l.foldl mn (l.getD 0 0)
  | [], h, _ => absurd rfl h
  | x :: xs, _, h => by
    have := h x (by simp)
    rw [List.foldl_cons, List.foldl_cons, show (x :: xs).getD 0 0 = x from rfl, mn_eq, mn_eq]
    congr 1
    omega
theorem worst_same {P : List S48} {Q : List S50} (hq : Q.length ≤ 5) {p k lo hi : Nat} (h0 : ((P.getD p z48).f1.getD k z60).f0 = lo) (h1 : ((P.getD p z48).f1.getD k z60).f1 = hi) (hle : lo ≤ hi) :
    (worstTo P Q p k (hi + 1 - lo)).foldl mn (Q.length : Int) = worstB P Q p k := by
  rw [worst_is P Q p k lo hi h0 h1 hle, show hi - lo + 1 = hi + 1 - lo by omega]
  refine foldl_start _ (fun e => ?_) (fun x hx => ?_)
  · have := worst_len P Q p k (hi + 1 - lo)
    rw [e] at this
    simp at this
    omega
  · unfold worstTo at hx
    obtain ⟨n, _, rfl⟩ := List.mem_map.1 hx
    unfold knotLen
    have := most_len2 (P := setKnot P p k (((P.getD p z48).f1.getD k z60).f0 + (n : Int))) hq
    omega
theorem foldl_nonneg : ∀ (l : List Int) (a : Int), 0 ≤ a → (∀ x ∈ l, 0 ≤ x) → 0 ≤ l.foldl mn a
  | [], a, h, _ => h
  | x :: xs, a, h, hx => by
    rw [List.foldl_cons]
    refine foldl_nonneg xs _ ?_ (fun y hy => hx y (by simp [hy]))
    have := hx x (by simp)
    rw [mn_eq]; omega
theorem worst_nonneg {P : List S48} {Q : List S50} (hv : validB P Q = true) {p k : Nat} (hp : p < P.length) (hk : k < (P.getD p z48).f1.length) : 0 ≤ worstB P Q p k := by
  obtain ⟨lo, hi, h0, h1, hle, _, _⟩ := (valid_knots hv hp).2 k hk
  rw [← worst_same (valid_ok hv).q5 h0 h1 hle]
  refine foldl_nonneg _ _ (by omega) (fun x hx => ?_)
  unfold worstTo at hx
  obtain ⟨n, _, rfl⟩ := List.mem_map.1 hx
  unfold knotLen
  omega
theorem worst_l0 {P : List S48} {Q : List S50} (hv : validB P Q = true) {i k : Nat} (hi : i < P.length) (hk : k < (P.getD i z48).f1.length) {lo hi' : Nat} (h0 : ((P.getD i z48).f1.getD k z60).f0 = lo) (h1 : ((P.getD i z48).f1.getD k z60).f1 = hi') (hle : lo ≤ hi') (h16 : hi' < 16) (hL : (hi' : Int) < (P.getD i z48).f0) :
    ∀ (d j : Nat), j + d = hi' + 1 - lo → Evt (fun n => skewbaldlaw01_worst.l0 n (i : Int) (k : Int) ((worstTo P Q i k j).foldl mn (Q.length : Int)) ((lo + j : Nat) : Int) P Q) (worstB P Q i k)
  | 0, j, hj => by
    refine Evt.succ ?_
    simp only [skewbaldlaw01_worst.l0]
    rw [show j = hi' + 1 - lo by omega, worst_same (valid_ok hv).q5 h0 h1 hle, rd48, rd60, h1]
    exact Evt.pos (by omega) (Evt.pos (by omega) (Evt.pos (by omega) (Evt.pos (by omega) (Evt.neg (by omega) (Evt.pure _)))))
  | d + 1, j, hj => by
    have h3 := (valid_ok hv).p3
    have hk3 := (Ok.plankOk (valid_ok hv) hi).few
    refine Evt.succ ?_
    simp only [skewbaldlaw01_worst.l0]
    have ih := worst_l0 hv hi hk h0 h1 hle h16 hL d (j + 1) (by omega)
    rw [worst_next, List.foldl_append, h0] at ih
    have hkn : skewbaldlaw01_known.f P Q (i : Int) (k : Int) ((lo + j : Nat) : Int) = some (setKnot P i k ((lo : Int) + (j : Int)), Q) := by
      unfold skewbaldlaw01_known.f
      simp only [Int.toNat_natCast]
      rw [if_pos ⟨by omega, by omega, by omega, by omega, by omega, by omega⟩, show ((lo + j : Nat) : Int) = (lo : Int) + (j : Int) by omega]
    rw [hkn, rd48, rd60, h1, w64 (lo + j) (by omega)]
    simp only [Option.bind_some, plank_Most.f]
    have hm : mostP (setKnot P i k ((lo : Int) + (j : Int))) Q = (ints (mostN (setKnot P i k ((lo : Int) + (j : Int))) Q), 0) := by unfold mostP; rw [valid_set hv hi (by omega) (by omega)]; rfl
    rw [hm]
    refine Evt.pos (by omega) (Evt.pos (by omega) (Evt.pos (by omega) (Evt.pos (by omega) (Evt.pos (by omega) (Evt.pos rfl ?_)))))
    rw [ints_length]
    exact ih
theorem worst_f {P : List S48} {Q : List S50} (hv : validB P Q = true) {i k : Nat} (hi : i < P.length) (hk : k < (P.getD i z48).f1.length) : Evt (fun n => skewbaldlaw01_worst.f n P Q (i : Int) (k : Int)) (worstB P Q i k) := by
  obtain ⟨lo, hi', h0, h1, hle, _, h16⟩ := (valid_knots hv hi).2 k hk
  have hL : (hi' : Int) < (P.getD i z48).f0 := by
    obtain ⟨_, _, _, _, hw, _⟩ := valid_told hv
    have hm : P.getD i z48 ∈ P := by rw [getD_el hi]; exact List.getElem_mem hi
    obtain ⟨_, _, _, d⟩ := woodB_told (hw _ hm)
    have := d ((P.getD i z48).f1.getD k z60) (by rw [getD_el hk]; exact List.getElem_mem hk)
    unfold knotB at this
    simp only [Bool.and_eq_true, decide_eq_true_eq] at this
    omega
  unfold skewbaldlaw01_worst.f
  rw [rd48, rd60, h0]
  exact Evt.pos (by omega) (Evt.pos (by omega) (Evt.pos (by omega) (Evt.pos (by omega) (worst_l0 hv hi hk h0 h1 hle h16 hL _ 0 (Nat.zero_add _)))))
def BestK (P : List S48) (Q : List S50) (V : Nat → Nat → Prop) (z : Int × Int × Int) : Prop :=
  (z = (0, 0, -1) ∧ ∀ a b, ¬ V a b) ∨ ∃ pi ki, V pi ki ∧ z = ((pi : Int), (ki : Int), worstB P Q pi ki) ∧ ∀ a b, V a b → worstB P Q a b < worstB P Q pi ki ∨ (worstB P Q a b = worstB P Q pi ki ∧ (pi < a ∨ (pi = a ∧ ki ≤ b)))
theorem BestK.step {P : List S48} {Q : List S50} {V : Nat → Nat → Prop} {z : Int × Int × Int} (h : BestK P Q V z) {p k : Nat} (hV : ∀ a b, V a b → a < p ∨ (a = p ∧ b < k)) (hw : 0 ≤ worstB P Q p k) : BestK P Q (fun a b => V a b ∨ (a = p ∧ b = k)) (lookStep P Q p k z) := by
  unfold lookStep
  rcases h with ⟨rfl, hno⟩ | ⟨pi, ki, h1, rfl, h2⟩
  · rw [if_pos (by show (-1 : Int) < _; omega)]
    refine .inr ⟨p, k, .inr ⟨rfl, rfl⟩, rfl, fun a b hab => ?_⟩
    rcases hab with hab | ⟨rfl, rfl⟩
    · exact absurd hab (hno a b)
    · exact .inr ⟨rfl, .inr ⟨rfl, Nat.le_refl _⟩⟩
  · by_cases hlt : worstB P Q pi ki < worstB P Q p k
    · rw [if_pos hlt]
      refine .inr ⟨p, k, .inr ⟨rfl, rfl⟩, rfl, fun a b hab => ?_⟩
      rcases hab with hab | ⟨rfl, rfl⟩
      · left; rcases h2 a b hab with h | h <;> omega
      · exact .inr ⟨rfl, .inr ⟨rfl, Nat.le_refl _⟩⟩
    · rw [if_neg hlt]
      refine .inr ⟨pi, ki, .inl h1, rfl, fun a b hab => ?_⟩
      rcases hab with hab | ⟨rfl, rfl⟩
      · exact h2 a b hab
      · rcases hV pi ki h1 with h | h
        · by_cases e : worstB P Q a b = worstB P Q pi ki
          · exact .inr ⟨e, .inl h⟩
          · left; omega
        · by_cases e : worstB P Q a b = worstB P Q pi ki
          · exact .inr ⟨e, .inr ⟨h.1, by omega⟩⟩
          · left; omega
def Vis (P : List S48) (p k : Nat) (a b : Nat) : Prop := b < (P.getD a z48).f1.length ∧ (a < p ∨ (a = p ∧ b < k))
theorem BestK.congr {P : List S48} {Q : List S50} {V V' : Nat → Nat → Prop} {z : Int × Int × Int} (h : BestK P Q V z) (e : ∀ a b, V a b ↔ V' a b) : BestK P Q V' z := by
  rcases h with ⟨h1, h2⟩ | ⟨pi, ki, h1, h2, h3⟩
  · exact .inl ⟨h1, fun a b h => h2 a b ((e a b).2 h)⟩
  · exact .inr ⟨pi, ki, (e _ _).1 h1, h2, fun a b h => h3 a b ((e a b).2 h)⟩
theorem lookIn_best {P : List S48} {Q : List S50} (hv : validB P Q = true) {p : Nat} (hp : p < P.length) {z : Int × Int × Int} (hz : BestK P Q (Vis P p 0) z) : ∀ k, k ≤ (P.getD p z48).f1.length → BestK P Q (Vis P p k) (lookIn P Q p z k)
  | 0, _ => hz
  | k + 1, hk => by
    have h := lookIn_best hv hp hz k (by omega)
    refine (h.step (p := p) (k := k) (fun a b hab => hab.2) (worst_nonneg hv hp (by omega))).congr (fun a b => ?_)
    unfold Vis
    constructor
    · rintro (⟨h1, h2⟩ | ⟨rfl, rfl⟩)
      · exact ⟨h1, by omega⟩
      · exact ⟨by omega, by omega⟩
    · rintro ⟨h1, h2⟩
      by_cases e : a = p ∧ b = k
      · exact .inr e
      · exact .inl ⟨h1, by omega⟩
theorem lookTo_best {P : List S48} {Q : List S50} (hv : validB P Q = true) : ∀ p, p ≤ P.length → BestK P Q (Vis P p 0) (lookTo P Q p)
  | 0, _ => .inl ⟨rfl, fun a b h => by unfold Vis at h; omega⟩
  | p + 1, hp => by
    refine (lookIn_best hv (by omega) (lookTo_best hv p (by omega)) _ (Nat.le_refl _)).congr (fun a b => ?_)
    unfold Vis
    constructor
    · rintro ⟨h1, h2⟩
      exact ⟨h1, by omega⟩
    · rintro ⟨h1, h2⟩
      refine ⟨h1, ?_⟩
      by_cases e : a = p
      · subst e; exact .inr ⟨rfl, h1⟩
      · left; omega
def manyTo (P : List S48) (j : Nat) : Nat := ((List.range j).map fun a => (P.getD a z48).f1.length).sum
theorem many_next (P : List S48) (j : Nat) : manyTo P (j + 1) = manyTo P j + (P.getD j z48).f1.length := by unfold manyTo; rw [List.range_succ, List.map_append, List.sum_append]; simp
theorem many_le {P : List S48} (h : ∀ a, a < P.length → (P.getD a z48).f1.length ≤ 3) : ∀ j, j ≤ P.length → manyTo P j ≤ 3 * j
  | 0, _ => by simp [manyTo]
  | j + 1, hj => by rw [many_next]; have := many_le h j (by omega); have := h j (by omega); omega
theorem many_zero (P : List S48) : ∀ j, manyTo P j = 0 ↔ ∀ a, a < j → (P.getD a z48).f1.length = 0
  | 0 => by simp [manyTo]
  | j + 1 => by
    rw [many_next, Nat.add_eq_zero_iff, many_zero P j]
    constructor
    · rintro ⟨h1, h2⟩ a ha
      by_cases e : a = j
      · subst e; exact h2
      · exact h1 a (by omega)
    · exact fun h => ⟨fun a ha => h a (by omega), h j (by omega)⟩
theorem plankLook_j2 {P : List S48} {Q : List S50} (hv : validB P Q = true) {pi ki : Nat} (hpi : pi < P.length) (hki : ki < (P.getD pi z48).f1.length) (hb : ∀ a b, Vis P P.length 0 a b → worstB P Q a b < worstB P Q pi ki ∨ (worstB P Q a b = worstB P Q pi ki ∧ (pi < a ∨ (pi = a ∧ ki ≤ b)))) (n0 n1 : Int) :
    Evt (fun k => skewbaldlaw01_PlankLook.j2 k (pi : Int) (ki : Int) false P Q n0 n1) true := by
  obtain ⟨h1, h3, _, _, _, _⟩ := valid_told hv
  refine Evt.succ ?_
  simp only [skewbaldlaw01_PlankLook.j2]
  obtain ⟨p, hp, e⟩ := Round_nat n0 P.length h1 (by omega)
  have hk3 := (Ok.plankOk (valid_ok hv) hp).few
  rw [e]
  simp only [Option.bind_some]
  rw [rd48]
  refine Evt.neg (by simp) (Evt.pos (by omega) (Evt.pos (by omega) (Evt.ite (fun h => Evt.bind sawn_f (Evt.pure _)) (fun h => ?_))))
  obtain ⟨q, hq, e2⟩ := Round_nat n1 (P.getD p z48).f1.length (by omega) (by omega)
  rw [e2]
  simp only [Option.bind_some]
  have hw1 := worst_nonneg hv hpi hki
  have hw2 := worst_nonneg hv hp hq
  refine Evt.bind (worst_f hv hpi hki) (Evt.bind (worst_f hv hp hq) (Evt.pos hw1 (Evt.pos hw2 ?_)))
  rcases hb p q ⟨hq, .inl hp⟩ with h4 | ⟨h4, h5⟩
  · exact Evt.pos h4 (Evt.bind sawn_f (Evt.pure _))
  · refine Evt.neg (by omega) (Evt.pos h4.symm (Evt.ite (fun _ => Evt.bind sawn_f (Evt.pure _)) (fun h6 => ?_)))
    have : pi = p ∧ ki ≤ q := by rcases h5 with h5 | h5; (· omega); (· exact h5)
    exact Evt.pos (by omega) (Evt.pos (by omega) (Evt.bind sawn_f (Evt.pure _)))
theorem plankLook_l0 {P : List S48} {Q : List S50} (hv : validB P Q = true) (n0 n1 : Int) : ∀ (d j : Nat), j + d = P.length → Evt (fun k => skewbaldlaw01_PlankLook.l0 k (lookP P Q).1 (lookP P Q).2.1 (lookP P Q).2.2 ((manyTo P j : Nat) : Int) (j : Int) P Q n0 n1) true
  | 0, j, hj => by
    obtain rfl : j = P.length := by omega
    obtain ⟨h1, h3, _, _, _, _⟩ := valid_told hv
    have hl : lookP P Q = (if (lookTo P Q P.length).2.2 < 0 then (0, 0, 4) else ((lookTo P Q P.length).1, (lookTo P Q P.length).2.1, (0 : Int))) := by unfold lookP; rw [hv]; rfl
    refine Evt.succ ?_
    simp only [skewbaldlaw01_PlankLook.l0]
    refine Evt.neg (by omega) ?_
    rcases lookTo_best hv P.length (Nat.le_refl _) with ⟨ez, hno⟩ | ⟨pi, ki, hvis, ez, hb⟩
    · have hm : manyTo P P.length = 0 := (many_zero P P.length).2 (fun a ha => by
        rcases Nat.eq_zero_or_pos (P.getD a z48).f1.length with h | h
        · exact h
        · exact absurd ⟨h, .inl ha⟩ (hno a 0))
      rw [hl, ez, hm]
      refine Evt.neg (by simp) (Evt.neg (by simp) (Evt.pos (by simp) (Evt.pos (by simp) (Evt.succ ?_))))
      simp only [skewbaldlaw01_PlankLook.j1]
      exact Evt.neg (by simp) (Evt.neg (by simp) (Evt.bind sawn_f (Evt.pure _)))
    · have hpi : pi < P.length := by rcases hvis.2 with h | h <;> omega
      have hki := hvis.1
      have hw := worst_nonneg hv hpi hki
      have hk3 := (Ok.plankOk (valid_ok hv) hpi).few
      have hm : manyTo P P.length ≠ 0 := fun h => by have := (many_zero P P.length).1 h pi hpi; omega
      have e : lookP P Q = ((pi : Int), (ki : Int), 0) := by rw [hl, ez, if_neg (by show ¬ worstB P Q pi ki < 0; omega)]
      rw [e]
      refine Evt.neg (by simp; omega) (Evt.pos rfl (Evt.succ ?_))
      simp only [skewbaldlaw01_PlankLook.j1]
      rw [In_f, In_f, rd48, show wrap64 ((P.length : Int) - 1) = (P.length : Int) - 1 by unfold wrap64; omega, show wrap64 (((P.getD pi z48).f1.length : Int) - 1) = ((P.getD pi z48).f1.length : Int) - 1 by unfold wrap64; omega]
      simp only [Option.bind_some]
      rw [show (decide (0 ≤ (pi : Int)) && decide ((pi : Int) ≤ (P.length : Int) - 1)) = true from by simp; omega, show (decide (0 ≤ (ki : Int)) && decide ((ki : Int) ≤ ((P.getD pi z48).f1.length : Int) - 1)) = true from by rw [Bool.and_eq_true]; exact ⟨decide_eq_true (by omega), decide_eq_true (by omega)⟩]
      exact Evt.neg (by simp) (Evt.pos (by trivial) (Evt.pos (by trivial) (Evt.pos (by omega) (Evt.pos (by omega) (plankLook_j2 hv hpi hki hb n0 n1)))))
  | d + 1, j, hj => by
    obtain ⟨h1, h3, _, _, _, _⟩ := valid_told hv
    have hlt : j < P.length := by omega
    have hm := many_le (fun a ha => (Ok.plankOk (valid_ok hv) ha).few) (j + 1) (by omega)
    have hm2 := many_next P j
    refine Evt.succ ?_
    simp only [skewbaldlaw01_PlankLook.l0]
    rw [rd48, w64 j (by omega), show wrap64 (((manyTo P j : Nat) : Int) + ((P.getD j z48).f1.length : Int)) = ((manyTo P (j + 1) : Nat) : Int) by unfold wrap64; omega]
    exact Evt.pos (by omega) (Evt.pos (by omega) (plankLook_l0 hv n0 n1 d (j + 1) (by omega)))
theorem plankLook_f {P : List S48} {Q : List S50} (n0 n1 : Int) : Evt (fun k => skewbaldlaw01_PlankLook.f k P Q n0 n1) true := by
  unfold skewbaldlaw01_PlankLook.f plank_Look.f
  simp only [Option.bind_some]
  refine Evt.bind sound_f (Evt.ite (fun hv => plankLook_l0 hv n0 n1 P.length 0 (by omega)) (fun hv => ?_))
  have e : lookP P Q = (0, 0, 10) := by unfold lookP; rw [show validB P Q = false from by simpa using hv]; rfl
  rw [e]
  exact Evt.pos (by trivial) (Evt.pos (by show wrap64 (0 + 0) = 0; unfold wrap64; omega) (Evt.bind sawn_f (Evt.pure _)))
end Go.Proofs.YtekjlpldooihhaaDoor.PR
namespace Go.Proofs.YtekjlpldooihhaaDoor.PlankLookRow.Pure
open Go.RowKit Go.Proofs.YtekjlpldooihhaaDoorW.PrintWords Go.Proofs.YtekjlpldooihhaaDoorEv Go.Proofs.YtekjlpldooihhaaDoorP Go.Proofs.YtekjlpldooihhaaDoor.PT Go.Proofs.YtekjlpldooihhaaDoor.PR
open Go.Proofs.YtekjlpldooihhaaDoor.PA (S48 S50 k48 k50)
set_option linter.unusedVariables false
theorem plankLook (W : World) (P : List S48) (Q : List S50) (a b : Int) {A : Option Addr} (hP : Kd.C k48 W A P.length P) (w0 : ∀ y ∈ P, wfWood y) {B : Option Addr} (hQ : Kd.C k50 W B Q.length Q) (w1 : ∀ x ∈ Q, wfShape x) (w2 : (Lit.int .i64 a).wf = true) (w3 : (Lit.int .i64 b).wf = true) :
    ∃ k, skewbaldlaw01_PlankLook.f k P Q a b = some true :=
  (plankLook_f a b).get
end Go.Proofs.YtekjlpldooihhaaDoor.PlankLookRow.Pure
