/- Package plank, plain laws: the reference's Check, Can and Spots. -/
import Derived.Test.YtekjlpldooihhaaDoorPAx0
import Derived.Test.YtekjlpldooihhaaDoorPv
import Derived.Test.YtekjlpldooihhaaDoorPTx3
import Derived.Test.YtekjlpldooihhaaDoorPTx5
import Derived.Test.YtekjlpldooihhaaDoorPTx2
import Derived.Test.YtekjlpldooihhaaDoorPTx6
import Derived.Test.YtekjlpldooihhaaDoorPi
import Derived.Test.YtekjlpldooihhaaDoorPo
namespace Go.Proofs.YtekjlpldooihhaaDoor.PT
open Go.Proofs.YtekjlpldooihhaaDoorSh
open Go.Proofs.YtekjlpldooihhaaDoor.PA (S48 S50 S60 at_L2 at_L4 at_T48 at_T50 at_T60 errW errW_none errW_some k48 k48_mk k48_mkM k48_open k48_openM k50 k50_mk k50_mkM k50_open k50_openM k60 k60_mk k60_mkM k60_open k60_openM rd_L2 rd_L4 rd_T48 rd_T50 rd_T60 z48 z50 z60)
open Go.Proofs.YtekjlpldooihhaaDoorP Go.Proofs.YtekjlpldooihhaaDoorK
open Go.RowKit Go.Proofs.YtekjlpldooihhaaDoorW.PrintWords Go.Proofs.YtekjlpldooihhaaDoorW.PrintLast Go.Proofs.YtekjlpldooihhaaDoorW.PrintMore
attribute [local go_sem] max2_int min2_int max_two min_two max_three min_three max_four min_four   -- for this text's walks alone
set_option linter.unusedVariables false
set_option linter.unusedSimpArgs false
def skewbaldref01_spots.l0 : Nat → Int → Int → List Int → Int → List (S48) → List (S50) → Option (List Int)
 | 0, _, _, _, _, _, _ => none
 | k + 1, x1, x2, x7, x8, x175000, x175001 => (skewbaldref01_lies.f x175000 x175001 x1 x2 x8).bind fun t178 => (if t178 = true then ((skewbaldref01_can.f k x175000 x175001 x1 x2 x8).bind fun t179 => (if t179 = 2 then (if x7.length < 17592186044416 then (skewbaldref01_spots.l0 k x1 x2 (x7 ++ [x8]) (wrap64 (x8 + 1)) x175000 x175001) else (none)) else (skewbaldref01_spots.l0 k x1 x2 x7 (wrap64 (x8 + 1)) x175000 x175001))) else (some x7))
def skewbaldref01_spots.f (k : Nat) (l0_0 : List (S48)) (l0_1 : List (S50)) (a1 : Int) (a2 : Int) : Option (List Int) := skewbaldref01_spots.l0 k a1 a2 (([] : List Int)) 0 l0_0 l0_1
set_option maxHeartbeats 8000000 in
set_option maxRecDepth 100000 in
theorem skewbaldref01_spots.calls (k : Nat) (A0_0 : Option Addr) (c0_0 : Nat) (l0_0 : List (S48)) (A0_1 : Option Addr) (c0_1 : Nat) (l0_1 : List (S50)) (a1 : Int) (a2 : Int) (r : List Int) (w : World) (hr0_0 : Kd.C k48 w A0_0 l0_0.length l0_0) (hc0_0 : l0_0.length ≤ c0_0) (hr0_1 : Kd.C k50 w A0_1 l0_1.length l0_1) (hc0_1 : l0_1.length ≤ c0_1) (h : skewbaldref01_spots.f k l0_0 l0_1 a1 a2 = some r) :
  Calls Tryd.prog 75 #[.agg #[.slice A0_0 l0_0.length c0_0, .slice A0_1 l0_1.length c0_1], .int .i64 a1, .int .i64 a2] w fun e w' => ∃ v0_ : Value, e = .returned (v0_) ∧ Kd.R (Kd.int .i64) 3 w' w.heap.size (fun _ => True) v0_ r ∧ Below w.heap.size w w' := by
 have hu25 := Tryd.underlying25
 have HR0_0 := Aside0.mk hr0_0
 have HC0_0 := Aside0.mk hc0_0
 clear hr0_0 hc0_0
 have HR0_1 := Aside0.mk hr0_1
 have HC0_1 := Aside0.mk hc0_1
 clear hr0_1 hc0_1
 have HB := Aside0.mk (Below.refl w.heap.size w)
 have H : (skewbaldref01_spots.l0 k a1 a2 (([] : List Int)) 0 l0_0 l0_1) = some r := h
 clear h
 obtain ⟨y175, hy175⟩ : ∃ y_ : List Int, y_ = (([] : List Int)) := ⟨_, rfl⟩
 replace H : (skewbaldref01_spots.l0 k a1 a2 y175 0 l0_0 l0_1) = some r := by first | (rw [hy175]; with_reducible exact H) | (have H2_ := (Option.bind_some _ _).symm.trans H; rw [hy175]; with_reducible exact H2_) | (have H2_ := (Option.bind_some _ _).symm.trans H; with_reducible exact H2_) | with_reducible exact H | (rw [hy175]; exact H) | exact H
 have Ny175 := Aside0.mk hy175
 clear hy175
 have H' := Aside0.mk H
 clear H
 go_enter Tryd.func75, Tryd.ntmps75
 go_wp2_with (first | ((with_reducible refine gate_dst (N := 3) rfl ?_); refine box_event ?hg (N := 3) ?hd (cs := #[.slice A0_0 l0_0.length c0_0, .slice A0_1 l0_1.length c0_1]) (t := 25) ?hr ?_; (case hd => rfl); (case hg => rfl); (case hr => first | (go_simp; done) | (go_simp; rfl)); intro gb174 hg w4 hbox hb; have n0_ := Aside0.mk (below_step bl hb); have n1_ := Aside0.mk (hbox); have n2_ := Aside0.mk ((by rw [hg]; exact (below_size bl) : w.heap.size ≤ gb174)); have n3_ := Aside0.mk ((by rw [hg]; exact (below_size bl) : w.heap.size ≤ gb174)); clear HB; have HB := n0_; have BK174 := n1_; have GW174 := n2_; have GE174 := n3_; clear n0_ n1_ n2_ n3_; clear hb hbox hg) | ((with_reducible refine gate_dst (N := 9) rfl ?_); refine Kd.R_lit (Kd.int .i64) _ 3 ?hg (N := 9) ?hd (xs := ([] : List Int)) (inner := []) (ok := fun _ => True) (okp := fun _ => True) ?hr ?hp (fun _ hk => hk) trivial (Below.refl _ _) (Nat.le_refl _) (by simp) ?_; (case hd => rfl); (case hg => rfl); (case hr => first | (go_simp; done) | (go_simp; rfl)); (case hp => exact (Reps.none _ _)); intro v176 w5 ho6 hb hg_ hnew_; clear hg_ hnew_; (first | rw [← Ny175.out] at ho6 | (simp only [Int.reduceToNat] at ho6; rw [← Ny175.out] at ho6)); have n0_ := Aside0.mk (Kd.R_lower ho6 (below_size bl)); have n1_ := Aside0.mk (blk_below (g := gb174) (o := .cells #[.slice A0_0 l0_0.length c0_0, .slice A0_1 l0_1.length c0_1] 25 (0, 0)) bk hb); have n2_ := Aside0.mk (below_step bl hb); clear BK174; clear HB; have HO177 := n0_; have BK174 := n1_; have HB := n2_; clear n0_ n1_ n2_; clear hb ho6))
 go_loopg [7, 8] k (fun kq v7 v8 w' => ∃ (x7_1 : List Int) (x8_1 : Int), v8 = .int .i64 x8_1 ∧ Aside0 (skewbaldref01_spots.l0 kq a1 a2 x7_1 x8_1 l0_0 l0_1 = some r) ∧ Aside0 (kq ≤ k) ∧ Aside0 (Kd.R (Kd.int .i64) 3 w' w.heap.size (fun _ => True) v7 x7_1) ∧ Aside0 (w'.heap[gb174]? = some (.cells #[(.slice A0_0 l0_0.length c0_0), (.slice A0_1 l0_1.length c0_1)] 25 (0, 0))) ∧ Aside0 (Below w.heap.size w w'))
 case atStart => exact ⟨(y175), (0), (by first | rfl | (simp; done) | (simp [*]; done)), H', ⟨Nat.le_refl _⟩, ⟨by (with_reducible repeat (first | apply Kd.R_alloc | apply Kd.R_drewN | apply Kd.R_drew)); exact HO177.out⟩, ⟨bk⟩, ⟨bl⟩⟩
 case round =>
  clear H'
  try clear p2
  obtain ⟨x7_1, x8_1, rfl, HA, HK1, HO_7, BK174, HB⟩ := hrel
  cases gk with
  | zero => exact absurd HA.out (by simp [skewbaldref01_spots.l0])
  | succ k1 =>
   have H := HA.out
   clear HA
   simp only [skewbaldref01_spots.l0] at H
   replace H := Option.bind_eq_some_iff.mp H
   obtain ⟨t178, A70, H⟩ := H
   replace H : (if t178 = true then ((skewbaldref01_can.f k1 l0_0 l0_1 a1 a2 x8_1).bind fun t179 => (if t179 = 2 then (if x7_1.length < 17592186044416 then (skewbaldref01_spots.l0 k1 a1 a2 (x7_1 ++ [x8_1]) (wrap64 (x8_1 + 1)) l0_0 l0_1) else (none)) else (skewbaldref01_spots.l0 k1 a1 a2 x7_1 (wrap64 (x8_1 + 1)) l0_0 l0_1))) else (some x7_1)) = some r := H
   have A7 := Aside0.mk A70
   clear A70
   by_cases c8 : t178 = true
   ·subst c8
    have H1 : ((skewbaldref01_can.f k1 l0_0 l0_1 a1 a2 x8_1).bind fun t179 => (if t179 = 2 then (if x7_1.length < 17592186044416 then (skewbaldref01_spots.l0 k1 a1 a2 (x7_1 ++ [x8_1]) (wrap64 (x8_1 + 1)) l0_0 l0_1) else (none)) else (skewbaldref01_spots.l0 k1 a1 a2 x7_1 (wrap64 (x8_1 + 1)) l0_0 l0_1))) = some r := by rw [if_pos rfl] at H; exact H
    clear H
    have H := H1
    clear H1
    replace H := Option.bind_eq_some_iff.mp H
    obtain ⟨t179, A90, H⟩ := H
    replace H : (if t179 = 2 then (if x7_1.length < 17592186044416 then (skewbaldref01_spots.l0 k1 a1 a2 (x7_1 ++ [x8_1]) (wrap64 (x8_1 + 1)) l0_0 l0_1) else (none)) else (skewbaldref01_spots.l0 k1 a1 a2 x7_1 (wrap64 (x8_1 + 1)) l0_0 l0_1)) = some r := H
    have A9 := Aside0.mk A90
    clear A90
    by_cases c10 : t179 = 2
    ·rw [if_pos c10] at H
     have c10b0 : (t179 == 2) = true := beq_iff_eq.mpr c10
     have c10b1 : (t179 != 2) = false := bne_eq_false_iff_eq.mpr c10
     clear c10
     by_cases c11 : x7_1.length < 17592186044416
     ·rw [if_pos c11] at H
      have LMc11 := Aside0.mk c11
      clear c11
      obtain ⟨y180, hy180⟩ : ∃ y_ : List Int, y_ = (x7_1 ++ [x8_1]) := ⟨_, rfl⟩
      replace H : (skewbaldref01_spots.l0 k1 a1 a2 y180 (wrap64 (x8_1 + 1)) l0_0 l0_1) = some r := by first | (rw [hy180]; with_reducible exact H) | (have H2_ := (Option.bind_some _ _).symm.trans H; rw [hy180]; with_reducible exact H2_) | (have H2_ := (Option.bind_some _ _).symm.trans H; with_reducible exact H2_) | with_reducible exact H | (rw [hy180]; exact H) | exact H
      have Ny180 := Aside0.mk hy180
      clear hy180
      have H' := Aside0.mk H
      clear H
      have hcz12_0 : wr.cell? ⟨gb174, 0, none⟩ = some (.slice A0_0 l0_0.length c0_0) := (blk_cell BK174.out 0).trans rfl
      have hcz12_1 : wr.cell? ⟨gb174, 1, none⟩ = some (.slice A0_1 l0_1.length c0_1) := (blk_cell BK174.out 1).trans rfl
      have hfz12_0 := blk_frozen BK174.out 0
      have hfz12_1 := blk_frozen BK174.out 1
      go_wp2_with (first | ((with_reducible refine gate_callee (f := 68) rfl ?_); refine goesL_ (some 14) rfl rfl Tryd.func68 (by kernel_rfl) rfl #[.agg #[.slice A0_0 l0_0.length c0_0, .slice A0_1 l0_1.length c0_1], .int .i64 a1, .int .i64 a2, .int .i64 x8_1] rfl (by (try simp only [List.map_toArray, List.map_cons, List.map_nil]); first | done | rfl | (simp only [List.length_drop, List.length_take]; rfl)) ?_; (with_reducible refine (skewbaldref01_lies.calls _ _ l0_0 _ _ l0_1 a1 a2 x8_1 true _ ?side1 ?side2 ?side3 ?side4 A7.out).mono ?_); (case side1 => exact cl); (case side2 => exact HC0_0.out); (case side3 => exact cl); (case side4 => exact HC0_1.out); rintro e w13 ⟨rfl, hb⟩; refine ⟨_, rfl, ?_⟩; have n0_ := Aside0.mk (Kd.R_below (by (with_reducible repeat (first | apply Kd.R_alloc | apply Kd.R_drewN | apply Kd.R_drew)); exact HO_7.out) hb); have n1_ := Aside0.mk (blk_below (g := gb174) (o := .cells #[.slice A0_0 l0_0.length c0_0, .slice A0_1 l0_1.length c0_1] 25 (0, 0)) bk hb); have n2_ := Aside0.mk (below_step bl hb); clear HO_7; clear BK174; clear HB; have HO_7 := n0_; have BK174 := n1_; have HB := n2_; clear n0_ n1_ n2_; (try clear hb); (try clear hb2); (try clear hk); (try clear hi); have hcz14_0 : w13.cell? ⟨gb174, 0, none⟩ = some (.slice A0_0 l0_0.length c0_0) := (blk_cell BK174.out 0).trans rfl; have hcz14_1 : w13.cell? ⟨gb174, 1, none⟩ = some (.slice A0_1 l0_1.length c0_1) := (blk_cell BK174.out 1).trans rfl; have hfz14_0 := blk_frozen BK174.out 0; have hfz14_1 := blk_frozen BK174.out 1) | ((with_reducible refine gate_callee (f := 69) rfl ?_); refine goesL_ (some 21) rfl rfl Tryd.func69 (by kernel_rfl) rfl #[.agg #[.slice A0_0 l0_0.length c0_0, .slice A0_1 l0_1.length c0_1], .int .i64 a1, .int .i64 a2, .int .i64 x8_1] rfl (by (try simp only [List.map_toArray, List.map_cons, List.map_nil]); first | done | rfl | (simp only [List.length_drop, List.length_take]; rfl)) ?_; (with_reducible refine (skewbaldref01_can.calls k1 _ _ l0_0 _ _ l0_1 a1 a2 x8_1 t179 _ ?side1 ?side2 ?side3 ?side4 A9.out).mono ?_); (case side1 => exact cl); (case side2 => exact HC0_0.out); (case side3 => exact cl); (case side4 => exact HC0_1.out); rintro e w15 ⟨rfl, hb⟩; refine ⟨_, rfl, ?_⟩; have n0_ := Aside0.mk (Kd.R_below (by (with_reducible repeat (first | apply Kd.R_alloc | apply Kd.R_drewN | apply Kd.R_drew)); exact HO_7.out) hb); have n1_ := Aside0.mk (blk_below (g := gb174) (o := .cells #[.slice A0_0 l0_0.length c0_0, .slice A0_1 l0_1.length c0_1] 25 (0, 0)) bk hb); have n2_ := Aside0.mk (below_step bl hb); clear HO_7; clear BK174; clear HB; have HO_7 := n0_; have BK174 := n1_; have HB := n2_; clear n0_ n1_ n2_; (try clear hb); (try clear hb2); (try clear hk); (try clear hi)) | ((with_reducible refine gate_builtin (b := .append) (xs := #[.tmp 23, .tmp 25]) rfl ?_); at_builtin; refine Kd.R_append (Kd.int .i64) (w0 := w) w.heap.size rfl (.tmp 23) (.tmp 25) 31 3 (.int .i64 0) 8 rfl Tryd.underlying31 info3 rfl (by decide) (by omega) u7 x7_1 x8_1 [.int .i64 x8_1] (fun _ => True) (fun _ => False) rfl rfl ?aP (fun _ hk => hk.elim) ?aF ?aO ?aB ?aS ?aL ?_; (case aP => exact rfl); (case aB => exact bl); (case aF => exact (fun _ _ => trivial)); (case aO => exact (by (with_reducible repeat (first | apply Kd.R_alloc | apply Kd.R_drewN | apply Kd.R_drew)); exact HO_7.out)); (case aS => exact (below_size bl)); (case aL => have := LMc11.out; omega); intro v181 w16 ho hb hg hat; rw [← Ny180.out] at ho; have n0_ := Aside0.mk (blk_grown (g := gb174) (o := .cells #[.slice A0_0 l0_0.length c0_0, .slice A0_1 l0_1.length c0_1] 25 (0, 0)) bk hg (Kd.R_ne HO_7.out BK174.out (by decide))); have n1_ := Aside0.mk (hb); have n2_ := Aside0.mk (ho); clear BK174; clear HB; clear HO_7; have BK174 := n0_; have HB := n1_; have HO182 := n2_; clear n0_ n1_ n2_; clear ho hb hg hat))
      go_roundg k1
      case measure => have := HK1.out; omega
      case rel => exact ⟨(y180), (wrap64 (x8_1 + 1)), (by first | rfl | (simp; done) | (simp [*]; done)), H', ⟨by have := HK1.out; omega⟩, ⟨by (with_reducible repeat (first | apply Kd.R_alloc | apply Kd.R_drewN | apply Kd.R_drew)); exact HO182.out⟩, ⟨bk⟩, ⟨bl⟩⟩
     ·rw [if_neg c11] at H
      exact absurd H (by simp)
    ·rw [if_neg c10] at H
     have c10b0 : (t179 == 2) = false := beq_eq_false_iff_ne.mpr c10
     have c10b1 : (t179 != 2) = true := bne_iff_ne.mpr c10
     have H' := Aside0.mk H
     clear H
     have hcz17_0 : wr.cell? ⟨gb174, 0, none⟩ = some (.slice A0_0 l0_0.length c0_0) := (blk_cell BK174.out 0).trans rfl
     have hcz17_1 : wr.cell? ⟨gb174, 1, none⟩ = some (.slice A0_1 l0_1.length c0_1) := (blk_cell BK174.out 1).trans rfl
     have hfz17_0 := blk_frozen BK174.out 0
     have hfz17_1 := blk_frozen BK174.out 1
     go_wp2_with (first | ((with_reducible refine gate_callee (f := 68) rfl ?_); refine goesL_ (some 14) rfl rfl Tryd.func68 (by kernel_rfl) rfl #[.agg #[.slice A0_0 l0_0.length c0_0, .slice A0_1 l0_1.length c0_1], .int .i64 a1, .int .i64 a2, .int .i64 x8_1] rfl (by (try simp only [List.map_toArray, List.map_cons, List.map_nil]); first | done | rfl | (simp only [List.length_drop, List.length_take]; rfl)) ?_; (with_reducible refine (skewbaldref01_lies.calls _ _ l0_0 _ _ l0_1 a1 a2 x8_1 true _ ?side1 ?side2 ?side3 ?side4 A7.out).mono ?_); (case side1 => exact cl); (case side2 => exact HC0_0.out); (case side3 => exact cl); (case side4 => exact HC0_1.out); rintro e w18 ⟨rfl, hb⟩; refine ⟨_, rfl, ?_⟩; have n0_ := Aside0.mk (Kd.R_below (by (with_reducible repeat (first | apply Kd.R_alloc | apply Kd.R_drewN | apply Kd.R_drew)); exact HO_7.out) hb); have n1_ := Aside0.mk (blk_below (g := gb174) (o := .cells #[.slice A0_0 l0_0.length c0_0, .slice A0_1 l0_1.length c0_1] 25 (0, 0)) bk hb); have n2_ := Aside0.mk (below_step bl hb); clear HO_7; clear BK174; clear HB; have HO_7 := n0_; have BK174 := n1_; have HB := n2_; clear n0_ n1_ n2_; (try clear hb); (try clear hb2); (try clear hk); (try clear hi); have hcz19_0 : w18.cell? ⟨gb174, 0, none⟩ = some (.slice A0_0 l0_0.length c0_0) := (blk_cell BK174.out 0).trans rfl; have hcz19_1 : w18.cell? ⟨gb174, 1, none⟩ = some (.slice A0_1 l0_1.length c0_1) := (blk_cell BK174.out 1).trans rfl; have hfz19_0 := blk_frozen BK174.out 0; have hfz19_1 := blk_frozen BK174.out 1) | ((with_reducible refine gate_callee (f := 69) rfl ?_); refine goesL_ (some 21) rfl rfl Tryd.func69 (by kernel_rfl) rfl #[.agg #[.slice A0_0 l0_0.length c0_0, .slice A0_1 l0_1.length c0_1], .int .i64 a1, .int .i64 a2, .int .i64 x8_1] rfl (by (try simp only [List.map_toArray, List.map_cons, List.map_nil]); first | done | rfl | (simp only [List.length_drop, List.length_take]; rfl)) ?_; (with_reducible refine (skewbaldref01_can.calls k1 _ _ l0_0 _ _ l0_1 a1 a2 x8_1 t179 _ ?side1 ?side2 ?side3 ?side4 A9.out).mono ?_); (case side1 => exact cl); (case side2 => exact HC0_0.out); (case side3 => exact cl); (case side4 => exact HC0_1.out); rintro e w20 ⟨rfl, hb⟩; refine ⟨_, rfl, ?_⟩; have n0_ := Aside0.mk (Kd.R_below (by (with_reducible repeat (first | apply Kd.R_alloc | apply Kd.R_drewN | apply Kd.R_drew)); exact HO_7.out) hb); have n1_ := Aside0.mk (blk_below (g := gb174) (o := .cells #[.slice A0_0 l0_0.length c0_0, .slice A0_1 l0_1.length c0_1] 25 (0, 0)) bk hb); have n2_ := Aside0.mk (below_step bl hb); clear HO_7; clear BK174; clear HB; have HO_7 := n0_; have BK174 := n1_; have HB := n2_; clear n0_ n1_ n2_; (try clear hb); (try clear hb2); (try clear hk); (try clear hi)))
     go_roundg k1
     case measure => have := HK1.out; omega
     case rel => exact ⟨(x7_1), (wrap64 (x8_1 + 1)), (by first | rfl | (simp; done) | (simp [*]; done)), H', ⟨by have := HK1.out; omega⟩, ⟨by (with_reducible repeat (first | apply Kd.R_alloc | apply Kd.R_drewN | apply Kd.R_drew)); exact HO_7.out⟩, ⟨bk⟩, ⟨bl⟩⟩
   ·replace c8 := Bool.eq_false_iff.mpr c8
    subst c8
    have H1 : (some x7_1) = some r := by rw [if_neg (show ¬ (false = true) by decide)] at H; exact H
    clear H
    have H := H1
    clear H1
    obtain rfl := Option.some.inj H
    have hcz21_0 : wr.cell? ⟨gb174, 0, none⟩ = some (.slice A0_0 l0_0.length c0_0) := (blk_cell BK174.out 0).trans rfl
    have hcz21_1 : wr.cell? ⟨gb174, 1, none⟩ = some (.slice A0_1 l0_1.length c0_1) := (blk_cell BK174.out 1).trans rfl
    have hfz21_0 := blk_frozen BK174.out 0
    have hfz21_1 := blk_frozen BK174.out 1
    go_wp2_with (first | ((with_reducible refine gate_callee (f := 68) rfl ?_); refine goesL_ (some 14) rfl rfl Tryd.func68 (by kernel_rfl) rfl #[.agg #[.slice A0_0 l0_0.length c0_0, .slice A0_1 l0_1.length c0_1], .int .i64 a1, .int .i64 a2, .int .i64 x8_1] rfl (by (try simp only [List.map_toArray, List.map_cons, List.map_nil]); first | done | rfl | (simp only [List.length_drop, List.length_take]; rfl)) ?_; (with_reducible refine (skewbaldref01_lies.calls _ _ l0_0 _ _ l0_1 a1 a2 x8_1 false _ ?side1 ?side2 ?side3 ?side4 A7.out).mono ?_); (case side1 => exact cl); (case side2 => exact HC0_0.out); (case side3 => exact cl); (case side4 => exact HC0_1.out); rintro e w22 ⟨rfl, hb⟩; refine ⟨_, rfl, ?_⟩; have n0_ := Aside0.mk (Kd.R_below (by (with_reducible repeat (first | apply Kd.R_alloc | apply Kd.R_drewN | apply Kd.R_drew)); exact HO_7.out) hb); have n1_ := Aside0.mk (blk_below (g := gb174) (o := .cells #[.slice A0_0 l0_0.length c0_0, .slice A0_1 l0_1.length c0_1] 25 (0, 0)) bk hb); have n2_ := Aside0.mk (below_step bl hb); clear HO_7; clear BK174; clear HB; have HO_7 := n0_; have BK174 := n1_; have HB := n2_; clear n0_ n1_ n2_; (try clear hb); (try clear hb2); (try clear hk); (try clear hi)))
    go_ret
    exact ⟨_, by first | rfl | (simp [errW_none, errW_some] <;> rfl) | (simp [*, errW_none, errW_some] <;> rfl), by (with_reducible repeat (first | apply Kd.R_alloc | apply Kd.R_drewN | apply Kd.R_drew)); exact HO_7.out, bl⟩
def skewbaldref01_Spots.f (k : Nat) (l0_0 : List (S48)) (l0_1 : List (S50)) (a1 : Int) (a2 : Int) : Option (List Int × Int) := (skewbaldref01_isPlank.f l0_0 l0_1 a1).bind fun t184 => (if t184 = true then ((skewbaldref01_isPart.f l0_0 l0_1 a2).bind fun t185 => ((skewbaldref01_asked.f k l0_0 l0_1 t185).bind fun t186 => (if t186 = 0 then ((skewbaldref01_spots.f k l0_0 l0_1 a1 a2).bind fun t187 => (some (t187, 0))) else (some (([] : List Int), t186))))) else ((skewbaldref01_asked.f k l0_0 l0_1 false).bind fun t190 => (if t190 = 0 then ((skewbaldref01_spots.f k l0_0 l0_1 a1 a2).bind fun t191 => (some (t191, 0))) else (some (([] : List Int), t190)))))
def skewbaldref01_Spots.T1 : Bool × List (List Nat × List Nat) := (true, [([], []), ([], []), ([], []), ([1, 2], [1, 2]), ([3, 3], [3]), ([4], [4]), ([4], [4]), ([5, 6, 4, 4], [4, 5, 6]), ([4, 7], [4, 7]), ([0, 8, 7], [0, 8]), ([9, 9, 0, 1, 2, 3, 4, 5, 6, 7, 8, 9], [9])])
def skewbaldref01_Spots.B1 : List Nat := [0, 0, 0, 6, 14, 30, 30, 126, 254, 511, 1023]
theorem skewbaldref01_Spots.tab1 : rtab .any (opsOf Tryd.f21 1) = skewbaldref01_Spots.T1 := by kernel_rfl
theorem skewbaldref01_Spots.bits1 : waitsOk skewbaldref01_Spots.T1.2 skewbaldref01_Spots.B1 = true := by kernel_rfl
set_option maxHeartbeats 8000000 in
set_option maxRecDepth 100000 in
theorem skewbaldref01_Spots.calls (k : Nat) (A0_0 : Option Addr) (c0_0 : Nat) (l0_0 : List (S48)) (A0_1 : Option Addr) (c0_1 : Nat) (l0_1 : List (S50)) (a1 : Int) (a2 : Int) (r1 : List Int) (r2 : Int) (w : World) (hr0_0 : Kd.C k48 w A0_0 l0_0.length l0_0) (hc0_0 : l0_0.length ≤ c0_0) (hr0_1 : Kd.C k50 w A0_1 l0_1.length l0_1) (hc0_1 : l0_1.length ≤ c0_1) (h : skewbaldref01_Spots.f k l0_0 l0_1 a1 a2 = some (r1, r2)) :
  Calls Tryd.prog 21 #[.agg #[.slice A0_0 l0_0.length c0_0, .slice A0_1 l0_1.length c0_1], .int .i64 a1, .int .i64 a2] w fun e w' => ∃ v0_ : Value, e = .returned (.tuple #[v0_, .int .i64 r2]) ∧ Kd.R (Kd.int .i64) 3 w' w.heap.size (fun _ => True) v0_ r1 ∧ Below w.heap.size w w' := by
 have hu25 := Tryd.underlying25
 have HR0_0 := Aside0.mk hr0_0
 have HC0_0 := Aside0.mk hc0_0
 clear hr0_0 hc0_0
 have HR0_1 := Aside0.mk hr0_1
 have HC0_1 := Aside0.mk hc0_1
 clear hr0_1 hc0_1
 have HB := Aside0.mk (Below.refl w.heap.size w)
 have H : ((skewbaldref01_isPlank.f l0_0 l0_1 a1).bind fun t184 => (if t184 = true then ((skewbaldref01_isPart.f l0_0 l0_1 a2).bind fun t185 => ((skewbaldref01_asked.f k l0_0 l0_1 t185).bind fun t186 => (if t186 = 0 then ((skewbaldref01_spots.f k l0_0 l0_1 a1 a2).bind fun t187 => (some (t187, 0))) else (some (([] : List Int), t186))))) else ((skewbaldref01_asked.f k l0_0 l0_1 false).bind fun t190 => (if t190 = 0 then ((skewbaldref01_spots.f k l0_0 l0_1 a1 a2).bind fun t191 => (some (t191, 0))) else (some (([] : List Int), t190)))))) = some (r1, r2) := h
 clear h
 replace H := Option.bind_eq_some_iff.mp H
 obtain ⟨t184, A40, H⟩ := H
 replace H : (if t184 = true then ((skewbaldref01_isPart.f l0_0 l0_1 a2).bind fun t185 => ((skewbaldref01_asked.f k l0_0 l0_1 t185).bind fun t186 => (if t186 = 0 then ((skewbaldref01_spots.f k l0_0 l0_1 a1 a2).bind fun t187 => (some (t187, 0))) else (some (([] : List Int), t186))))) else ((skewbaldref01_asked.f k l0_0 l0_1 false).bind fun t190 => (if t190 = 0 then ((skewbaldref01_spots.f k l0_0 l0_1 a1 a2).bind fun t191 => (some (t191, 0))) else (some (([] : List Int), t190))))) = some (r1, r2) := H
 have A4 := Aside0.mk A40
 clear A40
 by_cases c5 : t184 = true
 ·subst c5
  have H1 : ((skewbaldref01_isPart.f l0_0 l0_1 a2).bind fun t185 => ((skewbaldref01_asked.f k l0_0 l0_1 t185).bind fun t186 => (if t186 = 0 then ((skewbaldref01_spots.f k l0_0 l0_1 a1 a2).bind fun t187 => (some (t187, 0))) else (some (([] : List Int), t186))))) = some (r1, r2) := by rw [if_pos rfl] at H; exact H
  clear H
  have H := H1
  clear H1
  replace H := Option.bind_eq_some_iff.mp H
  obtain ⟨t185, A60, H⟩ := H
  replace H : ((skewbaldref01_asked.f k l0_0 l0_1 t185).bind fun t186 => (if t186 = 0 then ((skewbaldref01_spots.f k l0_0 l0_1 a1 a2).bind fun t187 => (some (t187, 0))) else (some (([] : List Int), t186)))) = some (r1, r2) := H
  have A6 := Aside0.mk A60
  clear A60
  replace H := Option.bind_eq_some_iff.mp H
  obtain ⟨t186, A70, H⟩ := H
  replace H : (if t186 = 0 then ((skewbaldref01_spots.f k l0_0 l0_1 a1 a2).bind fun t187 => (some (t187, 0))) else (some (([] : List Int), t186))) = some (r1, r2) := H
  have A7 := Aside0.mk A70
  clear A70
  by_cases c8 : t186 = 0
  ·rw [if_pos c8] at H
   have c8b0 : (t186 == 0) = true := beq_iff_eq.mpr c8
   have c8b1 : (t186 != 0) = false := bne_eq_false_iff_eq.mpr c8
   clear c8
   replace H := Option.bind_eq_some_iff.mp H
   obtain ⟨t187, A90, H⟩ := H
   replace H : (some (t187, 0)) = some (r1, r2) := H
   have A9 := Aside0.mk A90
   clear A90
   simp only [Option.some.injEq, Prod.mk.injEq] at H
   obtain ⟨rfl, rfl⟩ := H
   go_enter Tryd.func21, Tryd.ntmps21
   try go_wp2_with (first | ((with_reducible refine gate_dst (N := 3) rfl ?_); refine box_event ?hg (N := 3) ?hd (cs := #[.slice A0_0 l0_0.length c0_0, .slice A0_1 l0_1.length c0_1]) (t := 25) ?hr ?_; (case hd => rfl); (case hg => rfl); (case hr => first | (go_simp; done) | (go_simp; rfl)); intro gb183 hg w10 hbox hb; have n0_ := Aside0.mk (below_step bl hb); have n1_ := Aside0.mk (hbox); have n2_ := Aside0.mk ((by rw [hg]; exact (below_size bl) : w.heap.size ≤ gb183)); have n3_ := Aside0.mk ((by rw [hg]; exact (below_size bl) : w.heap.size ≤ gb183)); clear HB; have HB := n0_; have BK183 := n1_; have GW183 := n2_; have GE183 := n3_; clear n0_ n1_ n2_ n3_; clear hb hbox hg))
   have n0_ := Aside0.mk (blk_drew BK183.out)
   have n1_ := Aside0.mk (below_drew1 HB.out)
   clear BK183
   clear HB
   have BK183 := n0_
   have HB := n1_
   clear n0_ n1_
   refine start_ (n := 11) (S := fun w' => w'.cell? ⟨gb183, 0, none⟩ = some (.slice A0_0 l0_0.length c0_0) ∧ w'.cell? ⟨gb183, 1, none⟩ = some (.slice A0_1 l0_1.length c0_1)) (ds := []) #[false, false, false, false, false, false, false, false, false, false, false] (by kernel_rfl) rfl rfl ⟨(blk_cell BK183.out 0).trans rfl, (blk_cell BK183.out 1).trans rfl⟩ (fun hHeld => ?_); refine with_tabW skewbaldref01_Spots.tab1 skewbaldref01_Spots.bits1 (fun HT_ HW_ => ?_)
   generalize w10.drew = w11 at BK183 HB hHeld ⊢
   refine pure_ (i := 2) (N := some 11) (v := ?_) (a' := ?_) #[false, false, true, false, false, false, false, false, false, false, false] rfl rfl (any_of HT_.out (by kernel_rfl)) (fun _ _ _ h => h) (Or.inl ⟨by rfl, ?_⟩) ?_ ?_
   rotate_left
   ·intro w'
    go_simp
    with_reducible rfl
   rotate_left
   ·simp only [Act.put, List.setIfInBounds_toArray, List.set_cons_zero, List.set_cons_succ, i64_w, i32_w]
    rfl
   refine take_ (i := 0) (N := some 9) (v := ?_) (a' := ?_) #[true, false, true, false, false, false, false, false, false, false, false] rfl rfl (take_ofW HT_.out HW_.out (by kernel_rfl)) (fun _ _ _ h => h) (Or.inl ⟨by rfl, ?_⟩) hHeld ?_ ?_
   rotate_left
   ·rintro w' ⟨s0, s1⟩
    go_simp
    with_reducible rfl
   rotate_left
   ·simp only [Act.put, List.setIfInBounds_toArray, List.set_cons_zero, List.set_cons_succ, i64_w, i32_w]
    rfl
   refine take_ (i := 1) (N := some 10) (v := ?_) (a' := ?_) #[true, true, true, false, false, false, false, false, false, false, false] rfl rfl (take_ofW HT_.out HW_.out (by kernel_rfl)) (fun _ _ _ h => h) (Or.inl ⟨by rfl, ?_⟩) hHeld ?_ ?_
   rotate_left
   ·rintro w' ⟨s0, s1⟩
    go_simp
    with_reducible rfl
   rotate_left
   ·simp only [Act.put, List.setIfInBounds_toArray, List.set_cons_zero, List.set_cons_succ, i64_w, i32_w]
    rfl
   refine one_ (i := 3) (N := some 12) #[true, true, true, true, false, false, false, false, false, false, false] rfl rfl (one_of HT_.out (by kernel_rfl)) (by decide) (fun K hK => ?_)
   refine goes_ Tryd.func66 (by kernel_rfl) rfl #[.agg #[.slice A0_0 l0_0.length c0_0, .slice A0_1 l0_1.length c0_1], .int .i64 a1] (by rfl) rfl rfl (by (try simp only [List.map_toArray, List.map_cons, List.map_nil]); first | done | rfl | (simp only [List.length_drop, List.length_take]; rfl)) ?_
   with_reducible refine (skewbaldref01_isPlank.calls _ _ l0_0 _ _ l0_1 a1 true _ ?side1 ?side2 ?side3 ?side4 A4.out).mono ?_
   (case side1 => exact cl)
   (case side2 => exact HC0_0.out)
   (case side3 => exact cl)
   (case side4 => exact HC0_1.out)
   rintro e w12 ⟨rfl, hb⟩
   refine ⟨_, rfl, ?_⟩
   have n0_ := Aside0.mk (blk_below (g := gb183) (o := .cells #[.slice A0_0 l0_0.length c0_0, .slice A0_1 l0_1.length c0_1] 25 (0, 0)) bk hb)
   have n1_ := Aside0.mk (below_step bl hb)
   clear BK183
   clear HB
   have BK183 := n0_
   have HB := n1_
   clear n0_ n1_
   (try clear hb)
   (try clear hb2)
   (try clear hk)
   (try clear hi)
   refine hK.out _ _ ⟨(blk_cell BK183.out 0).trans rfl, (blk_cell BK183.out 1).trans rfl⟩ (fun hHeld => ?_)
   clear hK K
   refine norm_ (a' := ?_) ?_ ?_
   rotate_left
   ·show Act.put _ (some 12) _ = _
    simp only [Act.put, List.setIfInBounds_toArray, List.set_cons_zero, List.set_cons_succ, i64_w, i32_w]
    rfl
   refine pure_ (i := 4) (N := some 13) (v := ?_) (a' := ?_) #[true, true, true, true, true, false, false, false, false, false, false] rfl rfl (any_of HT_.out (by kernel_rfl)) (fun _ _ _ h => h) (Or.inl ⟨by rfl, ?_⟩) ?_ ?_
   rotate_left
   ·intro w'
    go_simp
    with_reducible rfl
   rotate_left
   ·simp only [Act.put, List.setIfInBounds_toArray, List.set_cons_zero, List.set_cons_succ, i64_w, i32_w]
    rfl
   refine pure_ (i := 6) (N := some 15) (v := ?_) (a' := ?_) #[true, true, true, true, true, false, true, false, false, false, false] rfl rfl (any_of HT_.out (by kernel_rfl)) (fun _ _ _ h => h) (Or.inl ⟨by rfl, ?_⟩) ?_ ?_
   rotate_left
   ·intro w'
    go_simp
    with_reducible rfl
   rotate_left
   ·simp only [Act.put, List.setIfInBounds_toArray, List.set_cons_zero, List.set_cons_succ, i64_w, i32_w]
    rfl
   refine take_ (i := 5) (N := some 14) (v := ?_) (a' := ?_) #[true, true, true, true, true, true, true, false, false, false, false] rfl rfl (take_ofW HT_.out HW_.out (by kernel_rfl)) (fun _ _ _ h => h) (Or.inl ⟨by rfl, ?_⟩) hHeld ?_ ?_
   rotate_left
   ·rintro w' ⟨s0, s1⟩
    go_simp
    with_reducible rfl
   rotate_left
   ·simp only [Act.put, List.setIfInBounds_toArray, List.set_cons_zero, List.set_cons_succ, i64_w, i32_w]
    rfl
   refine one_ (i := 7) (N := some 16) #[true, true, true, true, true, true, true, true, false, false, false] rfl rfl (one_of HT_.out (by kernel_rfl)) (by decide) (fun K hK => ?_)
   refine goes_ Tryd.func67 (by kernel_rfl) rfl #[.agg #[.slice A0_0 l0_0.length c0_0, .slice A0_1 l0_1.length c0_1], .int .i64 a2] (by rfl) rfl rfl (by (try simp only [List.map_toArray, List.map_cons, List.map_nil]); first | done | rfl | (simp only [List.length_drop, List.length_take]; rfl)) ?_
   with_reducible refine (skewbaldref01_isPart.calls _ _ l0_0 _ _ l0_1 a2 t185 _ ?side1 ?side2 ?side3 ?side4 A6.out).mono ?_
   (case side1 => exact cl)
   (case side2 => exact HC0_0.out)
   (case side3 => exact cl)
   (case side4 => exact HC0_1.out)
   rintro e w13 ⟨rfl, hb⟩
   refine ⟨_, rfl, ?_⟩
   have n0_ := Aside0.mk (blk_below (g := gb183) (o := .cells #[.slice A0_0 l0_0.length c0_0, .slice A0_1 l0_1.length c0_1] 25 (0, 0)) bk hb)
   have n1_ := Aside0.mk (below_step bl hb)
   clear BK183
   clear HB
   have BK183 := n0_
   have HB := n1_
   clear n0_ n1_
   (try clear hb)
   (try clear hb2)
   (try clear hk)
   (try clear hi)
   refine hK.out _ _ ⟨(blk_cell BK183.out 0).trans rfl, (blk_cell BK183.out 1).trans rfl⟩ (fun hHeld => ?_)
   clear hK K
   refine norm_ (a' := ?_) ?_ ?_
   rotate_left
   ·show Act.put _ (some 16) _ = _
    simp only [Act.put, List.setIfInBounds_toArray, List.set_cons_zero, List.set_cons_succ, i64_w, i32_w]
    rfl
   refine pure_ (i := 8) (N := some 17) (v := ?_) (a' := ?_) #[true, true, true, true, true, true, true, true, true, false, false] rfl rfl (any_of HT_.out (by kernel_rfl)) (fun _ _ _ h => h) (Or.inl ⟨by rfl, ?_⟩) ?_ ?_
   rotate_left
   ·intro w'
    go_simp
    with_reducible rfl
   rotate_left
   ·simp only [Act.put, List.setIfInBounds_toArray, List.set_cons_zero, List.set_cons_succ, i64_w, i32_w]
    rfl
   refine one_ (i := 9) (N := some 18) #[true, true, true, true, true, true, true, true, true, true, false] rfl rfl (one_of HT_.out (by kernel_rfl)) (by decide) (fun K hK => ?_)
   refine goes_ Tryd.func65 (by kernel_rfl) rfl #[.agg #[.slice A0_0 l0_0.length c0_0, .slice A0_1 l0_1.length c0_1], .bool t185] (by rfl) rfl rfl (by (try simp only [List.map_toArray, List.map_cons, List.map_nil]); first | done | rfl | (simp only [List.length_drop, List.length_take]; rfl)) ?_
   with_reducible refine (skewbaldref01_asked.calls k _ _ l0_0 _ _ l0_1 t185 t186 _ ?side1 ?side2 ?side3 ?side4 A7.out).mono ?_
   (case side1 => exact cl)
   (case side2 => exact HC0_0.out)
   (case side3 => exact cl)
   (case side4 => exact HC0_1.out)
   rintro e w14 ⟨rfl, hb⟩
   refine ⟨_, rfl, ?_⟩
   have n0_ := Aside0.mk (blk_below (g := gb183) (o := .cells #[.slice A0_0 l0_0.length c0_0, .slice A0_1 l0_1.length c0_1] 25 (0, 0)) bk hb)
   have n1_ := Aside0.mk (below_step bl hb)
   clear BK183
   clear HB
   have BK183 := n0_
   have HB := n1_
   clear n0_ n1_
   (try clear hb)
   (try clear hb2)
   (try clear hk)
   (try clear hi)
   refine hK.out _ _ ⟨(blk_cell BK183.out 0).trans rfl, (blk_cell BK183.out 1).trans rfl⟩ (fun hHeld => ?_)
   clear hK K
   refine norm_ (a' := ?_) ?_ ?_
   rotate_left
   ·show Act.put _ (some 18) _ = _
    simp only [Act.put, List.setIfInBounds_toArray, List.set_cons_zero, List.set_cons_succ, i64_w, i32_w]
    rfl
   refine pure_ (i := 10) (N := some 8) (v := ?_) (a' := ?_) #[true, true, true, true, true, true, true, true, true, true, true] rfl rfl (any_of HT_.out (by kernel_rfl)) (fun _ _ _ h => h) (Or.inl ⟨by rfl, ?_⟩) ?_ ?_
   rotate_left
   ·intro w'
    go_simp
    with_reducible rfl
   rotate_left
   ·simp only [Act.put, List.setIfInBounds_toArray, List.set_cons_zero, List.set_cons_succ, i64_w, i32_w]
    rfl
   refine done_ (done_of HT_.out (by kernel_rfl)) ?_
   have hcz15_0 : w14.cell? ⟨gb183, 0, none⟩ = some (.slice A0_0 l0_0.length c0_0) := (blk_cell BK183.out 0).trans rfl
   have hcz15_1 : w14.cell? ⟨gb183, 1, none⟩ = some (.slice A0_1 l0_1.length c0_1) := (blk_cell BK183.out 1).trans rfl
   have hfz15_0 := blk_frozen BK183.out 0
   have hfz15_1 := blk_frozen BK183.out 1
   try go_wp2_with (first | ((with_reducible refine gate_callee (f := 75) rfl ?_); refine goesL_ (some 25) rfl rfl Tryd.func75 (by kernel_rfl) rfl #[.agg #[.slice A0_0 l0_0.length c0_0, .slice A0_1 l0_1.length c0_1], .int .i64 a1, .int .i64 a2] rfl (by (try simp only [List.map_toArray, List.map_cons, List.map_nil]); first | done | rfl | (simp only [List.length_drop, List.length_take]; rfl)) ?_; (with_reducible refine (skewbaldref01_spots.calls k _ _ l0_0 _ _ l0_1 a1 a2 t187 _ ?side1 ?side2 ?side3 ?side4 A9.out).mono ?_); (case side1 => exact cl); (case side2 => exact HC0_0.out); (case side3 => exact cl); (case side4 => exact HC0_1.out); rintro e w16 ⟨v188, rfl, ho0, hb⟩; refine ⟨_, rfl, ?_⟩; have n0_ := Aside0.mk (Kd.R_lower ho0 (below_size bl)); have n1_ := Aside0.mk (blk_below (g := gb183) (o := .cells #[.slice A0_0 l0_0.length c0_0, .slice A0_1 l0_1.length c0_1] 25 (0, 0)) bk hb); have n2_ := Aside0.mk (below_step bl hb); clear BK183; clear HB; have HO189 := n0_; have BK183 := n1_; have HB := n2_; clear n0_ n1_ n2_; (try clear hb); (try clear hb2); (try clear hk); (try clear hi); (try clear ho0)))
   go_ret2
   exact ⟨_, by first | rfl | (simp [errW_none, errW_some] <;> rfl) | (simp [*, errW_none, errW_some] <;> rfl), by (with_reducible repeat (first | apply Kd.R_alloc | apply Kd.R_drewN | apply Kd.R_drew)); exact HO189.out, bl⟩
  ·rw [if_neg c8] at H
   have c8b0 : (t186 == 0) = false := beq_eq_false_iff_ne.mpr c8
   have c8b1 : (t186 != 0) = true := bne_iff_ne.mpr c8
   simp only [Option.some.injEq, Prod.mk.injEq] at H
   obtain ⟨rfl, rfl⟩ := H
   go_enter Tryd.func21, Tryd.ntmps21
   try go_wp2_with (first | ((with_reducible refine gate_dst (N := 3) rfl ?_); refine box_event ?hg (N := 3) ?hd (cs := #[.slice A0_0 l0_0.length c0_0, .slice A0_1 l0_1.length c0_1]) (t := 25) ?hr ?_; (case hd => rfl); (case hg => rfl); (case hr => first | (go_simp; done) | (go_simp; rfl)); intro gb183 hg w17 hbox hb; have n0_ := Aside0.mk (below_step bl hb); have n1_ := Aside0.mk (hbox); have n2_ := Aside0.mk ((by rw [hg]; exact (below_size bl) : w.heap.size ≤ gb183)); have n3_ := Aside0.mk ((by rw [hg]; exact (below_size bl) : w.heap.size ≤ gb183)); clear HB; have HB := n0_; have BK183 := n1_; have GW183 := n2_; have GE183 := n3_; clear n0_ n1_ n2_ n3_; clear hb hbox hg))
   have n0_ := Aside0.mk (blk_drew BK183.out)
   have n1_ := Aside0.mk (below_drew1 HB.out)
   clear BK183
   clear HB
   have BK183 := n0_
   have HB := n1_
   clear n0_ n1_
   refine start_ (n := 11) (S := fun w' => w'.cell? ⟨gb183, 0, none⟩ = some (.slice A0_0 l0_0.length c0_0) ∧ w'.cell? ⟨gb183, 1, none⟩ = some (.slice A0_1 l0_1.length c0_1)) (ds := []) #[false, false, false, false, false, false, false, false, false, false, false] (by kernel_rfl) rfl rfl ⟨(blk_cell BK183.out 0).trans rfl, (blk_cell BK183.out 1).trans rfl⟩ (fun hHeld => ?_); refine with_tabW skewbaldref01_Spots.tab1 skewbaldref01_Spots.bits1 (fun HT_ HW_ => ?_)
   generalize w17.drew = w18 at BK183 HB hHeld ⊢
   refine pure_ (i := 2) (N := some 11) (v := ?_) (a' := ?_) #[false, false, true, false, false, false, false, false, false, false, false] rfl rfl (any_of HT_.out (by kernel_rfl)) (fun _ _ _ h => h) (Or.inl ⟨by rfl, ?_⟩) ?_ ?_
   rotate_left
   ·intro w'
    go_simp
    with_reducible rfl
   rotate_left
   ·simp only [Act.put, List.setIfInBounds_toArray, List.set_cons_zero, List.set_cons_succ, i64_w, i32_w]
    rfl
   refine take_ (i := 0) (N := some 9) (v := ?_) (a' := ?_) #[true, false, true, false, false, false, false, false, false, false, false] rfl rfl (take_ofW HT_.out HW_.out (by kernel_rfl)) (fun _ _ _ h => h) (Or.inl ⟨by rfl, ?_⟩) hHeld ?_ ?_
   rotate_left
   ·rintro w' ⟨s0, s1⟩
    go_simp
    with_reducible rfl
   rotate_left
   ·simp only [Act.put, List.setIfInBounds_toArray, List.set_cons_zero, List.set_cons_succ, i64_w, i32_w]
    rfl
   refine take_ (i := 1) (N := some 10) (v := ?_) (a' := ?_) #[true, true, true, false, false, false, false, false, false, false, false] rfl rfl (take_ofW HT_.out HW_.out (by kernel_rfl)) (fun _ _ _ h => h) (Or.inl ⟨by rfl, ?_⟩) hHeld ?_ ?_
   rotate_left
   ·rintro w' ⟨s0, s1⟩
    go_simp
    with_reducible rfl
   rotate_left
   ·simp only [Act.put, List.setIfInBounds_toArray, List.set_cons_zero, List.set_cons_succ, i64_w, i32_w]
    rfl
   refine one_ (i := 3) (N := some 12) #[true, true, true, true, false, false, false, false, false, false, false] rfl rfl (one_of HT_.out (by kernel_rfl)) (by decide) (fun K hK => ?_)
   refine goes_ Tryd.func66 (by kernel_rfl) rfl #[.agg #[.slice A0_0 l0_0.length c0_0, .slice A0_1 l0_1.length c0_1], .int .i64 a1] (by rfl) rfl rfl (by (try simp only [List.map_toArray, List.map_cons, List.map_nil]); first | done | rfl | (simp only [List.length_drop, List.length_take]; rfl)) ?_
   with_reducible refine (skewbaldref01_isPlank.calls _ _ l0_0 _ _ l0_1 a1 true _ ?side1 ?side2 ?side3 ?side4 A4.out).mono ?_
   (case side1 => exact cl)
   (case side2 => exact HC0_0.out)
   (case side3 => exact cl)
   (case side4 => exact HC0_1.out)
   rintro e w19 ⟨rfl, hb⟩
   refine ⟨_, rfl, ?_⟩
   have n0_ := Aside0.mk (blk_below (g := gb183) (o := .cells #[.slice A0_0 l0_0.length c0_0, .slice A0_1 l0_1.length c0_1] 25 (0, 0)) bk hb)
   have n1_ := Aside0.mk (below_step bl hb)
   clear BK183
   clear HB
   have BK183 := n0_
   have HB := n1_
   clear n0_ n1_
   (try clear hb)
   (try clear hb2)
   (try clear hk)
   (try clear hi)
   refine hK.out _ _ ⟨(blk_cell BK183.out 0).trans rfl, (blk_cell BK183.out 1).trans rfl⟩ (fun hHeld => ?_)
   clear hK K
   refine norm_ (a' := ?_) ?_ ?_
   rotate_left
   ·show Act.put _ (some 12) _ = _
    simp only [Act.put, List.setIfInBounds_toArray, List.set_cons_zero, List.set_cons_succ, i64_w, i32_w]
    rfl
   refine pure_ (i := 4) (N := some 13) (v := ?_) (a' := ?_) #[true, true, true, true, true, false, false, false, false, false, false] rfl rfl (any_of HT_.out (by kernel_rfl)) (fun _ _ _ h => h) (Or.inl ⟨by rfl, ?_⟩) ?_ ?_
   rotate_left
   ·intro w'
    go_simp
    with_reducible rfl
   rotate_left
   ·simp only [Act.put, List.setIfInBounds_toArray, List.set_cons_zero, List.set_cons_succ, i64_w, i32_w]
    rfl
   refine pure_ (i := 6) (N := some 15) (v := ?_) (a' := ?_) #[true, true, true, true, true, false, true, false, false, false, false] rfl rfl (any_of HT_.out (by kernel_rfl)) (fun _ _ _ h => h) (Or.inl ⟨by rfl, ?_⟩) ?_ ?_
   rotate_left
   ·intro w'
    go_simp
    with_reducible rfl
   rotate_left
   ·simp only [Act.put, List.setIfInBounds_toArray, List.set_cons_zero, List.set_cons_succ, i64_w, i32_w]
    rfl
   refine take_ (i := 5) (N := some 14) (v := ?_) (a' := ?_) #[true, true, true, true, true, true, true, false, false, false, false] rfl rfl (take_ofW HT_.out HW_.out (by kernel_rfl)) (fun _ _ _ h => h) (Or.inl ⟨by rfl, ?_⟩) hHeld ?_ ?_
   rotate_left
   ·rintro w' ⟨s0, s1⟩
    go_simp
    with_reducible rfl
   rotate_left
   ·simp only [Act.put, List.setIfInBounds_toArray, List.set_cons_zero, List.set_cons_succ, i64_w, i32_w]
    rfl
   refine one_ (i := 7) (N := some 16) #[true, true, true, true, true, true, true, true, false, false, false] rfl rfl (one_of HT_.out (by kernel_rfl)) (by decide) (fun K hK => ?_)
   refine goes_ Tryd.func67 (by kernel_rfl) rfl #[.agg #[.slice A0_0 l0_0.length c0_0, .slice A0_1 l0_1.length c0_1], .int .i64 a2] (by rfl) rfl rfl (by (try simp only [List.map_toArray, List.map_cons, List.map_nil]); first | done | rfl | (simp only [List.length_drop, List.length_take]; rfl)) ?_
   with_reducible refine (skewbaldref01_isPart.calls _ _ l0_0 _ _ l0_1 a2 t185 _ ?side1 ?side2 ?side3 ?side4 A6.out).mono ?_
   (case side1 => exact cl)
   (case side2 => exact HC0_0.out)
   (case side3 => exact cl)
   (case side4 => exact HC0_1.out)
   rintro e w20 ⟨rfl, hb⟩
   refine ⟨_, rfl, ?_⟩
   have n0_ := Aside0.mk (blk_below (g := gb183) (o := .cells #[.slice A0_0 l0_0.length c0_0, .slice A0_1 l0_1.length c0_1] 25 (0, 0)) bk hb)
   have n1_ := Aside0.mk (below_step bl hb)
   clear BK183
   clear HB
   have BK183 := n0_
   have HB := n1_
   clear n0_ n1_
   (try clear hb)
   (try clear hb2)
   (try clear hk)
   (try clear hi)
   refine hK.out _ _ ⟨(blk_cell BK183.out 0).trans rfl, (blk_cell BK183.out 1).trans rfl⟩ (fun hHeld => ?_)
   clear hK K
   refine norm_ (a' := ?_) ?_ ?_
   rotate_left
   ·show Act.put _ (some 16) _ = _
    simp only [Act.put, List.setIfInBounds_toArray, List.set_cons_zero, List.set_cons_succ, i64_w, i32_w]
    rfl
   refine pure_ (i := 8) (N := some 17) (v := ?_) (a' := ?_) #[true, true, true, true, true, true, true, true, true, false, false] rfl rfl (any_of HT_.out (by kernel_rfl)) (fun _ _ _ h => h) (Or.inl ⟨by rfl, ?_⟩) ?_ ?_
   rotate_left
   ·intro w'
    go_simp
    with_reducible rfl
   rotate_left
   ·simp only [Act.put, List.setIfInBounds_toArray, List.set_cons_zero, List.set_cons_succ, i64_w, i32_w]
    rfl
   refine one_ (i := 9) (N := some 18) #[true, true, true, true, true, true, true, true, true, true, false] rfl rfl (one_of HT_.out (by kernel_rfl)) (by decide) (fun K hK => ?_)
   refine goes_ Tryd.func65 (by kernel_rfl) rfl #[.agg #[.slice A0_0 l0_0.length c0_0, .slice A0_1 l0_1.length c0_1], .bool t185] (by rfl) rfl rfl (by (try simp only [List.map_toArray, List.map_cons, List.map_nil]); first | done | rfl | (simp only [List.length_drop, List.length_take]; rfl)) ?_
   with_reducible refine (skewbaldref01_asked.calls k _ _ l0_0 _ _ l0_1 t185 t186 _ ?side1 ?side2 ?side3 ?side4 A7.out).mono ?_
   (case side1 => exact cl)
   (case side2 => exact HC0_0.out)
   (case side3 => exact cl)
   (case side4 => exact HC0_1.out)
   rintro e w21 ⟨rfl, hb⟩
   refine ⟨_, rfl, ?_⟩
   have n0_ := Aside0.mk (blk_below (g := gb183) (o := .cells #[.slice A0_0 l0_0.length c0_0, .slice A0_1 l0_1.length c0_1] 25 (0, 0)) bk hb)
   have n1_ := Aside0.mk (below_step bl hb)
   clear BK183
   clear HB
   have BK183 := n0_
   have HB := n1_
   clear n0_ n1_
   (try clear hb)
   (try clear hb2)
   (try clear hk)
   (try clear hi)
   refine hK.out _ _ ⟨(blk_cell BK183.out 0).trans rfl, (blk_cell BK183.out 1).trans rfl⟩ (fun hHeld => ?_)
   clear hK K
   refine norm_ (a' := ?_) ?_ ?_
   rotate_left
   ·show Act.put _ (some 18) _ = _
    simp only [Act.put, List.setIfInBounds_toArray, List.set_cons_zero, List.set_cons_succ, i64_w, i32_w]
    rfl
   refine pure_ (i := 10) (N := some 8) (v := ?_) (a' := ?_) #[true, true, true, true, true, true, true, true, true, true, true] rfl rfl (any_of HT_.out (by kernel_rfl)) (fun _ _ _ h => h) (Or.inl ⟨by rfl, ?_⟩) ?_ ?_
   rotate_left
   ·intro w'
    go_simp
    with_reducible rfl
   rotate_left
   ·simp only [Act.put, List.setIfInBounds_toArray, List.set_cons_zero, List.set_cons_succ, i64_w, i32_w]
    rfl
   refine done_ (done_of HT_.out (by kernel_rfl)) ?_
   try go_wp2
   go_ret2
   exact ⟨_, by first | rfl | (simp [errW_none, errW_some] <;> rfl) | (simp [*, errW_none, errW_some] <;> rfl), by first | exact Kd.R_nil _ _ _ _ _ | exact Kd.N_nil _ _ _ _ _ | exact Kd.V_nil _ _ _ _ _ | exact Kd.Q_nil _ _ _ _ _ | exact Kd.S_nil _ _ _ _ _, bl⟩
 ·replace c5 := Bool.eq_false_iff.mpr c5
  subst c5
  have H1 : ((skewbaldref01_asked.f k l0_0 l0_1 false).bind fun t190 => (if t190 = 0 then ((skewbaldref01_spots.f k l0_0 l0_1 a1 a2).bind fun t191 => (some (t191, 0))) else (some (([] : List Int), t190)))) = some (r1, r2) := by rw [if_neg (show ¬ (false = true) by decide)] at H; exact H
  clear H
  have H := H1
  clear H1
  replace H := Option.bind_eq_some_iff.mp H
  obtain ⟨t190, A220, H⟩ := H
  replace H : (if t190 = 0 then ((skewbaldref01_spots.f k l0_0 l0_1 a1 a2).bind fun t191 => (some (t191, 0))) else (some (([] : List Int), t190))) = some (r1, r2) := H
  have A22 := Aside0.mk A220
  clear A220
  by_cases c23 : t190 = 0
  ·rw [if_pos c23] at H
   have c23b0 : (t190 == 0) = true := beq_iff_eq.mpr c23
   have c23b1 : (t190 != 0) = false := bne_eq_false_iff_eq.mpr c23
   clear c23
   replace H := Option.bind_eq_some_iff.mp H
   obtain ⟨t191, A240, H⟩ := H
   replace H : (some (t191, 0)) = some (r1, r2) := H
   have A24 := Aside0.mk A240
   clear A240
   simp only [Option.some.injEq, Prod.mk.injEq] at H
   obtain ⟨rfl, rfl⟩ := H
   go_enter Tryd.func21, Tryd.ntmps21
   try go_wp2_with (first | ((with_reducible refine gate_dst (N := 3) rfl ?_); refine box_event ?hg (N := 3) ?hd (cs := #[.slice A0_0 l0_0.length c0_0, .slice A0_1 l0_1.length c0_1]) (t := 25) ?hr ?_; (case hd => rfl); (case hg => rfl); (case hr => first | (go_simp; done) | (go_simp; rfl)); intro gb183 hg w25 hbox hb; have n0_ := Aside0.mk (below_step bl hb); have n1_ := Aside0.mk (hbox); have n2_ := Aside0.mk ((by rw [hg]; exact (below_size bl) : w.heap.size ≤ gb183)); have n3_ := Aside0.mk ((by rw [hg]; exact (below_size bl) : w.heap.size ≤ gb183)); clear HB; have HB := n0_; have BK183 := n1_; have GW183 := n2_; have GE183 := n3_; clear n0_ n1_ n2_ n3_; clear hb hbox hg))
   have n0_ := Aside0.mk (blk_drew BK183.out)
   have n1_ := Aside0.mk (below_drew1 HB.out)
   clear BK183
   clear HB
   have BK183 := n0_
   have HB := n1_
   clear n0_ n1_
   refine start_ (n := 11) (S := fun w' => w'.cell? ⟨gb183, 0, none⟩ = some (.slice A0_0 l0_0.length c0_0) ∧ w'.cell? ⟨gb183, 1, none⟩ = some (.slice A0_1 l0_1.length c0_1)) (ds := []) #[false, false, false, false, false, false, false, false, false, false, false] (by kernel_rfl) rfl rfl ⟨(blk_cell BK183.out 0).trans rfl, (blk_cell BK183.out 1).trans rfl⟩ (fun hHeld => ?_); refine with_tabW skewbaldref01_Spots.tab1 skewbaldref01_Spots.bits1 (fun HT_ HW_ => ?_)
   generalize w25.drew = w26 at BK183 HB hHeld ⊢
   refine pure_ (i := 2) (N := some 11) (v := ?_) (a' := ?_) #[false, false, true, false, false, false, false, false, false, false, false] rfl rfl (any_of HT_.out (by kernel_rfl)) (fun _ _ _ h => h) (Or.inl ⟨by rfl, ?_⟩) ?_ ?_
   rotate_left
   ·intro w'
    go_simp
    with_reducible rfl
   rotate_left
   ·simp only [Act.put, List.setIfInBounds_toArray, List.set_cons_zero, List.set_cons_succ, i64_w, i32_w]
    rfl
   refine take_ (i := 0) (N := some 9) (v := ?_) (a' := ?_) #[true, false, true, false, false, false, false, false, false, false, false] rfl rfl (take_ofW HT_.out HW_.out (by kernel_rfl)) (fun _ _ _ h => h) (Or.inl ⟨by rfl, ?_⟩) hHeld ?_ ?_
   rotate_left
   ·rintro w' ⟨s0, s1⟩
    go_simp
    with_reducible rfl
   rotate_left
   ·simp only [Act.put, List.setIfInBounds_toArray, List.set_cons_zero, List.set_cons_succ, i64_w, i32_w]
    rfl
   refine take_ (i := 1) (N := some 10) (v := ?_) (a' := ?_) #[true, true, true, false, false, false, false, false, false, false, false] rfl rfl (take_ofW HT_.out HW_.out (by kernel_rfl)) (fun _ _ _ h => h) (Or.inl ⟨by rfl, ?_⟩) hHeld ?_ ?_
   rotate_left
   ·rintro w' ⟨s0, s1⟩
    go_simp
    with_reducible rfl
   rotate_left
   ·simp only [Act.put, List.setIfInBounds_toArray, List.set_cons_zero, List.set_cons_succ, i64_w, i32_w]
    rfl
   refine one_ (i := 3) (N := some 12) #[true, true, true, true, false, false, false, false, false, false, false] rfl rfl (one_of HT_.out (by kernel_rfl)) (by decide) (fun K hK => ?_)
   refine goes_ Tryd.func66 (by kernel_rfl) rfl #[.agg #[.slice A0_0 l0_0.length c0_0, .slice A0_1 l0_1.length c0_1], .int .i64 a1] (by rfl) rfl rfl (by (try simp only [List.map_toArray, List.map_cons, List.map_nil]); first | done | rfl | (simp only [List.length_drop, List.length_take]; rfl)) ?_
   with_reducible refine (skewbaldref01_isPlank.calls _ _ l0_0 _ _ l0_1 a1 false _ ?side1 ?side2 ?side3 ?side4 A4.out).mono ?_
   (case side1 => exact cl)
   (case side2 => exact HC0_0.out)
   (case side3 => exact cl)
   (case side4 => exact HC0_1.out)
   rintro e w27 ⟨rfl, hb⟩
   refine ⟨_, rfl, ?_⟩
   have n0_ := Aside0.mk (blk_below (g := gb183) (o := .cells #[.slice A0_0 l0_0.length c0_0, .slice A0_1 l0_1.length c0_1] 25 (0, 0)) bk hb)
   have n1_ := Aside0.mk (below_step bl hb)
   clear BK183
   clear HB
   have BK183 := n0_
   have HB := n1_
   clear n0_ n1_
   (try clear hb)
   (try clear hb2)
   (try clear hk)
   (try clear hi)
   refine hK.out _ _ ⟨(blk_cell BK183.out 0).trans rfl, (blk_cell BK183.out 1).trans rfl⟩ (fun hHeld => ?_)
   clear hK K
   refine norm_ (a' := ?_) ?_ ?_
   rotate_left
   ·show Act.put _ (some 12) _ = _
    simp only [Act.put, List.setIfInBounds_toArray, List.set_cons_zero, List.set_cons_succ, i64_w, i32_w]
    rfl
   refine pure_ (i := 4) (N := some 13) (v := ?_) (a' := ?_) #[true, true, true, true, true, false, false, false, false, false, false] rfl rfl (any_of HT_.out (by kernel_rfl)) (fun _ _ _ h => h) (Or.inl ⟨by rfl, ?_⟩) ?_ ?_
   rotate_left
   ·intro w'
    go_simp
    with_reducible rfl
   rotate_left
   ·simp only [Act.put, List.setIfInBounds_toArray, List.set_cons_zero, List.set_cons_succ, i64_w, i32_w]
    rfl
   refine pure_ (i := 5) (N := some 14) (v := undef) (a' := ?_) #[true, true, true, true, true, true, false, false, false, false, false] rfl rfl (any_of HT_.out (by kernel_rfl)) (fun _ _ _ h => h) (Or.inr ⟨by rfl, rfl⟩) ?_ ?_
   rotate_left
   ·simp only [Act.put, List.setIfInBounds_toArray, List.set_cons_zero, List.set_cons_succ, i64_w, i32_w]
    rfl
   refine pure_ (i := 6) (N := some 15) (v := undef) (a' := ?_) #[true, true, true, true, true, true, true, false, false, false, false] rfl rfl (any_of HT_.out (by kernel_rfl)) (fun _ _ _ h => h) (Or.inr ⟨by rfl, rfl⟩) ?_ ?_
   rotate_left
   ·simp only [Act.put, List.setIfInBounds_toArray, List.set_cons_zero, List.set_cons_succ, i64_w, i32_w]
    rfl
   refine pure_ (i := 7) (N := some 16) (v := undef) (a' := ?_) #[true, true, true, true, true, true, true, true, false, false, false] rfl rfl (any_of HT_.out (by kernel_rfl)) (fun _ _ _ h => h) (Or.inr ⟨by rfl, rfl⟩) ?_ ?_
   rotate_left
   ·simp only [Act.put, List.setIfInBounds_toArray, List.set_cons_zero, List.set_cons_succ, i64_w, i32_w]
    rfl
   refine pure_ (i := 8) (N := some 17) (v := ?_) (a' := ?_) #[true, true, true, true, true, true, true, true, true, false, false] rfl rfl (any_of HT_.out (by kernel_rfl)) (fun _ _ _ h => h) (Or.inl ⟨by rfl, ?_⟩) ?_ ?_
   rotate_left
   ·intro w'
    go_simp
    with_reducible rfl
   rotate_left
   ·simp only [Act.put, List.setIfInBounds_toArray, List.set_cons_zero, List.set_cons_succ, i64_w, i32_w]
    rfl
   refine one_ (i := 9) (N := some 18) #[true, true, true, true, true, true, true, true, true, true, false] rfl rfl (one_of HT_.out (by kernel_rfl)) (by decide) (fun K hK => ?_)
   refine goes_ Tryd.func65 (by kernel_rfl) rfl #[.agg #[.slice A0_0 l0_0.length c0_0, .slice A0_1 l0_1.length c0_1], .bool false] (by rfl) rfl rfl (by (try simp only [List.map_toArray, List.map_cons, List.map_nil]); first | done | rfl | (simp only [List.length_drop, List.length_take]; rfl)) ?_
   with_reducible refine (skewbaldref01_asked.calls k _ _ l0_0 _ _ l0_1 false t190 _ ?side1 ?side2 ?side3 ?side4 A22.out).mono ?_
   (case side1 => exact cl)
   (case side2 => exact HC0_0.out)
   (case side3 => exact cl)
   (case side4 => exact HC0_1.out)
   rintro e w28 ⟨rfl, hb⟩
   refine ⟨_, rfl, ?_⟩
   have n0_ := Aside0.mk (blk_below (g := gb183) (o := .cells #[.slice A0_0 l0_0.length c0_0, .slice A0_1 l0_1.length c0_1] 25 (0, 0)) bk hb)
   have n1_ := Aside0.mk (below_step bl hb)
   clear BK183
   clear HB
   have BK183 := n0_
   have HB := n1_
   clear n0_ n1_
   (try clear hb)
   (try clear hb2)
   (try clear hk)
   (try clear hi)
   refine hK.out _ _ ⟨(blk_cell BK183.out 0).trans rfl, (blk_cell BK183.out 1).trans rfl⟩ (fun hHeld => ?_)
   clear hK K
   refine norm_ (a' := ?_) ?_ ?_
   rotate_left
   ·show Act.put _ (some 18) _ = _
    simp only [Act.put, List.setIfInBounds_toArray, List.set_cons_zero, List.set_cons_succ, i64_w, i32_w]
    rfl
   refine pure_ (i := 10) (N := some 8) (v := ?_) (a' := ?_) #[true, true, true, true, true, true, true, true, true, true, true] rfl rfl (any_of HT_.out (by kernel_rfl)) (fun _ _ _ h => h) (Or.inl ⟨by rfl, ?_⟩) ?_ ?_
   rotate_left
   ·intro w'
    go_simp
    with_reducible rfl
   rotate_left
   ·simp only [Act.put, List.setIfInBounds_toArray, List.set_cons_zero, List.set_cons_succ, i64_w, i32_w]
    rfl
   refine done_ (done_of HT_.out (by kernel_rfl)) ?_
   have hcz29_0 : w28.cell? ⟨gb183, 0, none⟩ = some (.slice A0_0 l0_0.length c0_0) := (blk_cell BK183.out 0).trans rfl
   have hcz29_1 : w28.cell? ⟨gb183, 1, none⟩ = some (.slice A0_1 l0_1.length c0_1) := (blk_cell BK183.out 1).trans rfl
   have hfz29_0 := blk_frozen BK183.out 0
   have hfz29_1 := blk_frozen BK183.out 1
   try go_wp2_with (first | ((with_reducible refine gate_callee (f := 75) rfl ?_); refine goesL_ (some 25) rfl rfl Tryd.func75 (by kernel_rfl) rfl #[.agg #[.slice A0_0 l0_0.length c0_0, .slice A0_1 l0_1.length c0_1], .int .i64 a1, .int .i64 a2] rfl (by (try simp only [List.map_toArray, List.map_cons, List.map_nil]); first | done | rfl | (simp only [List.length_drop, List.length_take]; rfl)) ?_; (with_reducible refine (skewbaldref01_spots.calls k _ _ l0_0 _ _ l0_1 a1 a2 t191 _ ?side1 ?side2 ?side3 ?side4 A24.out).mono ?_); (case side1 => exact cl); (case side2 => exact HC0_0.out); (case side3 => exact cl); (case side4 => exact HC0_1.out); rintro e w30 ⟨v192, rfl, ho0, hb⟩; refine ⟨_, rfl, ?_⟩; have n0_ := Aside0.mk (Kd.R_lower ho0 (below_size bl)); have n1_ := Aside0.mk (blk_below (g := gb183) (o := .cells #[.slice A0_0 l0_0.length c0_0, .slice A0_1 l0_1.length c0_1] 25 (0, 0)) bk hb); have n2_ := Aside0.mk (below_step bl hb); clear BK183; clear HB; have HO193 := n0_; have BK183 := n1_; have HB := n2_; clear n0_ n1_ n2_; (try clear hb); (try clear hb2); (try clear hk); (try clear hi); (try clear ho0)))
   go_ret2
   exact ⟨_, by first | rfl | (simp [errW_none, errW_some] <;> rfl) | (simp [*, errW_none, errW_some] <;> rfl), by (with_reducible repeat (first | apply Kd.R_alloc | apply Kd.R_drewN | apply Kd.R_drew)); exact HO193.out, bl⟩
  ·rw [if_neg c23] at H
   have c23b0 : (t190 == 0) = false := beq_eq_false_iff_ne.mpr c23
   have c23b1 : (t190 != 0) = true := bne_iff_ne.mpr c23
   simp only [Option.some.injEq, Prod.mk.injEq] at H
   obtain ⟨rfl, rfl⟩ := H
   go_enter Tryd.func21, Tryd.ntmps21
   try go_wp2_with (first | ((with_reducible refine gate_dst (N := 3) rfl ?_); refine box_event ?hg (N := 3) ?hd (cs := #[.slice A0_0 l0_0.length c0_0, .slice A0_1 l0_1.length c0_1]) (t := 25) ?hr ?_; (case hd => rfl); (case hg => rfl); (case hr => first | (go_simp; done) | (go_simp; rfl)); intro gb183 hg w31 hbox hb; have n0_ := Aside0.mk (below_step bl hb); have n1_ := Aside0.mk (hbox); have n2_ := Aside0.mk ((by rw [hg]; exact (below_size bl) : w.heap.size ≤ gb183)); have n3_ := Aside0.mk ((by rw [hg]; exact (below_size bl) : w.heap.size ≤ gb183)); clear HB; have HB := n0_; have BK183 := n1_; have GW183 := n2_; have GE183 := n3_; clear n0_ n1_ n2_ n3_; clear hb hbox hg))
   have n0_ := Aside0.mk (blk_drew BK183.out)
   have n1_ := Aside0.mk (below_drew1 HB.out)
   clear BK183
   clear HB
   have BK183 := n0_
   have HB := n1_
   clear n0_ n1_
   refine start_ (n := 11) (S := fun w' => w'.cell? ⟨gb183, 0, none⟩ = some (.slice A0_0 l0_0.length c0_0) ∧ w'.cell? ⟨gb183, 1, none⟩ = some (.slice A0_1 l0_1.length c0_1)) (ds := []) #[false, false, false, false, false, false, false, false, false, false, false] (by kernel_rfl) rfl rfl ⟨(blk_cell BK183.out 0).trans rfl, (blk_cell BK183.out 1).trans rfl⟩ (fun hHeld => ?_); refine with_tabW skewbaldref01_Spots.tab1 skewbaldref01_Spots.bits1 (fun HT_ HW_ => ?_)
   generalize w31.drew = w32 at BK183 HB hHeld ⊢
   refine pure_ (i := 2) (N := some 11) (v := ?_) (a' := ?_) #[false, false, true, false, false, false, false, false, false, false, false] rfl rfl (any_of HT_.out (by kernel_rfl)) (fun _ _ _ h => h) (Or.inl ⟨by rfl, ?_⟩) ?_ ?_
   rotate_left
   ·intro w'
    go_simp
    with_reducible rfl
   rotate_left
   ·simp only [Act.put, List.setIfInBounds_toArray, List.set_cons_zero, List.set_cons_succ, i64_w, i32_w]
    rfl
   refine take_ (i := 0) (N := some 9) (v := ?_) (a' := ?_) #[true, false, true, false, false, false, false, false, false, false, false] rfl rfl (take_ofW HT_.out HW_.out (by kernel_rfl)) (fun _ _ _ h => h) (Or.inl ⟨by rfl, ?_⟩) hHeld ?_ ?_
   rotate_left
   ·rintro w' ⟨s0, s1⟩
    go_simp
    with_reducible rfl
   rotate_left
   ·simp only [Act.put, List.setIfInBounds_toArray, List.set_cons_zero, List.set_cons_succ, i64_w, i32_w]
    rfl
   refine take_ (i := 1) (N := some 10) (v := ?_) (a' := ?_) #[true, true, true, false, false, false, false, false, false, false, false] rfl rfl (take_ofW HT_.out HW_.out (by kernel_rfl)) (fun _ _ _ h => h) (Or.inl ⟨by rfl, ?_⟩) hHeld ?_ ?_
   rotate_left
   ·rintro w' ⟨s0, s1⟩
    go_simp
    with_reducible rfl
   rotate_left
   ·simp only [Act.put, List.setIfInBounds_toArray, List.set_cons_zero, List.set_cons_succ, i64_w, i32_w]
    rfl
   refine one_ (i := 3) (N := some 12) #[true, true, true, true, false, false, false, false, false, false, false] rfl rfl (one_of HT_.out (by kernel_rfl)) (by decide) (fun K hK => ?_)
   refine goes_ Tryd.func66 (by kernel_rfl) rfl #[.agg #[.slice A0_0 l0_0.length c0_0, .slice A0_1 l0_1.length c0_1], .int .i64 a1] (by rfl) rfl rfl (by (try simp only [List.map_toArray, List.map_cons, List.map_nil]); first | done | rfl | (simp only [List.length_drop, List.length_take]; rfl)) ?_
   with_reducible refine (skewbaldref01_isPlank.calls _ _ l0_0 _ _ l0_1 a1 false _ ?side1 ?side2 ?side3 ?side4 A4.out).mono ?_
   (case side1 => exact cl)
   (case side2 => exact HC0_0.out)
   (case side3 => exact cl)
   (case side4 => exact HC0_1.out)
   rintro e w33 ⟨rfl, hb⟩
   refine ⟨_, rfl, ?_⟩
   have n0_ := Aside0.mk (blk_below (g := gb183) (o := .cells #[.slice A0_0 l0_0.length c0_0, .slice A0_1 l0_1.length c0_1] 25 (0, 0)) bk hb)
   have n1_ := Aside0.mk (below_step bl hb)
   clear BK183
   clear HB
   have BK183 := n0_
   have HB := n1_
   clear n0_ n1_
   (try clear hb)
   (try clear hb2)
   (try clear hk)
   (try clear hi)
   refine hK.out _ _ ⟨(blk_cell BK183.out 0).trans rfl, (blk_cell BK183.out 1).trans rfl⟩ (fun hHeld => ?_)
   clear hK K
   refine norm_ (a' := ?_) ?_ ?_
   rotate_left
   ·show Act.put _ (some 12) _ = _
    simp only [Act.put, List.setIfInBounds_toArray, List.set_cons_zero, List.set_cons_succ, i64_w, i32_w]
    rfl
   refine pure_ (i := 4) (N := some 13) (v := ?_) (a' := ?_) #[true, true, true, true, true, false, false, false, false, false, false] rfl rfl (any_of HT_.out (by kernel_rfl)) (fun _ _ _ h => h) (Or.inl ⟨by rfl, ?_⟩) ?_ ?_
   rotate_left
   ·intro w'
    go_simp
    with_reducible rfl
   rotate_left
   ·simp only [Act.put, List.setIfInBounds_toArray, List.set_cons_zero, List.set_cons_succ, i64_w, i32_w]
    rfl
   refine pure_ (i := 5) (N := some 14) (v := undef) (a' := ?_) #[true, true, true, true, true, true, false, false, false, false, false] rfl rfl (any_of HT_.out (by kernel_rfl)) (fun _ _ _ h => h) (Or.inr ⟨by rfl, rfl⟩) ?_ ?_
   rotate_left
   ·simp only [Act.put, List.setIfInBounds_toArray, List.set_cons_zero, List.set_cons_succ, i64_w, i32_w]
    rfl
   refine pure_ (i := 6) (N := some 15) (v := undef) (a' := ?_) #[true, true, true, true, true, true, true, false, false, false, false] rfl rfl (any_of HT_.out (by kernel_rfl)) (fun _ _ _ h => h) (Or.inr ⟨by rfl, rfl⟩) ?_ ?_
   rotate_left
   ·simp only [Act.put, List.setIfInBounds_toArray, List.set_cons_zero, List.set_cons_succ, i64_w, i32_w]
    rfl
   refine pure_ (i := 7) (N := some 16) (v := undef) (a' := ?_) #[true, true, true, true, true, true, true, true, false, false, false] rfl rfl (any_of HT_.out (by kernel_rfl)) (fun _ _ _ h => h) (Or.inr ⟨by rfl, rfl⟩) ?_ ?_
   rotate_left
   ·simp only [Act.put, List.setIfInBounds_toArray, List.set_cons_zero, List.set_cons_succ, i64_w, i32_w]
    rfl
   refine pure_ (i := 8) (N := some 17) (v := ?_) (a' := ?_) #[true, true, true, true, true, true, true, true, true, false, false] rfl rfl (any_of HT_.out (by kernel_rfl)) (fun _ _ _ h => h) (Or.inl ⟨by rfl, ?_⟩) ?_ ?_
   rotate_left
   ·intro w'
    go_simp
    with_reducible rfl
   rotate_left
   ·simp only [Act.put, List.setIfInBounds_toArray, List.set_cons_zero, List.set_cons_succ, i64_w, i32_w]
    rfl
   refine one_ (i := 9) (N := some 18) #[true, true, true, true, true, true, true, true, true, true, false] rfl rfl (one_of HT_.out (by kernel_rfl)) (by decide) (fun K hK => ?_)
   refine goes_ Tryd.func65 (by kernel_rfl) rfl #[.agg #[.slice A0_0 l0_0.length c0_0, .slice A0_1 l0_1.length c0_1], .bool false] (by rfl) rfl rfl (by (try simp only [List.map_toArray, List.map_cons, List.map_nil]); first | done | rfl | (simp only [List.length_drop, List.length_take]; rfl)) ?_
   with_reducible refine (skewbaldref01_asked.calls k _ _ l0_0 _ _ l0_1 false t190 _ ?side1 ?side2 ?side3 ?side4 A22.out).mono ?_
   (case side1 => exact cl)
   (case side2 => exact HC0_0.out)
   (case side3 => exact cl)
   (case side4 => exact HC0_1.out)
   rintro e w34 ⟨rfl, hb⟩
   refine ⟨_, rfl, ?_⟩
   have n0_ := Aside0.mk (blk_below (g := gb183) (o := .cells #[.slice A0_0 l0_0.length c0_0, .slice A0_1 l0_1.length c0_1] 25 (0, 0)) bk hb)
   have n1_ := Aside0.mk (below_step bl hb)
   clear BK183
   clear HB
   have BK183 := n0_
   have HB := n1_
   clear n0_ n1_
   (try clear hb)
   (try clear hb2)
   (try clear hk)
   (try clear hi)
   refine hK.out _ _ ⟨(blk_cell BK183.out 0).trans rfl, (blk_cell BK183.out 1).trans rfl⟩ (fun hHeld => ?_)
   clear hK K
   refine norm_ (a' := ?_) ?_ ?_
   rotate_left
   ·show Act.put _ (some 18) _ = _
    simp only [Act.put, List.setIfInBounds_toArray, List.set_cons_zero, List.set_cons_succ, i64_w, i32_w]
    rfl
   refine pure_ (i := 10) (N := some 8) (v := ?_) (a' := ?_) #[true, true, true, true, true, true, true, true, true, true, true] rfl rfl (any_of HT_.out (by kernel_rfl)) (fun _ _ _ h => h) (Or.inl ⟨by rfl, ?_⟩) ?_ ?_
   rotate_left
   ·intro w'
    go_simp
    with_reducible rfl
   rotate_left
   ·simp only [Act.put, List.setIfInBounds_toArray, List.set_cons_zero, List.set_cons_succ, i64_w, i32_w]
    rfl
   refine done_ (done_of HT_.out (by kernel_rfl)) ?_
   try go_wp2
   go_ret2
   exact ⟨_, by first | rfl | (simp [errW_none, errW_some] <;> rfl) | (simp [*, errW_none, errW_some] <;> rfl), by first | exact Kd.R_nil _ _ _ _ _ | exact Kd.N_nil _ _ _ _ _ | exact Kd.V_nil _ _ _ _ _ | exact Kd.Q_nil _ _ _ _ _ | exact Kd.S_nil _ _ _ _ _, bl⟩
end Go.Proofs.YtekjlpldooihhaaDoor.PT
namespace Go.Proofs.YtekjlpldooihhaaDoor.PT
open Go.Proofs.YtekjlpldooihhaaDoor.PA (S48 S50 S60 at_L2 at_L4 at_T48 at_T50 at_T60 errW errW_none errW_some k48 k48_mk k48_mkM k48_open k48_openM k50 k50_mk k50_mkM k50_open k50_openM k60 k60_mk k60_mkM k60_open k60_openM rd_L2 rd_L4 rd_T48 rd_T50 rd_T60 z48 z50 z60)
open Go.Proofs.YtekjlpldooihhaaDoorP Go.Proofs.YtekjlpldooihhaaDoorK
open Go.RowKit Go.Proofs.YtekjlpldooihhaaDoorW.PrintWords Go.Proofs.YtekjlpldooihhaaDoorW.PrintLast Go.Proofs.YtekjlpldooihhaaDoorW.PrintMore
attribute [local go_sem] max2_int min2_int max_two min_two max_three min_three max_four min_four   -- for this text's walks alone
set_option linter.unusedVariables false
set_option linter.unusedSimpArgs false
def skewbaldref00_Equal.l0 : Nat → List Int → List Int → Bool → Int → Option (Bool)
 | 0, _, _, _, _ => none
 | k + 1, x0, x1, x5, x6 => if x5 = true then (if x6 < (x0.length : Int) then (if 0 ≤ x6 then (if x6 < (x1.length : Int) then (skewbaldref00_Equal.l0 k x0 x1 ((rd x0 x6) == (rd x1 x6)) (wrap64 (x6 + 1))) else (none)) else (none)) else (some x5)) else (some x5)
def skewbaldref00_Equal.f (k : Nat) (l0 : List Int) (l1 : List Int) : Option (Bool) := skewbaldref00_Equal.l0 k l0 l1 ((l0.length : Int) == (l1.length : Int)) 0
set_option maxHeartbeats 8000000 in
set_option maxRecDepth 100000 in
theorem skewbaldref00_Equal.calls (k : Nat) (A0 : Option Addr) (c0 : Nat) (l0 : List Int) (A1 : Option Addr) (c1 : Nat) (l1 : List Int) (r : Bool) (w : World) (hr0 : Kd.C (Kd.int .i64) w A0 l0.length l0) (hc0 : l0.length ≤ c0) (hr1 : Kd.C (Kd.int .i64) w A1 l1.length l1) (hc1 : l1.length ≤ c1) (h : skewbaldref00_Equal.f k l0 l1 = some r) :
  Calls Tryd.prog 22 #[.slice A0 l0.length c0, .slice A1 l1.length c1] w fun e w' => e = .returned (.bool r) ∧ Drawn0 w w' := by
 have HR0 := Aside0.mk hr0
 have HC0 := Aside0.mk hc0
 clear hr0 hc0
 have HR1 := Aside0.mk hr1
 have HC1 := Aside0.mk hc1
 clear hr1 hc1
 have H : (skewbaldref00_Equal.l0 k l0 l1 ((l0.length : Int) == (l1.length : Int)) 0) = some r := h
 clear h
 have H' := Aside0.mk H
 clear H
 go_enter Tryd.func22, Tryd.ntmps22
 go_wp2
 repeat (go_quiet (fail); try go_wp2)
 go_loopg [5, 6] k (fun kq v5 v6 w' => ∃ (x5_1 : Bool) (x6_1 : Int), v5 = .bool x5_1 ∧ v6 = .int .i64 x6_1 ∧ Aside0 (skewbaldref00_Equal.l0 kq l0 l1 x5_1 x6_1 = some r) ∧ Aside0 (kq ≤ k) ∧ Drawn0 w w')
 case atStart => exact ⟨(((l0.length : Int) == (l1.length : Int))), (0), (by first | rfl | (simp; done) | (simp [*]; done)), (by first | rfl | (simp; done) | (simp [*]; done)), H', ⟨Nat.le_refl _⟩, by repeat (first | exact Drawn0.refl _ | apply Drawn0.step)⟩
 case round =>
  clear H'
  try clear c1
  try clear c2
  try clear p2
  obtain ⟨x5_1, x6_1, rfl, rfl, HA, HK1, ⟨m1, rfl⟩⟩ := hrel
  cases gk with
  | zero => exact absurd HA.out (by simp [skewbaldref00_Equal.l0])
  | succ k1 =>
   have H := HA.out
   clear HA
   simp only [skewbaldref00_Equal.l0] at H
   by_cases c3 : x5_1 = true
   ·subst c3
    have H1 : (if x6_1 < (l0.length : Int) then (if 0 ≤ x6_1 then (if x6_1 < (l1.length : Int) then (skewbaldref00_Equal.l0 k1 l0 l1 ((rd l0 x6_1) == (rd l1 x6_1)) (wrap64 (x6_1 + 1))) else (none)) else (none)) else (some true)) = some r := by rw [if_pos rfl] at H; exact H
    clear H
    have H := H1
    clear H1
    by_cases c4 : x6_1 < (l0.length : Int)
    ·rw [if_pos c4] at H
     have c4b0 : decide (x6_1 < (l0.length : Int)) = true := decide_eq_true c4
     clear c4
     by_cases c5 : 0 ≤ x6_1
     ·rw [if_pos c5] at H
      have c5b0 : decide (0 ≤ x6_1) = true := decide_eq_true c5
      clear c5
      by_cases c6 : x6_1 < (l1.length : Int)
      ·rw [if_pos c6] at H
       have c6b0 : decide (x6_1 < (l1.length : Int)) = true := decide_eq_true c6
       clear c6
       have H' := Aside0.mk H
       clear H
       have p194 : 0 ≤ (x6_1 : Int) := of_decide_eq_true (by first | (with_reducible assumption) | assumption)
       have q194 : x6_1 < (l0.length : Int) := of_decide_eq_true (by first | (with_reducible assumption) | assumption)
       obtain ⟨ad194, e194, hx194_0⟩ := Kd.at_int HR0.out x6_1 p194 q194
       cases e194
       replace p194 := eq_true p194
       replace q194 := eq_true q194
       have p195 : 0 ≤ (x6_1 : Int) := of_decide_eq_true (by first | (with_reducible assumption) | assumption)
       have q195 : x6_1 < (l1.length : Int) := of_decide_eq_true (by first | (with_reducible assumption) | assumption)
       obtain ⟨ad195, e195, hx195_0⟩ := Kd.at_int HR1.out x6_1 p195 q195
       cases e195
       replace p195 := eq_true p195
       replace q195 := eq_true q195
       go_wp2
       repeat (go_quiet (fail); try go_wp2)
       go_roundg k1
       case measure => have := HK1.out; omega
       case rel => exact ⟨(((rd l0 x6_1) == (rd l1 x6_1))), (wrap64 (x6_1 + 1)), (by first | rfl | (simp; done) | (simp [*]; done)), (by first | rfl | (simp; done) | (simp [*]; done)), H', ⟨by have := HK1.out; omega⟩, by repeat (first | exact Drawn0.refl _ | apply Drawn0.step)⟩
      ·rw [if_neg c6] at H
       exact absurd H (by simp)
     ·rw [if_neg c5] at H
      exact absurd H (by simp)
    ·rw [if_neg c4] at H
     have c4b0 : decide (x6_1 < (l0.length : Int)) = false := decide_eq_false c4
     clear c4
     obtain rfl := Option.some.inj H
     go_wp2
     repeat (go_quiet (fail); try go_wp2)
     go_ret
     exact ⟨by first | rfl | (simp; done) | (simp [*]; done), by repeat (first | exact Drawn0.refl _ | apply Drawn0.step)⟩
   ·replace c3 := Bool.eq_false_iff.mpr c3
    subst c3
    have H1 : (some false) = some r := by rw [if_neg (show ¬ (false = true) by decide)] at H; exact H
    clear H
    have H := H1
    clear H1
    obtain rfl := Option.some.inj H
    go_wp2
    repeat (go_quiet (fail); try go_wp2)
    go_ret
    exact ⟨by first | rfl | (simp; done) | (simp [*]; done), by repeat (first | exact Drawn0.refl _ | apply Drawn0.step)⟩
end Go.Proofs.YtekjlpldooihhaaDoor.PT
namespace Go.Proofs.YtekjlpldooihhaaDoor.PT
open Go.Proofs.YtekjlpldooihhaaDoorSh
open Go.Proofs.YtekjlpldooihhaaDoor.PA (S48 S50 S60 at_L2 at_L4 at_T48 at_T50 at_T60 errW errW_none errW_some k48 k48_mk k48_mkM k48_open k48_openM k50 k50_mk k50_mkM k50_open k50_openM k60 k60_mk k60_mkM k60_open k60_openM rd_L2 rd_L4 rd_T48 rd_T50 rd_T60 z48 z50 z60)
open Go.Proofs.YtekjlpldooihhaaDoorP Go.Proofs.YtekjlpldooihhaaDoorK
open Go.RowKit Go.Proofs.YtekjlpldooihhaaDoorW.PrintWords Go.Proofs.YtekjlpldooihhaaDoorW.PrintLast Go.Proofs.YtekjlpldooihhaaDoorW.PrintMore
attribute [local go_sem] max2_int min2_int max_two min_two max_three min_three max_four min_four   -- for this text's walks alone
set_option linter.unusedVariables false
set_option linter.unusedSimpArgs false
def skewbaldlaw01_PlankSpots.j0 : Nat → Bool → List (S48) → List (S50) → Int → Int → Int → Option (Bool)
 | 0, _, _, _, _, _, _ => none
 | k + 1, x47, x197000, x197001, x198000, x198001, x198002 => if x47 = true then (some false) else ((plank_Spots.f x197000 x197001 x198000 x198001).bind fun bt204 => ((skewbaldref01_Spots.f k x197000 x197001 x198000 x198001).bind fun bt208 => ((skewbaldref00_Equal.f k bt204.1 bt208.1).bind fun t212 => (if t212 = true then (if bt204.2 = bt208.2 then ((skewbaldlaw01_sawn.f).bind fun t213 => (some t213)) else (some false)) else (some false)))))
def skewbaldlaw01_PlankSpots.f (k : Nat) (l0_0 : List (S48)) (l0_1 : List (S50)) (a1_0 : Int) (a1_1 : Int) (a1_2 : Int) : Option (Bool) := (plank_Can.f l0_0 l0_1 a1_0 a1_1 a1_2).bind fun bt198 => ((skewbaldref01_Can.f k l0_0 l0_1 a1_0 a1_1 a1_2).bind fun bt200 => (if bt198.1 = bt200.1 then (if bt198.2 = bt200.2 then ((plank_Check.f l0_0 l0_1).bind fun t202 => ((skewbaldref01_Check.f k l0_0 l0_1).bind fun t203 => (skewbaldlaw01_PlankSpots.j0 k (t202 != t203) l0_0 l0_1 a1_0 a1_1 a1_2))) else (skewbaldlaw01_PlankSpots.j0 k true l0_0 l0_1 a1_0 a1_1 a1_2)) else (skewbaldlaw01_PlankSpots.j0 k true l0_0 l0_1 a1_0 a1_1 a1_2)))
def skewbaldlaw01_PlankSpots.T3 : Bool × List (List Nat × List Nat) := (true, [([], []), ([], []), ([0, 1], [0, 1]), ([2], [2]), ([3], [3]), ([3], [3]), ([4, 5, 3], [3, 4, 5]), ([3, 6], [3, 6]), ([7, 3], [7]), ([8], [8]), ([9, 8, 8], [8, 9]), ([8], [8]), ([11, 10, 8], [8, 11]), ([10, 12, 8], [8, 10, 12]), ([8, 13], [8, 13])])
def skewbaldlaw01_PlankSpots.B3 : List Nat := [0, 0, 3, 7, 15, 15, 63, 127, 255, 511, 1023, 511, 4095, 8191, 16383]
theorem skewbaldlaw01_PlankSpots.tab3 : rtab .any (opsOf Tryd.f3 3) = skewbaldlaw01_PlankSpots.T3 := by kernel_rfl
theorem skewbaldlaw01_PlankSpots.bits3 : waitsOk skewbaldlaw01_PlankSpots.T3.2 skewbaldlaw01_PlankSpots.B3 = true := by kernel_rfl
set_option maxHeartbeats 8000000 in
set_option maxRecDepth 100000 in
theorem skewbaldlaw01_PlankSpots.calls (k : Nat) (A0_0 : Option Addr) (c0_0 : Nat) (l0_0 : List (S48)) (A0_1 : Option Addr) (c0_1 : Nat) (l0_1 : List (S50)) (a1_0 : Int) (a1_1 : Int) (a1_2 : Int) (w : World) (hr0_0 : Kd.C k48 w A0_0 l0_0.length l0_0) (hc0_0 : l0_0.length ≤ c0_0) (hr0_1 : Kd.C k50 w A0_1 l0_1.length l0_1) (hc0_1 : l0_1.length ≤ c0_1) (hG : Glob w) (h : skewbaldlaw01_PlankSpots.f k l0_0 l0_1 a1_0 a1_1 a1_2 = some true) :
  Calls Tryd.prog 3 #[.agg #[.slice A0_0 l0_0.length c0_0, .slice A0_1 l0_1.length c0_1], .agg #[.int .i64 a1_0, .int .i64 a1_1, .int .i64 a1_2]] w fun e w' => e = .returned (.bool true) ∧ Below w.heap.size w w' := by
 have hu25 := Tryd.underlying25
 have hu26 := Tryd.underlying26
 have HR0_0 := Aside0.mk hr0_0
 have HC0_0 := Aside0.mk hc0_0
 clear hr0_0 hc0_0
 have HR0_1 := Aside0.mk hr0_1
 have HC0_1 := Aside0.mk hc0_1
 clear hr0_1 hc0_1
 have HGL := Aside0.mk hG
 clear hG
 have HB := Aside0.mk (Below.refl w.heap.size w)
 have H : ((plank_Can.f l0_0 l0_1 a1_0 a1_1 a1_2).bind fun bt198 => ((skewbaldref01_Can.f k l0_0 l0_1 a1_0 a1_1 a1_2).bind fun bt200 => (if bt198.1 = bt200.1 then (if bt198.2 = bt200.2 then ((plank_Check.f l0_0 l0_1).bind fun t202 => ((skewbaldref01_Check.f k l0_0 l0_1).bind fun t203 => (skewbaldlaw01_PlankSpots.j0 k (t202 != t203) l0_0 l0_1 a1_0 a1_1 a1_2))) else (skewbaldlaw01_PlankSpots.j0 k true l0_0 l0_1 a1_0 a1_1 a1_2)) else (skewbaldlaw01_PlankSpots.j0 k true l0_0 l0_1 a1_0 a1_1 a1_2)))) = some true := h
 clear h
 replace H := Option.bind_eq_some_iff.mp H
 obtain ⟨⟨t198, t199⟩, A30, H⟩ := H
 replace H : ((skewbaldref01_Can.f k l0_0 l0_1 a1_0 a1_1 a1_2).bind fun bt200 => (if t198 = bt200.1 then (if t199 = bt200.2 then ((plank_Check.f l0_0 l0_1).bind fun t202 => ((skewbaldref01_Check.f k l0_0 l0_1).bind fun t203 => (skewbaldlaw01_PlankSpots.j0 k (t202 != t203) l0_0 l0_1 a1_0 a1_1 a1_2))) else (skewbaldlaw01_PlankSpots.j0 k true l0_0 l0_1 a1_0 a1_1 a1_2)) else (skewbaldlaw01_PlankSpots.j0 k true l0_0 l0_1 a1_0 a1_1 a1_2))) = some true := H
 have A3 := Aside0.mk A30
 clear A30
 replace H := Option.bind_eq_some_iff.mp H
 obtain ⟨⟨t200, t201⟩, A40, H⟩ := H
 replace H : (if t198 = t200 then (if t199 = t201 then ((plank_Check.f l0_0 l0_1).bind fun t202 => ((skewbaldref01_Check.f k l0_0 l0_1).bind fun t203 => (skewbaldlaw01_PlankSpots.j0 k (t202 != t203) l0_0 l0_1 a1_0 a1_1 a1_2))) else (skewbaldlaw01_PlankSpots.j0 k true l0_0 l0_1 a1_0 a1_1 a1_2)) else (skewbaldlaw01_PlankSpots.j0 k true l0_0 l0_1 a1_0 a1_1 a1_2)) = some true := H
 have A4 := Aside0.mk A40
 clear A40
 have HC5 := Aside0.mk H
 clear H
 go_enter Tryd.func3, Tryd.ntmps3
 go_upto_region 3 with (first | ((with_reducible refine gate_dst (N := 2) rfl ?_); refine box_event ?hg (N := 2) ?hd (cs := #[.slice A0_0 l0_0.length c0_0, .slice A0_1 l0_1.length c0_1]) (t := 25) ?hr ?_; (case hd => rfl); (case hg => rfl); (case hr => first | (go_simp; done) | (go_simp; rfl)); intro gb196 hg w6 hbox hb; have n0_ := Aside0.mk (below_step bl hb); have n1_ := Aside0.mk (hbox); have n2_ := Aside0.mk ((by rw [hg]; exact (below_size bl) : w.heap.size ≤ gb196)); have n3_ := Aside0.mk ((by rw [hg]; exact (below_size bl) : w.heap.size ≤ gb196)); clear HB; have HB := n0_; have BK196 := n1_; have GW196 := n2_; have GE196 := n3_; clear n0_ n1_ n2_ n3_; clear hb hbox hg) | ((with_reducible refine gate_dst (N := 3) rfl ?_); refine box_event ?hg (N := 3) ?hd (cs := #[.int .i64 a1_0, .int .i64 a1_1, .int .i64 a1_2]) (t := 26) ?hr ?_; (case hd => rfl); (case hg => rfl); (case hr => first | (go_simp; done) | (go_simp; rfl)); intro gb197 hg w7 hbox hb; have n0_ := Aside0.mk (blk_below (g := gb196) (o := .cells #[.slice A0_0 l0_0.length c0_0, .slice A0_1 l0_1.length c0_1] 25 (0, 0)) bk hb); have n1_ := Aside0.mk (below_step bl hb); have n2_ := Aside0.mk (hbox); have n3_ := Aside0.mk ((by rw [hg]; exact (below_size bl) : w.heap.size ≤ gb197)); have n4_ := Aside0.mk ((by rw [hg]; exact (below_size bl) : w.heap.size ≤ gb197)); have n5_ := Aside0.mk ((by rw [hg]; exact Nat.ne_of_lt (blk_lt (g := gb196) (o := .cells #[.slice A0_0 l0_0.length c0_0, .slice A0_1 l0_1.length c0_1] 25 (0, 0)) bk) : gb196 ≠ gb197)); have n6_ := Aside0.mk ((by rw [hg]; exact Nat.ne_of_gt (blk_lt (g := gb196) (o := .cells #[.slice A0_0 l0_0.length c0_0, .slice A0_1 l0_1.length c0_1] 25 (0, 0)) bk) : gb197 ≠ gb196)); clear BK196; clear HB; have BK196 := n0_; have HB := n1_; have BK197 := n2_; have GW197 := n3_; have GE197 := n4_; have NB196_197 := n5_; have NB197_196 := n6_; clear n0_ n1_ n2_ n3_ n4_ n5_ n6_; clear hb hbox hg; have hnb8 := NB196_197.out; have hnc8 := NB197_196.out; have hcz9_0 : w7.cell? ⟨gb196, 0, none⟩ = some (.slice A0_0 l0_0.length c0_0) := (blk_cell BK196.out 0).trans rfl; have hcz9_1 : w7.cell? ⟨gb196, 1, none⟩ = some (.slice A0_1 l0_1.length c0_1) := (blk_cell BK196.out 1).trans rfl; have hfz9_0 := blk_frozen BK196.out 0; have hfz9_1 := blk_frozen BK196.out 1; have hcz10_0 : w7.cell? ⟨gb197, 0, none⟩ = some (.int .i64 a1_0) := (blk_cell BK197.out 0).trans rfl; have hcz10_1 : w7.cell? ⟨gb197, 1, none⟩ = some (.int .i64 a1_1) := (blk_cell BK197.out 1).trans rfl; have hcz10_2 : w7.cell? ⟨gb197, 2, none⟩ = some (.int .i64 a1_2) := (blk_cell BK197.out 2).trans rfl; have hfz10_0 := blk_frozen BK197.out 0; have hfz10_1 := blk_frozen BK197.out 1; have hfz10_2 := blk_frozen BK197.out 2) | ((with_reducible refine gate_callee (f := 16) rfl ?_); refine goesL_ (some 19) rfl rfl Tryd.func16 (by kernel_rfl) rfl #[.agg #[.slice A0_0 l0_0.length c0_0, .slice A0_1 l0_1.length c0_1], .int .i64 a1_0, .int .i64 a1_1, .int .i64 a1_2] rfl (by (try simp only [List.map_toArray, List.map_cons, List.map_nil]); first | done | rfl | (simp only [List.length_drop, List.length_take]; rfl)) ?_; (with_reducible refine (plank_Can.calls _ _ l0_0 _ _ l0_1 a1_0 a1_1 a1_2 t198 t199 _ ?side1 ?side2 ?side3 ?side4 ?side5 A3.out).mono ?_); (case side1 => exact cl); (case side2 => exact HC0_0.out); (case side3 => exact cl); (case side4 => exact HC0_1.out); (case side5 => exact Glob.below HGL.out bl); rintro e w11 ⟨rfl, hb⟩; refine ⟨_, rfl, ?_⟩; have n0_ := Aside0.mk (blk_below (g := gb196) (o := .cells #[.slice A0_0 l0_0.length c0_0, .slice A0_1 l0_1.length c0_1] 25 (0, 0)) bk hb); have n1_ := Aside0.mk (blk_below (g := gb197) (o := .cells #[.int .i64 a1_0, .int .i64 a1_1, .int .i64 a1_2] 26 (0, 0)) bk hb); have n2_ := Aside0.mk (below_step bl hb); clear BK196; clear BK197; clear HB; have BK196 := n0_; have BK197 := n1_; have HB := n2_; clear n0_ n1_ n2_; (try clear hb); (try clear hb2); (try clear hk); (try clear hi); have hcz12_0 : w11.cell? ⟨gb196, 0, none⟩ = some (.slice A0_0 l0_0.length c0_0) := (blk_cell BK196.out 0).trans rfl; have hcz12_1 : w11.cell? ⟨gb196, 1, none⟩ = some (.slice A0_1 l0_1.length c0_1) := (blk_cell BK196.out 1).trans rfl; have hfz12_0 := blk_frozen BK196.out 0; have hfz12_1 := blk_frozen BK196.out 1; have hcz13_0 : w11.cell? ⟨gb197, 0, none⟩ = some (.int .i64 a1_0) := (blk_cell BK197.out 0).trans rfl; have hcz13_1 : w11.cell? ⟨gb197, 1, none⟩ = some (.int .i64 a1_1) := (blk_cell BK197.out 1).trans rfl; have hcz13_2 : w11.cell? ⟨gb197, 2, none⟩ = some (.int .i64 a1_2) := (blk_cell BK197.out 2).trans rfl; have hfz13_0 := blk_frozen BK197.out 0; have hfz13_1 := blk_frozen BK197.out 1; have hfz13_2 := blk_frozen BK197.out 2) | ((with_reducible refine gate_callee (f := 17) rfl ?_); refine goesL_ (some 30) rfl rfl Tryd.func17 (by kernel_rfl) rfl #[.agg #[.slice A0_0 l0_0.length c0_0, .slice A0_1 l0_1.length c0_1], .int .i64 a1_0, .int .i64 a1_1, .int .i64 a1_2] rfl (by (try simp only [List.map_toArray, List.map_cons, List.map_nil]); first | done | rfl | (simp only [List.length_drop, List.length_take]; rfl)) ?_; (with_reducible refine (skewbaldref01_Can.calls k _ _ l0_0 _ _ l0_1 a1_0 a1_1 a1_2 t200 t201 _ ?side1 ?side2 ?side3 ?side4 A4.out).mono ?_); (case side1 => exact cl); (case side2 => exact HC0_0.out); (case side3 => exact cl); (case side4 => exact HC0_1.out); rintro e w14 ⟨rfl, hb⟩; refine ⟨_, rfl, ?_⟩; have n0_ := Aside0.mk (blk_below (g := gb196) (o := .cells #[.slice A0_0 l0_0.length c0_0, .slice A0_1 l0_1.length c0_1] 25 (0, 0)) bk hb); have n1_ := Aside0.mk (blk_below (g := gb197) (o := .cells #[.int .i64 a1_0, .int .i64 a1_1, .int .i64 a1_2] 26 (0, 0)) bk hb); have n2_ := Aside0.mk (below_step bl hb); clear BK196; clear BK197; clear HB; have BK196 := n0_; have BK197 := n1_; have HB := n2_; clear n0_ n1_ n2_; (try clear hb); (try clear hb2); (try clear hk); (try clear hi)))
 (try simp only [Act.put, List.setIfInBounds_toArray, List.set_cons_zero, List.set_cons_succ])
 go_cut [47] (fun v47 wc => ∃ (kq : Nat) (x47_4 : Bool), v47 = .bool x47_4 ∧ Aside0 (skewbaldlaw01_PlankSpots.j0 kq x47_4 l0_0 l0_1 a1_0 a1_1 a1_2 = some true) ∧ Aside0 (kq ≤ k) ∧ Aside0 (wc.heap[gb196]? = some (.cells #[(.slice A0_0 l0_0.length c0_0), (.slice A0_1 l0_1.length c0_1)] 25 (0, 0))) ∧ Aside0 (wc.heap[gb197]? = some (.cells #[.int .i64 a1_0, .int .i64 a1_1, .int .i64 a1_2] 26 (0, 0))) ∧ Aside0 (Below w.heap.size w wc))
 case first =>
  have H := HC5.out
  clear HC5
  by_cases c15 : t198 = t200
  ·rw [if_pos c15] at H
   have c15b0 : (t198 == t200) = true := beq_iff_eq.mpr c15
   have c15b1 : (t198 != t200) = false := bne_eq_false_iff_eq.mpr c15
   clear c15
   (first | rw [c15b0] | (simp only [i64_w, i32_w]; rw [c15b0]) | skip)
   by_cases c16 : t199 = t201
   ·rw [if_pos c16] at H
    have c16b0 : (t199 == t201) = true := beq_iff_eq.mpr c16
    have c16b1 : (t199 != t201) = false := bne_eq_false_iff_eq.mpr c16
    clear c16
    replace H := Option.bind_eq_some_iff.mp H
    obtain ⟨t202, A170, H⟩ := H
    replace H : ((skewbaldref01_Check.f k l0_0 l0_1).bind fun t203 => (skewbaldlaw01_PlankSpots.j0 k (t202 != t203) l0_0 l0_1 a1_0 a1_1 a1_2)) = some true := H
    have A17 := Aside0.mk A170
    clear A170
    replace H := Option.bind_eq_some_iff.mp H
    obtain ⟨t203, A180, H⟩ := H
    replace H : (skewbaldlaw01_PlankSpots.j0 k (t202 != t203) l0_0 l0_1 a1_0 a1_1 a1_2) = some true := H
    have A18 := Aside0.mk A180
    clear A180
    have H' := Aside0.mk H
    clear H
    try go_wp2
    have n0_ := Aside0.mk (blk_drew BK196.out)
    have n1_ := Aside0.mk (blk_drew BK197.out)
    have n2_ := Aside0.mk (below_drew1 HB.out)
    clear BK196
    clear BK197
    clear HB
    have BK196 := n0_
    have BK197 := n1_
    have HB := n2_
    clear n0_ n1_ n2_
    refine start_ (n := 15) (S := fun w' => w'.cell? ⟨gb196, 0, none⟩ = some (.slice A0_0 l0_0.length c0_0) ∧ w'.cell? ⟨gb196, 1, none⟩ = some (.slice A0_1 l0_1.length c0_1)) (ds := []) #[false, false, false, false, false, false, false, false, false, false, false, false, false, false, false] (by kernel_rfl) rfl rfl ⟨(blk_cell BK196.out 0).trans rfl, (blk_cell BK196.out 1).trans rfl⟩ (fun hHeld => ?_); refine with_tabW skewbaldlaw01_PlankSpots.tab3 skewbaldlaw01_PlankSpots.bits3 (fun HT_ HW_ => ?_)
    generalize w14.drew = w19 at BK196 BK197 HB hHeld ⊢
    refine pure_ (i := 0) (N := some 33) (v := ?_) (a' := ?_) #[true, false, false, false, false, false, false, false, false, false, false, false, false, false, false] rfl rfl (any_of HT_.out (by kernel_rfl)) (fun _ _ _ h => h) (Or.inl ⟨by rfl, ?_⟩) ?_ ?_
    rotate_left
    ·intro w'
     go_simp
     with_reducible rfl
    rotate_left
    ·simp only [Act.put, List.setIfInBounds_toArray, List.set_cons_zero, List.set_cons_succ, i64_w, i32_w]
     rfl
    refine pure_ (i := 1) (N := some 34) (v := ?_) (a' := ?_) #[true, true, false, false, false, false, false, false, false, false, false, false, false, false, false] rfl rfl (any_of HT_.out (by kernel_rfl)) (fun _ _ _ h => h) (Or.inl ⟨by rfl, ?_⟩) ?_ ?_
    rotate_left
    ·intro w'
     go_simp
     with_reducible rfl
    rotate_left
    ·simp only [Act.put, List.setIfInBounds_toArray, List.set_cons_zero, List.set_cons_succ, i64_w, i32_w]
     rfl
    refine pure_ (i := 2) (N := some 35) (v := ?_) (a' := ?_) #[true, true, true, false, false, false, false, false, false, false, false, false, false, false, false] rfl rfl (any_of HT_.out (by kernel_rfl)) (fun _ _ _ h => h) (Or.inl ⟨by rfl, ?_⟩) ?_ ?_
    rotate_left
    ·intro w'
     go_simp
     with_reducible rfl
    rotate_left
    ·simp only [Act.put, List.setIfInBounds_toArray, List.set_cons_zero, List.set_cons_succ, i64_w, i32_w]
     rfl
    refine pure_ (i := 3) (N := some 36) (v := ?_) (a' := ?_) #[true, true, true, true, false, false, false, false, false, false, false, false, false, false, false] rfl rfl (any_of HT_.out (by kernel_rfl)) (fun _ _ _ h => h) (Or.inl ⟨by rfl, ?_⟩) ?_ ?_
    rotate_left
    ·intro w'
     go_simp
     with_reducible rfl
    rotate_left
    ·simp only [Act.put, List.setIfInBounds_toArray, List.set_cons_zero, List.set_cons_succ, i64_w, i32_w]
     rfl
    refine pure_ (i := 4) (N := some 37) (v := ?_) (a' := ?_) #[true, true, true, true, true, false, false, false, false, false, false, false, false, false, false] rfl rfl (any_of HT_.out (by kernel_rfl)) (fun _ _ _ h => h) (Or.inl ⟨by rfl, ?_⟩) ?_ ?_
    rotate_left
    ·intro w'
     go_simp
     with_reducible rfl
    rotate_left
    ·simp only [Act.put, List.setIfInBounds_toArray, List.set_cons_zero, List.set_cons_succ, i64_w, i32_w]
     rfl
    refine pure_ (i := 5) (N := some 38) (v := ?_) (a' := ?_) #[true, true, true, true, true, true, false, false, false, false, false, false, false, false, false] rfl rfl (any_of HT_.out (by kernel_rfl)) (fun _ _ _ h => h) (Or.inl ⟨by rfl, ?_⟩) ?_ ?_
    rotate_left
    ·intro w'
     go_simp
     with_reducible rfl
    rotate_left
    ·simp only [Act.put, List.setIfInBounds_toArray, List.set_cons_zero, List.set_cons_succ, i64_w, i32_w]
     rfl
    refine pure_ (i := 6) (N := some 39) (v := ?_) (a' := ?_) #[true, true, true, true, true, true, true, false, false, false, false, false, false, false, false] rfl rfl (any_of HT_.out (by kernel_rfl)) (fun _ _ _ h => h) (Or.inl ⟨by rfl, ?_⟩) ?_ ?_
    rotate_left
    ·intro w'
     go_simp
     with_reducible rfl
    rotate_left
    ·simp only [Act.put, List.setIfInBounds_toArray, List.set_cons_zero, List.set_cons_succ, i64_w, i32_w]
     rfl
    refine pure_ (i := 7) (N := some 40) (v := ?_) (a' := ?_) #[true, true, true, true, true, true, true, true, false, false, false, false, false, false, false] rfl rfl (any_of HT_.out (by kernel_rfl)) (fun _ _ _ h => h) (Or.inl ⟨by rfl, ?_⟩) ?_ ?_
    rotate_left
    ·intro w'
     go_simp
     with_reducible rfl
    rotate_left
    ·simp only [Act.put, List.setIfInBounds_toArray, List.set_cons_zero, List.set_cons_succ, i64_w, i32_w]
     rfl
    refine pure_ (i := 8) (N := some 41) (v := ?_) (a' := ?_) #[true, true, true, true, true, true, true, true, true, false, false, false, false, false, false] rfl rfl (any_of HT_.out (by kernel_rfl)) (fun _ _ _ h => h) (Or.inl ⟨by rfl, ?_⟩) ?_ ?_
    rotate_left
    ·intro w'
     go_simp
     with_reducible rfl
    rotate_left
    ·simp only [Act.put, List.setIfInBounds_toArray, List.set_cons_zero, List.set_cons_succ, i64_w, i32_w]
     rfl
    refine take_ (i := 9) (N := some 42) (v := ?_) (a' := ?_) #[true, true, true, true, true, true, true, true, true, true, false, false, false, false, false] rfl rfl (take_ofW HT_.out HW_.out (by kernel_rfl)) (fun _ _ _ h => h) (Or.inl ⟨by rfl, ?_⟩) hHeld ?_ ?_
    rotate_left
    ·rintro w' ⟨s0, s1⟩
     go_simp
     with_reducible rfl
    rotate_left
    ·simp only [Act.put, List.setIfInBounds_toArray, List.set_cons_zero, List.set_cons_succ, i64_w, i32_w]
     rfl
    refine take_ (i := 11) (N := some 44) (v := ?_) (a' := ?_) #[true, true, true, true, true, true, true, true, true, true, false, true, false, false, false] rfl rfl (take_ofW HT_.out HW_.out (by kernel_rfl)) (fun _ _ _ h => h) (Or.inl ⟨by rfl, ?_⟩) hHeld ?_ ?_
    rotate_left
    ·rintro w' ⟨s0, s1⟩
     go_simp
     with_reducible rfl
    rotate_left
    ·simp only [Act.put, List.setIfInBounds_toArray, List.set_cons_zero, List.set_cons_succ, i64_w, i32_w]
     rfl
    refine one_ (i := 10) (N := some 43) #[true, true, true, true, true, true, true, true, true, true, true, true, false, false, false] rfl rfl (one_of HT_.out (by kernel_rfl)) (by decide) (fun K hK => ?_)
    refine goes_ Tryd.func18 (by kernel_rfl) rfl #[.agg #[.slice A0_0 l0_0.length c0_0, .slice A0_1 l0_1.length c0_1]] (by rfl) rfl rfl (by (try simp only [List.map_toArray, List.map_cons, List.map_nil]); first | done | rfl | (simp only [List.length_drop, List.length_take]; rfl)) ?_
    with_reducible refine (plank_Check.calls _ _ l0_0 _ _ l0_1 t202 _ ?side1 ?side2 ?side3 ?side4 A17.out).mono ?_
    (case side1 => exact cl)
    (case side2 => exact HC0_0.out)
    (case side3 => exact cl)
    (case side4 => exact HC0_1.out)
    rintro e w20 ⟨rfl, hb⟩
    refine ⟨_, rfl, ?_⟩
    have n0_ := Aside0.mk (blk_below (g := gb196) (o := .cells #[.slice A0_0 l0_0.length c0_0, .slice A0_1 l0_1.length c0_1] 25 (0, 0)) bk hb)
    have n1_ := Aside0.mk (blk_below (g := gb197) (o := .cells #[.int .i64 a1_0, .int .i64 a1_1, .int .i64 a1_2] 26 (0, 0)) bk hb)
    have n2_ := Aside0.mk (below_step bl hb)
    clear BK196
    clear BK197
    clear HB
    have BK196 := n0_
    have BK197 := n1_
    have HB := n2_
    clear n0_ n1_ n2_
    (try clear hb)
    (try clear hb2)
    (try clear hk)
    (try clear hi)
    refine hK.out _ _ ⟨(blk_cell BK196.out 0).trans rfl, (blk_cell BK196.out 1).trans rfl⟩ (fun hHeld => ?_)
    clear hK K
    refine norm_ (a' := ?_) ?_ ?_
    rotate_left
    ·show Act.put _ (some 43) _ = _
     simp only [Act.put, List.setIfInBounds_toArray, List.set_cons_zero, List.set_cons_succ, i64_w, i32_w]
     rfl
    refine one_ (i := 12) (N := some 45) #[true, true, true, true, true, true, true, true, true, true, true, true, true, false, false] rfl rfl (one_of HT_.out (by kernel_rfl)) (by decide) (fun K hK => ?_)
    refine goes_ Tryd.func19 (by kernel_rfl) rfl #[.agg #[.slice A0_0 l0_0.length c0_0, .slice A0_1 l0_1.length c0_1]] (by rfl) rfl rfl (by (try simp only [List.map_toArray, List.map_cons, List.map_nil]); first | done | rfl | (simp only [List.length_drop, List.length_take]; rfl)) ?_
    with_reducible refine (skewbaldref01_Check.calls k _ _ l0_0 _ _ l0_1 t203 _ ?side1 ?side2 ?side3 ?side4 A18.out).mono ?_
    (case side1 => exact cl)
    (case side2 => exact HC0_0.out)
    (case side3 => exact cl)
    (case side4 => exact HC0_1.out)
    rintro e w21 ⟨rfl, hb⟩
    refine ⟨_, rfl, ?_⟩
    have n0_ := Aside0.mk (blk_below (g := gb196) (o := .cells #[.slice A0_0 l0_0.length c0_0, .slice A0_1 l0_1.length c0_1] 25 (0, 0)) bk hb)
    have n1_ := Aside0.mk (blk_below (g := gb197) (o := .cells #[.int .i64 a1_0, .int .i64 a1_1, .int .i64 a1_2] 26 (0, 0)) bk hb)
    have n2_ := Aside0.mk (below_step bl hb)
    clear BK196
    clear BK197
    clear HB
    have BK196 := n0_
    have BK197 := n1_
    have HB := n2_
    clear n0_ n1_ n2_
    (try clear hb)
    (try clear hb2)
    (try clear hk)
    (try clear hi)
    refine hK.out _ _ ⟨(blk_cell BK196.out 0).trans rfl, (blk_cell BK196.out 1).trans rfl⟩ (fun hHeld => ?_)
    clear hK K
    refine norm_ (a' := ?_) ?_ ?_
    rotate_left
    ·show Act.put _ (some 45) _ = _
     simp only [Act.put, List.setIfInBounds_toArray, List.set_cons_zero, List.set_cons_succ, i64_w, i32_w]
     rfl
    refine pure_ (i := 13) (N := some 46) (v := ?_) (a' := ?_) #[true, true, true, true, true, true, true, true, true, true, true, true, true, true, false] rfl rfl (any_of HT_.out (by kernel_rfl)) (fun _ _ _ h => h) (Or.inl ⟨by rfl, ?_⟩) ?_ ?_
    rotate_left
    ·intro w'
     go_simp
     with_reducible rfl
    rotate_left
    ·simp only [Act.put, List.setIfInBounds_toArray, List.set_cons_zero, List.set_cons_succ, i64_w, i32_w]
     rfl
    refine pure_ (i := 14) (N := some 47) (v := ?_) (a' := ?_) #[true, true, true, true, true, true, true, true, true, true, true, true, true, true, true] rfl rfl (any_of HT_.out (by kernel_rfl)) (fun _ _ _ h => h) (Or.inl ⟨by rfl, ?_⟩) ?_ ?_
    rotate_left
    ·intro w'
     go_simp
     with_reducible rfl
    rotate_left
    ·simp only [Act.put, List.setIfInBounds_toArray, List.set_cons_zero, List.set_cons_succ, i64_w, i32_w]
     rfl
    refine done_ (done_of HT_.out (by kernel_rfl)) ?_
    try go_wp2
    go_meet
    case rel => exact ⟨_, ((t202 != t203)), (by first | rfl | (simp; done) | (simp [*]; done)), H', ⟨by first | omega | exact Nat.le_refl _⟩, ⟨bk⟩, ⟨bk⟩, ⟨bl⟩⟩
   ·rw [if_neg c16] at H
    have c16b0 : (t199 == t201) = false := beq_eq_false_iff_ne.mpr c16
    have c16b1 : (t199 != t201) = true := bne_iff_ne.mpr c16
    exact absurd H (by rcases k with _ | k <;> (first | (simp [skewbaldlaw01_PlankSpots.j0]; done) | (rcases k with _ | k <;> simp [skewbaldlaw01_PlankSpots.j0])))
  ·rw [if_neg c15] at H
   have c15b0 : (t198 == t200) = false := beq_eq_false_iff_ne.mpr c15
   have c15b1 : (t198 != t200) = true := bne_iff_ne.mpr c15
   (first | rw [c15b0] | (simp only [i64_w, i32_w]; rw [c15b0]) | skip)
   exact absurd H (by rcases k with _ | k <;> (first | (simp [skewbaldlaw01_PlankSpots.j0]; done) | (rcases k with _ | k <;> simp [skewbaldlaw01_PlankSpots.j0])))
 case rest =>
  clear HC5
  try clear c1
  try clear p2
  try clear c3
  try clear c8
  try clear c15
  try clear c15b0
  try clear c15b1
  try clear c16
  try clear c16b0
  try clear c16b1
  try clear c17
  try clear c18
  try clear c19
  try clear hcz10_0
  try clear hcz10_1
  try clear hcz10_2
  try clear hcz12_0
  try clear hcz12_1
  try clear hcz13_0
  try clear hcz13_1
  try clear hcz13_2
  try clear hcz9_0
  try clear hcz9_1
  try clear hfz10_0
  try clear hfz10_1
  try clear hfz10_2
  try clear hfz12_0
  try clear hfz12_1
  try clear hfz13_0
  try clear hfz13_1
  try clear hfz13_2
  try clear hfz9_0
  try clear hfz9_1
  obtain ⟨kq, x47_4, rfl, HA, HJ4, BK196, BK197, HB⟩ := hcut
  cases kq with
  | zero => exact absurd HA.out (by simp [skewbaldlaw01_PlankSpots.j0])
  | succ kj4 =>
   have H := HA.out
   clear HA
   simp only [skewbaldlaw01_PlankSpots.j0] at H
   by_cases c22 : x47_4 = true
   ·subst c22
    have H1 : (some false) = some true := by rw [if_pos rfl] at H; exact H
    clear H
    have H := H1
    clear H1
    exact absurd H (by simp)
   ·replace c22 := Bool.eq_false_iff.mpr c22
    subst c22
    have H1 : ((plank_Spots.f l0_0 l0_1 a1_0 a1_1).bind fun bt204 => ((skewbaldref01_Spots.f kj4 l0_0 l0_1 a1_0 a1_1).bind fun bt208 => ((skewbaldref00_Equal.f kj4 bt204.1 bt208.1).bind fun t212 => (if t212 = true then (if bt204.2 = bt208.2 then ((skewbaldlaw01_sawn.f).bind fun t213 => (some t213)) else (some false)) else (some false))))) = some true := by rw [if_neg (show ¬ (false = true) by decide)] at H; exact H
    clear H
    have H := H1
    clear H1
    replace H := Option.bind_eq_some_iff.mp H
    obtain ⟨⟨t204, t207⟩, A230, H⟩ := H
    replace H : ((skewbaldref01_Spots.f kj4 l0_0 l0_1 a1_0 a1_1).bind fun bt208 => ((skewbaldref00_Equal.f kj4 t204 bt208.1).bind fun t212 => (if t212 = true then (if t207 = bt208.2 then ((skewbaldlaw01_sawn.f).bind fun t213 => (some t213)) else (some false)) else (some false)))) = some true := H
    have A23 := Aside0.mk A230
    clear A230
    replace H := Option.bind_eq_some_iff.mp H
    obtain ⟨⟨t208, t211⟩, A240, H⟩ := H
    replace H : ((skewbaldref00_Equal.f kj4 t204 t208).bind fun t212 => (if t212 = true then (if t207 = t211 then ((skewbaldlaw01_sawn.f).bind fun t213 => (some t213)) else (some false)) else (some false))) = some true := H
    have A24 := Aside0.mk A240
    clear A240
    replace H := Option.bind_eq_some_iff.mp H
    obtain ⟨t212, A250, H⟩ := H
    replace H : (if t212 = true then (if t207 = t211 then ((skewbaldlaw01_sawn.f).bind fun t213 => (some t213)) else (some false)) else (some false)) = some true := H
    have A25 := Aside0.mk A250
    clear A250
    by_cases c26 : t212 = true
    ·subst c26
     have H1 : (if t207 = t211 then ((skewbaldlaw01_sawn.f).bind fun t213 => (some t213)) else (some false)) = some true := by rw [if_pos rfl] at H; exact H
     clear H
     have H := H1
     clear H1
     by_cases c27 : t207 = t211
     ·rw [if_pos c27] at H
      have c27b0 : (t207 == t211) = true := beq_iff_eq.mpr c27
      have c27b1 : (t207 != t211) = false := bne_eq_false_iff_eq.mpr c27
      clear c27
      replace H := Option.bind_eq_some_iff.mp H
      obtain ⟨t213, A280, H⟩ := H
      replace H : (some t213) = some true := H
      have A28 := Aside0.mk A280
      clear A280
      have HE_ := Aside0.mk (Option.some.inj H)
      clear H
      have hnb29 := NB196_197.out
      have hnc29 := NB197_196.out
      have hcz30_0 : wc.cell? ⟨gb196, 0, none⟩ = some (.slice A0_0 l0_0.length c0_0) := (blk_cell BK196.out 0).trans rfl
      have hcz30_1 : wc.cell? ⟨gb196, 1, none⟩ = some (.slice A0_1 l0_1.length c0_1) := (blk_cell BK196.out 1).trans rfl
      have hfz30_0 := blk_frozen BK196.out 0
      have hfz30_1 := blk_frozen BK196.out 1
      have hcz31_0 : wc.cell? ⟨gb197, 0, none⟩ = some (.int .i64 a1_0) := (blk_cell BK197.out 0).trans rfl
      have hcz31_1 : wc.cell? ⟨gb197, 1, none⟩ = some (.int .i64 a1_1) := (blk_cell BK197.out 1).trans rfl
      have hcz31_2 : wc.cell? ⟨gb197, 2, none⟩ = some (.int .i64 a1_2) := (blk_cell BK197.out 2).trans rfl
      have hfz31_0 := blk_frozen BK197.out 0
      have hfz31_1 := blk_frozen BK197.out 1
      have hfz31_2 := blk_frozen BK197.out 2
      go_wp2_with (first | ((with_reducible refine gate_callee (f := 20) rfl ?_); refine goesL_ (some 54) rfl rfl Tryd.func20 (by kernel_rfl) rfl #[.agg #[.slice A0_0 l0_0.length c0_0, .slice A0_1 l0_1.length c0_1], .int .i64 a1_0, .int .i64 a1_1] rfl (by (try simp only [List.map_toArray, List.map_cons, List.map_nil]); first | done | rfl | (simp only [List.length_drop, List.length_take]; rfl)) ?_; (with_reducible refine (plank_Spots.calls _ _ l0_0 _ _ l0_1 a1_0 a1_1 t204 t207 _ ?side1 ?side2 ?side3 ?side4 ?side5 A23.out).mono ?_); (case side1 => exact cl); (case side2 => exact HC0_0.out); (case side3 => exact cl); (case side4 => exact HC0_1.out); (case side5 => exact Glob.below HGL.out bl); rintro e w32 ⟨v205, rfl, ho0, hb⟩; refine ⟨_, rfl, ?_⟩; have n0_ := Aside0.mk (Kd.V_lower (Kd.V_mono (ok' := fun k_ => k_ ≠ gb196 ∧ k_ ≠ gb197) ho0 (fun k_ hk_ => ⟨(Kd.freshB (g := gb196) (o := .cells #[.slice A0_0 l0_0.length c0_0, .slice A0_1 l0_1.length c0_1] 25 (0, 0)) bk k_ hk_), (Kd.freshB (g := gb197) (o := .cells #[.int .i64 a1_0, .int .i64 a1_1, .int .i64 a1_2] 26 (0, 0)) bk k_ hk_)⟩)) (below_size bl)); have n1_ := Aside0.mk (blk_below (g := gb196) (o := .cells #[.slice A0_0 l0_0.length c0_0, .slice A0_1 l0_1.length c0_1] 25 (0, 0)) bk hb); have n2_ := Aside0.mk (blk_below (g := gb197) (o := .cells #[.int .i64 a1_0, .int .i64 a1_1, .int .i64 a1_2] 26 (0, 0)) bk hb); have n3_ := Aside0.mk (below_step bl hb); clear BK196; clear BK197; clear HB; have HO206 := n0_; have BK196 := n1_; have BK197 := n2_; have HB := n3_; clear n0_ n1_ n2_ n3_; (try clear hb); (try clear hb2); (try clear hk); (try clear hi); (try clear ho0); have hcz33_0 : w32.cell? ⟨gb196, 0, none⟩ = some (.slice A0_0 l0_0.length c0_0) := (blk_cell BK196.out 0).trans rfl; have hcz33_1 : w32.cell? ⟨gb196, 1, none⟩ = some (.slice A0_1 l0_1.length c0_1) := (blk_cell BK196.out 1).trans rfl; have hfz33_0 := blk_frozen BK196.out 0; have hfz33_1 := blk_frozen BK196.out 1; have hcz34_0 : w32.cell? ⟨gb197, 0, none⟩ = some (.int .i64 a1_0) := (blk_cell BK197.out 0).trans rfl; have hcz34_1 : w32.cell? ⟨gb197, 1, none⟩ = some (.int .i64 a1_1) := (blk_cell BK197.out 1).trans rfl; have hcz34_2 : w32.cell? ⟨gb197, 2, none⟩ = some (.int .i64 a1_2) := (blk_cell BK197.out 2).trans rfl; have hfz34_0 := blk_frozen BK197.out 0; have hfz34_1 := blk_frozen BK197.out 1; have hfz34_2 := blk_frozen BK197.out 2) | ((with_reducible refine gate_callee (f := 21) rfl ?_); refine goesL_ (some 63) rfl rfl Tryd.func21 (by kernel_rfl) rfl #[.agg #[.slice A0_0 l0_0.length c0_0, .slice A0_1 l0_1.length c0_1], .int .i64 a1_0, .int .i64 a1_1] rfl (by (try simp only [List.map_toArray, List.map_cons, List.map_nil]); first | done | rfl | (simp only [List.length_drop, List.length_take]; rfl)) ?_; (with_reducible refine (skewbaldref01_Spots.calls kj4 _ _ l0_0 _ _ l0_1 a1_0 a1_1 t208 t211 _ ?side1 ?side2 ?side3 ?side4 A24.out).mono ?_); (case side1 => exact cl); (case side2 => exact HC0_0.out); (case side3 => exact cl); (case side4 => exact HC0_1.out); rintro e w35 ⟨v209, rfl, ho0, hb⟩; refine ⟨_, rfl, ?_⟩; have n0_ := Aside0.mk (Kd.V_elder' (by (with_reducible repeat (first | apply Kd.V_alloc | apply Kd.V_drewN | apply Kd.V_drew)); exact HO206.out) (Kd.R_base ho0) hb); have n1_ := Aside0.mk (Kd.R_lower ho0 (below_size bl)); have n2_ := Aside0.mk (blk_below (g := gb196) (o := .cells #[.slice A0_0 l0_0.length c0_0, .slice A0_1 l0_1.length c0_1] 25 (0, 0)) bk hb); have n3_ := Aside0.mk (blk_below (g := gb197) (o := .cells #[.int .i64 a1_0, .int .i64 a1_1, .int .i64 a1_2] 26 (0, 0)) bk hb); have n4_ := Aside0.mk (below_step bl hb); clear HO206; clear BK196; clear BK197; clear HB; have HO206 := n0_; have HO210 := n1_; have BK196 := n2_; have BK197 := n3_; have HB := n4_; clear n0_ n1_ n2_ n3_ n4_; (try clear hb); (try clear hb2); (try clear hk); (try clear hi); (try clear ho0); obtain ⟨Ao36, co36, eo36⟩ := Kd.V_slice HO206.out; subst eo36; obtain ⟨Ao37, co37, eo37⟩ := Kd.R_slice HO210.out; subst eo37) | ((with_reducible refine gate_callee (f := 22) rfl ?_); refine goesL_ (some 68) rfl rfl Tryd.func22 (by kernel_rfl) rfl #[.slice Ao36 t204.length co36, .slice Ao37 t208.length co37] rfl (by (try simp only [List.map_toArray, List.map_cons, List.map_nil]); first | done | rfl | (simp only [List.length_drop, List.length_take]; rfl)) ?_; (with_reducible refine (skewbaldref00_Equal.calls kj4 _ _ t204 _ _ t208 true _ ?side1 ?side2 ?side3 ?side4 A25.out).mono ?_); (case side1 => repeat (first | exact (Kd.V_reads' HO206.out).2.2 | (with_reducible refine Kd.C_alloc ?_ _) | (with_reducible refine Kd.C_drewN ?_ _) | (with_reducible refine Kd.C_drew ?_))); (case side2 => exact (Kd.V_reads' HO206.out).2.1); (case side3 => repeat (first | exact (Kd.R_reads' HO210.out).2.2 | (with_reducible refine Kd.C_alloc ?_ _) | (with_reducible refine Kd.C_drewN ?_ _) | (with_reducible refine Kd.C_drew ?_))); (case side4 => exact (Kd.R_reads' HO210.out).2.1); rintro e w' ⟨rfl, ⟨nd, rfl⟩⟩; refine ⟨_, rfl, ?_⟩) | (go_at_call 23; (with_reducible refine (skewbaldlaw01_sawn.calls  t213 _ ?side1 A28.out).mono ?_); (case side1 => exact Glob.below HGL.out bl); rintro e w38 ⟨rfl, hb⟩; have n0_ := Aside0.mk (Kd.V_below (by (with_reducible repeat (first | apply Kd.V_alloc | apply Kd.V_drewN | apply Kd.V_drew)); exact HO206.out) hb); have n1_ := Aside0.mk (Kd.R_below (by (with_reducible repeat (first | apply Kd.R_alloc | apply Kd.R_drewN | apply Kd.R_drew)); exact HO210.out) hb); have n2_ := Aside0.mk (blk_below (g := gb196) (o := .cells #[.slice A0_0 l0_0.length c0_0, .slice A0_1 l0_1.length c0_1] 25 (0, 0)) bk hb); have n3_ := Aside0.mk (blk_below (g := gb197) (o := .cells #[.int .i64 a1_0, .int .i64 a1_1, .int .i64 a1_2] 26 (0, 0)) bk hb); have n4_ := Aside0.mk (below_step bl hb); clear HO206; clear HO210; clear BK196; clear BK197; clear HB; have HO206 := n0_; have HO210 := n1_; have BK196 := n2_; have BK197 := n3_; have HB := n4_; clear n0_ n1_ n2_ n3_ n4_; (try clear hb); (try clear hb2); (try clear hk); (try clear hi)))
      go_ret
      exact ⟨by first | rfl | (rw [HE_.out]; done) | (simp [HE_.out]; done) | (simp [errW_none, errW_some] <;> rfl) | (simp [*, errW_none, errW_some] <;> rfl), bl⟩
     ·rw [if_neg c27] at H
      have c27b0 : (t207 == t211) = false := beq_eq_false_iff_ne.mpr c27
      have c27b1 : (t207 != t211) = true := bne_iff_ne.mpr c27
      exact absurd H (by simp)
    ·replace c26 := Bool.eq_false_iff.mpr c26
     subst c26
     have H1 : (some false) = some true := by rw [if_neg (show ¬ (false = true) by decide)] at H; exact H
     clear H
     have H := H1
     clear H1
     exact absurd H (by simp)
end Go.Proofs.YtekjlpldooihhaaDoor.PT
namespace Go.Proofs.YtekjlpldooihhaaDoorP
open Go.RowKit Go.Proofs.YtekjlpldooihhaaDoorW.PrintWords Go.Proofs.YtekjlpldooihhaaDoorH Go.Proofs.YtekjlpldooihhaaDoorEv Go.Proofs.YtekjlpldooihhaaDoor.PA
set_option linter.unusedVariables false
set_option linter.unusedSimpArgs false
def lenQ (Q : List S50) (p : Nat) : Nat := (Q.getD p z50).f0.toNat
def Apart (Q : List S50) (pos : Nat → Nat) (p q : Nat) : Prop := pos p + lenQ Q p ≤ pos q ∨ pos q + lenQ Q q ≤ pos p
theorem Apart.symm {Q : List S50} {pos : Nat → Nat} {p q : Nat} (h : Apart Q pos p q) : Apart Q pos q p := Or.symm h
def Good (y : S48) (Q : List S50) : List Nat → (Nat → Bool) → List Nat → Prop
  | [], _, [] => True
  | p :: ps, taken, a :: us => spotB y (Q.getD p z50) a = true ∧ freeB taken a (lenQ Q p) = true ∧ Good y Q ps (markB taken a (lenQ Q p)) us
  | _, _, _ => False
def lexLe : List Nat → List Nat → Prop
  | [], _ => True
  | _ :: _, [] => False
  | a :: us, b :: bs => a < b ∨ (a = b ∧ lexLe us bs)
theorem spot_lt {y : S48} {x : S50} {a : Nat} (h : spotB y x a = true) : (a : Int) + x.f0 ≤ y.f0 ∧ canN y x a = 2 := by
  unfold spotB liesB at h
  simp only [Bool.and_eq_true, decide_eq_true_eq, beq_iff_eq] at h
  exact ⟨by omega, h.2⟩
theorem mem_spots {y : S48} {x : S50} (h1 : 1 ≤ x.f0) {a : Nat} : a ∈ spotsL y x ↔ spotB y x a = true := by
  unfold spotsL
  rw [List.mem_filter, List.mem_range]
  constructor
  · exact fun h => h.2
  · intro h
    have := (spot_lt h).1
    exact ⟨by omega, h⟩
theorem spots_sorted (y : S48) (x : S50) : (spotsL y x).Pairwise (· < ·) := List.pairwise_lt_range.filter _
theorem laidFrom_none {y : S48} {Q : List S50} : ∀ (ps : List Nat) (hL : ∀ p ∈ ps, 1 ≤ (Q.getD p z50).f0) (taken : Nat → Bool) (out : List Nat), laidFrom y Q ps taken out = none → ∀ bs, ¬ Good y Q ps taken bs
  | [], _, _, _, h, _, _ => by simp [laidFrom] at h
  | p :: ps, hL, taken, out, h, [], hg => hg
  | p :: ps, hL, taken, out, h, b :: bs, hg => by
    obtain ⟨g1, g2, g3⟩ := hg
    unfold laidFrom at h
    rw [List.findSome?_eq_none_iff] at h
    have h' := h b ((mem_spots (hL p (by simp))).2 g1)
    unfold lenQ at g2 g3
    rw [if_pos g2] at h'
    exact laidFrom_none ps (fun q hq => hL q (by simp [hq])) _ _ h' bs g3
theorem laidFrom_some {y : S48} {Q : List S50} : ∀ (ps : List Nat) (hL : ∀ p ∈ ps, 1 ≤ (Q.getD p z50).f0) (taken : Nat → Bool) (out o : List Nat), laidFrom y Q ps taken out = some o → ∃ us, o = out ++ us ∧ Good y Q ps taken us ∧ ∀ bs, Good y Q ps taken bs → lexLe us bs
  | [], _, taken, out, o, h => by
    simp only [laidFrom, Option.some.injEq] at h
    exact ⟨[], by simp [h], trivial, fun _ _ => trivial⟩
  | p :: ps, hL, taken, out, o, h => by
    have hL' : ∀ q ∈ ps, 1 ≤ (Q.getD q z50).f0 := fun q hq => hL q (by simp [hq])
    unfold laidFrom at h
    obtain ⟨l1, a, l2, e, hf, hn⟩ := List.findSome?_eq_some_iff.1 h
    have hs := (mem_spots (y := y) (hL p (by simp))).1 (by rw [e]; simp : a ∈ _)
    by_cases hfr : freeB taken a (Q.getD p z50).f0.toNat = true
    · rw [if_pos hfr] at hf
      obtain ⟨us, e1, e2, e3⟩ := laidFrom_some ps hL' _ _ _ hf
      refine ⟨a :: us, by rw [e1]; simp, ⟨hs, hfr, e2⟩, fun bs hb => ?_⟩
      match bs, hb with
      | b :: bs, hb =>
        obtain ⟨g1, g2, g3⟩ := hb
        have hm := (mem_spots (hL p (by simp))).2 g1
        rw [e] at hm
        simp only [List.mem_append, List.mem_cons] at hm
        rcases hm with hm | rfl | hm
        · have h' := hn b hm
          unfold lenQ at g2 g3
          rw [if_pos g2] at h'
          exact absurd g3 (laidFrom_none ps hL' _ _ h' bs)
        · exact .inr ⟨rfl, e3 bs g3⟩
        · have hp := spots_sorted y (Q.getD p z50)
          rw [e, List.pairwise_append] at hp
          exact .inl ((List.pairwise_cons.1 hp.2.1).1 b hm)
    · rw [if_neg hfr] at hf
      simp at hf
theorem free_iff {taken : Nat → Bool} {a L : Nat} : freeB taken a L = true ↔ ∀ j, a ≤ j → j < a + L → taken j = false := by
  unfold freeB
  rw [Bool.not_eq_true', List.any_eq_false]
  simp only [List.mem_range'_1, Bool.not_eq_true]
  exact ⟨fun h j h1 h2 => h j ⟨h1, h2⟩, fun h j hj => h j hj.1 hj.2⟩
theorem free_none (a L : Nat) : freeB (fun _ => false) a L = true := free_iff.2 fun _ _ _ => rfl
theorem free_mark {taken : Nat → Bool} {a L b M : Nat} (hL : 1 ≤ L) (hM : 1 ≤ M) : freeB (markB taken a L) b M = true ↔ freeB taken b M = true ∧ (a + L ≤ b ∨ b + M ≤ a) := by
  rw [free_iff, free_iff]
  unfold markB
  simp only [Bool.or_eq_false_iff, Bool.and_eq_false_iff, decide_eq_false_iff_not]
  constructor
  · intro h
    refine ⟨fun j h1 h2 => (h j h1 h2).1, ?_⟩
    by_cases hab : a ≤ b
    · have := (h b (Nat.le_refl _) (by omega)).2; omega
    · by_cases hba : a < b + M
      · have := (h a (by omega) hba).2; omega
      · omega
  · rintro ⟨h1, h2⟩ j h3 h4
    exact ⟨h1 j h3 h4, by omega⟩
theorem good_pos {y : S48} {Q : List S50} (pos : Nat → Nat) : ∀ (ps : List Nat) (hL : ∀ p ∈ ps, 1 ≤ lenQ Q p) (taken : Nat → Bool),
    Good y Q ps taken (ps.map pos) ↔ (∀ p ∈ ps, spotB y (Q.getD p z50) (pos p) = true ∧ freeB taken (pos p) (lenQ Q p) = true) ∧ ps.Pairwise (Apart Q pos)
  | [], _, taken => by simp [Good]
  | p :: ps, hL, taken => by
    have h1 := hL p (by simp)
    have ih := good_pos (y := y) pos ps (fun q hq => hL q (by simp [hq])) (markB taken (pos p) (lenQ Q p))
    show (_ ∧ _ ∧ Good y Q ps _ (ps.map pos)) ↔ _
    rw [ih, List.pairwise_cons]
    constructor
    · rintro ⟨a, b, c, d⟩
      refine ⟨fun q hq => ?_, fun q hq => ?_, d⟩
      · rcases List.mem_cons.1 hq with rfl | hq
        · exact ⟨a, b⟩
        · exact ⟨(c q hq).1, ((free_mark h1 (hL q (by simp [hq]))).1 (c q hq).2).1⟩
      · exact ((free_mark h1 (hL q (by simp [hq]))).1 (c q hq).2).2
    · rintro ⟨a, b, c⟩
      exact ⟨(a p (by simp)).1, (a p (by simp)).2, fun q hq => ⟨(a q (by simp [hq])).1, (free_mark h1 (hL q (by simp [hq]))).2 ⟨(a q (by simp [hq])).2, b q hq⟩⟩, c⟩
theorem good_length {y : S48} {Q : List S50} : ∀ (ps : List Nat) (taken : Nat → Bool) (us : List Nat), Good y Q ps taken us → us.length = ps.length
  | [], _, [], _ => rfl
  | [], _, _ :: _, h => h.elim
  | _ :: _, _, [], h => h.elim
  | p :: ps, taken, a :: us, h => by simp [good_length ps _ us h.2.2]
def posOf (ps us : List Nat) (p : Nat) : Nat := us.getD (ps.idxOf p) 0
theorem map_posOf {ps us : List Nat} (hn : ps.Nodup) (hl : us.length = ps.length) : ps.map (posOf ps us) = us := by
  apply List.ext_getElem
  · simp [hl]
  · intro i h1 h2
    rw [List.getElem_map]
    have hi : i < ps.length := by simpa using h1
    unfold posOf
    rw [List.Nodup.idxOf_getElem hn i hi]
    simp [h2]
def LiesOn (y : S48) (Q : List S50) (S : Nat → Prop) (pos : Nat → Nat) : Prop := (∀ p, S p → spotB y (Q.getD p z50) (pos p) = true) ∧ ∀ p q, S p → S q → p ≠ q → Apart Q pos p q
theorem pairwise_apart {Q : List S50} {pos : Nat → Nat} {ps : List Nat} (hn : ps.Nodup) : ps.Pairwise (Apart Q pos) ↔ ∀ p q, p ∈ ps → q ∈ ps → p ≠ q → Apart Q pos p q := by
  constructor
  · intro h p q hp hq hne
    exact List.Pairwise.forall_of_forall_of_flip (R := fun a b => a ≠ b → Apart Q pos a b) (fun a _ e => absurd rfl e) (h.imp (S := fun a b => a ≠ b → Apart Q pos a b) fun h _ => h) (h.imp (S := flip fun a b => a ≠ b → Apart Q pos a b) fun h _ => h.symm) hp hq hne
  · intro h
    exact List.Pairwise.imp_of_mem (fun ha hb hne => h _ _ ha hb hne) hn
theorem good_lies {y : S48} {Q : List S50} {ps : List Nat} (hn : ps.Nodup) (hL : ∀ p ∈ ps, 1 ≤ lenQ Q p) {pos : Nat → Nat} : Good y Q ps (fun _ => false) (ps.map pos) ↔ LiesOn y Q (· ∈ ps) pos := by
  rw [good_pos pos ps hL, pairwise_apart hn]
  unfold LiesOn
  constructor
  · exact fun h => ⟨fun p hp => (h.1 p hp).1, h.2⟩
  · exact fun h => ⟨fun p hp => ⟨h.1 p hp, free_none _ _⟩, h.2⟩
theorem laid_some {y : S48} {Q : List S50} {ps : List Nat} (hn : ps.Nodup) (hL : ∀ p ∈ ps, 1 ≤ (Q.getD p z50).f0) {o : List Nat} (h : laidB y Q ps = some o) :
    o.length = ps.length ∧ LiesOn y Q (· ∈ ps) (posOf ps o) ∧ ∀ pos, LiesOn y Q (· ∈ ps) pos → lexLe o (ps.map pos) := by
  have hL' : ∀ p ∈ ps, 1 ≤ lenQ Q p := fun p hp => by have := hL p hp; unfold lenQ; omega
  obtain ⟨us, e, hg, hm⟩ := laidFrom_some ps hL _ _ _ h
  rw [List.nil_append] at e
  subst e
  have hl := good_length _ _ _ hg
  refine ⟨hl, ?_, fun pos hp => hm _ ((good_lies hn hL').2 hp)⟩
  rw [← good_lies hn hL', map_posOf hn hl]
  exact hg
theorem laid_iff {y : S48} {Q : List S50} {ps : List Nat} (hn : ps.Nodup) (hL : ∀ p ∈ ps, 1 ≤ (Q.getD p z50).f0) : (laidB y Q ps).isSome = true ↔ ∃ pos, LiesOn y Q (· ∈ ps) pos := by
  have hL' : ∀ p ∈ ps, 1 ≤ lenQ Q p := fun p hp => by have := hL p hp; unfold lenQ; omega
  constructor
  · intro h
    obtain ⟨o, ho⟩ := Option.isSome_iff_exists.1 h
    exact ⟨_, (laid_some hn hL ho).2.1⟩
  · rintro ⟨pos, hp⟩
    cases h : laidB y Q ps with
    | some o => rfl
    | none => exact absurd ((good_lies hn hL').2 hp) (laidFrom_none ps hL _ _ h _)
theorem setL_nodup (s : Nat) : (setL s).Nodup := List.nodup_range.filter _
theorem mem_setL {s p : Nat} : p ∈ setL s ↔ p < 5 ∧ bitB s p = true := by unfold setL; rw [List.mem_filter, List.mem_range]
def numB (f : Nat → Bool) : Nat := (f 0).toNat + 2 * (f 1).toNat + 4 * (f 2).toNat + 8 * (f 3).toNat + 16 * (f 4).toNat
theorem numB_lt (f : Nat → Bool) : numB f < 32 := by
  unfold numB
  have := Bool.toNat_le (f 0); have := Bool.toNat_le (f 1); have := Bool.toNat_le (f 2); have := Bool.toNat_le (f 3); have := Bool.toNat_le (f 4)
  omega
theorem bit_numB (f : Nat → Bool) {q : Nat} (hq : q < 5) : bitB (numB f) q = f q := by
  unfold numB
  obtain rfl | rfl | rfl | rfl | rfl : q = 0 ∨ q = 1 ∨ q = 2 ∨ q = 3 ∨ q = 4 := by omega
  all_goals (cases f 0 <;> cases f 1 <;> cases f 2 <;> cases f 3 <;> cases f 4 <;> rfl)
theorem num_bits : ∀ s, s < 32 → numB (bitB s) = s := by decide
theorem eq_of_bits {s t : Nat} (hs : s < 32) (ht : t < 32) (h : ∀ q, q < 5 → bitB s q = bitB t q) : s = t := by
  rw [← num_bits s hs, ← num_bits t ht]
  unfold numB
  rw [h 0 (by omega), h 1 (by omega), h 2 (by omega), h 3 (by omega), h 4 (by omega)]
theorem bits_sub : ∀ s, s < 32 → ∀ t, t < 32 → (t &&& s == t) = true → ∀ q, q < 5 → bitB (s - t) q = (bitB s q && !bitB t q) ∧ (bitB t q = true → bitB s q = true) := by decide
theorem sub_of_bits : ∀ s, s < 32 → ∀ t, t < 32 → (∀ q, q < 5 → bitB t q = true → bitB s q = true) → (t &&& s == t) = true ∧ t ≤ s := by decide
theorem set_empty {s : Nat} (hs : s < 32) : setL s = [] ↔ s = 0 := by
  constructor
  · intro h
    refine eq_of_bits hs (by omega) (fun q hq => ?_)
    have : ¬ (q ∈ setL s) := by rw [h]; simp
    rw [mem_setL] at this
    have e : bitB s q = false := by simpa [hq] using this
    rw [e]
    unfold bitB; simp
  · rintro rfl; decide
def Cuts (P : List S48) (Q : List S50) (l : List Nat) (S : Nat → Prop) (a pos : Nat → Nat) : Prop :=
  (∀ p, S p → a p ∈ l ∧ spotB (P.getD (a p) z48) (Q.getD p z50) (pos p) = true) ∧ ∀ p q, S p → S q → p ≠ q → a p = a q → Apart Q pos p q
theorem cut_iff {P : List S48} {Q : List S50} (hq : ∀ p, p < Q.length → 1 ≤ (Q.getD p z50).f0) : ∀ (l : List Nat) (hl : l.Nodup) (s : Nat) (hs : s < 32) (hb : ∀ p ∈ setL s, p < Q.length),
    cutB P Q l s = true ↔ ∃ a pos, Cuts P Q l (· ∈ setL s) a pos
  | [], _, s, hs, hb => by
    unfold cutB
    rw [beq_iff_eq, ← set_empty hs]
    constructor
    · intro h
      exact ⟨fun _ => 0, fun _ => 0, fun p hp => by rw [h] at hp; simp at hp, fun p q hp => by rw [h] at hp; simp at hp⟩
    · rintro ⟨a, pos, h1, _⟩
      cases e : setL s with
      | nil => rfl
      | cons p t => exact absurd (h1 p (by rw [e]; simp)).1 (by simp)
  | i :: l, hl, s, hs, hb => by
    have hl' := (List.nodup_cons.1 hl)
    unfold cutB
    rw [Bool.or_eq_true, beq_iff_eq, List.any_eq_true]
    constructor
    · rintro (rfl | ⟨t, ht, h⟩)
      · have e := (set_empty (by omega : 0 < 32)).2 rfl
        exact ⟨fun _ => 0, fun _ => 0, fun p hp => by rw [e] at hp; simp at hp, fun p q hp => by rw [e] at hp; simp at hp⟩
      · rw [List.mem_range] at ht
        rw [Bool.and_eq_true, Bool.and_eq_true] at h
        obtain ⟨h1, h2, h3⟩ := h
        have hbits := bits_sub s hs t (by omega) h1
        have hbt : ∀ p ∈ setL t, p ∈ setL s := fun p hp => by
          rw [mem_setL] at hp ⊢
          exact ⟨hp.1, (hbits p hp.1).2 hp.2⟩
        have hbd : ∀ p, p ∈ setL (s - t) ↔ p ∈ setL s ∧ ¬ p ∈ setL t := fun p => by
          rw [mem_setL, mem_setL, mem_setL]
          constructor
          · rintro ⟨a, b⟩
            rw [(hbits p a).1, Bool.and_eq_true, Bool.not_eq_true'] at b
            exact ⟨⟨a, b.1⟩, fun h => by rw [b.2] at h; exact absurd h.2 (by simp)⟩
          · rintro ⟨⟨a, b⟩, c⟩
            refine ⟨a, ?_⟩
            rw [(hbits p a).1, b]
            cases e : bitB t p with
            | false => rfl
            | true => exact absurd ⟨a, e⟩ c
        obtain ⟨pos1, g1, g2⟩ := (laid_iff (setL_nodup t) (fun p hp => hq p (hb p (hbt p hp)))).1 h2
        obtain ⟨a2, pos2, g3, g4⟩ := (cut_iff hq l hl'.2 (s - t) (by omega) (fun p hp => hb p ((hbd p).1 hp).1)).1 h3
        classical
        refine ⟨fun p => if p ∈ setL t then i else a2 p, fun p => if p ∈ setL t then pos1 p else pos2 p, fun p hp => ?_, fun p q hp hq hne he => ?_⟩
        · by_cases hpt : p ∈ setL t
          · simp only [if_pos hpt]
            exact ⟨by simp, g1 p hpt⟩
          · simp only [if_neg hpt]
            have := g3 p ((hbd p).2 ⟨hp, hpt⟩)
            exact ⟨by simp [this.1], this.2⟩
        · unfold Apart
          by_cases hpt : p ∈ setL t <;> by_cases hqt : q ∈ setL t
          · simp only [hpt, hqt, if_true]
            exact g2 p q hpt hqt hne
          · simp only [hpt, hqt, if_true, if_false] at he
            exact absurd (he ▸ (g3 q ((hbd q).2 ⟨hq, hqt⟩)).1) hl'.1
          · simp only [hpt, hqt, if_true, if_false] at he
            exact absurd (he ▸ (g3 p ((hbd p).2 ⟨hp, hpt⟩)).1) hl'.1
          · simp only [hpt, hqt, if_false] at he ⊢
            exact g4 p q ((hbd p).2 ⟨hp, hpt⟩) ((hbd q).2 ⟨hq, hqt⟩) hne he
    · rintro ⟨a, pos, h1, h2⟩
      right
      let t := numB fun p => bitB s p && decide (a p = i)
      have ht : t < 32 := numB_lt _
      have hbit : ∀ q, q < 5 → bitB t q = (bitB s q && decide (a q = i)) := fun q hq => bit_numB (fun p => bitB s p && decide (a p = i)) hq
      obtain ⟨e1, e2⟩ := sub_of_bits s hs t ht (fun q hq h => by rw [hbit q hq, Bool.and_eq_true] at h; exact h.1)
      have hbits := bits_sub s hs t ht e1
      have hmt : ∀ p, p ∈ setL t ↔ p ∈ setL s ∧ a p = i := fun p => by
        rw [mem_setL, mem_setL]
        constructor
        · rintro ⟨c, d⟩; rw [hbit p c, Bool.and_eq_true, decide_eq_true_eq] at d; exact ⟨⟨c, d.1⟩, d.2⟩
        · rintro ⟨⟨c, d⟩, e⟩; exact ⟨c, by rw [hbit p c, d, e]; simp⟩
      have hbd : ∀ p, p ∈ setL (s - t) → p ∈ setL s ∧ ¬ a p = i := fun p hp => by
        rw [mem_setL] at hp
        obtain ⟨c, d⟩ := hp
        rw [(hbits p c).1, hbit p c, Bool.and_eq_true] at d
        refine ⟨mem_setL.2 ⟨c, d.1⟩, fun e => ?_⟩
        rw [d.1] at d
        simp [e] at d
      refine ⟨t, by rw [List.mem_range]; omega, ?_⟩
      rw [Bool.and_eq_true, Bool.and_eq_true]
      refine ⟨e1, ?_, ?_⟩
      · refine (laid_iff (setL_nodup t) (fun p hp => hq p (hb p ((hmt p).1 hp).1))).2 ⟨pos, fun p hp => ?_, fun p q hp hq hne => ?_⟩
        · obtain ⟨c, d⟩ := (hmt p).1 hp
          have := (h1 p c).2
          rwa [d] at this
        · exact h2 p q ((hmt p).1 hp).1 ((hmt q).1 hq).1 hne (((hmt p).1 hp).2.trans ((hmt q).1 hq).2.symm)
      · refine (cut_iff hq l hl'.2 (s - t) (by omega) (fun p hp => hb p (hbd p hp).1)).2 ⟨a, pos, fun p hp => ?_, fun p q hp hq hne he => h2 p q (hbd p hp).1 (hbd q hq).1 hne he⟩
        obtain ⟨c, d⟩ := hbd p hp
        have := h1 p c
        exact ⟨by simpa [d] using this.1, this.2⟩
end Go.Proofs.YtekjlpldooihhaaDoorP
namespace Go.Proofs.YtekjlpldooihhaaDoorP
open Go.RowKit Go.Proofs.YtekjlpldooihhaaDoorW.PrintWords Go.Proofs.YtekjlpldooihhaaDoorH Go.Proofs.YtekjlpldooihhaaDoorEv Go.Proofs.YtekjlpldooihhaaDoor.PA
set_option linter.unusedVariables false
set_option linter.unusedSimpArgs false
structure Strict (bt : List Int → List Int → Bool) : Prop where
  irr : ∀ l, bt l l = false
  trans : ∀ a b c, bt a b = true → bt b c = true → bt a c = true
  tot : ∀ a b, a = b ∨ bt a b = true ∨ bt b a = true
end Go.Proofs.YtekjlpldooihhaaDoorP
namespace Go.Proofs.YtekjlpldooihhaaDoorP
open Go.RowKit Go.Proofs.YtekjlpldooihhaaDoorW.PrintWords Go.Proofs.YtekjlpldooihhaaDoorH Go.Proofs.YtekjlpldooihhaaDoorEv Go.Proofs.YtekjlpldooihhaaDoor.PA
set_option linter.unusedVariables false
set_option linter.unusedSimpArgs false
theorem greatest_of {f : Nat → Nat} : ∀ (l : List Nat), l ≠ [] → ∃ p ∈ l, ∀ q ∈ l, f q ≤ f p
  | [], h => absurd rfl h
  | [a], _ => ⟨a, by simp, by simp⟩
  | a :: b :: l, _ => by
    obtain ⟨p, hp, h⟩ := greatest_of (f := f) (b :: l) (by simp)
    by_cases hab : f p ≤ f a
    · exact ⟨a, by simp, fun q hq => by
        rcases List.mem_cons.1 hq with rfl | hq
        · exact Nat.le_refl _
        · exact Nat.le_trans (h q hq) hab⟩
    · exact ⟨p, by simp [hp], fun q hq => by
        rcases List.mem_cons.1 hq with rfl | hq
        · omega
        · exact h q hq⟩
theorem bits_one : ∀ s, s < 32 → ∀ p, p < 5 → bitB s p = true → 2 ^ p ≤ s ∧ (2 ^ p &&& s == 2 ^ p) = true ∧ ∀ q, q < 5 → bitB (s - 2 ^ p) q = (bitB s q && !decide (q = p)) := by decide
theorem mem_less {s p : Nat} (hs : s < 32) (hp : p ∈ setL s) (q : Nat) : q ∈ setL (s - 2 ^ p) ↔ q ∈ setL s ∧ q ≠ p := by
  obtain ⟨h5, hb⟩ := mem_setL.1 hp
  have h := (bits_one s hs p h5 hb).2.2
  rw [mem_setL, mem_setL]
  constructor
  · rintro ⟨a, b⟩
    rw [h q a, Bool.and_eq_true, Bool.not_eq_true', decide_eq_false_iff_not] at b
    exact ⟨⟨a, b.1⟩, b.2⟩
  · rintro ⟨⟨a, b⟩, c⟩
    exact ⟨a, by rw [h q a, b]; simp [c]⟩
def EndAt (y : S48) (Q : List S50) (s : Nat) (e : Int) : Prop :=
  (e = 99 ∧ ∀ pos, ¬ LiesOn y Q (· ∈ setL s) pos) ∨
  (e < 99 ∧ 0 ≤ e ∧ (∃ pos, LiesOn y Q (· ∈ setL s) pos ∧ ∀ p, p ∈ setL s → (pos p + lenQ Q p : Nat) ≤ e) ∧ ∀ pos, LiesOn y Q (· ∈ setL s) pos → ∀ M : Int, 0 ≤ M → (∀ p, p ∈ setL s → (pos p + lenQ Q p : Nat) ≤ M) → e ≤ M)
theorem EndAt.zero (y : S48) (Q : List S50) : EndAt y Q 0 0 := by
  have e := (set_empty (by omega : 0 < 32)).2 rfl
  refine .inr ⟨by omega, by omega, ⟨fun _ => 0, ⟨fun p hp => ?_, fun p q hp => ?_⟩, fun p hp => ?_⟩, fun _ _ M h _ => h⟩
  all_goals (rw [e] at hp; simp at hp)
theorem EndAt.step {y : S48} {Q : List S50} {s : Nat} (hs : s < 32) (h0 : s ≠ 0) (hy : y.f0 ≤ 16) (hL : ∀ p ∈ setL s, 1 ≤ (Q.getD p z50).f0) {E : Nat → Int} (hE : ∀ p ∈ setL s, EndAt y Q (s - 2 ^ p) (E p)) {e : Int} (h3 : e ≤ 99)
    (h1 : e = 99 ∨ ∃ p ∈ setL s, ∃ a ∈ spotsL y (Q.getD p z50), E p ≤ (a : Int) ∧ e = (a : Int) + (Q.getD p z50).f0)
    (h2 : ∀ p ∈ setL s, ∀ a ∈ spotsL y (Q.getD p z50), E p ≤ (a : Int) → e ≤ (a : Int) + (Q.getD p z50).f0) : EndAt y Q s e := by
  have hlen : ∀ p ∈ setL s, ((lenQ Q p : Nat) : Int) = (Q.getD p z50).f0 := fun p hp => by have := hL p hp; unfold lenQ; omega
  have key : ∀ pos, LiesOn y Q (· ∈ setL s) pos → ∃ p ∈ setL s, e ≤ (pos p + lenQ Q p : Nat) ∧ (pos p + lenQ Q p : Nat) ≤ (16 : Int) := by
    intro pos hl
    obtain ⟨p, hp, hm⟩ := greatest_of (f := pos) (setL s) (fun h => h0 ((set_empty hs).1 h))
    have hsp := hl.1 p hp
    have hsl := (spot_lt hsp).1
    have hlp := hlen p hp
    have hrest : ∀ q, q ∈ setL (s - 2 ^ p) → pos q + lenQ Q q ≤ pos p := fun q hq => by
      obtain ⟨hqs, hne⟩ := (mem_less hs hp q).1 hq
      rcases hl.2 q p hqs hp hne with h | h
      · exact h
      · have := hm q hqs
        have := hlen p hp
        have := hL p hp
        omega
    have hlr : LiesOn y Q (· ∈ setL (s - 2 ^ p)) pos := ⟨fun q hq => hl.1 q ((mem_less hs hp q).1 hq).1, fun q r hq hr hne => hl.2 q r ((mem_less hs hp q).1 hq).1 ((mem_less hs hp r).1 hr).1 hne⟩
    have hep : E p ≤ (pos p : Int) := by
      rcases hE p hp with ⟨_, hno⟩ | ⟨_, _, _, hmin⟩
      · exact absurd hlr (hno pos)
      · exact hmin pos hlr (pos p) (by omega) (fun q hq => by have := hrest q hq; omega)
    have := h2 p hp (pos p) ((mem_spots (hL p hp)).2 hsp) hep
    exact ⟨p, hp, by omega, by omega⟩
  rcases h1 with rfl | ⟨p, hp, a, ha, hle, rfl⟩
  · refine .inl ⟨rfl, fun pos hl => ?_⟩
    obtain ⟨p, _, h, h'⟩ := key pos hl
    omega
  · have hsp := (mem_spots (hL p hp)).1 ha
    have hsl := (spot_lt hsp).1
    have hlp := hlen p hp
    have hl1 := hL p hp
    refine .inr ⟨by omega, by omega, ?_, fun pos hl M _ hM => ?_⟩
    · rcases hE p hp with ⟨e99, _⟩ | ⟨_, _, ⟨pos, hl, hends⟩, _⟩
      · omega
      · refine ⟨fun q => if q = p then a else pos q, ⟨fun q hq => ?_, fun q r hq hr hne => ?_⟩, fun q hq => ?_⟩
        · by_cases h : q = p
          · subst h; simpa using hsp
          · simp only [h, if_false]; exact hl.1 q ((mem_less hs hp q).2 ⟨hq, h⟩)
        · unfold Apart
          by_cases h : q = p
          · subst h
            have hr' := (mem_less hs hp r).2 ⟨hr, fun e => hne e.symm⟩
            simp only [if_true, if_neg (fun e => hne e.symm : ¬ r = q)]
            have := hends r hr'
            right; omega
          · by_cases h' : r = p
            · subst h'
              have hq' := (mem_less hs hp q).2 ⟨hq, h⟩
              simp only [if_true, if_neg h]
              have := hends q hq'
              left; omega
            · simp only [h, h', if_false]
              exact hl.2 q r ((mem_less hs hp q).2 ⟨hq, h⟩) ((mem_less hs hp r).2 ⟨hr, h'⟩) hne
        · by_cases h : q = p
          · subst h; simp only [if_true]; omega
          · simp only [h, if_false]
            have := hends q ((mem_less hs hp q).2 ⟨hq, h⟩)
            omega
    · obtain ⟨q, hq, h, _⟩ := key pos hl
      have := hM q hq
      omega
theorem EndAt.laid {y : S48} {Q : List S50} {s : Nat} {e : Int} (hL : ∀ p ∈ setL s, 1 ≤ (Q.getD p z50).f0) (h : EndAt y Q s e) : decide (e < 99) = (laidB y Q (setL s)).isSome ∧ (e = 99 ↔ laidB y Q (setL s) = none) := by
  have hi := laid_iff (y := y) (setL_nodup s) hL
  rcases h with ⟨rfl, h⟩ | ⟨h1, _, ⟨pos, h2, _⟩, _⟩
  · have hn : laidB y Q (setL s) = none := by
      cases hc : laidB y Q (setL s) with
      | none => rfl
      | some o => rw [hc] at hi; obtain ⟨pos, hp⟩ := hi.1 rfl; exact absurd hp (h pos)
    rw [hn]; simp
  · have hs := hi.2 ⟨pos, h2⟩
    rw [hs]
    refine ⟨by simpa using h1, ⟨fun e => by omega, fun e => by rw [e] at hs; simp at hs⟩⟩
theorem Ok.part1 {P : List S48} {Q : List S50} (h : Ok P Q) (p : Nat) (hp : p < Q.length) : 1 ≤ (Q.getD p z50).f0 := (h.shape _ (by rw [show Q.getD p z50 = Q[p] from by simp [hp]]; exact List.getElem_mem hp)).1
theorem lt32 {n s : Nat} (hn : n ≤ 5) (hs : s < 2 ^ n) : s < 32 := Nat.lt_of_lt_of_le hs (Nat.pow_le_pow_right (by omega : 0 < 2) hn)
theorem Ok.cut {P : List S48} {Q : List S50} (h : Ok P Q) (t : Nat) (s : Nat) (hs : s < 2 ^ Q.length) : cutB P Q (setL t) s = true ↔ ∃ a pos, Cuts P Q (setL t) (· ∈ setL s) a pos :=
  cut_iff h.part1 (setL t) (setL_nodup t) s (lt32 h.q5 hs) (fun p hp => setL_lt hs hp)
end Go.Proofs.YtekjlpldooihhaaDoorP
namespace Go.Proofs.YtekjlpldooihhaaDoor.PR
open Go.RowKit Go.Proofs.YtekjlpldooihhaaDoorW.PrintWords Go.Proofs.YtekjlpldooihhaaDoorEv Go.Proofs.YtekjlpldooihhaaDoorP Go.Proofs.YtekjlpldooihhaaDoor.PT Go.Proofs.YtekjlpldooihhaaDoorH
set_option linter.unusedVariables false
set_option linter.unusedSimpArgs false
theorem rd_at (l : List Int) (j : Nat) : rd l (j : Int) = l.getD j 0 := rfl
theorem filter_next_yes {p : Nat → Bool} {k : Nat} (h : p k = true) : (List.range (k + 1)).filter p = (List.range k).filter p ++ [k] := by
  rw [List.range_succ, List.filter_append]; simp [h]
theorem filter_next_no {p : Nat → Bool} {k : Nat} (h : p k = false) : (List.range (k + 1)).filter p = (List.range k).filter p := by
  rw [List.range_succ, List.filter_append]; simp [h]
theorem In_f (a b c : Int) : skewbaldref00_In.f a b c = some (decide (b ≤ a) && decide (a ≤ c)) := by
  unfold skewbaldref00_In.f
  by_cases h : b ≤ a <;> simp [h]
theorem Equal_l0 (x y : List Int) (hxy : x.length = y.length) (hs : x.length < 9223372036854775808) : ∀ (d j : Nat) (b : Bool), j + d = x.length →
    Evt (fun k => skewbaldref00_Equal.l0 k x y b (j : Int)) (b && decide (x.drop j = y.drop j))
  | d, j, false, hj => by
    refine Evt.succ ?_
    simp only [skewbaldref00_Equal.l0]
    exact Evt.neg (by simp) (by simpa using Evt.pure false)
  | 0, j, true, hj => by
    refine Evt.succ ?_
    simp only [skewbaldref00_Equal.l0]
    rw [List.drop_eq_nil_of_le (by omega), List.drop_eq_nil_of_le (by omega)]
    exact Evt.pos (by first | rfl | trivial) (Evt.neg (by omega) (by simpa using Evt.pure true))
  | d + 1, j, true, hj => by
    refine Evt.succ ?_
    simp only [skewbaldref00_Equal.l0]
    have h1 : x.drop j = x[j] :: x.drop (j + 1) := List.drop_eq_getElem_cons (by omega)
    have h2 : y.drop j = y[j] :: y.drop (j + 1) := List.drop_eq_getElem_cons (by omega)
    have g1 : rd x (j : Int) = x[j] := by rw [rd_at]; simp [show j < x.length by omega]
    have g2 : rd y (j : Int) = y[j] := by rw [rd_at]; simp [show j < y.length by omega]
    refine Evt.pos (by first | rfl | trivial) (Evt.pos (by omega) (Evt.pos (by omega) (Evt.pos (by omega) ?_)))
    rw [g1, g2, h1, h2, w64 j (by omega)]
    refine (Equal_l0 x y hxy hs d (j + 1) _ (by omega)).of_eq ?_
    rw [Bool.eq_iff_iff]
    simp only [Bool.and_eq_true, beq_iff_eq, decide_eq_true_eq, List.cons.injEq, Bool.true_and]
theorem Equal_f (x y : List Int) (hs : x.length < 9223372036854775808) : Evt (fun k => skewbaldref00_Equal.f k x y) (decide (x = y)) := by
  unfold skewbaldref00_Equal.f
  by_cases h : x.length = y.length
  · have hb : ((x.length : Int) == (y.length : Int)) = true := by simp [h]
    rw [hb]
    refine (Equal_l0 x y h hs x.length 0 true (by omega)).of_eq ?_
    simp
  · have hb : ((x.length : Int) == (y.length : Int)) = false := by simp; omega
    rw [hb]
    refine Evt.succ ?_
    simp only [skewbaldref00_Equal.l0]
    refine Evt.neg (by simp) ?_
    have : decide (x = y) = false := decide_eq_false (fun e => h (by rw [e]))
    rw [this]
    exact Evt.pure _
def growsB (b : Int) : Int → List Int → Bool
  | _, [] => true
  | last, x :: xs => (decide (last < x) && decide (x < b)) && growsB b x xs
theorem Grows_l0 (l : List Int) (hl : l.length < 9223372036854775807) (b : Int) : ∀ (d j : Nat) (last : Int), j + d = l.length →
    Evt (fun k => skewbaldref00_Grows.l0 k l b last (j : Int)) (growsB b last (l.drop j))
  | 0, j, last, hj => by
    refine Evt.succ ?_
    simp only [skewbaldref00_Grows.l0]
    rw [List.drop_eq_nil_of_le (by omega)]
    exact Evt.neg (by omega) (Evt.pure _)
  | d + 1, j, last, hj => by
    refine Evt.succ ?_
    simp only [skewbaldref00_Grows.l0]
    have h1 : l.drop j = l[j] :: l.drop (j + 1) := List.drop_eq_getElem_cons (by omega)
    have g1 : rd l (j : Int) = l[j] := by rw [rd_at]; simp [show j < l.length by omega]
    rw [h1, g1, w64 j (by omega)]
    refine Evt.pos (by omega) (Evt.pos (by omega) ?_)
    unfold growsB
    refine Evt.ite (fun h => ?_) (fun h => Evt.ite (fun h2 => ?_) (fun h2 => ?_))
    · rw [show decide (last < l[j]) = false by simp; omega]; exact Evt.pure false
    · rw [show decide (l[j] < b) = false by simp; omega, Bool.and_false]; exact Evt.pure false
    · rw [show decide (last < l[j]) = true by simp; omega, show decide (l[j] < b) = true by simp; omega]
      exact Grows_l0 l hl b d (j + 1) _ (by omega)
theorem Grows_f (l : List Int) (hl : l.length < 9223372036854775807) (b : Int) : Evt (fun k => skewbaldref00_Grows.f k l b) (growsB b (-1) l) := by
  unfold skewbaldref00_Grows.f
  exact Grows_l0 l hl b l.length 0 (-1) (by omega)
def findD (l : List Int) (x : Int) : Int := if x ∈ l then (l.idxOf x : Int) else -1
theorem findD_nonneg (l : List Int) (x : Int) : findD l x ≥ 0 ↔ x ∈ l := by
  unfold findD
  by_cases h : x ∈ l <;> simp [h]
theorem Find_l0 (l : List Int) (hl : l.length < 9223372036854775807) (x : Int) : ∀ (d j : Nat), j + d = l.length →
    Evt (fun k => skewbaldref00_Find.l0 k l x (j : Int)) (if x ∈ l.drop j then ((j + (l.drop j).idxOf x : Nat) : Int) else -1)
  | 0, j, hj => by
    refine Evt.succ ?_
    simp only [skewbaldref00_Find.l0]
    rw [List.drop_eq_nil_of_le (by omega)]
    exact Evt.neg (by omega) (by simpa using Evt.pure (-1 : Int))
  | d + 1, j, hj => by
    refine Evt.succ ?_
    simp only [skewbaldref00_Find.l0]
    have h1 : l.drop j = l[j] :: l.drop (j + 1) := List.drop_eq_getElem_cons (by omega)
    have g1 : rd l (j : Int) = l[j] := by rw [rd_at]; simp [show j < l.length by omega]
    rw [h1, g1, w64 j (by omega)]
    refine Evt.pos (by omega) (Evt.pos (by omega) (Evt.ite (fun h => ?_) (fun h => ?_)))
    · subst h
      rw [if_pos (List.mem_cons_self ..), List.idxOf_cons_self]
      exact Evt.pure _
    · refine (Find_l0 l hl x d (j + 1) (by omega)).of_eq ?_
      rw [show (l[j] :: l.drop (j + 1)).idxOf x = (l.drop (j + 1)).idxOf x + 1 from by rw [List.idxOf_cons, show (l[j] == x) = false from beq_eq_false_iff_ne.2 h]; rfl]
      have : x ∈ l[j] :: l.drop (j + 1) ↔ x ∈ l.drop (j + 1) := by
        rw [List.mem_cons]
        constructor
        · rintro (rfl | h2)
          · exact absurd rfl h
          · exact h2
        · exact .inr
      by_cases hm : x ∈ l.drop (j + 1)
      · rw [if_pos hm, if_pos (this.2 hm)]
        congr 1
        omega
      · rw [if_neg hm, if_neg (fun h3 => hm (this.1 h3))]
theorem Find_f (l : List Int) (hl : l.length < 9223372036854775807) (x : Int) : Evt (fun k => skewbaldref00_Find.f k l x) (findD l x) := by
  unfold skewbaldref00_Find.f
  exact (Find_l0 l hl x l.length 0 (by omega)).of_eq (by unfold findD; simp)
end Go.Proofs.YtekjlpldooihhaaDoor.PR
namespace Go.Proofs.YtekjlpldooihhaaDoor.PR
open Go.RowKit Go.Proofs.YtekjlpldooihhaaDoorW.PrintWords Go.Proofs.YtekjlpldooihhaaDoorEv Go.Proofs.YtekjlpldooihhaaDoorP Go.Proofs.YtekjlpldooihhaaDoor.PT Go.Proofs.YtekjlpldooihhaaDoorH
open Go.Proofs.YtekjlpldooihhaaDoor.PA (S48 S50 S60 k48 k50 k60 z48 z50 z60 rd_T48 rd_T50 rd_T60)
set_option linter.unusedVariables false
set_option linter.unusedSimpArgs false
theorem Ordered_f (a b c d : Int) : skewbaldref00_Ordered.f a b c d = some (decide (c ≤ a) && (decide (a ≤ b) && decide (b ≤ d))) := by
  unfold skewbaldref00_Ordered.f
  by_cases h : c ≤ a <;> by_cases h2 : a ≤ b <;> simp [h, h2]
def chk (b : Bool) : Int := if b then 0 else 10
theorem grows_asc (L : Int) : ∀ (last : Int) (l : List Int), growsB L last l = ascB L last l
  | _, [] => rfl
  | last, n :: l => by
    unfold growsB ascB
    rw [grows_asc L n l]
    rw [show decide (last < n) = decide (last + 1 ≤ n) from by rw [decide_eq_decide]; omega, show decide (n < L) = decide (n ≤ L - 1) from by rw [decide_eq_decide]; omega]
theorem rd48 (P : List S48) (i : Nat) : rd_T48 P (i : Int) = P.getD i z48 := rfl
theorem rd50 (Q : List S50) (i : Nat) : rd_T50 Q (i : Int) = Q.getD i z50 := rfl
theorem rd60 (l : List S60) (i : Nat) : rd_T60 l (i : Int) = l.getD i z60 := rfl
theorem getD_el {α : Type} {l : List α} {z : α} {i : Nat} (h : i < l.length) : l.getD i z = l[i] := by simp [h]
theorem Check_l1 {P : List S48} {Q : List S50} {L : Int} {kn : List S60} (hkn : kn.length < 9223372036854775808) {i : Nat} (hi : i < 9223372036854775807) (r : Bool) (hc : ∀ b, Evt (fun k => skewbaldref01_Check.l0 k b ((i + 1 : Nat) : Int) P Q) (chk (b && r))) :
    ∀ (d j : Nat) (ok : Bool), j + d = kn.length → (ok = true → 1 ≤ L ∧ L ≤ 16) → Evt (fun k => skewbaldref01_Check.l1 k ok (i : Int) (j : Int) P Q L kn) (chk ((ok && (kn.drop j).all (knotB L)) && r))
  | d, j, false, hj, _ => by
    refine Evt.succ ?_
    simp only [skewbaldref01_Check.l1]
    refine Evt.neg (by simp) ?_
    rw [w64 i hi]
    simpa using hc false
  | 0, j, true, hj, _ => by
    refine Evt.succ ?_
    simp only [skewbaldref01_Check.l1]
    refine Evt.pos (by trivial) (Evt.neg (by omega) ?_)
    rw [w64 i hi, List.drop_eq_nil_of_le (by omega)]
    simpa using hc true
  | d + 1, j, true, hj, hL => by
    obtain ⟨h1, h16⟩ := hL rfl
    refine Evt.succ ?_
    simp only [skewbaldref01_Check.l1]
    refine Evt.pos (by trivial) (Evt.pos (by omega) (Evt.pos (by omega) ?_))
    have hd : kn.drop j = kn[j] :: kn.drop (j + 1) := List.drop_eq_getElem_cons (by omega)
    rw [rd60, getD_el (by omega : j < kn.length), w64 j (by omega), hd, List.all_cons]
    generalize kn[j] = s
    rw [Ordered_f, show wrap64 (L - 1) = L - 1 by unfold wrap64; omega]
    simp only [Option.bind_some]
    have ih := fun b => Check_l1 (L := L) hkn hi r hc d (j + 1) b (by omega)
    refine Evt.ite (fun h => ?_) (fun h => ?_)
    · simp only [Bool.and_eq_true, decide_eq_true_eq] at h
      have e : knotB L s = decide (wrap64 (s.f1 - s.f0) ≤ 6) := by
        unfold knotB
        rw [show wrap64 (s.f1 - s.f0) = s.f1 - s.f0 by unfold wrap64; omega, decide_eq_true (show 0 ≤ s.f0 from h.1), decide_eq_true (show s.f0 ≤ s.f1 from h.2.1), decide_eq_true (show s.f1 < L by omega)]
        simp
      rw [e]
      simpa using ih (decide (wrap64 (s.f1 - s.f0) ≤ 6)) (fun _ => ⟨h1, h16⟩)
    · have e : knotB L s = false := by
        simp only [Bool.and_eq_true, decide_eq_true_eq, not_and] at h
        unfold knotB
        rw [Bool.eq_false_iff]
        intro h2
        simp only [Bool.and_eq_true, decide_eq_true_eq] at h2
        exact h h2.1 h2.2.1 (by omega)
      rw [e]
      simpa using ih false (fun h => by cases h)
theorem Check_l2 {P : List S48} {Q : List S50} (hQ : Q.length < 9223372036854775808) (hq : ∀ x ∈ Q, x.f1.length < 9223372036854775808) : ∀ (d j : Nat) (ok : Bool), j + d = Q.length →
    Evt (fun k => skewbaldref01_Check.l2 k ok (j : Int) P Q) (chk (ok && (Q.drop j).all shapeB))
  | d, j, false, hj => by
    refine Evt.succ ?_
    simp only [skewbaldref01_Check.l2]
    refine Evt.neg (by simp) (Evt.succ ?_)
    simp only [skewbaldref01_Check.j6]
    exact Evt.neg (by simp) (Evt.neg (by simp) (by simpa [chk] using Evt.pure (10 : Int)))
  | 0, j, true, hj => by
    refine Evt.succ ?_
    simp only [skewbaldref01_Check.l2]
    refine Evt.pos (by trivial) (Evt.succ ?_)
    simp only [skewbaldref01_Check.j6]
    rw [List.drop_eq_nil_of_le (by omega), decide_eq_false (show ¬ (j : Int) < (Q.length : Int) by omega)]
    exact Evt.neg (by simp) (Evt.pos (by trivial) (by simpa [chk] using Evt.pure (0 : Int)))
  | d + 1, j, true, hj => by
    refine Evt.succ ?_
    simp only [skewbaldref01_Check.l2]
    refine Evt.pos (by trivial) (Evt.succ ?_)
    simp only [skewbaldref01_Check.j6]
    rw [decide_eq_true (show (j : Int) < (Q.length : Int) by omega)]
    refine Evt.pos (by trivial) (Evt.pos (by omega) (Evt.pos (by omega) ?_))
    have hd : Q.drop j = Q[j] :: Q.drop (j + 1) := List.drop_eq_getElem_cons (by omega)
    have hx := hq Q[j] (List.getElem_mem _)
    rw [rd50, getD_el (by omega : j < Q.length), w64 j (by omega), hd, List.all_cons]
    generalize Q[j] = x at hx
    rw [In_f]
    simp only [Option.bind_some]
    have ih := fun b => Check_l2 (P := P) hQ hq d (j + 1) b (by omega)
    refine Evt.ite (fun h => Evt.ite (fun h3 => ?_) (fun h3 => ?_)) (fun h => ?_)
    · refine Evt.bind (Grows_f x.f1 (by omega) x.f0) ?_
      have e : shapeB x = growsB x.f0 (-1) x.f1 := by
        unfold shapeB
        rw [h, grows_asc, decide_eq_true (show x.f1.length ≤ 3 by omega)]
        simp
      rw [e]
      simpa using ih (growsB x.f0 (-1) x.f1)
    · have e : shapeB x = false := by
        unfold shapeB
        rw [decide_eq_false (show ¬ x.f1.length ≤ 3 by omega)]
        simp
      rw [e]
      simpa using ih false
    · have e : shapeB x = false := by
        unfold shapeB
        rw [show (decide (1 ≤ x.f0) && decide (x.f0 ≤ 12)) = false by simpa using h]
        simp
      rw [e]
      simpa using ih false
theorem Check_l0 {P : List S48} {Q : List S50} (hP : P.length < 9223372036854775808) (hp : ∀ y ∈ P, y.f1.length < 9223372036854775808) (hQ : Q.length < 9223372036854775808) (hq : ∀ x ∈ Q, x.f1.length < 9223372036854775808) : ∀ (d i : Nat) (ok : Bool), i + d = P.length →
    Evt (fun k => skewbaldref01_Check.l0 k ok (i : Int) P Q) (chk (ok && ((P.drop i).all woodB && Q.all shapeB)))
  | d, i, false, hj => by
    refine Evt.succ ?_
    simp only [skewbaldref01_Check.l0]
    refine Evt.neg (by simp) (Evt.succ ?_)
    simp only [skewbaldref01_Check.j2]
    refine Evt.neg (by simp) ?_
    simpa using Check_l2 (P := P) hQ hq Q.length 0 false (by omega)
  | 0, i, true, hj => by
    refine Evt.succ ?_
    simp only [skewbaldref01_Check.l0]
    refine Evt.pos (by trivial) (Evt.succ ?_)
    simp only [skewbaldref01_Check.j2]
    rw [List.drop_eq_nil_of_le (by omega), decide_eq_false (show ¬ (i : Int) < (P.length : Int) by omega)]
    refine Evt.neg (by simp) ?_
    simpa using Check_l2 (P := P) hQ hq Q.length 0 true (by omega)
  | d + 1, i, true, hj => by
    refine Evt.succ ?_
    simp only [skewbaldref01_Check.l0]
    refine Evt.pos (by trivial) (Evt.succ ?_)
    simp only [skewbaldref01_Check.j2]
    rw [decide_eq_true (show (i : Int) < (P.length : Int) by omega)]
    refine Evt.pos (by trivial) (Evt.pos (by omega) (Evt.pos (by omega) ?_))
    have hd : P.drop i = P[i] :: P.drop (i + 1) := List.drop_eq_getElem_cons (by omega)
    have hx := hp P[i] (List.getElem_mem _)
    rw [rd48, getD_el (by omega : i < P.length), hd, List.all_cons]
    generalize P[i] = y at hx
    rw [In_f]
    simp only [Option.bind_some]
    have hc := fun b => Check_l0 hP hp hQ hq d (i + 1) b (by omega)
    have key := fun ok hL => Check_l1 (L := y.f0) hx (show i < 9223372036854775807 by omega) _ hc y.f1.length 0 ok (by omega) hL
    refine Evt.ite (fun h => Evt.succ ?_) (fun h => Evt.succ ?_)
    · simp only [skewbaldref01_Check.j3]
      have h' := h
      simp only [Bool.and_eq_true, decide_eq_true_eq] at h'
      refine (key _ (fun _ => h')).of_eq ?_
      unfold woodB
      rw [h, show decide ((y.f1.length : Int) ≤ 3) = decide (y.f1.length ≤ 3) from by rw [decide_eq_decide]; omega]
      simp [Bool.and_assoc]
    · simp only [skewbaldref01_Check.j3]
      refine (key false (fun h => by cases h)).of_eq ?_
      unfold woodB
      rw [show (decide (1 ≤ y.f0) && decide (y.f0 ≤ 16)) = false by simpa using h]
      simp
theorem Check_f {P : List S48} {Q : List S50} (hP : P.length < 9223372036854775808) (hp : ∀ y ∈ P, y.f1.length < 9223372036854775808) (hQ : Q.length < 9223372036854775808) (hq : ∀ x ∈ Q, x.f1.length < 9223372036854775808) :
    Evt (fun k => skewbaldref01_Check.f k P Q) (checkP P Q) := by
  have e : checkP P Q = chk (validB P Q) := rfl
  rw [e]
  unfold skewbaldref01_Check.f validB
  have key := fun ok => Check_l0 hP hp hQ hq P.length 0 ok (by omega)
  have e1 : (decide ((1 : Int) ≤ (P.length : Int)) && decide ((P.length : Int) ≤ 3)) = (decide (1 ≤ P.length) && decide (P.length ≤ 3)) := by congr 1 <;> (rw [decide_eq_decide]; omega)
  have e2 : (decide ((1 : Int) ≤ (Q.length : Int)) && decide ((Q.length : Int) ≤ 5)) = (decide (1 ≤ Q.length) && decide (Q.length ≤ 5)) := by congr 1 <;> (rw [decide_eq_decide]; omega)
  rw [In_f, In_f, e1, e2]
  simp only [Option.bind_some]
  refine Evt.ite (fun h => Evt.succ ?_) (fun h => Evt.succ ?_)
  · simp only [skewbaldref01_Check.j0]
    refine (key _).of_eq ?_
    rw [h]
    simp
  · simp only [skewbaldref01_Check.j0]
    refine (key false).of_eq ?_
    rw [show (decide (1 ≤ P.length) && decide (P.length ≤ 3)) = false by simpa using h]
    simp
end Go.Proofs.YtekjlpldooihhaaDoor.PR
