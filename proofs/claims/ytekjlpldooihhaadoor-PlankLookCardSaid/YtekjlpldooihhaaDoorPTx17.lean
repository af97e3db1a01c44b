/- Printed by a program (prx.py). -/
import Derived.Test.YtekjlpldooihhaaDoorWTab
import Derived.Test.YtekjlpldooihhaaDoorSv
namespace Go.Proofs.YtekjlpldooihhaaDoor.PT
open Go.Proofs.YtekjlpldooihhaaDoorSh
open Go.Proofs.YtekjlpldooihhaaDoor.PA (S48 S50 S60 at_L2 at_L4 at_T48 at_T50 at_T60 errW errW_none errW_some k48 k48_mk k48_mkM k48_open k48_openM k50 k50_mk k50_mkM k50_open k50_openM k60 k60_mk k60_mkM k60_open k60_openM rd_L2 rd_L4 rd_T48 rd_T50 rd_T60 z48 z50 z60)
open Go.Proofs.YtekjlpldooihhaaDoorP Go.Proofs.YtekjlpldooihhaaDoorK
open Go.RowKit Go.Proofs.YtekjlpldooihhaaDoorW.PrintWords Go.Proofs.YtekjlpldooihhaaDoorW.PrintLast Go.Proofs.YtekjlpldooihhaaDoorW.PrintMore
attribute [local go_sem] max2_int min2_int max_two min_two max_three min_three max_four min_four   -- for this text's walks alone
set_option linter.unusedVariables false
set_option linter.unusedSimpArgs false
mutual
def skewbaldlaw01_sound.j0 : Nat → Bool → List (S48) → List (S50) → Option (Bool)
 | 0, _, _, _ => none
 | k + 1, x3, x339000, x339001 => skewbaldlaw01_sound.l0 k x3 0 x339000 x339001
def skewbaldlaw01_sound.l0 : Nat → Bool → Int → List (S48) → List (S50) → Option (Bool)
 | 0, _, _, _, _ => none
 | k + 1, x3, x4, x339000, x339001 => if x3 = true then (skewbaldlaw01_sound.j2 k x3 x4 (decide (x4 < (x339000.length : Int))) x339000 x339001) else (skewbaldlaw01_sound.j2 k x3 x4 false x339000 x339001)
def skewbaldlaw01_sound.j2 : Nat → Bool → Int → Bool → List (S48) → List (S50) → Option (Bool)
 | 0, _, _, _, _, _ => none
 | k + 1, x3, x4, x31, x339000, x339001 => if x31 = true then (if 0 ≤ x4 then (if x4 < (x339000.length : Int) then ((skewbaldref00_In.f ((rd_T48 x339000 x4).f0) 1 16).bind fun t344 => (if t344 = true then (skewbaldlaw01_sound.j3 k (decide ((((rd_T48 x339000 x4).f1).length : Int) ≤ 3)) x4 x339000 x339001 ((rd_T48 x339000 x4).f0) ((rd_T48 x339000 x4).f1)) else (skewbaldlaw01_sound.j3 k false x4 x339000 x339001 ((rd_T48 x339000 x4).f0) ((rd_T48 x339000 x4).f1)))) else (none)) else (none)) else (skewbaldlaw01_sound.l2 k x3 0 x339000 x339001)
def skewbaldlaw01_sound.j3 : Nat → Bool → Int → List (S48) → List (S50) → Int → List (S60) → Option (Bool)
 | 0, _, _, _, _, _, _ => none
 | k + 1, x3, x4, x339000, x339001, x344000, x344001 => skewbaldlaw01_sound.l1 k x3 x4 0 x339000 x339001 x344000 x344001
def skewbaldlaw01_sound.l1 : Nat → Bool → Int → Int → List (S48) → List (S50) → Int → List (S60) → Option (Bool)
 | 0, _, _, _, _, _, _, _ => none
 | k + 1, x3, x4, x6, x339000, x339001, x344000, x344001 => if x3 = true then (if x6 < (x344001.length : Int) then (if 0 ≤ x6 then ((skewbaldref00_Ordered.f ((rd_T60 x344001 x6).f0) ((rd_T60 x344001 x6).f1) 0 (wrap64 (x344000 - 1))).bind fun t346 => (skewbaldlaw01_sound.l1 k t346 x4 (wrap64 (x6 + 1)) x339000 x339001 x344000 x344001)) else (none)) else (skewbaldlaw01_sound.l0 k x3 (wrap64 (x4 + 1)) x339000 x339001)) else (skewbaldlaw01_sound.l0 k x3 (wrap64 (x4 + 1)) x339000 x339001)
def skewbaldlaw01_sound.l2 : Nat → Bool → Int → List (S48) → List (S50) → Option (Bool)
 | 0, _, _, _, _ => none
 | k + 1, x3, x7, x339000, x339001 => if x3 = true then (skewbaldlaw01_sound.j6 k x3 x7 (decide (x7 < (x339001.length : Int))) x339000 x339001) else (skewbaldlaw01_sound.j6 k x3 x7 false x339000 x339001)
def skewbaldlaw01_sound.j6 : Nat → Bool → Int → Bool → List (S48) → List (S50) → Option (Bool)
 | 0, _, _, _, _, _ => none
 | k + 1, x3, x7, x74, x339000, x339001 => if x74 = true then (if 0 ≤ x7 then (if x7 < (x339001.length : Int) then ((skewbaldref00_In.f ((rd_T50 x339001 x7).f0) 1 12).bind fun t349 => (if t349 = true then (if (((rd_T50 x339001 x7).f1).length : Int) ≤ 3 then ((skewbaldref00_Grows.f k ((rd_T50 x339001 x7).f1) ((rd_T50 x339001 x7).f0)).bind fun t350 => (skewbaldlaw01_sound.l2 k t350 (wrap64 (x7 + 1)) x339000 x339001)) else (skewbaldlaw01_sound.l2 k false (wrap64 (x7 + 1)) x339000 x339001)) else (skewbaldlaw01_sound.l2 k false (wrap64 (x7 + 1)) x339000 x339001))) else (none)) else (none)) else (some x3)
end
def skewbaldlaw01_sound.f (k : Nat) (l0_0 : List (S48)) (l0_1 : List (S50)) : Option (Bool) := (plank_Check.f l0_0 l0_1).bind fun t339 => (if t339 = 0 then ((skewbaldref00_In.f (l0_0.length : Int) 1 3).bind fun t340 => (if t340 = true then ((skewbaldref00_In.f (l0_1.length : Int) 1 5).bind fun t341 => (skewbaldlaw01_sound.j0 k t341 l0_0 l0_1)) else (skewbaldlaw01_sound.j0 k false l0_0 l0_1))) else (skewbaldlaw01_sound.j0 k false l0_0 l0_1))
def skewbaldlaw01_sound.T10 : Bool × List (List Nat × List Nat) := (true, [([], []), ([0], [0]), ([], []), ([1, 2], [1, 2]), ([3], [3]), ([], []), ([5], [5]), ([6], [6]), ([4, 7], [4, 7]), ([8, 8, 0, 1, 2, 3, 4, 5, 6, 7, 8], [8])])
def skewbaldlaw01_sound.B10 : List Nat := [0, 1, 0, 7, 15, 0, 32, 96, 255, 511]
theorem skewbaldlaw01_sound.tab10 : rtab .any (opsOf Tryd.f34 10) = skewbaldlaw01_sound.T10 := by kernel_rfl
theorem skewbaldlaw01_sound.bits10 : waitsOk skewbaldlaw01_sound.T10.2 skewbaldlaw01_sound.B10 = true := by kernel_rfl
set_option maxHeartbeats 8000000 in
set_option maxRecDepth 100000 in
theorem skewbaldlaw01_sound.calls (k : Nat) (A0_0 : Option Addr) (c0_0 : Nat) (l0_0 : List (S48)) (A0_1 : Option Addr) (c0_1 : Nat) (l0_1 : List (S50)) (r : Bool) (w : World) (hr0_0 : Kd.C k48 w A0_0 l0_0.length l0_0) (hc0_0 : l0_0.length ≤ c0_0) (hr0_1 : Kd.C k50 w A0_1 l0_1.length l0_1) (hc0_1 : l0_1.length ≤ c0_1) (h : skewbaldlaw01_sound.f k l0_0 l0_1 = some r) :
  Calls Tryd.prog 34 #[.agg #[.slice A0_0 l0_0.length c0_0, .slice A0_1 l0_1.length c0_1]] w fun e w' => e = .returned (.bool r) ∧ Below w.heap.size w w' := by
 have hu25 := Tryd.underlying25
 have hu48 := Tryd.underlying48
 have hu60 := Tryd.underlying60
 have hu50 := Tryd.underlying50
 have HR0_0 := Aside0.mk hr0_0
 have HC0_0 := Aside0.mk hc0_0
 clear hr0_0 hc0_0
 have HR0_1 := Aside0.mk hr0_1
 have HC0_1 := Aside0.mk hc0_1
 clear hr0_1 hc0_1
 have HB := Aside0.mk (Below.refl w.heap.size w)
 have H : ((plank_Check.f l0_0 l0_1).bind fun t339 => (if t339 = 0 then ((skewbaldref00_In.f (l0_0.length : Int) 1 3).bind fun t340 => (if t340 = true then ((skewbaldref00_In.f (l0_1.length : Int) 1 5).bind fun t341 => (skewbaldlaw01_sound.j0 k t341 l0_0 l0_1)) else (skewbaldlaw01_sound.j0 k false l0_0 l0_1))) else (skewbaldlaw01_sound.j0 k false l0_0 l0_1))) = some r := h
 clear h
 have HC2 := Aside0.mk H
 clear H
 go_enter Tryd.func34, Tryd.ntmps34
 go_upto_region 1 with (first | ((with_reducible refine gate_dst (N := 1) rfl ?_); (try (refine gate_guard (by rfl) ?_; dsimp only)); refine box_event ?hg (N := 1) ?hd (cs := #[.slice A0_0 l0_0.length c0_0, .slice A0_1 l0_1.length c0_1]) (t := 25) ?hr ?_; (case hd => rfl); (case hg => rfl); (case hr => first | (go_simp; done) | (go_simp; rfl)); intro gb338 hg w3 hbox hb; have n0_ := Aside0.mk (below_step bl hb); have n1_ := Aside0.mk (hbox); have n2_ := Aside0.mk ((by rw [hg]; exact (below_size bl) : w.heap.size ≤ gb338)); have n3_ := Aside0.mk ((by rw [hg]; exact (below_size bl) : w.heap.size ≤ gb338)); clear HB; have HB := n0_; have BK338 := n1_; have GW338 := n2_; have GE338 := n3_; clear n0_ n1_ n2_ n3_; clear hb hbox hg))
 (try simp only [Act.put, List.setIfInBounds_toArray, List.set_cons_zero, List.set_cons_succ])
 go_cut [3] (fun v3 wc => ∃ (kq : Nat) (x3_1 : Bool), v3 = .bool x3_1 ∧ Aside0 (skewbaldlaw01_sound.j0 kq x3_1 l0_0 l0_1 = some r) ∧ Aside0 (kq ≤ k) ∧ Aside0 (wc.heap[gb338]? = some (.cells #[(.slice A0_0 l0_0.length c0_0), (.slice A0_1 l0_1.length c0_1)] 25 (0, 0))) ∧ Aside0 (Below w.heap.size w wc))
 case first =>
  have H := HC2.out
  clear HC2
  replace H := Option.bind_eq_some_iff.mp H
  obtain ⟨t339, A40, H⟩ := H
  replace H : (if t339 = 0 then ((skewbaldref00_In.f (l0_0.length : Int) 1 3).bind fun t340 => (if t340 = true then ((skewbaldref00_In.f (l0_1.length : Int) 1 5).bind fun t341 => (skewbaldlaw01_sound.j0 k t341 l0_0 l0_1)) else (skewbaldlaw01_sound.j0 k false l0_0 l0_1))) else (skewbaldlaw01_sound.j0 k false l0_0 l0_1)) = some r := H
  have A4 := Aside0.mk A40
  clear A40
  by_cases c5 : t339 = 0
  ·rw [if_pos c5] at H
   have c5b0 : (t339 == 0) = true := beq_iff_eq.mpr c5
   have c5b1 : (t339 != 0) = false := bne_eq_false_iff_eq.mpr c5
   clear c5
   (first | rw [c5b0] | (simp only [i64_w, i32_w]; rw [c5b0]) | skip)
   replace H := Option.bind_eq_some_iff.mp H
   obtain ⟨t340, A60, H⟩ := H
   replace H : (if t340 = true then ((skewbaldref00_In.f (l0_1.length : Int) 1 5).bind fun t341 => (skewbaldlaw01_sound.j0 k t341 l0_0 l0_1)) else (skewbaldlaw01_sound.j0 k false l0_0 l0_1)) = some r := H
   have A6 := Aside0.mk A60
   clear A60
   by_cases c7 : t340 = true
   ·subst c7
    have H1 : ((skewbaldref00_In.f (l0_1.length : Int) 1 5).bind fun t341 => (skewbaldlaw01_sound.j0 k t341 l0_0 l0_1)) = some r := by rw [if_pos rfl] at H; exact H
    clear H
    have H := H1
    clear H1
    replace H := Option.bind_eq_some_iff.mp H
    obtain ⟨t341, A80, H⟩ := H
    replace H : (skewbaldlaw01_sound.j0 k t341 l0_0 l0_1) = some r := H
    have A8 := Aside0.mk A80
    clear A80
    have H' := Aside0.mk H
    clear H
    have hcz9_0 : w3.cell? ⟨gb338, 0, none⟩ = some (.slice A0_0 l0_0.length c0_0) := (blk_cell BK338.out 0).trans rfl
    have hcz9_1 : w3.cell? ⟨gb338, 1, none⟩ = some (.slice A0_1 l0_1.length c0_1) := (blk_cell BK338.out 1).trans rfl
    have hfz9_0 := blk_frozen BK338.out 0
    have hfz9_1 := blk_frozen BK338.out 1
    go_wp2_with (first | ((with_reducible refine gate_callee (f := 18) rfl ?_); refine goesL_ (some 10) rfl rfl Tryd.func18 (by kernel_rfl) rfl #[.agg #[.slice A0_0 l0_0.length c0_0, .slice A0_1 l0_1.length c0_1]] rfl (by (try simp only [List.map_toArray, List.map_cons, List.map_nil]); first | done | rfl | (simp only [List.length_drop, List.length_take]; rfl)) ?_; (with_reducible refine (plank_Check.calls _ _ l0_0 _ _ l0_1 t339 _ ?side1 ?side2 ?side3 ?side4 A4.out).mono ?_); (case side1 => exact cl); (case side2 => exact HC0_0.out); (case side3 => exact cl); (case side4 => exact HC0_1.out); rintro e w10 ⟨rfl, hb⟩; refine ⟨_, rfl, ?_⟩; have n0_ := Aside0.mk (blk_below (g := gb338) (o := .cells #[.slice A0_0 l0_0.length c0_0, .slice A0_1 l0_1.length c0_1] 25 (0, 0)) bk hb); have n1_ := Aside0.mk (below_step bl hb); clear BK338; clear HB; have BK338 := n0_; have HB := n1_; clear n0_ n1_; (try clear hb); (try clear hb2); (try clear hk); (try clear hi); have hcz11_0 : w10.cell? ⟨gb338, 0, none⟩ = some (.slice A0_0 l0_0.length c0_0) := (blk_cell BK338.out 0).trans rfl; have hcz11_1 : w10.cell? ⟨gb338, 1, none⟩ = some (.slice A0_1 l0_1.length c0_1) := (blk_cell BK338.out 1).trans rfl; have hfz11_0 := blk_frozen BK338.out 0; have hfz11_1 := blk_frozen BK338.out 1) | (go_at_call 38; (with_reducible refine (skewbaldref00_In.calls (l0_0.length : Int) 1 3 true _ A6.out).mono ?_); rintro e w' ⟨rfl, ⟨nd, rfl⟩⟩) | (go_at_call 38; (with_reducible refine (skewbaldref00_In.calls (l0_1.length : Int) 1 5 t341 _ A8.out).mono ?_); rintro e w' ⟨rfl, ⟨nd, rfl⟩⟩))
    go_meet
    case rel => exact ⟨_, (t341), (by first | rfl | (simp; done) | (simp [*]; done)), H', ⟨by first | omega | exact Nat.le_refl _⟩, ⟨bk⟩, ⟨bl⟩⟩
   ·replace c7 := Bool.eq_false_iff.mpr c7
    subst c7
    have H1 : (skewbaldlaw01_sound.j0 k false l0_0 l0_1) = some r := by rw [if_neg (show ¬ (false = true) by decide)] at H; exact H
    clear H
    have H := H1
    clear H1
    have H' := Aside0.mk H
    clear H
    have hcz12_0 : w3.cell? ⟨gb338, 0, none⟩ = some (.slice A0_0 l0_0.length c0_0) := (blk_cell BK338.out 0).trans rfl
    have hcz12_1 : w3.cell? ⟨gb338, 1, none⟩ = some (.slice A0_1 l0_1.length c0_1) := (blk_cell BK338.out 1).trans rfl
    have hfz12_0 := blk_frozen BK338.out 0
    have hfz12_1 := blk_frozen BK338.out 1
    go_wp2_with (first | ((with_reducible refine gate_callee (f := 18) rfl ?_); refine goesL_ (some 10) rfl rfl Tryd.func18 (by kernel_rfl) rfl #[.agg #[.slice A0_0 l0_0.length c0_0, .slice A0_1 l0_1.length c0_1]] rfl (by (try simp only [List.map_toArray, List.map_cons, List.map_nil]); first | done | rfl | (simp only [List.length_drop, List.length_take]; rfl)) ?_; (with_reducible refine (plank_Check.calls _ _ l0_0 _ _ l0_1 t339 _ ?side1 ?side2 ?side3 ?side4 A4.out).mono ?_); (case side1 => exact cl); (case side2 => exact HC0_0.out); (case side3 => exact cl); (case side4 => exact HC0_1.out); rintro e w13 ⟨rfl, hb⟩; refine ⟨_, rfl, ?_⟩; have n0_ := Aside0.mk (blk_below (g := gb338) (o := .cells #[.slice A0_0 l0_0.length c0_0, .slice A0_1 l0_1.length c0_1] 25 (0, 0)) bk hb); have n1_ := Aside0.mk (below_step bl hb); clear BK338; clear HB; have BK338 := n0_; have HB := n1_; clear n0_ n1_; (try clear hb); (try clear hb2); (try clear hk); (try clear hi); have hcz14_0 : w13.cell? ⟨gb338, 0, none⟩ = some (.slice A0_0 l0_0.length c0_0) := (blk_cell BK338.out 0).trans rfl; have hcz14_1 : w13.cell? ⟨gb338, 1, none⟩ = some (.slice A0_1 l0_1.length c0_1) := (blk_cell BK338.out 1).trans rfl; have hfz14_0 := blk_frozen BK338.out 0; have hfz14_1 := blk_frozen BK338.out 1) | (go_at_call 38; (with_reducible refine (skewbaldref00_In.calls (l0_0.length : Int) 1 3 false _ A6.out).mono ?_); rintro e w' ⟨rfl, ⟨nd, rfl⟩⟩))
    go_meet
    case rel => exact ⟨_, (false), (by first | rfl | (simp; done) | (simp [*]; done)), H', ⟨by first | omega | exact Nat.le_refl _⟩, ⟨bk⟩, ⟨bl⟩⟩
  ·rw [if_neg c5] at H
   have c5b0 : (t339 == 0) = false := beq_eq_false_iff_ne.mpr c5
   have c5b1 : (t339 != 0) = true := bne_iff_ne.mpr c5
   (first | rw [c5b0] | (simp only [i64_w, i32_w]; rw [c5b0]) | skip)
   have H' := Aside0.mk H
   clear H
   have hcz15_0 : w3.cell? ⟨gb338, 0, none⟩ = some (.slice A0_0 l0_0.length c0_0) := (blk_cell BK338.out 0).trans rfl
   have hcz15_1 : w3.cell? ⟨gb338, 1, none⟩ = some (.slice A0_1 l0_1.length c0_1) := (blk_cell BK338.out 1).trans rfl
   have hfz15_0 := blk_frozen BK338.out 0
   have hfz15_1 := blk_frozen BK338.out 1
   go_wp2_with (first | ((with_reducible refine gate_callee (f := 18) rfl ?_); refine goesL_ (some 10) rfl rfl Tryd.func18 (by kernel_rfl) rfl #[.agg #[.slice A0_0 l0_0.length c0_0, .slice A0_1 l0_1.length c0_1]] rfl (by (try simp only [List.map_toArray, List.map_cons, List.map_nil]); first | done | rfl | (simp only [List.length_drop, List.length_take]; rfl)) ?_; (with_reducible refine (plank_Check.calls _ _ l0_0 _ _ l0_1 t339 _ ?side1 ?side2 ?side3 ?side4 A4.out).mono ?_); (case side1 => exact cl); (case side2 => exact HC0_0.out); (case side3 => exact cl); (case side4 => exact HC0_1.out); rintro e w16 ⟨rfl, hb⟩; refine ⟨_, rfl, ?_⟩; have n0_ := Aside0.mk (blk_below (g := gb338) (o := .cells #[.slice A0_0 l0_0.length c0_0, .slice A0_1 l0_1.length c0_1] 25 (0, 0)) bk hb); have n1_ := Aside0.mk (below_step bl hb); clear BK338; clear HB; have BK338 := n0_; have HB := n1_; clear n0_ n1_; (try clear hb); (try clear hb2); (try clear hk); (try clear hi)))
   go_meet
   case rel => exact ⟨_, (false), (by first | rfl | (simp; done) | (simp [*]; done)), H', ⟨by first | omega | exact Nat.le_refl _⟩, ⟨bk⟩, ⟨bl⟩⟩
 case rest =>
  clear HC2
  try clear c1
  try clear p2
  try clear c3
  try clear c5
  try clear c5b0
  try clear c5b1
  try clear c7
  try clear hcz11_0
  try clear hcz11_1
  try clear hcz12_0
  try clear hcz12_1
  try clear hcz14_0
  try clear hcz14_1
  try clear hcz15_0
  try clear hcz15_1
  try clear hcz9_0
  try clear hcz9_1
  try clear hfz11_0
  try clear hfz11_1
  try clear hfz12_0
  try clear hfz12_1
  try clear hfz14_0
  try clear hfz14_1
  try clear hfz15_0
  try clear hfz15_1
  try clear hfz9_0
  try clear hfz9_1
  obtain ⟨kq, x3_1, rfl, HA, HJ1, BK338, HB⟩ := hcut
  cases kq with
  | zero => exact absurd HA.out (by simp [skewbaldlaw01_sound.j0])
  | succ kj1 =>
   have H := HA.out
   clear HA
   simp only [skewbaldlaw01_sound.j0] at H
   have H' := Aside0.mk H
   clear H
   go_wp2
   go_loopg [3, 4] kj1 (fun kq v3 v4 w' => ∃ (x3_2 : Bool) (x4_2 : Int), v3 = .bool x3_2 ∧ v4 = .int .i64 x4_2 ∧ Aside0 (skewbaldlaw01_sound.l0 kq x3_2 x4_2 l0_0 l0_1 = some r) ∧ Aside0 (kq ≤ kj1) ∧ Aside0 (w'.heap[gb338]? = some (.cells #[(.slice A0_0 l0_0.length c0_0), (.slice A0_1 l0_1.length c0_1)] 25 (0, 0))) ∧ Aside0 (Below w.heap.size w w'))
   case atStart => exact ⟨(x3_1), (0), (by first | rfl | (simp; done) | (simp [*]; done)), (by first | rfl | (simp; done) | (simp [*]; done)), H', ⟨Nat.le_refl _⟩, ⟨bk⟩, ⟨bl⟩⟩
   case round =>
    clear H'
    try clear c1
    try clear p2
    try clear c3
    try clear c5
    try clear c5b0
    try clear c5b1
    try clear c7
    try clear hcz11_0
    try clear hcz11_1
    try clear hcz12_0
    try clear hcz12_1
    try clear hcz14_0
    try clear hcz14_1
    try clear hcz15_0
    try clear hcz15_1
    try clear hcz9_0
    try clear hcz9_1
    try clear hfz11_0
    try clear hfz11_1
    try clear hfz12_0
    try clear hfz12_1
    try clear hfz14_0
    try clear hfz14_1
    try clear hfz15_0
    try clear hfz15_1
    try clear hfz9_0
    try clear hfz9_1
    try clear p2
    obtain ⟨x3_2, x4_2, rfl, rfl, HA, HK2, BK338, HB⟩ := hrel
    cases gk with
    | zero => exact absurd HA.out (by simp [skewbaldlaw01_sound.l0])
    | succ k2 =>
     have H := HA.out
     clear HA
     simp only [skewbaldlaw01_sound.l0] at H
     have HC17 := Aside0.mk H
     clear H
     go_upto_region 3 with (fail)
     go_cut [31] (fun v31 wc => ∃ (kq : Nat) (x31_16 : Bool), v31 = .bool x31_16 ∧ Aside0 (skewbaldlaw01_sound.j2 kq x3_2 x4_2 x31_16 l0_0 l0_1 = some r) ∧ Aside0 (kq ≤ k2) ∧ Aside0 (wc.heap[gb338]? = some (.cells #[(.slice A0_0 l0_0.length c0_0), (.slice A0_1 l0_1.length c0_1)] 25 (0, 0))) ∧ Aside0 (Below w.heap.size w wc))
     case first =>
      have H := HC17.out
      clear HC17
      by_cases c18 : x3_2 = true
      ·subst c18
       have H1 : (skewbaldlaw01_sound.j2 k2 true x4_2 (decide (x4_2 < (l0_0.length : Int))) l0_0 l0_1) = some r := by rw [if_pos rfl] at H; exact H
       clear H
       have H := H1
       clear H1
       have H' := Aside0.mk H
       clear H
       have hcz19_0 : wr.cell? ⟨gb338, 0, none⟩ = some (.slice A0_0 l0_0.length c0_0) := (blk_cell BK338.out 0).trans rfl
       have hcz19_1 : wr.cell? ⟨gb338, 1, none⟩ = some (.slice A0_1 l0_1.length c0_1) := (blk_cell BK338.out 1).trans rfl
       have hfz19_0 := blk_frozen BK338.out 0
       have hfz19_1 := blk_frozen BK338.out 1
       go_wp2
       go_meet
       case rel => exact ⟨_, (decide (x4_2 < (l0_0.length : Int))), (by first | rfl | (simp; done) | (simp [*]; done)), H', ⟨by have := HJ1.out; have := HK2.out; first | omega | exact Nat.le_refl _⟩, ⟨bk⟩, ⟨bl⟩⟩
      ·replace c18 := Bool.eq_false_iff.mpr c18
       subst c18
       have H1 : (skewbaldlaw01_sound.j2 k2 false x4_2 false l0_0 l0_1) = some r := by rw [if_neg (show ¬ (false = true) by decide)] at H; exact H
       clear H
       have H := H1
       clear H1
       have H' := Aside0.mk H
       clear H
       go_wp2
       go_meet
       case rel => exact ⟨_, (false), (by first | rfl | (simp; done) | (simp [*]; done)), H', ⟨by have := HJ1.out; have := HK2.out; first | omega | exact Nat.le_refl _⟩, ⟨bk⟩, ⟨bl⟩⟩
     case rest =>
      clear HC17
      try clear c1
      try clear p2
      try clear c3
      try clear c5
      try clear c5b0
      try clear c5b1
      try clear c7
      try clear c18
      try clear hcz11_0
      try clear hcz11_1
      try clear hcz12_0
      try clear hcz12_1
      try clear hcz14_0
      try clear hcz14_1
      try clear hcz15_0
      try clear hcz15_1
      try clear hcz19_0
      try clear hcz19_1
      try clear hcz9_0
      try clear hcz9_1
      try clear hfz11_0
      try clear hfz11_1
      try clear hfz12_0
      try clear hfz12_1
      try clear hfz14_0
      try clear hfz14_1
      try clear hfz15_0
      try clear hfz15_1
      try clear hfz19_0
      try clear hfz19_1
      try clear hfz9_0
      try clear hfz9_1
      try clear p2
      obtain ⟨kq, x31_16, rfl, HA, HJ16, BK338, HB⟩ := hcut
      cases kq with
      | zero => exact absurd HA.out (by simp [skewbaldlaw01_sound.j2])
      | succ kj16 =>
       have H := HA.out
       clear HA
       simp only [skewbaldlaw01_sound.j2] at H
       by_cases c20 : x31_16 = true
       ·subst c20
        have H1 : (if 0 ≤ x4_2 then (if x4_2 < (l0_0.length : Int) then ((skewbaldref00_In.f ((rd_T48 l0_0 x4_2).f0) 1 16).bind fun t344 => (if t344 = true then (skewbaldlaw01_sound.j3 kj16 (decide ((((rd_T48 l0_0 x4_2).f1).length : Int) ≤ 3)) x4_2 l0_0 l0_1 ((rd_T48 l0_0 x4_2).f0) ((rd_T48 l0_0 x4_2).f1)) else (skewbaldlaw01_sound.j3 kj16 false x4_2 l0_0 l0_1 ((rd_T48 l0_0 x4_2).f0) ((rd_T48 l0_0 x4_2).f1)))) else (none)) else (none)) = some r := by rw [if_pos rfl] at H; exact H
        clear H
        have H := H1
        clear H1
        by_cases c21 : 0 ≤ x4_2
        ·rw [if_pos c21] at H
         have c21b0 : decide (0 ≤ x4_2) = true := decide_eq_true c21
         clear c21
         by_cases c22 : x4_2 < (l0_0.length : Int)
         ·rw [if_pos c22] at H
          have c22b0 : decide (x4_2 < (l0_0.length : Int)) = true := decide_eq_true c22
          clear c22
          have HC23 := Aside0.mk H
          clear H
          have hcz24_0 : wc.cell? ⟨gb338, 0, none⟩ = some (.slice A0_0 l0_0.length c0_0) := (blk_cell BK338.out 0).trans rfl
          have hcz24_1 : wc.cell? ⟨gb338, 1, none⟩ = some (.slice A0_1 l0_1.length c0_1) := (blk_cell BK338.out 1).trans rfl
          have hfz24_0 := blk_frozen BK338.out 0
          have hfz24_1 := blk_frozen BK338.out 1
          have p342 : 0 ≤ (x4_2 : Int) := of_decide_eq_true (by first | (with_reducible assumption) | assumption)
          have q342 : x4_2 < (l0_0.length : Int) := of_decide_eq_true (by first | (with_reducible assumption) | assumption)
          obtain ⟨ad342, A342_1, c342_1, e342, hx342_0, hx342_1, hl342_1, hi342_1⟩ := at_T48 HR0_0.out x4_2 p342 q342
          cases e342
          replace hx342_0 := (HB.out.cell (World.block_lt_of_cell? w _ hx342_0)).trans hx342_0
          replace hx342_1 := (HB.out.cell (World.block_lt_of_cell? w _ hx342_1)).trans hx342_1
          have HR342_1 := Aside0.mk hi342_1
          have HC342_1 := Aside0.mk hl342_1
          clear hi342_1 hl342_1
          replace p342 := eq_true p342
          replace q342 := eq_true q342
          go_upto_region 6 with (first | ((with_reducible refine gate_dst (N := 5) rfl ?_); (try (refine gate_guard (by rfl) ?_; dsimp only)); refine box_event ?hg (N := 5) ?hd (cs := #[.int .i64 0, .slice none 0 0]) (t := 48) ?hr ?_; (case hd => rfl); (case hg => rfl); (case hr => first | (go_simp; done) | (go_simp; rfl)); intro gb343 hg w25 hbox hb; have n0_ := Aside0.mk (blk_below (g := gb338) (o := .cells #[.slice (some ad342) l0_0.length c0_0, .slice A0_1 l0_1.length c0_1] 25 (0, 0)) bk hb); have n1_ := Aside0.mk (below_step bl hb); have n2_ := Aside0.mk (hbox); have n3_ := Aside0.mk ((by rw [hg]; exact (below_size bl) : w.heap.size ≤ gb343)); have n4_ := Aside0.mk ((by rw [hg]; exact (below_size bl) : w.heap.size ≤ gb343)); have n5_ := Aside0.mk ((by rw [hg]; exact Nat.ne_of_lt (blk_lt (g := gb338) (o := .cells #[.slice (some ad342) l0_0.length c0_0, .slice A0_1 l0_1.length c0_1] 25 (0, 0)) bk) : gb338 ≠ gb343)); have n6_ := Aside0.mk ((by rw [hg]; exact Nat.ne_of_gt (blk_lt (g := gb338) (o := .cells #[.slice (some ad342) l0_0.length c0_0, .slice A0_1 l0_1.length c0_1] 25 (0, 0)) bk) : gb343 ≠ gb338)); clear BK338; clear HB; have BK338 := n0_; have HB := n1_; have BK343 := n2_; have GW343 := n3_; have GE343 := n4_; have NB338_343 := n5_; have NB343_338 := n6_; clear n0_ n1_ n2_ n3_ n4_ n5_ n6_; clear hb hbox hg; have hnb26 := NB343_338.out; have hnc26 := NB338_343.out; have hcz27_0 : w25.cell? ⟨gb343, 0, none⟩ = some (.int .i64 0) := (blk_cell BK343.out 0).trans rfl; have hcz27_1 : w25.cell? ⟨gb343, 1, none⟩ = some (.slice none 0 0) := (blk_cell BK343.out 1).trans rfl; have hfz27_0 := blk_frozen BK343.out 0; have hfz27_1 := blk_frozen BK343.out 1))
          (try simp only [Act.put, List.setIfInBounds_toArray, List.set_cons_zero, List.set_cons_succ])
          go_cut [3] (fun v3 wc => ∃ (kq : Nat) (x3_22 : Bool), v3 = .bool x3_22 ∧ Aside0 (skewbaldlaw01_sound.j3 kq x3_22 x4_2 l0_0 l0_1 ((rd_T48 l0_0 x4_2).f0) ((rd_T48 l0_0 x4_2).f1) = some r) ∧ Aside0 (kq ≤ kj16) ∧ Aside0 (wc.heap[gb338]? = some (.cells #[(.slice (some ad342) l0_0.length c0_0), (.slice A0_1 l0_1.length c0_1)] 25 (0, 0))) ∧ Aside0 (wc.heap[gb343]? = some (.cells #[.int .i64 ((rd_T48 l0_0 x4_2).f0), (.slice A342_1 ((rd_T48 l0_0 x4_2).f1).length c342_1)] 48 (0, 0))) ∧ Aside0 (Below w.heap.size w wc))
          case first =>
           have H := HC23.out
           clear HC23
           replace H := Option.bind_eq_some_iff.mp H
           obtain ⟨t344, A280, H⟩ := H
           replace H : (if t344 = true then (skewbaldlaw01_sound.j3 kj16 (decide ((((rd_T48 l0_0 x4_2).f1).length : Int) ≤ 3)) x4_2 l0_0 l0_1 ((rd_T48 l0_0 x4_2).f0) ((rd_T48 l0_0 x4_2).f1)) else (skewbaldlaw01_sound.j3 kj16 false x4_2 l0_0 l0_1 ((rd_T48 l0_0 x4_2).f0) ((rd_T48 l0_0 x4_2).f1))) = some r := H
           have A28 := Aside0.mk A280
           clear A280
           by_cases c29 : t344 = true
           ·subst c29
            have H1 : (skewbaldlaw01_sound.j3 kj16 (decide ((((rd_T48 l0_0 x4_2).f1).length : Int) ≤ 3)) x4_2 l0_0 l0_1 ((rd_T48 l0_0 x4_2).f0) ((rd_T48 l0_0 x4_2).f1)) = some r := by rw [if_pos rfl] at H; exact H
            clear H
            have H := H1
            clear H1
            have H' := Aside0.mk H
            clear H
            have hnb30 := NB343_338.out
            have hnc30 := NB338_343.out
            have hcz31_0 : w25.cell? ⟨gb343, 0, none⟩ = some (.int .i64 0) := (blk_cell BK343.out 0).trans rfl
            have hcz31_1 : w25.cell? ⟨gb343, 1, none⟩ = some (.slice none 0 0) := (blk_cell BK343.out 1).trans rfl
            have hfz31_0 := blk_frozen BK343.out 0
            have hfz31_1 := blk_frozen BK343.out 1
            go_wp2_with (first | ((with_reducible refine gate_callee (f := 38) rfl ?_); refine goesL_ (some 41) rfl rfl Tryd.func38 (by kernel_rfl) rfl #[.int .i64 ((rd_T48 l0_0 x4_2).f0), .int .i64 1, .int .i64 16] rfl (by (try simp only [List.map_toArray, List.map_cons, List.map_nil]); first | done | rfl | (simp only [List.length_drop, List.length_take]; rfl)) ?_; (with_reducible refine (skewbaldref00_In.calls ((rd_T48 l0_0 x4_2).f0) 1 16 true _ A28.out).mono ?_); rintro e w' ⟨rfl, ⟨nd, rfl⟩⟩; refine ⟨_, rfl, ?_⟩))
            go_meet
            case rel => exact ⟨_, (decide ((((rd_T48 l0_0 x4_2).f1).length : Int) ≤ 3)), (by first | rfl | (simp; done) | (simp [*]; done)), H', ⟨by have := HJ1.out; have := HK2.out; have := HJ16.out; first | omega | exact Nat.le_refl _⟩, ⟨by (with_reducible repeat (first | refine blk_drewN ?_ _ | refine blk_drew ?_ | refine blk_alloc ?_ _)); refine blk_far ?_ NB338_343.out _; (with_reducible repeat (first | refine blk_drewN ?_ _ | refine blk_drew ?_ | refine blk_alloc ?_ _)); refine blk_far ?_ NB338_343.out _; (with_reducible repeat (first | refine blk_drewN ?_ _ | refine blk_drew ?_ | refine blk_alloc ?_ _)); exact BK338.out⟩, ⟨by (with_reducible repeat (first | refine blk_drewN ?_ _ | refine blk_drew ?_ | refine blk_alloc ?_ _)); refine blk_put (cs := #[.int .i64 ((rd_T48 l0_0 x4_2).f0), .slice none 0 0]) ?_ 1 _ rfl; (with_reducible repeat (first | refine blk_drewN ?_ _ | refine blk_drew ?_ | refine blk_alloc ?_ _)); refine blk_put (cs := #[.int .i64 0, .slice none 0 0]) ?_ 0 _ rfl; (with_reducible repeat (first | refine blk_drewN ?_ _ | refine blk_drew ?_ | refine blk_alloc ?_ _)); exact BK343.out⟩, ⟨bl⟩⟩
           ·replace c29 := Bool.eq_false_iff.mpr c29
            subst c29
            have H1 : (skewbaldlaw01_sound.j3 kj16 false x4_2 l0_0 l0_1 ((rd_T48 l0_0 x4_2).f0) ((rd_T48 l0_0 x4_2).f1)) = some r := by rw [if_neg (show ¬ (false = true) by decide)] at H; exact H
            clear H
            have H := H1
            clear H1
            have H' := Aside0.mk H
            clear H
            have hnb32 := NB343_338.out
            have hnc32 := NB338_343.out
            have hcz33_0 : w25.cell? ⟨gb343, 0, none⟩ = some (.int .i64 0) := (blk_cell BK343.out 0).trans rfl
            have hcz33_1 : w25.cell? ⟨gb343, 1, none⟩ = some (.slice none 0 0) := (blk_cell BK343.out 1).trans rfl
            have hfz33_0 := blk_frozen BK343.out 0
            have hfz33_1 := blk_frozen BK343.out 1
            go_wp2_with (first | ((with_reducible refine gate_callee (f := 38) rfl ?_); refine goesL_ (some 41) rfl rfl Tryd.func38 (by kernel_rfl) rfl #[.int .i64 ((rd_T48 l0_0 x4_2).f0), .int .i64 1, .int .i64 16] rfl (by (try simp only [List.map_toArray, List.map_cons, List.map_nil]); first | done | rfl | (simp only [List.length_drop, List.length_take]; rfl)) ?_; (with_reducible refine (skewbaldref00_In.calls ((rd_T48 l0_0 x4_2).f0) 1 16 false _ A28.out).mono ?_); rintro e w' ⟨rfl, ⟨nd, rfl⟩⟩; refine ⟨_, rfl, ?_⟩))
            go_meet
            case rel => exact ⟨_, (false), (by first | rfl | (simp; done) | (simp [*]; done)), H', ⟨by have := HJ1.out; have := HK2.out; have := HJ16.out; first | omega | exact Nat.le_refl _⟩, ⟨by (with_reducible repeat (first | refine blk_drewN ?_ _ | refine blk_drew ?_ | refine blk_alloc ?_ _)); refine blk_far ?_ NB338_343.out _; (with_reducible repeat (first | refine blk_drewN ?_ _ | refine blk_drew ?_ | refine blk_alloc ?_ _)); refine blk_far ?_ NB338_343.out _; (with_reducible repeat (first | refine blk_drewN ?_ _ | refine blk_drew ?_ | refine blk_alloc ?_ _)); exact BK338.out⟩, ⟨by (with_reducible repeat (first | refine blk_drewN ?_ _ | refine blk_drew ?_ | refine blk_alloc ?_ _)); refine blk_put (cs := #[.int .i64 ((rd_T48 l0_0 x4_2).f0), .slice none 0 0]) ?_ 1 _ rfl; (with_reducible repeat (first | refine blk_drewN ?_ _ | refine blk_drew ?_ | refine blk_alloc ?_ _)); refine blk_put (cs := #[.int .i64 0, .slice none 0 0]) ?_ 0 _ rfl; (with_reducible repeat (first | refine blk_drewN ?_ _ | refine blk_drew ?_ | refine blk_alloc ?_ _)); exact BK343.out⟩, ⟨bl⟩⟩
          case rest =>
           clear HC23
           try clear c1
           try clear c2
           try clear p2
           try clear c3
           try clear p3
           try clear q3
           try clear hx3
           try clear c5
           try clear c5b0
           try clear c5b1
           try clear c7
           try clear c18
           try clear c20
           try clear c21
           try clear c21b0
           try clear c22
           try clear c22b0
           try clear c26
           try clear c29
           try clear c30
           try clear c32
           try clear hcz11_0
           try clear hcz11_1
           try clear hcz12_0
           try clear hcz12_1
           try clear hcz14_0
           try clear hcz14_1
           try clear hcz15_0
           try clear hcz15_1
           try clear hcz19_0
           try clear hcz19_1
           try clear hcz24_0
           try clear hcz24_1
           try clear hcz27_0
           try clear hcz27_1
           try clear hcz31_0
           try clear hcz31_1
           try clear hcz33_0
           try clear hcz33_1
           try clear hcz9_0
           try clear hcz9_1
           try clear hfz11_0
           try clear hfz11_1
           try clear hfz12_0
           try clear hfz12_1
           try clear hfz14_0
           try clear hfz14_1
           try clear hfz15_0
           try clear hfz15_1
           try clear hfz19_0
           try clear hfz19_1
           try clear hfz24_0
           try clear hfz24_1
           try clear hfz27_0
           try clear hfz27_1
           try clear hfz31_0
           try clear hfz31_1
           try clear hfz33_0
           try clear hfz33_1
           try clear hfz9_0
           try clear hfz9_1
           try clear hx342_0
           try clear hx342_1
           try clear p2
           try clear p342
           try clear q342
           obtain ⟨kq, x3_22, rfl, HA, HJ22, BK338, BK343, HB⟩ := hcut
           cases kq with
           | zero => exact absurd HA.out (by simp [skewbaldlaw01_sound.j3])
           | succ kj22 =>
            have H := HA.out
            clear HA
            simp only [skewbaldlaw01_sound.j3] at H
            have H' := Aside0.mk H
            clear H
            go_wp2
            go_loopg [3, 6] kj22 (fun kq v3 v6 w' => ∃ (x3_5 : Bool) (x6_5 : Int), v3 = .bool x3_5 ∧ v6 = .int .i64 x6_5 ∧ Aside0 (skewbaldlaw01_sound.l1 kq x3_5 x4_2 x6_5 l0_0 l0_1 ((rd_T48 l0_0 x4_2).f0) ((rd_T48 l0_0 x4_2).f1) = some r) ∧ Aside0 (kq ≤ kj22) ∧ Aside0 (w'.heap[gb338]? = some (.cells #[(.slice (some ad342) l0_0.length c0_0), (.slice A0_1 l0_1.length c0_1)] 25 (0, 0))) ∧ Aside0 (w'.heap[gb343]? = some (.cells #[.int .i64 ((rd_T48 l0_0 x4_2).f0), (.slice A342_1 ((rd_T48 l0_0 x4_2).f1).length c342_1)] 48 (0, 0))) ∧ Aside0 (Below w.heap.size w w'))
            case atStart => exact ⟨(x3_22), (0), (by first | rfl | (simp; done) | (simp [*]; done)), (by first | rfl | (simp; done) | (simp [*]; done)), H', ⟨Nat.le_refl _⟩, ⟨bk⟩, ⟨bk⟩, ⟨bl⟩⟩
            case round =>
             clear H'
             try clear c1
             try clear c2
             try clear p2
             try clear c3
             try clear p3
             try clear q3
             try clear hx3
             try clear c5
             try clear c5b0
             try clear c5b1
             try clear c7
             try clear c18
             try clear c20
             try clear c21
             try clear c21b0
             try clear c22
             try clear c22b0
             try clear c26
             try clear c29
             try clear c30
             try clear c32
             try clear hcz11_0
             try clear hcz11_1
             try clear hcz12_0
             try clear hcz12_1
             try clear hcz14_0
             try clear hcz14_1
             try clear hcz15_0
             try clear hcz15_1
             try clear hcz19_0
             try clear hcz19_1
             try clear hcz24_0
             try clear hcz24_1
             try clear hcz27_0
             try clear hcz27_1
             try clear hcz31_0
             try clear hcz31_1
             try clear hcz33_0
             try clear hcz33_1
             try clear hcz9_0
             try clear hcz9_1
             try clear hfz11_0
             try clear hfz11_1
             try clear hfz12_0
             try clear hfz12_1
             try clear hfz14_0
             try clear hfz14_1
             try clear hfz15_0
             try clear hfz15_1
             try clear hfz19_0
             try clear hfz19_1
             try clear hfz24_0
             try clear hfz24_1
             try clear hfz27_0
             try clear hfz27_1
             try clear hfz31_0
             try clear hfz31_1
             try clear hfz33_0
             try clear hfz33_1
             try clear hfz9_0
             try clear hfz9_1
             try clear hx342_0
             try clear hx342_1
             try clear p2
             try clear p3
             try clear p342
             try clear q3
             try clear q342
             obtain ⟨x3_5, x6_5, rfl, rfl, HA, HK5, BK338, BK343, HB⟩ := hrel
             cases gk with
             | zero => exact absurd HA.out (by simp [skewbaldlaw01_sound.l1])
             | succ k5 =>
              have H := HA.out
              clear HA
              simp only [skewbaldlaw01_sound.l1] at H
              by_cases c34 : x3_5 = true
              ·subst c34
               have H1 : (if x6_5 < (((rd_T48 l0_0 x4_2).f1).length : Int) then (if 0 ≤ x6_5 then ((skewbaldref00_Ordered.f ((rd_T60 ((rd_T48 l0_0 x4_2).f1) x6_5).f0) ((rd_T60 ((rd_T48 l0_0 x4_2).f1) x6_5).f1) 0 (wrap64 (((rd_T48 l0_0 x4_2).f0) - 1))).bind fun t346 => (skewbaldlaw01_sound.l1 k5 t346 x4_2 (wrap64 (x6_5 + 1)) l0_0 l0_1 ((rd_T48 l0_0 x4_2).f0) ((rd_T48 l0_0 x4_2).f1))) else (none)) else (skewbaldlaw01_sound.l0 k5 true (wrap64 (x4_2 + 1)) l0_0 l0_1)) = some r := by rw [if_pos rfl] at H; exact H
               clear H
               have H := H1
               clear H1
               by_cases c35 : x6_5 < (((rd_T48 l0_0 x4_2).f1).length : Int)
               ·rw [if_pos c35] at H
                have c35b0 : decide (x6_5 < (((rd_T48 l0_0 x4_2).f1).length : Int)) = true := decide_eq_true c35
                clear c35
                by_cases c36 : 0 ≤ x6_5
                ·rw [if_pos c36] at H
                 have c36b0 : decide (0 ≤ x6_5) = true := decide_eq_true c36
                 clear c36
                 replace H := Option.bind_eq_some_iff.mp H
                 obtain ⟨t346, A370, H⟩ := H
                 replace H : (skewbaldlaw01_sound.l1 k5 t346 x4_2 (wrap64 (x6_5 + 1)) l0_0 l0_1 ((rd_T48 l0_0 x4_2).f0) ((rd_T48 l0_0 x4_2).f1)) = some r := H
                 have A37 := Aside0.mk A370
                 clear A370
                 have H' := Aside0.mk H
                 clear H
                 have hnb38 := NB343_338.out
                 have hnc38 := NB338_343.out
                 have hcz39_0 : wr.cell? ⟨gb343, 0, none⟩ = some (.int .i64 ((rd_T48 l0_0 x4_2).f0)) := (blk_cell BK343.out 0).trans rfl
                 have hcz39_1 : wr.cell? ⟨gb343, 1, none⟩ = some (.slice A342_1 ((rd_T48 l0_0 x4_2).f1).length c342_1) := (blk_cell BK343.out 1).trans rfl
                 have hfz39_0 := blk_frozen BK343.out 0
                 have hfz39_1 := blk_frozen BK343.out 1
                 try go_wp2
                 have n0_ := Aside0.mk (blk_drew BK338.out)
                 have n1_ := Aside0.mk (blk_drew BK343.out)
                 have n2_ := Aside0.mk (below_drew1 HB.out)
                 clear BK338
                 clear BK343
                 clear HB
                 have BK338 := n0_
                 have BK343 := n1_
                 have HB := n2_
                 clear n0_ n1_ n2_
                 have p345 : 0 ≤ (x6_5 : Int) := of_decide_eq_true (by first | (with_reducible assumption) | assumption)
                 have q345 : x6_5 < (((rd_T48 l0_0 x4_2).f1).length : Int) := of_decide_eq_true (by first | (with_reducible assumption) | assumption)
                 obtain ⟨ad345, e345, hx345_0, hx345_1⟩ := at_T60 HR342_1.out x6_5 p345 q345
                 have hw345_1 := hx345_1
                 have hw345_0 := hx345_0
                 cases e345
                 replace hx345_0 := (HB.out.cell (World.block_lt_of_cell? w _ hx345_0)).trans hx345_0
                 replace hx345_1 := (HB.out.cell (World.block_lt_of_cell? w _ hx345_1)).trans hx345_1
                 replace p345 := eq_true p345
                 replace q345 := eq_true q345
                 refine start_ (n := 10) (S := fun w' => w'.cell? ⟨gb343, 0, none⟩ = some (.int .i64 ((rd_T48 l0_0 x4_2).f0)) ∧ w'.cell? ⟨gb343, 1, none⟩ = some (.slice (some ad345) ((rd_T48 l0_0 x4_2).f1).length c342_1) ∧ w'.cell? (ad345.add ((x6_5).toNat * 2)) = some (.int .i64 ((rd_T60 ((rd_T48 l0_0 x4_2).f1) x6_5).f0)) ∧ w'.cell? ⟨(ad345.add ((x6_5).toNat * 2)).block, (ad345.add ((x6_5).toNat * 2)).off + 1, none⟩ = some (.int .i64 ((rd_T60 ((rd_T48 l0_0 x4_2).f1) x6_5).f1))) (ds := []) #[false, false, false, false, false, false, false, false, false, false] (by kernel_rfl) rfl rfl ⟨(blk_cell BK343.out 0).trans rfl, (blk_cell BK343.out 1).trans rfl, ((HB.out.cell (World.block_lt_of_cell? w _ hw345_0)).trans hw345_0), ((HB.out.cell (World.block_lt_of_cell? w _ hw345_1)).trans hw345_1)⟩ (fun hHeld => ?_); refine with_tabW skewbaldlaw01_sound.tab10 skewbaldlaw01_sound.bits10 (fun HT_ HW_ => ?_)
                 generalize wr.drew = w40 at BK338 BK343 HB hx345_0 hx345_1 hHeld ⊢
                 refine pure_ (i := 0) (N := some 58) (v := ?_) (a' := ?_) #[true, false, false, false, false, false, false, false, false, false] rfl rfl (any_of HT_.out (by kernel_rfl)) (fun _ _ _ h => h) (Or.inl ⟨by rfl, ?_⟩) ?_ ?_
                 rotate_left
                 ·intro w'
                  go_simp
                  with_reducible rfl
                 rotate_left
                 ·simp only [Act.put, List.setIfInBounds_toArray, List.set_cons_zero, List.set_cons_succ, i64_w, i32_w]
                  rfl
                 refine pure_ (i := 2) (N := some 60) (v := ?_) (a' := ?_) #[true, false, true, false, false, false, false, false, false, false] rfl rfl (any_of HT_.out (by kernel_rfl)) (fun _ _ _ h => h) (Or.inl ⟨by rfl, ?_⟩) ?_ ?_
                 rotate_left
                 ·intro w'
                  go_simp
                  with_reducible rfl
                 rotate_left
                 ·simp only [Act.put, List.setIfInBounds_toArray, List.set_cons_zero, List.set_cons_succ, i64_w, i32_w]
                  rfl
                 refine pure_ (i := 5) (N := some 63) (v := ?_) (a' := ?_) #[true, false, true, false, false, true, false, false, false, false] rfl rfl (any_of HT_.out (by kernel_rfl)) (fun _ _ _ h => h) (Or.inl ⟨by rfl, ?_⟩) ?_ ?_
                 rotate_left
                 ·intro w'
                  go_simp
                  with_reducible rfl
                 rotate_left
                 ·simp only [Act.put, List.setIfInBounds_toArray, List.set_cons_zero, List.set_cons_succ, i64_w, i32_w]
                  rfl
                 refine take_ (i := 1) (N := some 59) (v := ?_) (a' := ?_) #[true, true, true, false, false, true, false, false, false, false] rfl rfl (take_ofW HT_.out HW_.out (by kernel_rfl)) (fun _ _ _ h => h) (Or.inl ⟨by rfl, ?_⟩) hHeld ?_ ?_
                 rotate_left
                 ·rintro w' ⟨s0, s1, s2, s3⟩
                  go_simp
                  with_reducible rfl
                 rotate_left
                 ·simp only [Act.put, List.setIfInBounds_toArray, List.set_cons_zero, List.set_cons_succ, i64_w, i32_w]
                  rfl
                 refine pure_ (i := 3) (N := some 61) (v := ?_) (a' := ?_) #[true, true, true, true, false, true, false, false, false, false] rfl rfl (any_of HT_.out (by kernel_rfl)) (fun _ _ _ h => h) (Or.inl ⟨by rfl, ?_⟩) ?_ ?_
                 rotate_left
                 ·intro w'
                  go_simp
                  with_reducible rfl
                 rotate_left
                 ·simp only [Act.put, List.setIfInBounds_toArray, List.set_cons_zero, List.set_cons_succ, i64_w, i32_w]
                  rfl
                 refine take_ (i := 4) (N := some 62) (v := ?_) (a' := ?_) #[true, true, true, true, true, true, false, false, false, false] rfl rfl (take_ofW HT_.out HW_.out (by kernel_rfl)) (fun _ _ _ h => h) (Or.inl ⟨by rfl, ?_⟩) hHeld ?_ ?_
                 rotate_left
                 ·rintro w' ⟨s0, s1, s2, s3⟩
                  go_simp
                  with_reducible rfl
                 rotate_left
                 ·simp only [Act.put, List.setIfInBounds_toArray, List.set_cons_zero, List.set_cons_succ, i64_w, i32_w]
                  rfl
                 refine take_ (i := 6) (N := some 64) (v := ?_) (a' := ?_) #[true, true, true, true, true, true, true, false, false, false] rfl rfl (take_ofW HT_.out HW_.out (by kernel_rfl)) (fun _ _ _ h => h) (Or.inl ⟨by rfl, ?_⟩) hHeld ?_ ?_
                 rotate_left
                 ·rintro w' ⟨s0, s1, s2, s3⟩
                  go_simp
                  with_reducible rfl
                 rotate_left
                 ·simp only [Act.put, List.setIfInBounds_toArray, List.set_cons_zero, List.set_cons_succ, i64_w, i32_w]
                  rfl
                 refine pure_ (i := 7) (N := some 65) (v := ?_) (a' := ?_) #[true, true, true, true, true, true, true, true, false, false] rfl rfl (any_of HT_.out (by kernel_rfl)) (fun _ _ _ h => h) (Or.inl ⟨by rfl, ?_⟩) ?_ ?_
                 rotate_left
                 ·intro w'
                  go_simp
                  with_reducible rfl
                 rotate_left
                 ·simp only [Act.put, List.setIfInBounds_toArray, List.set_cons_zero, List.set_cons_succ, i64_w, i32_w]
                  rfl
                 refine one_ (i := 8) (N := some 66) #[true, true, true, true, true, true, true, true, true, false] rfl rfl (one_of HT_.out (by kernel_rfl)) (by decide) (fun K hK => ?_)
                 refine goes_ Tryd.func73 (by kernel_rfl) rfl #[.agg #[.int .i64 ((rd_T60 ((rd_T48 l0_0 x4_2).f1) x6_5).f0), .int .i64 ((rd_T60 ((rd_T48 l0_0 x4_2).f1) x6_5).f1)], .int .i64 0, .int .i64 (wrap64 (((rd_T48 l0_0 x4_2).f0) - 1))] (by rfl) rfl rfl (by (try simp only [List.map_toArray, List.map_cons, List.map_nil]); first | done | rfl | (simp only [List.length_drop, List.length_take]; rfl)) ?_
                 with_reducible refine (skewbaldref00_Ordered.calls ((rd_T60 ((rd_T48 l0_0 x4_2).f1) x6_5).f0) ((rd_T60 ((rd_T48 l0_0 x4_2).f1) x6_5).f1) 0 (wrap64 (((rd_T48 l0_0 x4_2).f0) - 1)) t346 _ A37.out).mono ?_
                 rintro e w41 ⟨rfl, hb⟩
                 refine ⟨_, rfl, ?_⟩
                 have n0_ := Aside0.mk (blk_below (g := gb338) (o := .cells #[.slice (some ad342) l0_0.length c0_0, .slice A0_1 l0_1.length c0_1] 25 (0, 0)) bk hb)
                 have n1_ := Aside0.mk (blk_below (g := gb343) (o := .cells #[.int .i64 ((rd_T48 l0_0 x4_2).f0), .slice (some ad345) ((rd_T48 l0_0 x4_2).f1).length c342_1] 48 (0, 0)) bk hb)
                 have n2_ := Aside0.mk (below_step bl hb)
                 clear BK338
                 clear BK343
                 clear HB
                 have BK338 := n0_
                 have BK343 := n1_
                 have HB := n2_
                 clear n0_ n1_ n2_
                 (try clear hb)
                 (try clear hb2)
                 (try clear hk)
                 (try clear hi)
                 refine hK.out _ _ ⟨(blk_cell BK343.out 0).trans rfl, (blk_cell BK343.out 1).trans rfl, ((HB.out.cell (World.block_lt_of_cell? w _ hw345_0)).trans hw345_0), ((HB.out.cell (World.block_lt_of_cell? w _ hw345_1)).trans hw345_1)⟩ (fun hHeld => ?_)
                 clear hK K
                 refine norm_ (a' := ?_) ?_ ?_
                 rotate_left
                 ·show Act.put _ (some 66) _ = _
                  simp only [Act.put, List.setIfInBounds_toArray, List.set_cons_zero, List.set_cons_succ, i64_w, i32_w]
                  rfl
                 refine pure_ (i := 9) (N := some 3) (v := ?_) (a' := ?_) #[true, true, true, true, true, true, true, true, true, true] rfl rfl (any_of HT_.out (by kernel_rfl)) (fun _ _ _ h => h) (Or.inl ⟨by rfl, ?_⟩) ?_ ?_
                 rotate_left
                 ·intro w'
                  go_simp
                  with_reducible rfl
                 rotate_left
                 ·simp only [Act.put, List.setIfInBounds_toArray, List.set_cons_zero, List.set_cons_succ, i64_w, i32_w]
                  rfl
                 refine done_ (done_of HT_.out (by kernel_rfl)) ?_
                 try go_wp2
                 go_roundg k5
                 case measure => have := HJ1.out; have := HK2.out; have := HJ16.out; have := HJ22.out; have := HK5.out; omega
                 case rel => exact ⟨(t346), (wrap64 (x6_5 + 1)), (by first | rfl | (simp; done) | (simp [*]; done)), (by first | rfl | (simp; done) | (simp [*]; done)), H', ⟨by have := HJ1.out; have := HK2.out; have := HJ16.out; have := HJ22.out; have := HK5.out; omega⟩, ⟨bk⟩, ⟨bk⟩, ⟨bl⟩⟩
                ·rw [if_neg c36] at H
                 exact absurd H (by simp)
               ·rw [if_neg c35] at H
                have c35b0 : decide (x6_5 < (((rd_T48 l0_0 x4_2).f1).length : Int)) = false := decide_eq_false c35
                clear c35
                have H' := Aside0.mk H
                clear H
                have hnb42 := NB343_338.out
                have hnc42 := NB338_343.out
                have hcz43_0 : wr.cell? ⟨gb343, 0, none⟩ = some (.int .i64 ((rd_T48 l0_0 x4_2).f0)) := (blk_cell BK343.out 0).trans rfl
                have hcz43_1 : wr.cell? ⟨gb343, 1, none⟩ = some (.slice A342_1 ((rd_T48 l0_0 x4_2).f1).length c342_1) := (blk_cell BK343.out 1).trans rfl
                have hfz43_0 := blk_frozen BK343.out 0
                have hfz43_1 := blk_frozen BK343.out 1
                go_wp2
                go_roundg k5
                case measure => have := HJ1.out; have := HK2.out; have := HJ16.out; have := HJ22.out; have := HK5.out; omega
                case rel => exact ⟨(true), (wrap64 (x4_2 + 1)), (by first | rfl | (simp; done) | (simp [*]; done)), (by first | rfl | (simp; done) | (simp [*]; done)), H', ⟨by have := HJ1.out; have := HK2.out; have := HJ16.out; have := HJ22.out; have := HK5.out; omega⟩, ⟨bk⟩, ⟨bl⟩⟩
              ·replace c34 := Bool.eq_false_iff.mpr c34
               subst c34
               have H1 : (skewbaldlaw01_sound.l0 k5 false (wrap64 (x4_2 + 1)) l0_0 l0_1) = some r := by rw [if_neg (show ¬ (false = true) by decide)] at H; exact H
               clear H
               have H := H1
               clear H1
               have H' := Aside0.mk H
               clear H
               go_wp2
               go_roundg k5
               case measure => have := HJ1.out; have := HK2.out; have := HJ16.out; have := HJ22.out; have := HK5.out; omega
               case rel => exact ⟨(false), (wrap64 (x4_2 + 1)), (by first | rfl | (simp; done) | (simp [*]; done)), (by first | rfl | (simp; done) | (simp [*]; done)), H', ⟨by have := HJ1.out; have := HK2.out; have := HJ16.out; have := HJ22.out; have := HK5.out; omega⟩, ⟨bk⟩, ⟨bl⟩⟩
         ·rw [if_neg c22] at H
          exact absurd H (by simp)
        ·rw [if_neg c21] at H
         exact absurd H (by simp)
       ·replace c20 := Bool.eq_false_iff.mpr c20
        subst c20
        have H1 : (skewbaldlaw01_sound.l2 kj16 x3_2 0 l0_0 l0_1) = some r := by rw [if_neg (show ¬ (false = true) by decide)] at H; exact H
        clear H
        have H := H1
        clear H1
        have H' := Aside0.mk H
        clear H
        go_wp2
        go_loopg [3, 7] kj16 (fun kq v3 v7 w' => ∃ (x3_4 : Bool) (x7_4 : Int), v3 = .bool x3_4 ∧ v7 = .int .i64 x7_4 ∧ Aside0 (skewbaldlaw01_sound.l2 kq x3_4 x7_4 l0_0 l0_1 = some r) ∧ Aside0 (kq ≤ kj16) ∧ Aside0 (w'.heap[gb338]? = some (.cells #[(.slice A0_0 l0_0.length c0_0), (.slice A0_1 l0_1.length c0_1)] 25 (0, 0))) ∧ Aside0 (Below w.heap.size w w'))
        case atStart => exact ⟨(x3_2), (0), (by first | rfl | (simp; done) | (simp [*]; done)), (by first | rfl | (simp; done) | (simp [*]; done)), H', ⟨Nat.le_refl _⟩, ⟨bk⟩, ⟨bl⟩⟩
        case round =>
         clear H'
         try clear c1
         try clear c2
         try clear p2
         try clear c3
         try clear p3
         try clear q3
         try clear hx3
         try clear c4
         try clear c5
         try clear c5b0
         try clear c5b1
         try clear p6
         try clear c7
         try clear c18
         try clear c20
         try clear c21
         try clear c21b0
         try clear c22
         try clear c22b0
         try clear c26
         try clear c29
         try clear c30
         try clear c32
         try clear c34
         try clear p34
         try clear q34
         try clear hx34
         try clear c35
         try clear c35b0
         try clear c36
         try clear c36b0
         try clear c38
         try clear c42
         try clear hcz11_0
         try clear hcz11_1
         try clear hcz12_0
         try clear hcz12_1
         try clear hcz14_0
         try clear hcz14_1
         try clear hcz15_0
         try clear hcz15_1
         try clear hcz19_0
         try clear hcz19_1
         try clear hcz24_0
         try clear hcz24_1
         try clear hcz27_0
         try clear hcz27_1
         try clear hcz31_0
         try clear hcz31_1
         try clear hcz33_0
         try clear hcz33_1
         try clear hcz39_0
         try clear hcz39_1
         try clear hcz43_0
         try clear hcz43_1
         try clear hcz9_0
         try clear hcz9_1
         try clear hfz11_0
         try clear hfz11_1
         try clear hfz12_0
         try clear hfz12_1
         try clear hfz14_0
         try clear hfz14_1
         try clear hfz15_0
         try clear hfz15_1
         try clear hfz19_0
         try clear hfz19_1
         try clear hfz24_0
         try clear hfz24_1
         try clear hfz27_0
         try clear hfz27_1
         try clear hfz31_0
         try clear hfz31_1
         try clear hfz33_0
         try clear hfz33_1
         try clear hfz39_0
         try clear hfz39_1
         try clear hfz43_0
         try clear hfz43_1
         try clear hfz9_0
         try clear hfz9_1
         try clear hx342_0
         try clear hx342_1
         try clear hx345_0
         try clear hx345_1
         try clear p2
         try clear p3
         try clear p342
         try clear p345
         try clear q3
         try clear q342
         try clear q345
         obtain ⟨x3_4, x7_4, rfl, rfl, HA, HK4, BK338, HB⟩ := hrel
         cases gk with
         | zero => exact absurd HA.out (by simp [skewbaldlaw01_sound.l2])
         | succ k4 =>
          have H := HA.out
          clear HA
          simp only [skewbaldlaw01_sound.l2] at H
          have HC44 := Aside0.mk H
          clear H
          go_upto_region 12 with (fail)
          go_cut [74] (fun v74 wc => ∃ (kq : Nat) (x74_43 : Bool), v74 = .bool x74_43 ∧ Aside0 (skewbaldlaw01_sound.j6 kq x3_4 x7_4 x74_43 l0_0 l0_1 = some r) ∧ Aside0 (kq ≤ k4) ∧ Aside0 (wc.heap[gb338]? = some (.cells #[(.slice A0_0 l0_0.length c0_0), (.slice A0_1 l0_1.length c0_1)] 25 (0, 0))) ∧ Aside0 (Below w.heap.size w wc))
          case first =>
           have H := HC44.out
           clear HC44
           by_cases c45 : x3_4 = true
           ·subst c45
            have H1 : (skewbaldlaw01_sound.j6 k4 true x7_4 (decide (x7_4 < (l0_1.length : Int))) l0_0 l0_1) = some r := by rw [if_pos rfl] at H; exact H
            clear H
            have H := H1
            clear H1
            have H' := Aside0.mk H
            clear H
            have hcz46_0 : wr.cell? ⟨gb338, 0, none⟩ = some (.slice A0_0 l0_0.length c0_0) := (blk_cell BK338.out 0).trans rfl
            have hcz46_1 : wr.cell? ⟨gb338, 1, none⟩ = some (.slice A0_1 l0_1.length c0_1) := (blk_cell BK338.out 1).trans rfl
            have hfz46_0 := blk_frozen BK338.out 0
            have hfz46_1 := blk_frozen BK338.out 1
            go_wp2
            go_meet
            case rel => exact ⟨_, (decide (x7_4 < (l0_1.length : Int))), (by first | rfl | (simp; done) | (simp [*]; done)), H', ⟨by have := HJ1.out; have := HK2.out; have := HJ16.out; have := HK4.out; first | omega | exact Nat.le_refl _⟩, ⟨bk⟩, ⟨bl⟩⟩
           ·replace c45 := Bool.eq_false_iff.mpr c45
            subst c45
            have H1 : (skewbaldlaw01_sound.j6 k4 false x7_4 false l0_0 l0_1) = some r := by rw [if_neg (show ¬ (false = true) by decide)] at H; exact H
            clear H
            have H := H1
            clear H1
            have H' := Aside0.mk H
            clear H
            go_wp2
            go_meet
            case rel => exact ⟨_, (false), (by first | rfl | (simp; done) | (simp [*]; done)), H', ⟨by have := HJ1.out; have := HK2.out; have := HJ16.out; have := HK4.out; first | omega | exact Nat.le_refl _⟩, ⟨bk⟩, ⟨bl⟩⟩
          case rest =>
           clear HC44
           try clear c1
           try clear c2
           try clear p2
           try clear c3
           try clear p3
           try clear q3
           try clear hx3
           try clear c4
           try clear c5
           try clear c5b0
           try clear c5b1
           try clear p6
           try clear c7
           try clear c18
           try clear c20
           try clear c21
           try clear c21b0
           try clear c22
           try clear c22b0
           try clear c26
           try clear c29
           try clear c30
           try clear c32
           try clear c34
           try clear p34
           try clear q34
           try clear hx34
           try clear c35
           try clear c35b0
           try clear c36
           try clear c36b0
           try clear c38
           try clear c42
           try clear c45
           try clear hcz11_0
           try clear hcz11_1
           try clear hcz12_0
           try clear hcz12_1
           try clear hcz14_0
           try clear hcz14_1
           try clear hcz15_0
           try clear hcz15_1
           try clear hcz19_0
           try clear hcz19_1
           try clear hcz24_0
           try clear hcz24_1
           try clear hcz27_0
           try clear hcz27_1
           try clear hcz31_0
           try clear hcz31_1
           try clear hcz33_0
           try clear hcz33_1
           try clear hcz39_0
           try clear hcz39_1
           try clear hcz43_0
           try clear hcz43_1
           try clear hcz46_0
           try clear hcz46_1
           try clear hcz9_0
           try clear hcz9_1
           try clear hfz11_0
           try clear hfz11_1
           try clear hfz12_0
           try clear hfz12_1
           try clear hfz14_0
           try clear hfz14_1
           try clear hfz15_0
           try clear hfz15_1
           try clear hfz19_0
           try clear hfz19_1
           try clear hfz24_0
           try clear hfz24_1
           try clear hfz27_0
           try clear hfz27_1
           try clear hfz31_0
           try clear hfz31_1
           try clear hfz33_0
           try clear hfz33_1
           try clear hfz39_0
           try clear hfz39_1
           try clear hfz43_0
           try clear hfz43_1
           try clear hfz46_0
           try clear hfz46_1
           try clear hfz9_0
           try clear hfz9_1
           try clear hx342_0
           try clear hx342_1
           try clear hx345_0
           try clear hx345_1
           try clear p2
           try clear p3
           try clear p34
           try clear p342
           try clear p345
           try clear p6
           try clear q3
           try clear q34
           try clear q342
           try clear q345
           obtain ⟨kq, x74_43, rfl, HA, HJ43, BK338, HB⟩ := hcut
           cases kq with
           | zero => exact absurd HA.out (by simp [skewbaldlaw01_sound.j6])
           | succ kj43 =>
            have H := HA.out
            clear HA
            simp only [skewbaldlaw01_sound.j6] at H
            by_cases c47 : x74_43 = true
            ·subst c47
             have H1 : (if 0 ≤ x7_4 then (if x7_4 < (l0_1.length : Int) then ((skewbaldref00_In.f ((rd_T50 l0_1 x7_4).f0) 1 12).bind fun t349 => (if t349 = true then (if (((rd_T50 l0_1 x7_4).f1).length : Int) ≤ 3 then ((skewbaldref00_Grows.f kj43 ((rd_T50 l0_1 x7_4).f1) ((rd_T50 l0_1 x7_4).f0)).bind fun t350 => (skewbaldlaw01_sound.l2 kj43 t350 (wrap64 (x7_4 + 1)) l0_0 l0_1)) else (skewbaldlaw01_sound.l2 kj43 false (wrap64 (x7_4 + 1)) l0_0 l0_1)) else (skewbaldlaw01_sound.l2 kj43 false (wrap64 (x7_4 + 1)) l0_0 l0_1))) else (none)) else (none)) = some r := by rw [if_pos rfl] at H; exact H
             clear H
             have H := H1
             clear H1
             by_cases c48 : 0 ≤ x7_4
             ·rw [if_pos c48] at H
              have c48b0 : decide (0 ≤ x7_4) = true := decide_eq_true c48
              clear c48
              by_cases c49 : x7_4 < (l0_1.length : Int)
              ·rw [if_pos c49] at H
               have c49b0 : decide (x7_4 < (l0_1.length : Int)) = true := decide_eq_true c49
               clear c49
               replace H := Option.bind_eq_some_iff.mp H
               obtain ⟨t349, A500, H⟩ := H
               replace H : (if t349 = true then (if (((rd_T50 l0_1 x7_4).f1).length : Int) ≤ 3 then ((skewbaldref00_Grows.f kj43 ((rd_T50 l0_1 x7_4).f1) ((rd_T50 l0_1 x7_4).f0)).bind fun t350 => (skewbaldlaw01_sound.l2 kj43 t350 (wrap64 (x7_4 + 1)) l0_0 l0_1)) else (skewbaldlaw01_sound.l2 kj43 false (wrap64 (x7_4 + 1)) l0_0 l0_1)) else (skewbaldlaw01_sound.l2 kj43 false (wrap64 (x7_4 + 1)) l0_0 l0_1)) = some r := H
               have A50 := Aside0.mk A500
               clear A500
               by_cases c51 : t349 = true
               ·subst c51
                have H1 : (if (((rd_T50 l0_1 x7_4).f1).length : Int) ≤ 3 then ((skewbaldref00_Grows.f kj43 ((rd_T50 l0_1 x7_4).f1) ((rd_T50 l0_1 x7_4).f0)).bind fun t350 => (skewbaldlaw01_sound.l2 kj43 t350 (wrap64 (x7_4 + 1)) l0_0 l0_1)) else (skewbaldlaw01_sound.l2 kj43 false (wrap64 (x7_4 + 1)) l0_0 l0_1)) = some r := by rw [if_pos rfl] at H; exact H
                clear H
                have H := H1
                clear H1
                by_cases c52 : (((rd_T50 l0_1 x7_4).f1).length : Int) ≤ 3
                ·rw [if_pos c52] at H
                 have c52b0 : decide ((((rd_T50 l0_1 x7_4).f1).length : Int) ≤ 3) = true := decide_eq_true c52
                 have c52b1 : decide (((rd_T50 l0_1 x7_4).f1).length ≤ 3) = true := decide_eq_true (by omega)
                 clear c52
                 replace H := Option.bind_eq_some_iff.mp H
                 obtain ⟨t350, A530, H⟩ := H
                 replace H : (skewbaldlaw01_sound.l2 kj43 t350 (wrap64 (x7_4 + 1)) l0_0 l0_1) = some r := H
                 have A53 := Aside0.mk A530
                 clear A530
                 have H' := Aside0.mk H
                 clear H
                 have hcz54_0 : wc.cell? ⟨gb338, 0, none⟩ = some (.slice A0_0 l0_0.length c0_0) := (blk_cell BK338.out 0).trans rfl
                 have hcz54_1 : wc.cell? ⟨gb338, 1, none⟩ = some (.slice A0_1 l0_1.length c0_1) := (blk_cell BK338.out 1).trans rfl
                 have hfz54_0 := blk_frozen BK338.out 0
                 have hfz54_1 := blk_frozen BK338.out 1
                 have p347 : 0 ≤ (x7_4 : Int) := of_decide_eq_true (by first | (with_reducible assumption) | assumption)
                 have q347 : x7_4 < (l0_1.length : Int) := of_decide_eq_true (by first | (with_reducible assumption) | assumption)
                 obtain ⟨ad347, A347_1, c347_1, e347, hx347_0, hx347_1, hx347_2, hl347_1, hi347_1⟩ := at_T50 HR0_1.out x7_4 p347 q347
                 cases e347
                 replace hx347_0 := (HB.out.cell (World.block_lt_of_cell? w _ hx347_0)).trans hx347_0
                 replace hx347_1 := (HB.out.cell (World.block_lt_of_cell? w _ hx347_1)).trans hx347_1
                 replace hx347_2 := (HB.out.cell (World.block_lt_of_cell? w _ hx347_2)).trans hx347_2
                 have HR347_1 := Aside0.mk hi347_1
                 have HC347_1 := Aside0.mk hl347_1
                 clear hi347_1 hl347_1
                 replace p347 := eq_true p347
                 replace q347 := eq_true q347
                 go_wp2_with (first | ((with_reducible refine gate_dst (N := 8) rfl ?_); (try (refine gate_guard (by rfl) ?_; dsimp only)); refine box_event ?hg (N := 8) ?hd (cs := #[.int .i64 0, .slice none 0 0, .bool false]) (t := 50) ?hr ?_; (case hd => rfl); (case hg => rfl); (case hr => first | (go_simp; done) | (go_simp; rfl)); intro gb348 hg w55 hbox hb; have n0_ := Aside0.mk (blk_below (g := gb338) (o := .cells #[.slice A0_0 l0_0.length c0_0, .slice (some ad347) l0_1.length c0_1] 25 (0, 0)) bk hb); have n1_ := Aside0.mk (below_step bl hb); have n2_ := Aside0.mk (hbox); have n3_ := Aside0.mk ((by rw [hg]; exact (below_size bl) : w.heap.size ≤ gb348)); have n4_ := Aside0.mk ((by rw [hg]; exact (below_size bl) : w.heap.size ≤ gb348)); have n5_ := Aside0.mk ((by rw [hg]; exact Nat.ne_of_lt (blk_lt (g := gb338) (o := .cells #[.slice A0_0 l0_0.length c0_0, .slice (some ad347) l0_1.length c0_1] 25 (0, 0)) bk) : gb338 ≠ gb348)); have n6_ := Aside0.mk ((by rw [hg]; exact Nat.ne_of_gt (blk_lt (g := gb338) (o := .cells #[.slice A0_0 l0_0.length c0_0, .slice (some ad347) l0_1.length c0_1] 25 (0, 0)) bk) : gb348 ≠ gb338)); clear BK338; clear HB; have BK338 := n0_; have HB := n1_; have BK348 := n2_; have GW348 := n3_; have GE348 := n4_; have NB338_348 := n5_; have NB348_338 := n6_; clear n0_ n1_ n2_ n3_ n4_ n5_ n6_; clear hb hbox hg; have hnb56 := NB348_338.out; have hnc56 := NB338_348.out; have hcz57_0 : w55.cell? ⟨gb348, 0, none⟩ = some (.int .i64 0) := (blk_cell BK348.out 0).trans rfl; have hcz57_1 : w55.cell? ⟨gb348, 1, none⟩ = some (.slice none 0 0) := (blk_cell BK348.out 1).trans rfl; have hcz57_2 : w55.cell? ⟨gb348, 2, none⟩ = some (.bool false) := (blk_cell BK348.out 2).trans rfl; have hfz57_0 := blk_frozen BK348.out 0; have hfz57_1 := blk_frozen BK348.out 1; have hfz57_2 := blk_frozen BK348.out 2) | ((with_reducible refine gate_callee (f := 38) rfl ?_); refine goesL_ (some 84) rfl rfl Tryd.func38 (by kernel_rfl) rfl #[.int .i64 ((rd_T50 l0_1 x7_4).f0), .int .i64 1, .int .i64 12] rfl (by (try simp only [List.map_toArray, List.map_cons, List.map_nil]); first | done | rfl | (simp only [List.length_drop, List.length_take]; rfl)) ?_; (with_reducible refine (skewbaldref00_In.calls ((rd_T50 l0_1 x7_4).f0) 1 12 true _ A50.out).mono ?_); rintro e w' ⟨rfl, ⟨nd, rfl⟩⟩; refine ⟨_, rfl, ?_⟩) | (go_at_call 39; (with_reducible refine (skewbaldref00_Grows.calls kj43 _ _ ((rd_T50 l0_1 x7_4).f1) ((rd_T50 l0_1 x7_4).f0) t350 _ ?side1 ?side2 A53.out).mono ?_); (case side1 => exact Kd.C_below HR347_1.out bl); (case side2 => exact HC347_1.out); rintro e w' ⟨rfl, ⟨nd, rfl⟩⟩))
                 go_roundg kj43
                 case measure => have := HJ1.out; have := HK2.out; have := HJ16.out; have := HK4.out; have := HJ43.out; omega
                 case rel => exact ⟨(t350), (wrap64 (x7_4 + 1)), (by first | rfl | (simp; done) | (simp [*]; done)), (by first | rfl | (simp; done) | (simp [*]; done)), H', ⟨by have := HJ1.out; have := HK2.out; have := HJ16.out; have := HK4.out; have := HJ43.out; omega⟩, ⟨by (with_reducible repeat (first | refine blk_drewN ?_ _ | refine blk_drew ?_ | refine blk_alloc ?_ _)); refine blk_far ?_ NB338_348.out _; (with_reducible repeat (first | refine blk_drewN ?_ _ | refine blk_drew ?_ | refine blk_alloc ?_ _)); refine blk_far ?_ NB338_348.out _; (with_reducible repeat (first | refine blk_drewN ?_ _ | refine blk_drew ?_ | refine blk_alloc ?_ _)); refine blk_far ?_ NB338_348.out _; (with_reducible repeat (first | refine blk_drewN ?_ _ | refine blk_drew ?_ | refine blk_alloc ?_ _)); exact BK338.out⟩, ⟨bl⟩⟩
                ·rw [if_neg c52] at H
                 have c52b0 : decide ((((rd_T50 l0_1 x7_4).f1).length : Int) ≤ 3) = false := decide_eq_false c52
                 have c52b1 : decide (((rd_T50 l0_1 x7_4).f1).length ≤ 3) = false := decide_eq_false (by omega)
                 clear c52
                 have H' := Aside0.mk H
                 clear H
                 have hcz58_0 : wc.cell? ⟨gb338, 0, none⟩ = some (.slice A0_0 l0_0.length c0_0) := (blk_cell BK338.out 0).trans rfl
                 have hcz58_1 : wc.cell? ⟨gb338, 1, none⟩ = some (.slice A0_1 l0_1.length c0_1) := (blk_cell BK338.out 1).trans rfl
                 have hfz58_0 := blk_frozen BK338.out 0
                 have hfz58_1 := blk_frozen BK338.out 1
                 have p347 : 0 ≤ (x7_4 : Int) := of_decide_eq_true (by first | (with_reducible assumption) | assumption)
                 have q347 : x7_4 < (l0_1.length : Int) := of_decide_eq_true (by first | (with_reducible assumption) | assumption)
                 obtain ⟨ad347, A347_1, c347_1, e347, hx347_0, hx347_1, hx347_2, hl347_1, hi347_1⟩ := at_T50 HR0_1.out x7_4 p347 q347
                 cases e347
                 replace hx347_0 := (HB.out.cell (World.block_lt_of_cell? w _ hx347_0)).trans hx347_0
                 replace hx347_1 := (HB.out.cell (World.block_lt_of_cell? w _ hx347_1)).trans hx347_1
                 replace hx347_2 := (HB.out.cell (World.block_lt_of_cell? w _ hx347_2)).trans hx347_2
                 have HR347_1 := Aside0.mk hi347_1
                 have HC347_1 := Aside0.mk hl347_1
                 clear hi347_1 hl347_1
                 replace p347 := eq_true p347
                 replace q347 := eq_true q347
                 go_wp2_with (first | ((with_reducible refine gate_dst (N := 8) rfl ?_); (try (refine gate_guard (by rfl) ?_; dsimp only)); refine box_event ?hg (N := 8) ?hd (cs := #[.int .i64 0, .slice none 0 0, .bool false]) (t := 50) ?hr ?_; (case hd => rfl); (case hg => rfl); (case hr => first | (go_simp; done) | (go_simp; rfl)); intro gb348 hg w59 hbox hb; have n0_ := Aside0.mk (blk_below (g := gb338) (o := .cells #[.slice A0_0 l0_0.length c0_0, .slice (some ad347) l0_1.length c0_1] 25 (0, 0)) bk hb); have n1_ := Aside0.mk (below_step bl hb); have n2_ := Aside0.mk (hbox); have n3_ := Aside0.mk ((by rw [hg]; exact (below_size bl) : w.heap.size ≤ gb348)); have n4_ := Aside0.mk ((by rw [hg]; exact (below_size bl) : w.heap.size ≤ gb348)); have n5_ := Aside0.mk ((by rw [hg]; exact Nat.ne_of_lt (blk_lt (g := gb338) (o := .cells #[.slice A0_0 l0_0.length c0_0, .slice (some ad347) l0_1.length c0_1] 25 (0, 0)) bk) : gb338 ≠ gb348)); have n6_ := Aside0.mk ((by rw [hg]; exact Nat.ne_of_gt (blk_lt (g := gb338) (o := .cells #[.slice A0_0 l0_0.length c0_0, .slice (some ad347) l0_1.length c0_1] 25 (0, 0)) bk) : gb348 ≠ gb338)); clear BK338; clear HB; have BK338 := n0_; have HB := n1_; have BK348 := n2_; have GW348 := n3_; have GE348 := n4_; have NB338_348 := n5_; have NB348_338 := n6_; clear n0_ n1_ n2_ n3_ n4_ n5_ n6_; clear hb hbox hg; have hnb60 := NB348_338.out; have hnc60 := NB338_348.out; have hcz61_0 : w59.cell? ⟨gb348, 0, none⟩ = some (.int .i64 0) := (blk_cell BK348.out 0).trans rfl; have hcz61_1 : w59.cell? ⟨gb348, 1, none⟩ = some (.slice none 0 0) := (blk_cell BK348.out 1).trans rfl; have hcz61_2 : w59.cell? ⟨gb348, 2, none⟩ = some (.bool false) := (blk_cell BK348.out 2).trans rfl; have hfz61_0 := blk_frozen BK348.out 0; have hfz61_1 := blk_frozen BK348.out 1; have hfz61_2 := blk_frozen BK348.out 2) | ((with_reducible refine gate_callee (f := 38) rfl ?_); refine goesL_ (some 84) rfl rfl Tryd.func38 (by kernel_rfl) rfl #[.int .i64 ((rd_T50 l0_1 x7_4).f0), .int .i64 1, .int .i64 12] rfl (by (try simp only [List.map_toArray, List.map_cons, List.map_nil]); first | done | rfl | (simp only [List.length_drop, List.length_take]; rfl)) ?_; (with_reducible refine (skewbaldref00_In.calls ((rd_T50 l0_1 x7_4).f0) 1 12 true _ A50.out).mono ?_); rintro e w' ⟨rfl, ⟨nd, rfl⟩⟩; refine ⟨_, rfl, ?_⟩))
                 go_roundg kj43
                 case measure => have := HJ1.out; have := HK2.out; have := HJ16.out; have := HK4.out; have := HJ43.out; omega
                 case rel => exact ⟨(false), (wrap64 (x7_4 + 1)), (by first | rfl | (simp; done) | (simp [*]; done)), (by first | rfl | (simp; done) | (simp [*]; done)), H', ⟨by have := HJ1.out; have := HK2.out; have := HJ16.out; have := HK4.out; have := HJ43.out; omega⟩, ⟨by (with_reducible repeat (first | refine blk_drewN ?_ _ | refine blk_drew ?_ | refine blk_alloc ?_ _)); refine blk_far ?_ NB338_348.out _; (with_reducible repeat (first | refine blk_drewN ?_ _ | refine blk_drew ?_ | refine blk_alloc ?_ _)); refine blk_far ?_ NB338_348.out _; (with_reducible repeat (first | refine blk_drewN ?_ _ | refine blk_drew ?_ | refine blk_alloc ?_ _)); refine blk_far ?_ NB338_348.out _; (with_reducible repeat (first | refine blk_drewN ?_ _ | refine blk_drew ?_ | refine blk_alloc ?_ _)); exact BK338.out⟩, ⟨bl⟩⟩
               ·replace c51 := Bool.eq_false_iff.mpr c51
                subst c51
                have H1 : (skewbaldlaw01_sound.l2 kj43 false (wrap64 (x7_4 + 1)) l0_0 l0_1) = some r := by rw [if_neg (show ¬ (false = true) by decide)] at H; exact H
                clear H
                have H := H1
                clear H1
                have H' := Aside0.mk H
                clear H
                have hcz62_0 : wc.cell? ⟨gb338, 0, none⟩ = some (.slice A0_0 l0_0.length c0_0) := (blk_cell BK338.out 0).trans rfl
                have hcz62_1 : wc.cell? ⟨gb338, 1, none⟩ = some (.slice A0_1 l0_1.length c0_1) := (blk_cell BK338.out 1).trans rfl
                have hfz62_0 := blk_frozen BK338.out 0
                have hfz62_1 := blk_frozen BK338.out 1
                have p347 : 0 ≤ (x7_4 : Int) := of_decide_eq_true (by first | (with_reducible assumption) | assumption)
                have q347 : x7_4 < (l0_1.length : Int) := of_decide_eq_true (by first | (with_reducible assumption) | assumption)
                obtain ⟨ad347, A347_1, c347_1, e347, hx347_0, hx347_1, hx347_2, hl347_1, hi347_1⟩ := at_T50 HR0_1.out x7_4 p347 q347
                cases e347
                replace hx347_0 := (HB.out.cell (World.block_lt_of_cell? w _ hx347_0)).trans hx347_0
                replace hx347_1 := (HB.out.cell (World.block_lt_of_cell? w _ hx347_1)).trans hx347_1
                replace hx347_2 := (HB.out.cell (World.block_lt_of_cell? w _ hx347_2)).trans hx347_2
                have HR347_1 := Aside0.mk hi347_1
                have HC347_1 := Aside0.mk hl347_1
                clear hi347_1 hl347_1
                replace p347 := eq_true p347
                replace q347 := eq_true q347
                go_wp2_with (first | ((with_reducible refine gate_dst (N := 8) rfl ?_); (try (refine gate_guard (by rfl) ?_; dsimp only)); refine box_event ?hg (N := 8) ?hd (cs := #[.int .i64 0, .slice none 0 0, .bool false]) (t := 50) ?hr ?_; (case hd => rfl); (case hg => rfl); (case hr => first | (go_simp; done) | (go_simp; rfl)); intro gb348 hg w63 hbox hb; have n0_ := Aside0.mk (blk_below (g := gb338) (o := .cells #[.slice A0_0 l0_0.length c0_0, .slice (some ad347) l0_1.length c0_1] 25 (0, 0)) bk hb); have n1_ := Aside0.mk (below_step bl hb); have n2_ := Aside0.mk (hbox); have n3_ := Aside0.mk ((by rw [hg]; exact (below_size bl) : w.heap.size ≤ gb348)); have n4_ := Aside0.mk ((by rw [hg]; exact (below_size bl) : w.heap.size ≤ gb348)); have n5_ := Aside0.mk ((by rw [hg]; exact Nat.ne_of_lt (blk_lt (g := gb338) (o := .cells #[.slice A0_0 l0_0.length c0_0, .slice (some ad347) l0_1.length c0_1] 25 (0, 0)) bk) : gb338 ≠ gb348)); have n6_ := Aside0.mk ((by rw [hg]; exact Nat.ne_of_gt (blk_lt (g := gb338) (o := .cells #[.slice A0_0 l0_0.length c0_0, .slice (some ad347) l0_1.length c0_1] 25 (0, 0)) bk) : gb348 ≠ gb338)); clear BK338; clear HB; have BK338 := n0_; have HB := n1_; have BK348 := n2_; have GW348 := n3_; have GE348 := n4_; have NB338_348 := n5_; have NB348_338 := n6_; clear n0_ n1_ n2_ n3_ n4_ n5_ n6_; clear hb hbox hg; have hnb64 := NB348_338.out; have hnc64 := NB338_348.out; have hcz65_0 : w63.cell? ⟨gb348, 0, none⟩ = some (.int .i64 0) := (blk_cell BK348.out 0).trans rfl; have hcz65_1 : w63.cell? ⟨gb348, 1, none⟩ = some (.slice none 0 0) := (blk_cell BK348.out 1).trans rfl; have hcz65_2 : w63.cell? ⟨gb348, 2, none⟩ = some (.bool false) := (blk_cell BK348.out 2).trans rfl; have hfz65_0 := blk_frozen BK348.out 0; have hfz65_1 := blk_frozen BK348.out 1; have hfz65_2 := blk_frozen BK348.out 2) | ((with_reducible refine gate_callee (f := 38) rfl ?_); refine goesL_ (some 84) rfl rfl Tryd.func38 (by kernel_rfl) rfl #[.int .i64 ((rd_T50 l0_1 x7_4).f0), .int .i64 1, .int .i64 12] rfl (by (try simp only [List.map_toArray, List.map_cons, List.map_nil]); first | done | rfl | (simp only [List.length_drop, List.length_take]; rfl)) ?_; (with_reducible refine (skewbaldref00_In.calls ((rd_T50 l0_1 x7_4).f0) 1 12 false _ A50.out).mono ?_); rintro e w' ⟨rfl, ⟨nd, rfl⟩⟩; refine ⟨_, rfl, ?_⟩))
                go_roundg kj43
                case measure => have := HJ1.out; have := HK2.out; have := HJ16.out; have := HK4.out; have := HJ43.out; omega
                case rel => exact ⟨(false), (wrap64 (x7_4 + 1)), (by first | rfl | (simp; done) | (simp [*]; done)), (by first | rfl | (simp; done) | (simp [*]; done)), H', ⟨by have := HJ1.out; have := HK2.out; have := HJ16.out; have := HK4.out; have := HJ43.out; omega⟩, ⟨by (with_reducible repeat (first | refine blk_drewN ?_ _ | refine blk_drew ?_ | refine blk_alloc ?_ _)); refine blk_far ?_ NB338_348.out _; (with_reducible repeat (first | refine blk_drewN ?_ _ | refine blk_drew ?_ | refine blk_alloc ?_ _)); refine blk_far ?_ NB338_348.out _; (with_reducible repeat (first | refine blk_drewN ?_ _ | refine blk_drew ?_ | refine blk_alloc ?_ _)); refine blk_far ?_ NB338_348.out _; (with_reducible repeat (first | refine blk_drewN ?_ _ | refine blk_drew ?_ | refine blk_alloc ?_ _)); exact BK338.out⟩, ⟨bl⟩⟩
              ·rw [if_neg c49] at H
               exact absurd H (by simp)
             ·rw [if_neg c48] at H
              exact absurd H (by simp)
            ·replace c47 := Bool.eq_false_iff.mpr c47
             subst c47
             have H1 : (some x3_4) = some r := by rw [if_neg (show ¬ (false = true) by decide)] at H; exact H
             clear H
             have H := H1
             clear H1
             obtain rfl := Option.some.inj H
             go_wp2
             go_ret
             exact ⟨by first | rfl | (simp [errW_none, errW_some] <;> rfl) | (simp [*, errW_none, errW_some] <;> rfl), bl⟩
end Go.Proofs.YtekjlpldooihhaaDoor.PT
namespace Go.Proofs.YtekjlpldooihhaaDoor.PT
open Go.Proofs.YtekjlpldooihhaaDoorSh
open Go.Proofs.YtekjlpldooihhaaDoor.PA (S48 S50 S60 at_L2 at_L4 at_T48 at_T50 at_T60 errW errW_none errW_some k48 k48_mk k48_mkM k48_open k48_openM k50 k50_mk k50_mkM k50_open k50_openM k60 k60_mk k60_mkM k60_open k60_openM rd_L2 rd_L4 rd_T48 rd_T50 rd_T60 z48 z50 z60)
open Go.Proofs.YtekjlpldooihhaaDoorP Go.Proofs.YtekjlpldooihhaaDoorK
open Go.RowKit Go.Proofs.YtekjlpldooihhaaDoorW.PrintWords Go.Proofs.YtekjlpldooihhaaDoorW.PrintLast Go.Proofs.YtekjlpldooihhaaDoorW.PrintMore
attribute [local go_sem] max2_int min2_int max_two min_two max_three min_three max_four min_four   -- for this text's walks alone
set_option linter.unusedVariables false
set_option linter.unusedSimpArgs false
def skewbaldref00_Of.f (a0 : Int) (a1 : Int) : Option (Bool) := if 0 ≤ a1 then (some ((Go.bits .and .i64 (shr .i64 a0 a1) 1) == 1)) else (none)
set_option maxHeartbeats 8000000 in
set_option maxRecDepth 100000 in
theorem skewbaldref00_Of.calls (a0 : Int) (a1 : Int) (r : Bool) (w : World) (h : skewbaldref00_Of.f a0 a1 = some r) :
  Calls Tryd.prog 95 #[.int .i64 a0, .int .i64 a1] w fun e w' => e = .returned (.bool r) ∧ Drawn0 w w' := by
 have H : (if 0 ≤ a1 then (some ((Go.bits .and .i64 (shr .i64 a0 a1) 1) == 1)) else (none)) = some r := h
 clear h
 by_cases c3 : 0 ≤ a1
 ·rw [if_pos c3] at H
  have c3b0 := eq_true c3
  have c3b1 : decide (0 ≤ a1) = true := decide_eq_true c3
  clear c3
  obtain ⟨ji4, hji4⟩ : ∃ j_ : Int, (shr .i64 a0 a1) = j_ := ⟨_, rfl⟩
  replace H : (some ((Go.bits .and .i64 (ji4) 1) == 1)) = some r := by first | (rw [hji4] at H; exact H) | (simp only [hji4] at H ⊢; exact H)
  have hji4_ : (a0 / 2 ^ min a1.toNat 64) = ji4 := hji4
  have hji4z : a1 ≤ 64 → (a0 / 2 ^ a1.toNat) = ji4 := shr_small hji4
  obtain rfl := Option.some.inj H
  go_enter Tryd.func95, Tryd.ntmps95
  go_wp2
  go_ret
  exact ⟨by first | rfl | (simp; done) | (simp only [← hji4] <;> (first | rfl | simp)) | (simp [*]; done), by repeat (first | exact Drawn0.refl _ | apply Drawn0.step)⟩
 ·rw [if_neg c3] at H
  exact absurd H (by simp)
def skewbaldref00_List.l0 : Nat → Int → Int → List Int → Int → Option (List Int)
 | 0, _, _, _, _ => none
 | k + 1, x0, x1, x5, x6 => if x6 < x1 then ((skewbaldref00_Of.f x0 x6).bind fun t217 => (if t217 = true then (if x5.length < 17592186044416 then (skewbaldref00_List.l0 k x0 x1 (x5 ++ [x6]) (wrap64 (x6 + 1))) else (none)) else (skewbaldref00_List.l0 k x0 x1 x5 (wrap64 (x6 + 1))))) else (some x5)
def skewbaldref00_List.f (k : Nat) (a0 : Int) (a1 : Int) : Option (List Int) := skewbaldref00_List.l0 k a0 a1 (([] : List Int)) 0
mutual
def skewbaldref00_Less.l0 : Nat → List Int → List Int → Int → Option (Bool)
 | 0, _, _, _ => none
 | k + 1, x0, x1, x5 => if x5 < (x0.length : Int) then (skewbaldref00_Less.j1 k x0 x1 x5 (decide (x5 < (x1.length : Int)))) else (skewbaldref00_Less.j1 k x0 x1 x5 false)
def skewbaldref00_Less.j1 : Nat → List Int → List Int → Int → Bool → Option (Bool)
 | 0, _, _, _, _ => none
 | k + 1, x0, x1, x5, x15 => if x15 = true then (if 0 ≤ x5 then (if x5 < (x0.length : Int) then (if x5 < (x1.length : Int) then (if (rd x0 x5) = (rd x1 x5) then (skewbaldref00_Less.l0 k x0 x1 (wrap64 (x5 + 1))) else (some (decide ((rd x0 x5) < (rd x1 x5))))) else (none)) else (none)) else (none)) else (some (decide ((x0.length : Int) < (x1.length : Int))))
end
def skewbaldref00_Less.f (k : Nat) (l0 : List Int) (l1 : List Int) : Option (Bool) := skewbaldref00_Less.l0 k l0 l1 0
def skewbaldref00_Shorter.f (k : Nat) (l0 : List Int) (l1 : List Int) : Option (Bool) := if (l0.length : Int) = (l1.length : Int) then ((skewbaldref00_Less.f k l0 l1).bind fun t225 => (some t225)) else (some (decide ((l0.length : Int) < (l1.length : Int))))
end Go.Proofs.YtekjlpldooihhaaDoor.PT
