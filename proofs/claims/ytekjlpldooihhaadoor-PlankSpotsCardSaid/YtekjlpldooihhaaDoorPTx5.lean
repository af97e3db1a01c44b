/- Printed by a program (prx.py). -/
import Derived.Test.YtekjlpldooihhaaDoorPAx0
import Derived.Test.YtekjlpldooihhaaDoorPv
import Derived.Test.YtekjlpldooihhaaDoorPTx3
namespace Go.Proofs.YtekjlpldooihhaaDoor.PT
open Go.Proofs.YtekjlpldooihhaaDoorSh
open Go.Proofs.YtekjlpldooihhaaDoor.PA (S48 S50 S60 at_L2 at_L4 at_T48 at_T50 at_T60 errW errW_none errW_some k48 k48_mk k48_mkM k48_open k48_openM k50 k50_mk k50_mkM k50_open k50_openM k60 k60_mk k60_mkM k60_open k60_openM rd_L2 rd_L4 rd_T48 rd_T50 rd_T60 z48 z50 z60)
open Go.Proofs.YtekjlpldooihhaaDoorP Go.Proofs.YtekjlpldooihhaaDoorK
open Go.RowKit Go.Proofs.YtekjlpldooihhaaDoorW.PrintWords Go.Proofs.YtekjlpldooihhaaDoorW.PrintLast Go.Proofs.YtekjlpldooihhaaDoorW.PrintMore
attribute [local go_sem] max2_int min2_int max_two min_two max_three min_three max_four min_four   -- for this text's walks alone
set_option linter.unusedVariables false
set_option linter.unusedSimpArgs false
def skewbaldref01_can.j0 : Nat → List Int → List Int → Bool → Int → List (S60) → Int → List Int → Bool → Option (Int)
 | 0, _, _, _, _, _, _, _, _ => none
 | k + 1, x11, x12, x40, x153000, x153001, x154000, x154001, x154002 => if x40 = true then (some 2) else ((skewbaldref01_may.f k x153000 x153001 x11).bind fun t162 => (if t162 = true then (some 1) else (if x154002 = true then ((skewbaldref01_may.f k x153000 x153001 x12).bind fun t163 => (if t163 = true then (some 1) else (some 0))) else (some 0))))
def skewbaldref01_can.f (k : Nat) (l0_0 : List (S48)) (l0_1 : List (S50)) (a1 : Int) (a2 : Int) (a3 : Int) : Option (Int) := if 0 ≤ a1 then (if a1 < (l0_0.length : Int) then (if 0 ≤ a2 then (if a2 < (l0_1.length : Int) then ((skewbaldref01_joints.f k ((rd_T50 l0_1 a2).f0) ((rd_T50 l0_1 a2).f1) ((rd_T50 l0_1 a2).f2) a3 false).bind fun t154 => ((skewbaldref01_joints.f k ((rd_T50 l0_1 a2).f0) ((rd_T50 l0_1 a2).f1) ((rd_T50 l0_1 a2).f2) a3 true).bind fun t157 => ((skewbaldref01_sure.f k ((rd_T48 l0_0 a1).f0) ((rd_T48 l0_0 a1).f1) t154).bind fun t160 => (if t160 = true then (skewbaldref01_can.j0 k t154 t157 true ((rd_T48 l0_0 a1).f0) ((rd_T48 l0_0 a1).f1) ((rd_T50 l0_1 a2).f0) ((rd_T50 l0_1 a2).f1) ((rd_T50 l0_1 a2).f2)) else (if (rd_T50 l0_1 a2).f2 = true then ((skewbaldref01_sure.f k ((rd_T48 l0_0 a1).f0) ((rd_T48 l0_0 a1).f1) t157).bind fun t161 => (skewbaldref01_can.j0 k t154 t157 t161 ((rd_T48 l0_0 a1).f0) ((rd_T48 l0_0 a1).f1) ((rd_T50 l0_1 a2).f0) ((rd_T50 l0_1 a2).f1) ((rd_T50 l0_1 a2).f2))) else (skewbaldref01_can.j0 k t154 t157 false ((rd_T48 l0_0 a1).f0) ((rd_T48 l0_0 a1).f1) ((rd_T50 l0_1 a2).f0) ((rd_T50 l0_1 a2).f1) ((rd_T50 l0_1 a2).f2))))))) else (none)) else (none)) else (none)) else (none)
def skewbaldref01_can.T1 : Bool × List (List Nat × List Nat) := (true, [([], []), ([0], [0]), ([], []), ([1, 2], [1, 2]), ([3], [3]), ([], []), ([5], [5]), ([], []), ([6, 7], [6, 7]), ([8], [8]), ([], []), ([], []), ([10, 4, 0, 1, 2, 3, 4, 10, 11], [4, 10]), ([11, 9, 12, 0, 1, 2, 3, 4, 5, 6, 7, 8, 9, 10, 11, 12], [9, 11])])
def skewbaldref01_can.B1 : List Nat := [0, 1, 0, 7, 15, 0, 32, 0, 224, 480, 0, 0, 3103, 8191]
theorem skewbaldref01_can.tab1 : rtab .any (opsOf Tryd.f69 1) = skewbaldref01_can.T1 := by kernel_rfl
theorem skewbaldref01_can.bits1 : waitsOk skewbaldref01_can.T1.2 skewbaldref01_can.B1 = true := by kernel_rfl
def skewbaldref01_can.T2 : Bool × List (List Nat × List Nat) := (true, [([], []), ([], []), ([0, 1], [0, 1]), ([], []), ([], []), ([3, 4, 2], [3, 4]), ([2, 5, 0, 1, 2], [2]), ([5, 6, 0, 1, 2, 3, 4, 5, 6], [5])])
def skewbaldref01_can.B2 : List Nat := [0, 0, 3, 0, 0, 31, 63, 127]
theorem skewbaldref01_can.tab2 : rtab .any (opsOf Tryd.f69 2) = skewbaldref01_can.T2 := by kernel_rfl
theorem skewbaldref01_can.bits2 : waitsOk skewbaldref01_can.T2.2 skewbaldref01_can.B2 = true := by kernel_rfl
set_option maxHeartbeats 8000000 in
set_option maxRecDepth 100000 in
theorem skewbaldref01_can.calls (k : Nat) (A0_0 : Option Addr) (c0_0 : Nat) (l0_0 : List (S48)) (A0_1 : Option Addr) (c0_1 : Nat) (l0_1 : List (S50)) (a1 : Int) (a2 : Int) (a3 : Int) (r : Int) (w : World) (hr0_0 : Kd.C k48 w A0_0 l0_0.length l0_0) (hc0_0 : l0_0.length ≤ c0_0) (hr0_1 : Kd.C k50 w A0_1 l0_1.length l0_1) (hc0_1 : l0_1.length ≤ c0_1) (h : skewbaldref01_can.f k l0_0 l0_1 a1 a2 a3 = some r) :
  Calls Tryd.prog 69 #[.agg #[.slice A0_0 l0_0.length c0_0, .slice A0_1 l0_1.length c0_1], .int .i64 a1, .int .i64 a2, .int .i64 a3] w fun e w' => e = .returned (.int .i64 r) ∧ Below w.heap.size w w' := by
 have hu25 := Tryd.underlying25
 have hu48 := Tryd.underlying48
 have hu50 := Tryd.underlying50
 have HR0_0 := Aside0.mk hr0_0
 have HC0_0 := Aside0.mk hc0_0
 clear hr0_0 hc0_0
 have HR0_1 := Aside0.mk hr0_1
 have HC0_1 := Aside0.mk hc0_1
 clear hr0_1 hc0_1
 have HB := Aside0.mk (Below.refl w.heap.size w)
 have H : (if 0 ≤ a1 then (if a1 < (l0_0.length : Int) then (if 0 ≤ a2 then (if a2 < (l0_1.length : Int) then ((skewbaldref01_joints.f k ((rd_T50 l0_1 a2).f0) ((rd_T50 l0_1 a2).f1) ((rd_T50 l0_1 a2).f2) a3 false).bind fun t154 => ((skewbaldref01_joints.f k ((rd_T50 l0_1 a2).f0) ((rd_T50 l0_1 a2).f1) ((rd_T50 l0_1 a2).f2) a3 true).bind fun t157 => ((skewbaldref01_sure.f k ((rd_T48 l0_0 a1).f0) ((rd_T48 l0_0 a1).f1) t154).bind fun t160 => (if t160 = true then (skewbaldref01_can.j0 k t154 t157 true ((rd_T48 l0_0 a1).f0) ((rd_T48 l0_0 a1).f1) ((rd_T50 l0_1 a2).f0) ((rd_T50 l0_1 a2).f1) ((rd_T50 l0_1 a2).f2)) else (if (rd_T50 l0_1 a2).f2 = true then ((skewbaldref01_sure.f k ((rd_T48 l0_0 a1).f0) ((rd_T48 l0_0 a1).f1) t157).bind fun t161 => (skewbaldref01_can.j0 k t154 t157 t161 ((rd_T48 l0_0 a1).f0) ((rd_T48 l0_0 a1).f1) ((rd_T50 l0_1 a2).f0) ((rd_T50 l0_1 a2).f1) ((rd_T50 l0_1 a2).f2))) else (skewbaldref01_can.j0 k t154 t157 false ((rd_T48 l0_0 a1).f0) ((rd_T48 l0_0 a1).f1) ((rd_T50 l0_1 a2).f0) ((rd_T50 l0_1 a2).f1) ((rd_T50 l0_1 a2).f2))))))) else (none)) else (none)) else (none)) else (none)) = some r := h
 clear h
 by_cases c5 : 0 ≤ a1
 ·rw [if_pos c5] at H
  have c5b0 : decide (0 ≤ a1) = true := decide_eq_true c5
  clear c5
  by_cases c6 : a1 < (l0_0.length : Int)
  ·rw [if_pos c6] at H
   have c6b0 : decide (a1 < (l0_0.length : Int)) = true := decide_eq_true c6
   clear c6
   by_cases c7 : 0 ≤ a2
   ·rw [if_pos c7] at H
    have c7b0 : decide (0 ≤ a2) = true := decide_eq_true c7
    clear c7
    by_cases c8 : a2 < (l0_1.length : Int)
    ·rw [if_pos c8] at H
     have c8b0 : decide (a2 < (l0_1.length : Int)) = true := decide_eq_true c8
     clear c8
     replace H := Option.bind_eq_some_iff.mp H
     obtain ⟨t154, A90, H⟩ := H
     replace H : ((skewbaldref01_joints.f k ((rd_T50 l0_1 a2).f0) ((rd_T50 l0_1 a2).f1) ((rd_T50 l0_1 a2).f2) a3 true).bind fun t157 => ((skewbaldref01_sure.f k ((rd_T48 l0_0 a1).f0) ((rd_T48 l0_0 a1).f1) t154).bind fun t160 => (if t160 = true then (skewbaldref01_can.j0 k t154 t157 true ((rd_T48 l0_0 a1).f0) ((rd_T48 l0_0 a1).f1) ((rd_T50 l0_1 a2).f0) ((rd_T50 l0_1 a2).f1) ((rd_T50 l0_1 a2).f2)) else (if (rd_T50 l0_1 a2).f2 = true then ((skewbaldref01_sure.f k ((rd_T48 l0_0 a1).f0) ((rd_T48 l0_0 a1).f1) t157).bind fun t161 => (skewbaldref01_can.j0 k t154 t157 t161 ((rd_T48 l0_0 a1).f0) ((rd_T48 l0_0 a1).f1) ((rd_T50 l0_1 a2).f0) ((rd_T50 l0_1 a2).f1) ((rd_T50 l0_1 a2).f2))) else (skewbaldref01_can.j0 k t154 t157 false ((rd_T48 l0_0 a1).f0) ((rd_T48 l0_0 a1).f1) ((rd_T50 l0_1 a2).f0) ((rd_T50 l0_1 a2).f1) ((rd_T50 l0_1 a2).f2)))))) = some r := H
     have A9 := Aside0.mk A90
     clear A90
     replace H := Option.bind_eq_some_iff.mp H
     obtain ⟨t157, A100, H⟩ := H
     replace H : ((skewbaldref01_sure.f k ((rd_T48 l0_0 a1).f0) ((rd_T48 l0_0 a1).f1) t154).bind fun t160 => (if t160 = true then (skewbaldref01_can.j0 k t154 t157 true ((rd_T48 l0_0 a1).f0) ((rd_T48 l0_0 a1).f1) ((rd_T50 l0_1 a2).f0) ((rd_T50 l0_1 a2).f1) ((rd_T50 l0_1 a2).f2)) else (if (rd_T50 l0_1 a2).f2 = true then ((skewbaldref01_sure.f k ((rd_T48 l0_0 a1).f0) ((rd_T48 l0_0 a1).f1) t157).bind fun t161 => (skewbaldref01_can.j0 k t154 t157 t161 ((rd_T48 l0_0 a1).f0) ((rd_T48 l0_0 a1).f1) ((rd_T50 l0_1 a2).f0) ((rd_T50 l0_1 a2).f1) ((rd_T50 l0_1 a2).f2))) else (skewbaldref01_can.j0 k t154 t157 false ((rd_T48 l0_0 a1).f0) ((rd_T48 l0_0 a1).f1) ((rd_T50 l0_1 a2).f0) ((rd_T50 l0_1 a2).f1) ((rd_T50 l0_1 a2).f2))))) = some r := H
     have A10 := Aside0.mk A100
     clear A100
     have HC11 := Aside0.mk H
     clear H
     go_enter Tryd.func69, Tryd.ntmps69
     try go_wp2_with (first | ((with_reducible refine gate_dst (N := 4) rfl ?_); refine box_event ?hg (N := 4) ?hd (cs := #[.slice A0_0 l0_0.length c0_0, .slice A0_1 l0_1.length c0_1]) (t := 25) ?hr ?_; (case hd => rfl); (case hg => rfl); (case hr => first | (go_simp; done) | (go_simp; rfl)); intro gb149 hg w12 hbox hb; have n0_ := Aside0.mk (below_step bl hb); have n1_ := Aside0.mk (hbox); have n2_ := Aside0.mk ((by rw [hg]; exact (below_size bl) : w.heap.size ≤ gb149)); have n3_ := Aside0.mk ((by rw [hg]; exact (below_size bl) : w.heap.size ≤ gb149)); clear HB; have HB := n0_; have BK149 := n1_; have GW149 := n2_; have GE149 := n3_; clear n0_ n1_ n2_ n3_; clear hb hbox hg))
     have n0_ := Aside0.mk (blk_drew BK149.out)
     have n1_ := Aside0.mk (below_drew1 HB.out)
     clear BK149
     clear HB
     have BK149 := n0_
     have HB := n1_
     clear n0_ n1_
     have p150 : 0 ≤ (a1 : Int) := of_decide_eq_true (by first | (with_reducible assumption) | assumption)
     have q150 : a1 < (l0_0.length : Int) := of_decide_eq_true (by first | (with_reducible assumption) | assumption)
     obtain ⟨ad150, A150_1, c150_1, e150, hx150_0, hx150_1, hl150_1, hi150_1⟩ := at_T48 HR0_0.out a1 p150 q150
     have hw150_1 := hx150_1
     have hw150_0 := hx150_0
     cases e150
     replace hx150_0 := (HB.out.cell (World.block_lt_of_cell? w _ hx150_0)).trans hx150_0
     replace hx150_1 := (HB.out.cell (World.block_lt_of_cell? w _ hx150_1)).trans hx150_1
     have HR150_1 := Aside0.mk hi150_1
     have HC150_1 := Aside0.mk hl150_1
     clear hi150_1 hl150_1
     replace p150 := eq_true p150
     replace q150 := eq_true q150
     have p151 : 0 ≤ (a2 : Int) := of_decide_eq_true (by first | (with_reducible assumption) | assumption)
     have q151 : a2 < (l0_1.length : Int) := of_decide_eq_true (by first | (with_reducible assumption) | assumption)
     obtain ⟨ad151, A151_1, c151_1, e151, hx151_0, hx151_1, hx151_2, hl151_1, hi151_1⟩ := at_T50 HR0_1.out a2 p151 q151
     have hw151_2 := hx151_2
     have hw151_1 := hx151_1
     have hw151_0 := hx151_0
     cases e151
     replace hx151_0 := (HB.out.cell (World.block_lt_of_cell? w _ hx151_0)).trans hx151_0
     replace hx151_1 := (HB.out.cell (World.block_lt_of_cell? w _ hx151_1)).trans hx151_1
     replace hx151_2 := (HB.out.cell (World.block_lt_of_cell? w _ hx151_2)).trans hx151_2
     have HR151_1 := Aside0.mk hi151_1
     have HC151_1 := Aside0.mk hl151_1
     clear hi151_1 hl151_1
     replace p151 := eq_true p151
     replace q151 := eq_true q151
     refine start_ (n := 14) (S := fun w' => w'.cell? ⟨gb149, 0, none⟩ = some (.slice (some ad150) l0_0.length c0_0) ∧ w'.cell? ⟨gb149, 1, none⟩ = some (.slice (some ad151) l0_1.length c0_1) ∧ w'.cell? (ad150.add ((a1).toNat * 2)) = some (.int .i64 ((rd_T48 l0_0 a1).f0)) ∧ w'.cell? ⟨(ad150.add ((a1).toNat * 2)).block, (ad150.add ((a1).toNat * 2)).off + 1, none⟩ = some (.slice A150_1 ((rd_T48 l0_0 a1).f1).length c150_1) ∧ w'.cell? (ad151.add ((a2).toNat * 3)) = some (.int .i64 ((rd_T50 l0_1 a2).f0)) ∧ w'.cell? ⟨(ad151.add ((a2).toNat * 3)).block, (ad151.add ((a2).toNat * 3)).off + 1, none⟩ = some (.slice A151_1 ((rd_T50 l0_1 a2).f1).length c151_1) ∧ w'.cell? ⟨(ad151.add ((a2).toNat * 3)).block, (ad151.add ((a2).toNat * 3)).off + 2, none⟩ = some (.bool ((rd_T50 l0_1 a2).f2))) (ds := []) #[false, false, false, false, false, false, false, false, false, false, false, false, false, false] (by kernel_rfl) rfl rfl ⟨(blk_cell BK149.out 0).trans rfl, (blk_cell BK149.out 1).trans rfl, ((HB.out.cell (World.block_lt_of_cell? w _ hw150_0)).trans hw150_0), ((HB.out.cell (World.block_lt_of_cell? w _ hw150_1)).trans hw150_1), ((HB.out.cell (World.block_lt_of_cell? w _ hw151_0)).trans hw151_0), ((HB.out.cell (World.block_lt_of_cell? w _ hw151_1)).trans hw151_1), ((HB.out.cell (World.block_lt_of_cell? w _ hw151_2)).trans hw151_2)⟩ (fun hHeld => ?_); refine with_tabW skewbaldref01_can.tab1 skewbaldref01_can.bits1 (fun HT_ HW_ => ?_)
     generalize w12.drew = w13 at BK149 HB HR150_1 HR151_1 hx150_0 hx150_1 hx151_0 hx151_1 hx151_2 hHeld ⊢
     refine pure_ (i := 0) (N := some 13) (v := ?_) (a' := ?_) #[true, false, false, false, false, false, false, false, false, false, false, false, false, false] rfl rfl (any_of HT_.out (by kernel_rfl)) (fun _ _ _ h => h) (Or.inl ⟨by rfl, ?_⟩) ?_ ?_
     rotate_left
     ·intro w'
      go_simp
      with_reducible rfl
     rotate_left
     ·simp only [Act.put, List.setIfInBounds_toArray, List.set_cons_zero, List.set_cons_succ, i64_w, i32_w]
      rfl
     refine pure_ (i := 2) (N := some 15) (v := ?_) (a' := ?_) #[true, false, true, false, false, false, false, false, false, false, false, false, false, false] rfl rfl (any_of HT_.out (by kernel_rfl)) (fun _ _ _ h => h) (Or.inl ⟨by rfl, ?_⟩) ?_ ?_
     rotate_left
     ·intro w'
      go_simp
      with_reducible rfl
     rotate_left
     ·simp only [Act.put, List.setIfInBounds_toArray, List.set_cons_zero, List.set_cons_succ, i64_w, i32_w]
      rfl
     refine pure_ (i := 5) (N := some 18) (v := ?_) (a' := ?_) #[true, false, true, false, false, true, false, false, false, false, false, false, false, false] rfl rfl (any_of HT_.out (by kernel_rfl)) (fun _ _ _ h => h) (Or.inl ⟨by rfl, ?_⟩) ?_ ?_
     rotate_left
     ·intro w'
      go_simp
      with_reducible rfl
     rotate_left
     ·simp only [Act.put, List.setIfInBounds_toArray, List.set_cons_zero, List.set_cons_succ, i64_w, i32_w]
      rfl
     refine pure_ (i := 7) (N := some 20) (v := ?_) (a' := ?_) #[true, false, true, false, false, true, false, true, false, false, false, false, false, false] rfl rfl (any_of HT_.out (by kernel_rfl)) (fun _ _ _ h => h) (Or.inl ⟨by rfl, ?_⟩) ?_ ?_
     rotate_left
     ·intro w'
      go_simp
      with_reducible rfl
     rotate_left
     ·simp only [Act.put, List.setIfInBounds_toArray, List.set_cons_zero, List.set_cons_succ, i64_w, i32_w]
      rfl
     refine take_ (i := 1) (N := some 14) (v := ?_) (a' := ?_) #[true, true, true, false, false, true, false, true, false, false, false, false, false, false] rfl rfl (take_ofW HT_.out HW_.out (by kernel_rfl)) (fun _ _ _ h => h) (Or.inl ⟨by rfl, ?_⟩) hHeld ?_ ?_
     rotate_left
     ·rintro w' ⟨s0, s1, s2, s3, s4, s5, s6⟩
      go_simp
      with_reducible rfl
     rotate_left
     ·simp only [Act.put, List.setIfInBounds_toArray, List.set_cons_zero, List.set_cons_succ, i64_w, i32_w]
      rfl
     refine pure_ (i := 3) (N := some 16) (v := ?_) (a' := ?_) #[true, true, true, true, false, true, false, true, false, false, false, false, false, false] rfl rfl (any_of HT_.out (by kernel_rfl)) (fun _ _ _ h => h) (Or.inl ⟨by rfl, ?_⟩) ?_ ?_
     rotate_left
     ·intro w'
      go_simp
      with_reducible rfl
     rotate_left
     ·simp only [Act.put, List.setIfInBounds_toArray, List.set_cons_zero, List.set_cons_succ, i64_w, i32_w]
      rfl
     refine take_ (i := 4) (N := some 17) (v := ?_) (a' := ?_) #[true, true, true, true, true, true, false, true, false, false, false, false, false, false] rfl rfl (take_ofW HT_.out HW_.out (by kernel_rfl)) (fun _ _ _ h => h) (Or.inl ⟨by rfl, ?_⟩) hHeld ?_ ?_
     rotate_left
     ·rintro w' ⟨s0, s1, s2, s3, s4, s5, s6⟩
      go_simp
      with_reducible rfl
     rotate_left
     ·simp only [Act.put, List.setIfInBounds_toArray, List.set_cons_zero, List.set_cons_succ, i64_w, i32_w]
      rfl
     refine take_ (i := 6) (N := some 19) (v := ?_) (a' := ?_) #[true, true, true, true, true, true, true, true, false, false, false, false, false, false] rfl rfl (take_ofW HT_.out HW_.out (by kernel_rfl)) (fun _ _ _ h => h) (Or.inl ⟨by rfl, ?_⟩) hHeld ?_ ?_
     rotate_left
     ·rintro w' ⟨s0, s1, s2, s3, s4, s5, s6⟩
      go_simp
      with_reducible rfl
     rotate_left
     ·simp only [Act.put, List.setIfInBounds_toArray, List.set_cons_zero, List.set_cons_succ, i64_w, i32_w]
      rfl
     refine pure_ (i := 8) (N := some 21) (v := ?_) (a' := ?_) #[true, true, true, true, true, true, true, true, true, false, false, false, false, false] rfl rfl (any_of HT_.out (by kernel_rfl)) (fun _ _ _ h => h) (Or.inl ⟨by rfl, ?_⟩) ?_ ?_
     rotate_left
     ·intro w'
      go_simp
      with_reducible rfl
     rotate_left
     ·simp only [Act.put, List.setIfInBounds_toArray, List.set_cons_zero, List.set_cons_succ, i64_w, i32_w]
      rfl
     refine take_ (i := 9) (N := some 22) (v := ?_) (a' := ?_) #[true, true, true, true, true, true, true, true, true, true, false, false, false, false] rfl rfl (take_ofW HT_.out HW_.out (by kernel_rfl)) (fun _ _ _ h => h) (Or.inl ⟨by rfl, ?_⟩) hHeld ?_ ?_
     rotate_left
     ·rintro w' ⟨s0, s1, s2, s3, s4, s5, s6⟩
      go_simp
      with_reducible rfl
     rotate_left
     ·simp only [Act.put, List.setIfInBounds_toArray, List.set_cons_zero, List.set_cons_succ, i64_w, i32_w]
      rfl
     refine join_ (σ := Nat × Nat) 2 #[true, true, true, true, true, true, true, true, true, true, true, true, false, false] (fun s_ => [(9, .pointer (some ⟨s_.1, 0, none⟩)), (10, .pointer (some ⟨s_.2, 0, none⟩))]) (fun s_ w' => (w'.cell? ⟨gb149, 0, none⟩ = some (.slice (some ad150) l0_0.length c0_0) ∧ w'.cell? ⟨gb149, 1, none⟩ = some (.slice (some ad151) l0_1.length c0_1) ∧ w'.cell? (ad150.add ((a1).toNat * 2)) = some (.int .i64 ((rd_T48 l0_0 a1).f0)) ∧ w'.cell? ⟨(ad150.add ((a1).toNat * 2)).block, (ad150.add ((a1).toNat * 2)).off + 1, none⟩ = some (.slice A150_1 ((rd_T48 l0_0 a1).f1).length c150_1) ∧ w'.cell? (ad151.add ((a2).toNat * 3)) = some (.int .i64 ((rd_T50 l0_1 a2).f0)) ∧ w'.cell? ⟨(ad151.add ((a2).toNat * 3)).block, (ad151.add ((a2).toNat * 3)).off + 1, none⟩ = some (.slice A151_1 ((rd_T50 l0_1 a2).f1).length c151_1) ∧ w'.cell? ⟨(ad151.add ((a2).toNat * 3)).block, (ad151.add ((a2).toNat * 3)).off + 2, none⟩ = some (.bool ((rd_T50 l0_1 a2).f2))) ∧ (w'.heap[gb149]? = some (.cells #[.slice (some ad150) l0_0.length c0_0, .slice (some ad151) l0_1.length c0_1] 25 (0, 0))) ∧ (w'.heap[s_.1]? = some (.cells #[.int .i64 0, .slice none 0 0] 48 (0, 0))) ∧ (w'.heap[s_.2]? = some (.cells #[.int .i64 0, .slice none 0 0, .bool false] 50 (0, 0))) ∧ (w.heap.size ≤ s_.1) ∧ (w.heap.size ≤ s_.1) ∧ (gb149 ≠ s_.1) ∧ (s_.1 ≠ gb149) ∧ (s_.2 ≠ s_.1) ∧ (s_.1 ≠ s_.2) ∧ (w.heap.size ≤ s_.2) ∧ (w.heap.size ≤ s_.2) ∧ (gb149 ≠ s_.2) ∧ (s_.2 ≠ gb149) ∧ (Below w.heap.size w w')) ?_ ?_
     rotate_left
     ·intro hCont
      refine two_ (i := 10) (j := 11) (Ni := some 9) (Nj := some 10) #[true, true, true, true, true, true, true, true, true, true, true, false, false, false] #[true, true, true, true, true, true, true, true, true, true, false, true, false, false] rfl rfl rfl rfl (two_of HT_.out (by kernel_rfl)) (by decide) (by decide) (fun K hK => ?_) (fun K hK => ?_)
      ·skip
       refine box_step ?hg (N := 9) ?hd (cs := #[.int .i64 0, .slice none 0 0]) (t := 48) ?hr ?_; (case hd => rfl); (case hg => rfl); (case hr => first | (go_simp; done) | (go_simp; rfl))
       intro gb152 hg w14 hbox hb
       have n0_ := Aside0.mk (blk_below (g := gb149) (o := .cells #[.slice (some ad150) l0_0.length c0_0, .slice (some ad151) l0_1.length c0_1] 25 (0, 0)) bk hb)
       have n1_ := Aside0.mk (below_step bl hb)
       have n2_ := Aside0.mk (hbox)
       have n3_ := Aside0.mk ((by rw [hg]; exact (below_size bl) : w.heap.size ≤ gb152))
       have n4_ := Aside0.mk ((by rw [hg]; exact (below_size bl) : w.heap.size ≤ gb152))
       have n5_ := Aside0.mk ((by rw [hg]; exact Nat.ne_of_lt (blk_lt (g := gb149) (o := .cells #[.slice (some ad150) l0_0.length c0_0, .slice (some ad151) l0_1.length c0_1] 25 (0, 0)) bk) : gb149 ≠ gb152))
       have n6_ := Aside0.mk ((by rw [hg]; exact Nat.ne_of_gt (blk_lt (g := gb149) (o := .cells #[.slice (some ad150) l0_0.length c0_0, .slice (some ad151) l0_1.length c0_1] 25 (0, 0)) bk) : gb152 ≠ gb149))
       clear BK149
       clear HB
       have BK149 := n0_
       have HB := n1_
       have BK152 := n2_
       have GW152 := n3_
       have GE152 := n4_
       have NB149_152 := n5_
       have NB152_149 := n6_
       clear n0_ n1_ n2_ n3_ n4_ n5_ n6_
       clear hb hbox hg
       refine hK.out _ _ ⟨(blk_cell BK149.out 0).trans rfl, (blk_cell BK149.out 1).trans rfl, ((HB.out.cell (World.block_lt_of_cell? w _ hw150_0)).trans hw150_0), ((HB.out.cell (World.block_lt_of_cell? w _ hw150_1)).trans hw150_1), ((HB.out.cell (World.block_lt_of_cell? w _ hw151_0)).trans hw151_0), ((HB.out.cell (World.block_lt_of_cell? w _ hw151_1)).trans hw151_1), ((HB.out.cell (World.block_lt_of_cell? w _ hw151_2)).trans hw151_2)⟩ (fun hHeld => ?_)
       clear hK K
       refine norm_ (a' := ?_) ?_ ?_
       rotate_left
       ·show Act.put _ (some 9) _ = _
        simp only [Act.put, List.setIfInBounds_toArray, List.set_cons_zero, List.set_cons_succ, i64_w, i32_w]
        rfl
       refine one_ (i := 11) (N := some 10) #[true, true, true, true, true, true, true, true, true, true, true, true, false, false] rfl rfl (one_of HT_.out (by kernel_rfl)) (by decide) (fun K hK => ?_)
       refine box_step ?hg (N := 10) ?hd (cs := #[.int .i64 0, .slice none 0 0, .bool false]) (t := 50) ?hr ?_; (case hd => rfl); (case hg => rfl); (case hr => first | (go_simp; done) | (go_simp; rfl))
       intro gb153 hg w15 hbox hb
       have n0_ := Aside0.mk (blk_below (g := gb149) (o := .cells #[.slice (some ad150) l0_0.length c0_0, .slice (some ad151) l0_1.length c0_1] 25 (0, 0)) bk hb)
       have n1_ := Aside0.mk (blk_below (g := gb152) (o := .cells #[.int .i64 0, .slice none 0 0] 48 (0, 0)) bk hb)
       have n2_ := Aside0.mk (below_step bl hb)
       have n3_ := Aside0.mk (hbox)
       have n4_ := Aside0.mk ((by rw [hg]; exact (below_size bl) : w.heap.size ≤ gb153))
       have n5_ := Aside0.mk ((by rw [hg]; exact (below_size bl) : w.heap.size ≤ gb153))
       have n6_ := Aside0.mk ((by rw [hg]; exact Nat.ne_of_lt (blk_lt (g := gb149) (o := .cells #[.slice (some ad150) l0_0.length c0_0, .slice (some ad151) l0_1.length c0_1] 25 (0, 0)) bk) : gb149 ≠ gb153))
       have n7_ := Aside0.mk ((by rw [hg]; exact Nat.ne_of_gt (blk_lt (g := gb149) (o := .cells #[.slice (some ad150) l0_0.length c0_0, .slice (some ad151) l0_1.length c0_1] 25 (0, 0)) bk) : gb153 ≠ gb149))
       have n8_ := Aside0.mk ((by rw [hg]; exact Nat.ne_of_lt (blk_lt (g := gb152) (o := .cells #[.int .i64 0, .slice none 0 0] 48 (0, 0)) bk) : gb152 ≠ gb153))
       have n9_ := Aside0.mk ((by rw [hg]; exact Nat.ne_of_gt (blk_lt (g := gb152) (o := .cells #[.int .i64 0, .slice none 0 0] 48 (0, 0)) bk) : gb153 ≠ gb152))
       clear BK149
       clear BK152
       clear HB
       have BK149 := n0_
       have BK152 := n1_
       have HB := n2_
       have BK153 := n3_
       have GW153 := n4_
       have GE153 := n5_
       have NB149_153 := n6_
       have NB153_149 := n7_
       have NB152_153 := n8_
       have NB153_152 := n9_
       clear n0_ n1_ n2_ n3_ n4_ n5_ n6_ n7_ n8_ n9_
       clear hb hbox hg
       refine hK.out _ _ ⟨(blk_cell BK149.out 0).trans rfl, (blk_cell BK149.out 1).trans rfl, ((HB.out.cell (World.block_lt_of_cell? w _ hw150_0)).trans hw150_0), ((HB.out.cell (World.block_lt_of_cell? w _ hw150_1)).trans hw150_1), ((HB.out.cell (World.block_lt_of_cell? w _ hw151_0)).trans hw151_0), ((HB.out.cell (World.block_lt_of_cell? w _ hw151_1)).trans hw151_1), ((HB.out.cell (World.block_lt_of_cell? w _ hw151_2)).trans hw151_2)⟩ (fun hHeld => ?_)
       clear hK K
       refine norm_ (a' := ?_) ?_ ?_
       rotate_left
       ·show Act.put _ (some 10) _ = _
        simp only [Act.put, List.setIfInBounds_toArray, List.set_cons_zero, List.set_cons_succ, i64_w, i32_w]
        rfl
       exact norm_ (by simp only [putAll, Act.put, List.setIfInBounds_toArray, List.set_cons_zero, List.set_cons_succ]) (hCont (gb152, gb153) _ ⟨hHeld, bk, bk, bk, GW152.out, GE152.out, NB149_152.out, NB152_149.out, NB153_152.out, NB152_153.out, GW153.out, GE153.out, NB149_153.out, NB153_149.out, bl⟩)
      ·skip
       refine box_step ?hg (N := 10) ?hd (cs := #[.int .i64 0, .slice none 0 0, .bool false]) (t := 50) ?hr ?_; (case hd => rfl); (case hg => rfl); (case hr => first | (go_simp; done) | (go_simp; rfl))
       intro gb153 hg w14 hbox hb
       have n0_ := Aside0.mk (blk_below (g := gb149) (o := .cells #[.slice (some ad150) l0_0.length c0_0, .slice (some ad151) l0_1.length c0_1] 25 (0, 0)) bk hb)
       have n1_ := Aside0.mk (below_step bl hb)
       have n2_ := Aside0.mk (hbox)
       have n3_ := Aside0.mk ((by rw [hg]; exact (below_size bl) : w.heap.size ≤ gb153))
       have n4_ := Aside0.mk ((by rw [hg]; exact (below_size bl) : w.heap.size ≤ gb153))
       have n5_ := Aside0.mk ((by rw [hg]; exact Nat.ne_of_lt (blk_lt (g := gb149) (o := .cells #[.slice (some ad150) l0_0.length c0_0, .slice (some ad151) l0_1.length c0_1] 25 (0, 0)) bk) : gb149 ≠ gb153))
       have n6_ := Aside0.mk ((by rw [hg]; exact Nat.ne_of_gt (blk_lt (g := gb149) (o := .cells #[.slice (some ad150) l0_0.length c0_0, .slice (some ad151) l0_1.length c0_1] 25 (0, 0)) bk) : gb153 ≠ gb149))
       clear BK149
       clear HB
       have BK149 := n0_
       have HB := n1_
       have BK153 := n2_
       have GW153 := n3_
       have GE153 := n4_
       have NB149_153 := n5_
       have NB153_149 := n6_
       clear n0_ n1_ n2_ n3_ n4_ n5_ n6_
       clear hb hbox hg
       refine hK.out _ _ ⟨(blk_cell BK149.out 0).trans rfl, (blk_cell BK149.out 1).trans rfl, ((HB.out.cell (World.block_lt_of_cell? w _ hw150_0)).trans hw150_0), ((HB.out.cell (World.block_lt_of_cell? w _ hw150_1)).trans hw150_1), ((HB.out.cell (World.block_lt_of_cell? w _ hw151_0)).trans hw151_0), ((HB.out.cell (World.block_lt_of_cell? w _ hw151_1)).trans hw151_1), ((HB.out.cell (World.block_lt_of_cell? w _ hw151_2)).trans hw151_2)⟩ (fun hHeld => ?_)
       clear hK K
       refine norm_ (a' := ?_) ?_ ?_
       rotate_left
       ·show Act.put _ (some 10) _ = _
        simp only [Act.put, List.setIfInBounds_toArray, List.set_cons_zero, List.set_cons_succ, i64_w, i32_w]
        rfl
       refine one_ (i := 10) (N := some 9) #[true, true, true, true, true, true, true, true, true, true, true, true, false, false] rfl rfl (one_of HT_.out (by kernel_rfl)) (by decide) (fun K hK => ?_)
       refine box_step ?hg (N := 9) ?hd (cs := #[.int .i64 0, .slice none 0 0]) (t := 48) ?hr ?_; (case hd => rfl); (case hg => rfl); (case hr => first | (go_simp; done) | (go_simp; rfl))
       intro gb152 hg w15 hbox hb
       have n0_ := Aside0.mk (blk_below (g := gb149) (o := .cells #[.slice (some ad150) l0_0.length c0_0, .slice (some ad151) l0_1.length c0_1] 25 (0, 0)) bk hb)
       have n1_ := Aside0.mk (blk_below (g := gb153) (o := .cells #[.int .i64 0, .slice none 0 0, .bool false] 50 (0, 0)) bk hb)
       have n2_ := Aside0.mk (below_step bl hb)
       have n3_ := Aside0.mk (hbox)
       have n4_ := Aside0.mk ((by rw [hg]; exact (below_size bl) : w.heap.size ≤ gb152))
       have n5_ := Aside0.mk ((by rw [hg]; exact (below_size bl) : w.heap.size ≤ gb152))
       have n6_ := Aside0.mk ((by rw [hg]; exact Nat.ne_of_lt (blk_lt (g := gb149) (o := .cells #[.slice (some ad150) l0_0.length c0_0, .slice (some ad151) l0_1.length c0_1] 25 (0, 0)) bk) : gb149 ≠ gb152))
       have n7_ := Aside0.mk ((by rw [hg]; exact Nat.ne_of_gt (blk_lt (g := gb149) (o := .cells #[.slice (some ad150) l0_0.length c0_0, .slice (some ad151) l0_1.length c0_1] 25 (0, 0)) bk) : gb152 ≠ gb149))
       have n8_ := Aside0.mk ((by rw [hg]; exact Nat.ne_of_lt (blk_lt (g := gb153) (o := .cells #[.int .i64 0, .slice none 0 0, .bool false] 50 (0, 0)) bk) : gb153 ≠ gb152))
       have n9_ := Aside0.mk ((by rw [hg]; exact Nat.ne_of_gt (blk_lt (g := gb153) (o := .cells #[.int .i64 0, .slice none 0 0, .bool false] 50 (0, 0)) bk) : gb152 ≠ gb153))
       clear BK149
       clear BK153
       clear HB
       have BK149 := n0_
       have BK153 := n1_
       have HB := n2_
       have BK152 := n3_
       have GW152 := n4_
       have GE152 := n5_
       have NB149_152 := n6_
       have NB152_149 := n7_
       have NB153_152 := n8_
       have NB152_153 := n9_
       clear n0_ n1_ n2_ n3_ n4_ n5_ n6_ n7_ n8_ n9_
       clear hb hbox hg
       refine hK.out _ _ ⟨(blk_cell BK149.out 0).trans rfl, (blk_cell BK149.out 1).trans rfl, ((HB.out.cell (World.block_lt_of_cell? w _ hw150_0)).trans hw150_0), ((HB.out.cell (World.block_lt_of_cell? w _ hw150_1)).trans hw150_1), ((HB.out.cell (World.block_lt_of_cell? w _ hw151_0)).trans hw151_0), ((HB.out.cell (World.block_lt_of_cell? w _ hw151_1)).trans hw151_1), ((HB.out.cell (World.block_lt_of_cell? w _ hw151_2)).trans hw151_2)⟩ (fun hHeld => ?_)
       clear hK K
       refine norm_ (a' := ?_) ?_ ?_
       rotate_left
       ·show Act.put _ (some 9) _ = _
        simp only [Act.put, List.setIfInBounds_toArray, List.set_cons_zero, List.set_cons_succ, i64_w, i32_w]
        rfl
       exact norm_ (by simp only [putAll, Act.put, List.setIfInBounds_toArray, List.set_cons_zero, List.set_cons_succ]) (hCont (gb152, gb153) _ ⟨hHeld, bk, bk, bk, GW152.out, GE152.out, NB149_152.out, NB152_149.out, NB153_152.out, NB152_153.out, GW153.out, GE153.out, NB149_153.out, NB153_149.out, bl⟩)
     rintro ⟨gb152, gb153⟩ w16 ⟨hS_, h0_, h1_, h2_, h3_, h4_, h5_, h6_, h7_, h8_, h9_, h10_, h11_, h12_, h13_⟩
     have n0_ : Aside0 (w16.heap[gb149]? = some (.cells #[.slice (some ad150) l0_0.length c0_0, .slice (some ad151) l0_1.length c0_1] 25 (0, 0))) := ⟨h0_⟩
     have n1_ : Aside0 (w16.heap[gb152]? = some (.cells #[.int .i64 0, .slice none 0 0] 48 (0, 0))) := ⟨h1_⟩
     have n2_ : Aside0 (w16.heap[gb153]? = some (.cells #[.int .i64 0, .slice none 0 0, .bool false] 50 (0, 0))) := ⟨h2_⟩
     have n3_ : Aside0 (w.heap.size ≤ gb152) := ⟨h3_⟩
     have n4_ : Aside0 (w.heap.size ≤ gb152) := ⟨h4_⟩
     have n5_ : Aside0 (gb149 ≠ gb152) := ⟨h5_⟩
     have n6_ : Aside0 (gb152 ≠ gb149) := ⟨h6_⟩
     have n7_ : Aside0 (gb153 ≠ gb152) := ⟨h7_⟩
     have n8_ : Aside0 (gb152 ≠ gb153) := ⟨h8_⟩
     have n9_ : Aside0 (w.heap.size ≤ gb153) := ⟨h9_⟩
     have n10_ : Aside0 (w.heap.size ≤ gb153) := ⟨h10_⟩
     have n11_ : Aside0 (gb149 ≠ gb153) := ⟨h11_⟩
     have n12_ : Aside0 (gb153 ≠ gb149) := ⟨h12_⟩
     have n13_ : Aside0 (Below w.heap.size w w16) := ⟨h13_⟩
     clear BK149
     clear HB
     clear h0_ h1_ h2_ h3_ h4_ h5_ h6_ h7_ h8_ h9_ h10_ h11_ h12_ h13_
     have BK149 := n0_
     have BK152 := n1_
     have BK153 := n2_
     have GW152 := n3_
     have GE152 := n4_
     have NB149_152 := n5_
     have NB152_149 := n6_
     have NB153_152 := n7_
     have NB152_153 := n8_
     have GW153 := n9_
     have GE153 := n10_
     have NB149_153 := n11_
     have NB153_149 := n12_
     have HB := n13_
     clear n0_ n1_ n2_ n3_ n4_ n5_ n6_ n7_ n8_ n9_ n10_ n11_ n12_ n13_
     have hHeld : w16.cell? ⟨gb149, 0, none⟩ = some (.slice (some ad150) l0_0.length c0_0) ∧ w16.cell? ⟨gb149, 1, none⟩ = some (.slice (some ad151) l0_1.length c0_1) ∧ w16.cell? (ad150.add ((a1).toNat * 2)) = some (.int .i64 ((rd_T48 l0_0 a1).f0)) ∧ w16.cell? ⟨(ad150.add ((a1).toNat * 2)).block, (ad150.add ((a1).toNat * 2)).off + 1, none⟩ = some (.slice A150_1 ((rd_T48 l0_0 a1).f1).length c150_1) ∧ w16.cell? (ad151.add ((a2).toNat * 3)) = some (.int .i64 ((rd_T50 l0_1 a2).f0)) ∧ w16.cell? ⟨(ad151.add ((a2).toNat * 3)).block, (ad151.add ((a2).toNat * 3)).off + 1, none⟩ = some (.slice A151_1 ((rd_T50 l0_1 a2).f1).length c151_1) ∧ w16.cell? ⟨(ad151.add ((a2).toNat * 3)).block, (ad151.add ((a2).toNat * 3)).off + 2, none⟩ = some (.bool ((rd_T50 l0_1 a2).f2)) := hS_
     refine norm_ (a' := ?_) ?_ ?_
     rotate_left
     ·simp only [putAll, Act.put, List.setIfInBounds_toArray, List.set_cons_zero, List.set_cons_succ]
      rfl
     refine one_ (i := 12) (N := none) #[true, true, true, true, true, true, true, true, true, true, true, true, true, false] rfl rfl (one_of HT_.out (by kernel_rfl)) (by decide) (fun K hK => ?_)
     have hs17 : w16.cell? ⟨gb152, 0, none⟩ = some (.int .i64 0) := (blk_cell BK152.out 0).trans rfl
     have hfs17 := blk_frozen BK152.out 0
     have hns17_0 := NB149_152.out
     have hns17_2 := NB153_152.out
     have hms17_0 := NB152_149.out
     have hms17_2 := NB152_153.out
     have hs18 : w16.cell? ⟨gb152, 1, none⟩ = some (.slice none 0 0) := (blk_cell BK152.out 1).trans rfl
     have hfs18 := blk_frozen BK152.out 1
     have hns18_0 := NB149_152.out
     have hns18_2 := NB153_152.out
     have hms18_0 := NB152_149.out
     have hms18_2 := NB152_153.out
     refine skip_ (w1 := ?_) (by rfl) rfl ?_ ?_
     rotate_left
     ·go_simp
      rfl
     refine hK.out _ _ ⟨((cell_far (p := ⟨gb152, _, none⟩) NB149_152.out _).trans (((cell_far (p := ⟨gb152, _, none⟩) NB149_152.out _).trans (hHeld.1)))), ((cell_far (p := ⟨gb152, _, none⟩) NB149_152.out _).trans (((cell_far (p := ⟨gb152, _, none⟩) NB149_152.out _).trans (hHeld.2.1)))), ((cell_far (p := ⟨gb152, _, none⟩) (by first | exact Nat.ne_of_lt (Nat.lt_of_lt_of_le (by have := World.block_lt_of_cell? _ _ hw150_0; first | rwa [add_block] at this | exact this) GW152.out) | (rw [add_block]; exact Nat.ne_of_lt (Nat.lt_of_lt_of_le (by have := World.block_lt_of_cell? _ _ hw150_0; first | rwa [add_block] at this | exact this) GW152.out)) | (show (Addr.add _ _).block ≠ _; rw [add_block]; exact Nat.ne_of_lt (Nat.lt_of_lt_of_le (by have := World.block_lt_of_cell? _ _ hw150_0; first | rwa [add_block] at this | exact this) GW152.out)) | (dsimp only; exact Nat.ne_of_lt (Nat.lt_of_lt_of_le (by have := World.block_lt_of_cell? _ _ hw150_0; first | rwa [add_block] at this | exact this) GW152.out))) _).trans (((cell_far (p := ⟨gb152, _, none⟩) (by first | exact Nat.ne_of_lt (Nat.lt_of_lt_of_le (by have := World.block_lt_of_cell? _ _ hw150_0; first | rwa [add_block] at this | exact this) GW152.out) | (rw [add_block]; exact Nat.ne_of_lt (Nat.lt_of_lt_of_le (by have := World.block_lt_of_cell? _ _ hw150_0; first | rwa [add_block] at this | exact this) GW152.out)) | (show (Addr.add _ _).block ≠ _; rw [add_block]; exact Nat.ne_of_lt (Nat.lt_of_lt_of_le (by have := World.block_lt_of_cell? _ _ hw150_0; first | rwa [add_block] at this | exact this) GW152.out)) | (dsimp only; exact Nat.ne_of_lt (Nat.lt_of_lt_of_le (by have := World.block_lt_of_cell? _ _ hw150_0; first | rwa [add_block] at this | exact this) GW152.out))) _).trans (hHeld.2.2.1)))), ((cell_far (p := ⟨gb152, _, none⟩) (by first | exact Nat.ne_of_lt (Nat.lt_of_lt_of_le (by have := World.block_lt_of_cell? _ _ hw150_1; first | rwa [add_block] at this | exact this) GW152.out) | (rw [add_block]; exact Nat.ne_of_lt (Nat.lt_of_lt_of_le (by have := World.block_lt_of_cell? _ _ hw150_1; first | rwa [add_block] at this | exact this) GW152.out)) | (show (Addr.add _ _).block ≠ _; rw [add_block]; exact Nat.ne_of_lt (Nat.lt_of_lt_of_le (by have := World.block_lt_of_cell? _ _ hw150_1; first | rwa [add_block] at this | exact this) GW152.out)) | (dsimp only; exact Nat.ne_of_lt (Nat.lt_of_lt_of_le (by have := World.block_lt_of_cell? _ _ hw150_1; first | rwa [add_block] at this | exact this) GW152.out))) _).trans (((cell_far (p := ⟨gb152, _, none⟩) (by first | exact Nat.ne_of_lt (Nat.lt_of_lt_of_le (by have := World.block_lt_of_cell? _ _ hw150_1; first | rwa [add_block] at this | exact this) GW152.out) | (rw [add_block]; exact Nat.ne_of_lt (Nat.lt_of_lt_of_le (by have := World.block_lt_of_cell? _ _ hw150_1; first | rwa [add_block] at this | exact this) GW152.out)) | (show (Addr.add _ _).block ≠ _; rw [add_block]; exact Nat.ne_of_lt (Nat.lt_of_lt_of_le (by have := World.block_lt_of_cell? _ _ hw150_1; first | rwa [add_block] at this | exact this) GW152.out)) | (dsimp only; exact Nat.ne_of_lt (Nat.lt_of_lt_of_le (by have := World.block_lt_of_cell? _ _ hw150_1; first | rwa [add_block] at this | exact this) GW152.out))) _).trans (hHeld.2.2.2.1)))), ((cell_far (p := ⟨gb152, _, none⟩) (by first | exact Nat.ne_of_lt (Nat.lt_of_lt_of_le (by have := World.block_lt_of_cell? _ _ hw151_0; first | rwa [add_block] at this | exact this) GW152.out) | (rw [add_block]; exact Nat.ne_of_lt (Nat.lt_of_lt_of_le (by have := World.block_lt_of_cell? _ _ hw151_0; first | rwa [add_block] at this | exact this) GW152.out)) | (show (Addr.add _ _).block ≠ _; rw [add_block]; exact Nat.ne_of_lt (Nat.lt_of_lt_of_le (by have := World.block_lt_of_cell? _ _ hw151_0; first | rwa [add_block] at this | exact this) GW152.out)) | (dsimp only; exact Nat.ne_of_lt (Nat.lt_of_lt_of_le (by have := World.block_lt_of_cell? _ _ hw151_0; first | rwa [add_block] at this | exact this) GW152.out))) _).trans (((cell_far (p := ⟨gb152, _, none⟩) (by first | exact Nat.ne_of_lt (Nat.lt_of_lt_of_le (by have := World.block_lt_of_cell? _ _ hw151_0; first | rwa [add_block] at this | exact this) GW152.out) | (rw [add_block]; exact Nat.ne_of_lt (Nat.lt_of_lt_of_le (by have := World.block_lt_of_cell? _ _ hw151_0; first | rwa [add_block] at this | exact this) GW152.out)) | (show (Addr.add _ _).block ≠ _; rw [add_block]; exact Nat.ne_of_lt (Nat.lt_of_lt_of_le (by have := World.block_lt_of_cell? _ _ hw151_0; first | rwa [add_block] at this | exact this) GW152.out)) | (dsimp only; exact Nat.ne_of_lt (Nat.lt_of_lt_of_le (by have := World.block_lt_of_cell? _ _ hw151_0; first | rwa [add_block] at this | exact this) GW152.out))) _).trans (hHeld.2.2.2.2.1)))), ((cell_far (p := ⟨gb152, _, none⟩) (by first | exact Nat.ne_of_lt (Nat.lt_of_lt_of_le (by have := World.block_lt_of_cell? _ _ hw151_1; first | rwa [add_block] at this | exact this) GW152.out) | (rw [add_block]; exact Nat.ne_of_lt (Nat.lt_of_lt_of_le (by have := World.block_lt_of_cell? _ _ hw151_1; first | rwa [add_block] at this | exact this) GW152.out)) | (show (Addr.add _ _).block ≠ _; rw [add_block]; exact Nat.ne_of_lt (Nat.lt_of_lt_of_le (by have := World.block_lt_of_cell? _ _ hw151_1; first | rwa [add_block] at this | exact this) GW152.out)) | (dsimp only; exact Nat.ne_of_lt (Nat.lt_of_lt_of_le (by have := World.block_lt_of_cell? _ _ hw151_1; first | rwa [add_block] at this | exact this) GW152.out))) _).trans (((cell_far (p := ⟨gb152, _, none⟩) (by first | exact Nat.ne_of_lt (Nat.lt_of_lt_of_le (by have := World.block_lt_of_cell? _ _ hw151_1; first | rwa [add_block] at this | exact this) GW152.out) | (rw [add_block]; exact Nat.ne_of_lt (Nat.lt_of_lt_of_le (by have := World.block_lt_of_cell? _ _ hw151_1; first | rwa [add_block] at this | exact this) GW152.out)) | (show (Addr.add _ _).block ≠ _; rw [add_block]; exact Nat.ne_of_lt (Nat.lt_of_lt_of_le (by have := World.block_lt_of_cell? _ _ hw151_1; first | rwa [add_block] at this | exact this) GW152.out)) | (dsimp only; exact Nat.ne_of_lt (Nat.lt_of_lt_of_le (by have := World.block_lt_of_cell? _ _ hw151_1; first | rwa [add_block] at this | exact this) GW152.out))) _).trans (hHeld.2.2.2.2.2.1)))), ((cell_far (p := ⟨gb152, _, none⟩) (by first | exact Nat.ne_of_lt (Nat.lt_of_lt_of_le (by have := World.block_lt_of_cell? _ _ hw151_2; first | rwa [add_block] at this | exact this) GW152.out) | (rw [add_block]; exact Nat.ne_of_lt (Nat.lt_of_lt_of_le (by have := World.block_lt_of_cell? _ _ hw151_2; first | rwa [add_block] at this | exact this) GW152.out)) | (show (Addr.add _ _).block ≠ _; rw [add_block]; exact Nat.ne_of_lt (Nat.lt_of_lt_of_le (by have := World.block_lt_of_cell? _ _ hw151_2; first | rwa [add_block] at this | exact this) GW152.out)) | (dsimp only; exact Nat.ne_of_lt (Nat.lt_of_lt_of_le (by have := World.block_lt_of_cell? _ _ hw151_2; first | rwa [add_block] at this | exact this) GW152.out))) _).trans (((cell_far (p := ⟨gb152, _, none⟩) (by first | exact Nat.ne_of_lt (Nat.lt_of_lt_of_le (by have := World.block_lt_of_cell? _ _ hw151_2; first | rwa [add_block] at this | exact this) GW152.out) | (rw [add_block]; exact Nat.ne_of_lt (Nat.lt_of_lt_of_le (by have := World.block_lt_of_cell? _ _ hw151_2; first | rwa [add_block] at this | exact this) GW152.out)) | (show (Addr.add _ _).block ≠ _; rw [add_block]; exact Nat.ne_of_lt (Nat.lt_of_lt_of_le (by have := World.block_lt_of_cell? _ _ hw151_2; first | rwa [add_block] at this | exact this) GW152.out)) | (dsimp only; exact Nat.ne_of_lt (Nat.lt_of_lt_of_le (by have := World.block_lt_of_cell? _ _ hw151_2; first | rwa [add_block] at this | exact this) GW152.out))) _).trans (hHeld.2.2.2.2.2.2))))⟩ (fun hHeld => ?_)
     clear hK K
     refine one_ (i := 13) (N := none) #[true, true, true, true, true, true, true, true, true, true, true, true, true, true] rfl rfl (one_of HT_.out (by kernel_rfl)) (by decide) (fun K hK => ?_)
     have hs19 : w16.cell? ⟨gb153, 0, none⟩ = some (.int .i64 0) := (blk_cell BK153.out 0).trans rfl
     have hfs19 := blk_frozen BK153.out 0
     have hns19_0 := NB149_153.out
     have hns19_1 := NB152_153.out
     have hms19_0 := NB153_149.out
     have hms19_1 := NB153_152.out
     have hs20 : w16.cell? ⟨gb153, 1, none⟩ = some (.slice none 0 0) := (blk_cell BK153.out 1).trans rfl
     have hfs20 := blk_frozen BK153.out 1
     have hns20_0 := NB149_153.out
     have hns20_1 := NB152_153.out
     have hms20_0 := NB153_149.out
     have hms20_1 := NB153_152.out
     have hs21 : w16.cell? ⟨gb153, 2, none⟩ = some (.bool false) := (blk_cell BK153.out 2).trans rfl
     have hfs21 := blk_frozen BK153.out 2
     have hns21_0 := NB149_153.out
     have hns21_1 := NB152_153.out
     have hms21_0 := NB153_149.out
     have hms21_1 := NB153_152.out
     refine skip_ (w1 := ?_) (by rfl) rfl ?_ ?_
     rotate_left
     ·go_simp
      rfl
     refine hK.out _ _ ⟨((cell_far (p := ⟨gb153, _, none⟩) NB149_153.out _).trans (((cell_far (p := ⟨gb153, _, none⟩) NB149_153.out _).trans (((cell_far (p := ⟨gb153, _, none⟩) NB149_153.out _).trans (hHeld.1)))))), ((cell_far (p := ⟨gb153, _, none⟩) NB149_153.out _).trans (((cell_far (p := ⟨gb153, _, none⟩) NB149_153.out _).trans (((cell_far (p := ⟨gb153, _, none⟩) NB149_153.out _).trans (hHeld.2.1)))))), ((cell_far (p := ⟨gb153, _, none⟩) (by first | exact Nat.ne_of_lt (Nat.lt_of_lt_of_le (by have := World.block_lt_of_cell? _ _ hw150_0; first | rwa [add_block] at this | exact this) GW153.out) | (rw [add_block]; exact Nat.ne_of_lt (Nat.lt_of_lt_of_le (by have := World.block_lt_of_cell? _ _ hw150_0; first | rwa [add_block] at this | exact this) GW153.out)) | (show (Addr.add _ _).block ≠ _; rw [add_block]; exact Nat.ne_of_lt (Nat.lt_of_lt_of_le (by have := World.block_lt_of_cell? _ _ hw150_0; first | rwa [add_block] at this | exact this) GW153.out)) | (dsimp only; exact Nat.ne_of_lt (Nat.lt_of_lt_of_le (by have := World.block_lt_of_cell? _ _ hw150_0; first | rwa [add_block] at this | exact this) GW153.out))) _).trans (((cell_far (p := ⟨gb153, _, none⟩) (by first | exact Nat.ne_of_lt (Nat.lt_of_lt_of_le (by have := World.block_lt_of_cell? _ _ hw150_0; first | rwa [add_block] at this | exact this) GW153.out) | (rw [add_block]; exact Nat.ne_of_lt (Nat.lt_of_lt_of_le (by have := World.block_lt_of_cell? _ _ hw150_0; first | rwa [add_block] at this | exact this) GW153.out)) | (show (Addr.add _ _).block ≠ _; rw [add_block]; exact Nat.ne_of_lt (Nat.lt_of_lt_of_le (by have := World.block_lt_of_cell? _ _ hw150_0; first | rwa [add_block] at this | exact this) GW153.out)) | (dsimp only; exact Nat.ne_of_lt (Nat.lt_of_lt_of_le (by have := World.block_lt_of_cell? _ _ hw150_0; first | rwa [add_block] at this | exact this) GW153.out))) _).trans (((cell_far (p := ⟨gb153, _, none⟩) (by first | exact Nat.ne_of_lt (Nat.lt_of_lt_of_le (by have := World.block_lt_of_cell? _ _ hw150_0; first | rwa [add_block] at this | exact this) GW153.out) | (rw [add_block]; exact Nat.ne_of_lt (Nat.lt_of_lt_of_le (by have := World.block_lt_of_cell? _ _ hw150_0; first | rwa [add_block] at this | exact this) GW153.out)) | (show (Addr.add _ _).block ≠ _; rw [add_block]; exact Nat.ne_of_lt (Nat.lt_of_lt_of_le (by have := World.block_lt_of_cell? _ _ hw150_0; first | rwa [add_block] at this | exact this) GW153.out)) | (dsimp only; exact Nat.ne_of_lt (Nat.lt_of_lt_of_le (by have := World.block_lt_of_cell? _ _ hw150_0; first | rwa [add_block] at this | exact this) GW153.out))) _).trans (hHeld.2.2.1)))))), ((cell_far (p := ⟨gb153, _, none⟩) (by first | exact Nat.ne_of_lt (Nat.lt_of_lt_of_le (by have := World.block_lt_of_cell? _ _ hw150_1; first | rwa [add_block] at this | exact this) GW153.out) | (rw [add_block]; exact Nat.ne_of_lt (Nat.lt_of_lt_of_le (by have := World.block_lt_of_cell? _ _ hw150_1; first | rwa [add_block] at this | exact this) GW153.out)) | (show (Addr.add _ _).block ≠ _; rw [add_block]; exact Nat.ne_of_lt (Nat.lt_of_lt_of_le (by have := World.block_lt_of_cell? _ _ hw150_1; first | rwa [add_block] at this | exact this) GW153.out)) | (dsimp only; exact Nat.ne_of_lt (Nat.lt_of_lt_of_le (by have := World.block_lt_of_cell? _ _ hw150_1; first | rwa [add_block] at this | exact this) GW153.out))) _).trans (((cell_far (p := ⟨gb153, _, none⟩) (by first | exact Nat.ne_of_lt (Nat.lt_of_lt_of_le (by have := World.block_lt_of_cell? _ _ hw150_1; first | rwa [add_block] at this | exact this) GW153.out) | (rw [add_block]; exact Nat.ne_of_lt (Nat.lt_of_lt_of_le (by have := World.block_lt_of_cell? _ _ hw150_1; first | rwa [add_block] at this | exact this) GW153.out)) | (show (Addr.add _ _).block ≠ _; rw [add_block]; exact Nat.ne_of_lt (Nat.lt_of_lt_of_le (by have := World.block_lt_of_cell? _ _ hw150_1; first | rwa [add_block] at this | exact this) GW153.out)) | (dsimp only; exact Nat.ne_of_lt (Nat.lt_of_lt_of_le (by have := World.block_lt_of_cell? _ _ hw150_1; first | rwa [add_block] at this | exact this) GW153.out))) _).trans (((cell_far (p := ⟨gb153, _, none⟩) (by first | exact Nat.ne_of_lt (Nat.lt_of_lt_of_le (by have := World.block_lt_of_cell? _ _ hw150_1; first | rwa [add_block] at this | exact this) GW153.out) | (rw [add_block]; exact Nat.ne_of_lt (Nat.lt_of_lt_of_le (by have := World.block_lt_of_cell? _ _ hw150_1; first | rwa [add_block] at this | exact this) GW153.out)) | (show (Addr.add _ _).block ≠ _; rw [add_block]; exact Nat.ne_of_lt (Nat.lt_of_lt_of_le (by have := World.block_lt_of_cell? _ _ hw150_1; first | rwa [add_block] at this | exact this) GW153.out)) | (dsimp only; exact Nat.ne_of_lt (Nat.lt_of_lt_of_le (by have := World.block_lt_of_cell? _ _ hw150_1; first | rwa [add_block] at this | exact this) GW153.out))) _).trans (hHeld.2.2.2.1)))))), ((cell_far (p := ⟨gb153, _, none⟩) (by first | exact Nat.ne_of_lt (Nat.lt_of_lt_of_le (by have := World.block_lt_of_cell? _ _ hw151_0; first | rwa [add_block] at this | exact this) GW153.out) | (rw [add_block]; exact Nat.ne_of_lt (Nat.lt_of_lt_of_le (by have := World.block_lt_of_cell? _ _ hw151_0; first | rwa [add_block] at this | exact this) GW153.out)) | (show (Addr.add _ _).block ≠ _; rw [add_block]; exact Nat.ne_of_lt (Nat.lt_of_lt_of_le (by have := World.block_lt_of_cell? _ _ hw151_0; first | rwa [add_block] at this | exact this) GW153.out)) | (dsimp only; exact Nat.ne_of_lt (Nat.lt_of_lt_of_le (by have := World.block_lt_of_cell? _ _ hw151_0; first | rwa [add_block] at this | exact this) GW153.out))) _).trans (((cell_far (p := ⟨gb153, _, none⟩) (by first | exact Nat.ne_of_lt (Nat.lt_of_lt_of_le (by have := World.block_lt_of_cell? _ _ hw151_0; first | rwa [add_block] at this | exact this) GW153.out) | (rw [add_block]; exact Nat.ne_of_lt (Nat.lt_of_lt_of_le (by have := World.block_lt_of_cell? _ _ hw151_0; first | rwa [add_block] at this | exact this) GW153.out)) | (show (Addr.add _ _).block ≠ _; rw [add_block]; exact Nat.ne_of_lt (Nat.lt_of_lt_of_le (by have := World.block_lt_of_cell? _ _ hw151_0; first | rwa [add_block] at this | exact this) GW153.out)) | (dsimp only; exact Nat.ne_of_lt (Nat.lt_of_lt_of_le (by have := World.block_lt_of_cell? _ _ hw151_0; first | rwa [add_block] at this | exact this) GW153.out))) _).trans (((cell_far (p := ⟨gb153, _, none⟩) (by first | exact Nat.ne_of_lt (Nat.lt_of_lt_of_le (by have := World.block_lt_of_cell? _ _ hw151_0; first | rwa [add_block] at this | exact this) GW153.out) | (rw [add_block]; exact Nat.ne_of_lt (Nat.lt_of_lt_of_le (by have := World.block_lt_of_cell? _ _ hw151_0; first | rwa [add_block] at this | exact this) GW153.out)) | (show (Addr.add _ _).block ≠ _; rw [add_block]; exact Nat.ne_of_lt (Nat.lt_of_lt_of_le (by have := World.block_lt_of_cell? _ _ hw151_0; first | rwa [add_block] at this | exact this) GW153.out)) | (dsimp only; exact Nat.ne_of_lt (Nat.lt_of_lt_of_le (by have := World.block_lt_of_cell? _ _ hw151_0; first | rwa [add_block] at this | exact this) GW153.out))) _).trans (hHeld.2.2.2.2.1)))))), ((cell_far (p := ⟨gb153, _, none⟩) (by first | exact Nat.ne_of_lt (Nat.lt_of_lt_of_le (by have := World.block_lt_of_cell? _ _ hw151_1; first | rwa [add_block] at this | exact this) GW153.out) | (rw [add_block]; exact Nat.ne_of_lt (Nat.lt_of_lt_of_le (by have := World.block_lt_of_cell? _ _ hw151_1; first | rwa [add_block] at this | exact this) GW153.out)) | (show (Addr.add _ _).block ≠ _; rw [add_block]; exact Nat.ne_of_lt (Nat.lt_of_lt_of_le (by have := World.block_lt_of_cell? _ _ hw151_1; first | rwa [add_block] at this | exact this) GW153.out)) | (dsimp only; exact Nat.ne_of_lt (Nat.lt_of_lt_of_le (by have := World.block_lt_of_cell? _ _ hw151_1; first | rwa [add_block] at this | exact this) GW153.out))) _).trans (((cell_far (p := ⟨gb153, _, none⟩) (by first | exact Nat.ne_of_lt (Nat.lt_of_lt_of_le (by have := World.block_lt_of_cell? _ _ hw151_1; first | rwa [add_block] at this | exact this) GW153.out) | (rw [add_block]; exact Nat.ne_of_lt (Nat.lt_of_lt_of_le (by have := World.block_lt_of_cell? _ _ hw151_1; first | rwa [add_block] at this | exact this) GW153.out)) | (show (Addr.add _ _).block ≠ _; rw [add_block]; exact Nat.ne_of_lt (Nat.lt_of_lt_of_le (by have := World.block_lt_of_cell? _ _ hw151_1; first | rwa [add_block] at this | exact this) GW153.out)) | (dsimp only; exact Nat.ne_of_lt (Nat.lt_of_lt_of_le (by have := World.block_lt_of_cell? _ _ hw151_1; first | rwa [add_block] at this | exact this) GW153.out))) _).trans (((cell_far (p := ⟨gb153, _, none⟩) (by first | exact Nat.ne_of_lt (Nat.lt_of_lt_of_le (by have := World.block_lt_of_cell? _ _ hw151_1; first | rwa [add_block] at this | exact this) GW153.out) | (rw [add_block]; exact Nat.ne_of_lt (Nat.lt_of_lt_of_le (by have := World.block_lt_of_cell? _ _ hw151_1; first | rwa [add_block] at this | exact this) GW153.out)) | (show (Addr.add _ _).block ≠ _; rw [add_block]; exact Nat.ne_of_lt (Nat.lt_of_lt_of_le (by have := World.block_lt_of_cell? _ _ hw151_1; first | rwa [add_block] at this | exact this) GW153.out)) | (dsimp only; exact Nat.ne_of_lt (Nat.lt_of_lt_of_le (by have := World.block_lt_of_cell? _ _ hw151_1; first | rwa [add_block] at this | exact this) GW153.out))) _).trans (hHeld.2.2.2.2.2.1)))))), ((cell_far (p := ⟨gb153, _, none⟩) (by first | exact Nat.ne_of_lt (Nat.lt_of_lt_of_le (by have := World.block_lt_of_cell? _ _ hw151_2; first | rwa [add_block] at this | exact this) GW153.out) | (rw [add_block]; exact Nat.ne_of_lt (Nat.lt_of_lt_of_le (by have := World.block_lt_of_cell? _ _ hw151_2; first | rwa [add_block] at this | exact this) GW153.out)) | (show (Addr.add _ _).block ≠ _; rw [add_block]; exact Nat.ne_of_lt (Nat.lt_of_lt_of_le (by have := World.block_lt_of_cell? _ _ hw151_2; first | rwa [add_block] at this | exact this) GW153.out)) | (dsimp only; exact Nat.ne_of_lt (Nat.lt_of_lt_of_le (by have := World.block_lt_of_cell? _ _ hw151_2; first | rwa [add_block] at this | exact this) GW153.out))) _).trans (((cell_far (p := ⟨gb153, _, none⟩) (by first | exact Nat.ne_of_lt (Nat.lt_of_lt_of_le (by have := World.block_lt_of_cell? _ _ hw151_2; first | rwa [add_block] at this | exact this) GW153.out) | (rw [add_block]; exact Nat.ne_of_lt (Nat.lt_of_lt_of_le (by have := World.block_lt_of_cell? _ _ hw151_2; first | rwa [add_block] at this | exact this) GW153.out)) | (show (Addr.add _ _).block ≠ _; rw [add_block]; exact Nat.ne_of_lt (Nat.lt_of_lt_of_le (by have := World.block_lt_of_cell? _ _ hw151_2; first | rwa [add_block] at this | exact this) GW153.out)) | (dsimp only; exact Nat.ne_of_lt (Nat.lt_of_lt_of_le (by have := World.block_lt_of_cell? _ _ hw151_2; first | rwa [add_block] at this | exact this) GW153.out))) _).trans (((cell_far (p := ⟨gb153, _, none⟩) (by first | exact Nat.ne_of_lt (Nat.lt_of_lt_of_le (by have := World.block_lt_of_cell? _ _ hw151_2; first | rwa [add_block] at this | exact this) GW153.out) | (rw [add_block]; exact Nat.ne_of_lt (Nat.lt_of_lt_of_le (by have := World.block_lt_of_cell? _ _ hw151_2; first | rwa [add_block] at this | exact this) GW153.out)) | (show (Addr.add _ _).block ≠ _; rw [add_block]; exact Nat.ne_of_lt (Nat.lt_of_lt_of_le (by have := World.block_lt_of_cell? _ _ hw151_2; first | rwa [add_block] at this | exact this) GW153.out)) | (dsimp only; exact Nat.ne_of_lt (Nat.lt_of_lt_of_le (by have := World.block_lt_of_cell? _ _ hw151_2; first | rwa [add_block] at this | exact this) GW153.out))) _).trans (hHeld.2.2.2.2.2.2))))))⟩ (fun hHeld => ?_)
     clear hK K
     refine done_ (done_of HT_.out (by kernel_rfl)) ?_
     try go_wp2
     have n0_ : Aside0 ((((((w16.setCell ⟨gb152, 0, none⟩ (.int .i64 ((rd_T48 l0_0 a1).f0))).setCell ⟨gb152, 1, none⟩ (.slice A150_1 ((rd_T48 l0_0 a1).f1).length c150_1)).setCell ⟨gb153, 0, none⟩ (.int .i64 ((rd_T50 l0_1 a2).f0))).setCell ⟨gb153, 1, none⟩ (.slice A151_1 ((rd_T50 l0_1 a2).f1).length c151_1)).setCell ⟨gb153, 2, none⟩ (.bool ((rd_T50 l0_1 a2).f2))).heap[gb149]? = some (.cells #[.slice (some ad150) l0_0.length c0_0, .slice (some ad151) l0_1.length c0_1] 25 (0, 0))) := ⟨by (with_reducible repeat (first | refine blk_drewN ?_ _ | refine blk_drew ?_ | refine blk_alloc ?_ _)); refine blk_far ?_ NB149_153.out _; (with_reducible repeat (first | refine blk_drewN ?_ _ | refine blk_drew ?_ | refine blk_alloc ?_ _)); refine blk_far ?_ NB149_153.out _; (with_reducible repeat (first | refine blk_drewN ?_ _ | refine blk_drew ?_ | refine blk_alloc ?_ _)); refine blk_far ?_ NB149_153.out _; (with_reducible repeat (first | refine blk_drewN ?_ _ | refine blk_drew ?_ | refine blk_alloc ?_ _)); refine blk_far ?_ NB149_152.out _; (with_reducible repeat (first | refine blk_drewN ?_ _ | refine blk_drew ?_ | refine blk_alloc ?_ _)); refine blk_far ?_ NB149_152.out _; (with_reducible repeat (first | refine blk_drewN ?_ _ | refine blk_drew ?_ | refine blk_alloc ?_ _)); exact BK149.out⟩
     have n1_ : Aside0 ((((((w16.setCell ⟨gb152, 0, none⟩ (.int .i64 ((rd_T48 l0_0 a1).f0))).setCell ⟨gb152, 1, none⟩ (.slice A150_1 ((rd_T48 l0_0 a1).f1).length c150_1)).setCell ⟨gb153, 0, none⟩ (.int .i64 ((rd_T50 l0_1 a2).f0))).setCell ⟨gb153, 1, none⟩ (.slice A151_1 ((rd_T50 l0_1 a2).f1).length c151_1)).setCell ⟨gb153, 2, none⟩ (.bool ((rd_T50 l0_1 a2).f2))).heap[gb152]? = some (.cells #[.int .i64 ((rd_T48 l0_0 a1).f0), .slice A150_1 ((rd_T48 l0_0 a1).f1).length c150_1] 48 (0, 0))) := ⟨by (with_reducible repeat (first | refine blk_drewN ?_ _ | refine blk_drew ?_ | refine blk_alloc ?_ _)); refine blk_far ?_ NB152_153.out _; (with_reducible repeat (first | refine blk_drewN ?_ _ | refine blk_drew ?_ | refine blk_alloc ?_ _)); refine blk_far ?_ NB152_153.out _; (with_reducible repeat (first | refine blk_drewN ?_ _ | refine blk_drew ?_ | refine blk_alloc ?_ _)); refine blk_far ?_ NB152_153.out _; (with_reducible repeat (first | refine blk_drewN ?_ _ | refine blk_drew ?_ | refine blk_alloc ?_ _)); refine blk_put (cs := #[.int .i64 ((rd_T48 l0_0 a1).f0), .slice none 0 0]) ?_ 1 _ rfl; (with_reducible repeat (first | refine blk_drewN ?_ _ | refine blk_drew ?_ | refine blk_alloc ?_ _)); refine blk_put (cs := #[.int .i64 0, .slice none 0 0]) ?_ 0 _ rfl; (with_reducible repeat (first | refine blk_drewN ?_ _ | refine blk_drew ?_ | refine blk_alloc ?_ _)); exact BK152.out⟩
     have n2_ : Aside0 ((((((w16.setCell ⟨gb152, 0, none⟩ (.int .i64 ((rd_T48 l0_0 a1).f0))).setCell ⟨gb152, 1, none⟩ (.slice A150_1 ((rd_T48 l0_0 a1).f1).length c150_1)).setCell ⟨gb153, 0, none⟩ (.int .i64 ((rd_T50 l0_1 a2).f0))).setCell ⟨gb153, 1, none⟩ (.slice A151_1 ((rd_T50 l0_1 a2).f1).length c151_1)).setCell ⟨gb153, 2, none⟩ (.bool ((rd_T50 l0_1 a2).f2))).heap[gb153]? = some (.cells #[.int .i64 ((rd_T50 l0_1 a2).f0), .slice A151_1 ((rd_T50 l0_1 a2).f1).length c151_1, .bool ((rd_T50 l0_1 a2).f2)] 50 (0, 0))) := ⟨by (with_reducible repeat (first | refine blk_drewN ?_ _ | refine blk_drew ?_ | refine blk_alloc ?_ _)); refine blk_put (cs := #[.int .i64 ((rd_T50 l0_1 a2).f0), .slice A151_1 ((rd_T50 l0_1 a2).f1).length c151_1, .bool false]) ?_ 2 _ rfl; (with_reducible repeat (first | refine blk_drewN ?_ _ | refine blk_drew ?_ | refine blk_alloc ?_ _)); refine blk_put (cs := #[.int .i64 ((rd_T50 l0_1 a2).f0), .slice none 0 0, .bool false]) ?_ 1 _ rfl; (with_reducible repeat (first | refine blk_drewN ?_ _ | refine blk_drew ?_ | refine blk_alloc ?_ _)); refine blk_put (cs := #[.int .i64 0, .slice none 0 0, .bool false]) ?_ 0 _ rfl; (with_reducible repeat (first | refine blk_drewN ?_ _ | refine blk_drew ?_ | refine blk_alloc ?_ _)); refine blk_far ?_ NB153_152.out _; (with_reducible repeat (first | refine blk_drewN ?_ _ | refine blk_drew ?_ | refine blk_alloc ?_ _)); refine blk_far ?_ NB153_152.out _; (with_reducible repeat (first | refine blk_drewN ?_ _ | refine blk_drew ?_ | refine blk_alloc ?_ _)); exact BK153.out⟩
     have n3_ : Aside0 (Below w.heap.size w (((((w16.setCell ⟨gb152, 0, none⟩ (.int .i64 ((rd_T48 l0_0 a1).f0))).setCell ⟨gb152, 1, none⟩ (.slice A150_1 ((rd_T48 l0_0 a1).f1).length c150_1)).setCell ⟨gb153, 0, none⟩ (.int .i64 ((rd_T50 l0_1 a2).f0))).setCell ⟨gb153, 1, none⟩ (.slice A151_1 ((rd_T50 l0_1 a2).f1).length c151_1)).setCell ⟨gb153, 2, none⟩ (.bool ((rd_T50 l0_1 a2).f2)))) := ⟨bl⟩
     (try clear BK149)
     (try clear BK152)
     (try clear BK153)
     (try clear HB)
     generalize (((((w16.setCell ⟨gb152, 0, none⟩ (.int .i64 ((rd_T48 l0_0 a1).f0))).setCell ⟨gb152, 1, none⟩ (.slice A150_1 ((rd_T48 l0_0 a1).f1).length c150_1)).setCell ⟨gb153, 0, none⟩ (.int .i64 ((rd_T50 l0_1 a2).f0))).setCell ⟨gb153, 1, none⟩ (.slice A151_1 ((rd_T50 l0_1 a2).f1).length c151_1)).setCell ⟨gb153, 2, none⟩ (.bool ((rd_T50 l0_1 a2).f2))) = w22 at n0_ n1_ n2_ n3_ ⊢
     have BK149 := n0_
     have BK152 := n1_
     have BK153 := n2_
     have HB := n3_
     clear n0_ n1_ n2_ n3_
     have n0_ := Aside0.mk (blk_drew BK149.out)
     have n1_ := Aside0.mk (blk_drew BK152.out)
     have n2_ := Aside0.mk (blk_drew BK153.out)
     have n3_ := Aside0.mk (below_drew1 HB.out)
     clear BK149
     clear BK152
     clear BK153
     clear HB
     have BK149 := n0_
     have BK152 := n1_
     have BK153 := n2_
     have HB := n3_
     clear n0_ n1_ n2_ n3_
     refine start_ (n := 8) (S := fun w' => w'.cell? ⟨gb153, 0, none⟩ = some (.int .i64 ((rd_T50 l0_1 a2).f0)) ∧ w'.cell? ⟨gb153, 1, none⟩ = some (.slice A151_1 ((rd_T50 l0_1 a2).f1).length c151_1) ∧ w'.cell? ⟨gb153, 2, none⟩ = some (.bool ((rd_T50 l0_1 a2).f2))) (ds := []) #[false, false, false, false, false, false, false, false] (by kernel_rfl) rfl rfl ⟨(blk_cell BK153.out 0).trans rfl, (blk_cell BK153.out 1).trans rfl, (blk_cell BK153.out 2).trans rfl⟩ (fun hHeld => ?_); refine with_tabW skewbaldref01_can.tab2 skewbaldref01_can.bits2 (fun HT_ HW_ => ?_)
     generalize w22.drew = w23 at BK149 BK152 BK153 HB hHeld ⊢
     refine pure_ (i := 1) (N := some 24) (v := ?_) (a' := ?_) #[false, true, false, false, false, false, false, false] rfl rfl (any_of HT_.out (by kernel_rfl)) (fun _ _ _ h => h) (Or.inl ⟨by rfl, ?_⟩) ?_ ?_
     rotate_left
     ·intro w'
      go_simp
      with_reducible rfl
     rotate_left
     ·simp only [Act.put, List.setIfInBounds_toArray, List.set_cons_zero, List.set_cons_succ, i64_w, i32_w]
      rfl
     refine pure_ (i := 4) (N := some 27) (v := ?_) (a' := ?_) #[false, true, false, false, true, false, false, false] rfl rfl (any_of HT_.out (by kernel_rfl)) (fun _ _ _ h => h) (Or.inl ⟨by rfl, ?_⟩) ?_ ?_
     rotate_left
     ·intro w'
      go_simp
      with_reducible rfl
     rotate_left
     ·simp only [Act.put, List.setIfInBounds_toArray, List.set_cons_zero, List.set_cons_succ, i64_w, i32_w]
      rfl
     refine take_ (i := 0) (N := some 23) (v := ?_) (a' := ?_) #[true, true, false, false, true, false, false, false] rfl rfl (take_ofW HT_.out HW_.out (by kernel_rfl)) (fun _ _ _ h => h) (Or.inl ⟨by rfl, ?_⟩) hHeld ?_ ?_
     rotate_left
     ·rintro w' ⟨s0, s1, s2⟩
      go_simp
      with_reducible rfl
     rotate_left
     ·simp only [Act.put, List.setIfInBounds_toArray, List.set_cons_zero, List.set_cons_succ, i64_w, i32_w]
      rfl
     refine take_ (i := 3) (N := some 26) (v := ?_) (a' := ?_) #[true, true, false, true, true, false, false, false] rfl rfl (take_ofW HT_.out HW_.out (by kernel_rfl)) (fun _ _ _ h => h) (Or.inl ⟨by rfl, ?_⟩) hHeld ?_ ?_
     rotate_left
     ·rintro w' ⟨s0, s1, s2⟩
      go_simp
      with_reducible rfl
     rotate_left
     ·simp only [Act.put, List.setIfInBounds_toArray, List.set_cons_zero, List.set_cons_succ, i64_w, i32_w]
      rfl
     refine one_ (i := 2) (N := some 25) #[true, true, true, true, true, false, false, false] rfl rfl (one_of HT_.out (by kernel_rfl)) (by decide) (fun K hK => ?_)
     refine goes_ Tryd.func99 (by kernel_rfl) rfl #[.agg #[.int .i64 ((rd_T50 l0_1 a2).f0), .slice A151_1 ((rd_T50 l0_1 a2).f1).length c151_1, .bool ((rd_T50 l0_1 a2).f2)], .int .i64 a3, .bool false] (by rfl) rfl rfl (by (try simp only [List.map_toArray, List.map_cons, List.map_nil]); first | done | rfl | (simp only [List.length_drop, List.length_take]; rfl)) ?_
     with_reducible refine (skewbaldref01_joints.calls k ((rd_T50 l0_1 a2).f0) _ _ ((rd_T50 l0_1 a2).f1) ((rd_T50 l0_1 a2).f2) a3 false t154 _ ?side1 ?side2 A9.out).mono ?_
     (case side1 => exact cl)
     (case side2 => exact HC151_1.out)
     rintro e w24 ⟨v155, rfl, ho0, hb⟩
     refine ⟨_, rfl, ?_⟩
     have n0_ := Aside0.mk (Kd.R_lower ho0 (below_size bl))
     have n1_ := Aside0.mk (blk_below (g := gb149) (o := .cells #[.slice (some ad150) l0_0.length c0_0, .slice (some ad151) l0_1.length c0_1] 25 (0, 0)) bk hb)
     have n2_ := Aside0.mk (blk_below (g := gb152) (o := .cells #[.int .i64 ((rd_T48 l0_0 a1).f0), .slice A150_1 ((rd_T48 l0_0 a1).f1).length c150_1] 48 (0, 0)) bk hb)
     have n3_ := Aside0.mk (blk_below (g := gb153) (o := .cells #[.int .i64 ((rd_T50 l0_1 a2).f0), .slice A151_1 ((rd_T50 l0_1 a2).f1).length c151_1, .bool ((rd_T50 l0_1 a2).f2)] 50 (0, 0)) bk hb)
     have n4_ := Aside0.mk (below_step bl hb)
     clear BK149
     clear BK152
     clear BK153
     clear HB
     have HO156 := n0_
     have BK149 := n1_
     have BK152 := n2_
     have BK153 := n3_
     have HB := n4_
     clear n0_ n1_ n2_ n3_ n4_
     (try clear hb)
     (try clear hb2)
     (try clear hk)
     (try clear hi)
     (try clear ho0)
     refine hK.out _ _ ⟨(blk_cell BK153.out 0).trans rfl, (blk_cell BK153.out 1).trans rfl, (blk_cell BK153.out 2).trans rfl⟩ (fun hHeld => ?_)
     clear hK K
     refine norm_ (a' := ?_) ?_ ?_
     rotate_left
     ·show Act.put _ (some 25) _ = _
      simp only [Act.put, List.setIfInBounds_toArray, List.set_cons_zero, List.set_cons_succ, i64_w, i32_w]
      rfl
     refine one_ (i := 5) (N := some 28) #[true, true, true, true, true, true, false, false] rfl rfl (one_of HT_.out (by kernel_rfl)) (by decide) (fun K hK => ?_)
     refine goes_ Tryd.func99 (by kernel_rfl) rfl #[.agg #[.int .i64 ((rd_T50 l0_1 a2).f0), .slice A151_1 ((rd_T50 l0_1 a2).f1).length c151_1, .bool ((rd_T50 l0_1 a2).f2)], .int .i64 a3, .bool true] (by rfl) rfl rfl (by (try simp only [List.map_toArray, List.map_cons, List.map_nil]); first | done | rfl | (simp only [List.length_drop, List.length_take]; rfl)) ?_
     with_reducible refine (skewbaldref01_joints.calls k ((rd_T50 l0_1 a2).f0) _ _ ((rd_T50 l0_1 a2).f1) ((rd_T50 l0_1 a2).f2) a3 true t157 _ ?side1 ?side2 A10.out).mono ?_
     (case side1 => exact cl)
     (case side2 => exact HC151_1.out)
     rintro e w25 ⟨v158, rfl, ho0, hb⟩
     refine ⟨_, rfl, ?_⟩
     have n0_ := Aside0.mk (Kd.R_elder' (by (with_reducible repeat (first | apply Kd.R_alloc | apply Kd.R_drewN | apply Kd.R_drew)); exact HO156.out) (Kd.R_base ho0) hb)
     have n1_ := Aside0.mk (Kd.R_lower (Kd.R_new' ho0 (Kd.R_lt (by (with_reducible repeat (first | apply Kd.R_alloc | apply Kd.R_drewN | apply Kd.R_drew)); exact HO156.out))) (below_size bl))
     have n2_ := Aside0.mk (blk_below (g := gb149) (o := .cells #[.slice (some ad150) l0_0.length c0_0, .slice (some ad151) l0_1.length c0_1] 25 (0, 0)) bk hb)
     have n3_ := Aside0.mk (blk_below (g := gb152) (o := .cells #[.int .i64 ((rd_T48 l0_0 a1).f0), .slice A150_1 ((rd_T48 l0_0 a1).f1).length c150_1] 48 (0, 0)) bk hb)
     have n4_ := Aside0.mk (blk_below (g := gb153) (o := .cells #[.int .i64 ((rd_T50 l0_1 a2).f0), .slice A151_1 ((rd_T50 l0_1 a2).f1).length c151_1, .bool ((rd_T50 l0_1 a2).f2)] 50 (0, 0)) bk hb)
     have n5_ := Aside0.mk (below_step bl hb)
     clear HO156
     clear BK149
     clear BK152
     clear BK153
     clear HB
     have HO156 := n0_
     have HO159 := n1_
     have BK149 := n2_
     have BK152 := n3_
     have BK153 := n4_
     have HB := n5_
     clear n0_ n1_ n2_ n3_ n4_ n5_
     (try clear hb)
     (try clear hb2)
     (try clear hk)
     (try clear hi)
     (try clear ho0)
     refine hK.out _ _ ⟨(blk_cell BK153.out 0).trans rfl, (blk_cell BK153.out 1).trans rfl, (blk_cell BK153.out 2).trans rfl⟩ (fun hHeld => ?_)
     clear hK K
     refine norm_ (a' := ?_) ?_ ?_
     rotate_left
     ·show Act.put _ (some 28) _ = _
      simp only [Act.put, List.setIfInBounds_toArray, List.set_cons_zero, List.set_cons_succ, i64_w, i32_w]
      rfl
     refine pure_ (i := 6) (N := some 11) (v := ?_) (a' := ?_) #[true, true, true, true, true, true, true, false] rfl rfl (any_of HT_.out (by kernel_rfl)) (fun _ _ _ h => h) (Or.inl ⟨by rfl, ?_⟩) ?_ ?_
     rotate_left
     ·intro w'
      go_simp
      with_reducible rfl
     rotate_left
     ·simp only [Act.put, List.setIfInBounds_toArray, List.set_cons_zero, List.set_cons_succ, i64_w, i32_w]
      rfl
     refine pure_ (i := 7) (N := some 12) (v := ?_) (a' := ?_) #[true, true, true, true, true, true, true, true] rfl rfl (any_of HT_.out (by kernel_rfl)) (fun _ _ _ h => h) (Or.inl ⟨by rfl, ?_⟩) ?_ ?_
     rotate_left
     ·intro w'
      go_simp
      with_reducible rfl
     rotate_left
     ·simp only [Act.put, List.setIfInBounds_toArray, List.set_cons_zero, List.set_cons_succ, i64_w, i32_w]
      rfl
     refine done_ (done_of HT_.out (by kernel_rfl)) ?_
     go_upto_region 3 with (fail)
     go_cut [40] (fun v40 wc => ∃ (kq : Nat) (x40_10 : Bool), v40 = .bool x40_10 ∧ Aside0 (skewbaldref01_can.j0 kq t154 t157 x40_10 ((rd_T48 l0_0 a1).f0) ((rd_T48 l0_0 a1).f1) ((rd_T50 l0_1 a2).f0) ((rd_T50 l0_1 a2).f1) ((rd_T50 l0_1 a2).f2) = some r) ∧ Aside0 (kq ≤ k) ∧ Aside0 (Kd.R (Kd.int .i64) 3 wc w.heap.size (fun k_ => some k_ ≠ (v158 : Value).ownBlock) v155 t154) ∧ Aside0 (Kd.R (Kd.int .i64) 3 wc w.heap.size (fun k_ => some k_ ≠ (v155 : Value).ownBlock) v158 t157) ∧ Aside0 (wc.heap[gb149]? = some (.cells #[(.slice (some ad150) l0_0.length c0_0), (.slice (some ad151) l0_1.length c0_1)] 25 (0, 0))) ∧ Aside0 (wc.heap[gb152]? = some (.cells #[.int .i64 ((rd_T48 l0_0 a1).f0), (.slice A150_1 ((rd_T48 l0_0 a1).f1).length c150_1)] 48 (0, 0))) ∧ Aside0 (wc.heap[gb153]? = some (.cells #[.int .i64 ((rd_T50 l0_1 a2).f0), (.slice A151_1 ((rd_T50 l0_1 a2).f1).length c151_1), .bool ((rd_T50 l0_1 a2).f2)] 50 (0, 0))) ∧ Aside0 (Below w.heap.size w wc))
     case first =>
      have H := HC11.out
      clear HC11
      replace H := Option.bind_eq_some_iff.mp H
      obtain ⟨t160, A260, H⟩ := H
      replace H : (if t160 = true then (skewbaldref01_can.j0 k t154 t157 true ((rd_T48 l0_0 a1).f0) ((rd_T48 l0_0 a1).f1) ((rd_T50 l0_1 a2).f0) ((rd_T50 l0_1 a2).f1) ((rd_T50 l0_1 a2).f2)) else (if (rd_T50 l0_1 a2).f2 = true then ((skewbaldref01_sure.f k ((rd_T48 l0_0 a1).f0) ((rd_T48 l0_0 a1).f1) t157).bind fun t161 => (skewbaldref01_can.j0 k t154 t157 t161 ((rd_T48 l0_0 a1).f0) ((rd_T48 l0_0 a1).f1) ((rd_T50 l0_1 a2).f0) ((rd_T50 l0_1 a2).f1) ((rd_T50 l0_1 a2).f2))) else (skewbaldref01_can.j0 k t154 t157 false ((rd_T48 l0_0 a1).f0) ((rd_T48 l0_0 a1).f1) ((rd_T50 l0_1 a2).f0) ((rd_T50 l0_1 a2).f1) ((rd_T50 l0_1 a2).f2)))) = some r := H
      have A26 := Aside0.mk A260
      clear A260
      by_cases c27 : t160 = true
      ·subst c27
       have H1 : (skewbaldref01_can.j0 k t154 t157 true ((rd_T48 l0_0 a1).f0) ((rd_T48 l0_0 a1).f1) ((rd_T50 l0_1 a2).f0) ((rd_T50 l0_1 a2).f1) ((rd_T50 l0_1 a2).f2)) = some r := by rw [if_pos rfl] at H; exact H
       clear H
       have H := H1
       clear H1
       have H' := Aside0.mk H
       clear H
       have hnb28 := NB152_149.out
       have hnc28 := NB149_152.out
       have hnb29 := NB152_153.out
       have hnc29 := NB153_152.out
       have hcz30_0 : w25.cell? ⟨gb152, 0, none⟩ = some (.int .i64 ((rd_T48 l0_0 a1).f0)) := (blk_cell BK152.out 0).trans rfl
       have hcz30_1 : w25.cell? ⟨gb152, 1, none⟩ = some (.slice A150_1 ((rd_T48 l0_0 a1).f1).length c150_1) := (blk_cell BK152.out 1).trans rfl
       have hfz30_0 := blk_frozen BK152.out 0
       have hfz30_1 := blk_frozen BK152.out 1
       obtain ⟨Ao31, co31, eo31⟩ := Kd.R_slice HO156.out
       subst eo31
       go_wp2_with (first | ((with_reducible refine gate_callee (f := 100) rfl ?_); refine goesL_ (some 31) rfl rfl Tryd.func100 (by kernel_rfl) rfl #[.agg #[.int .i64 ((rd_T48 l0_0 a1).f0), .slice A150_1 ((rd_T48 l0_0 a1).f1).length c150_1], .slice Ao31 t154.length co31] rfl (by (try simp only [List.map_toArray, List.map_cons, List.map_nil]); first | done | rfl | (simp only [List.length_drop, List.length_take]; rfl)) ?_; (with_reducible refine (skewbaldref01_sure.calls k ((rd_T48 l0_0 a1).f0) _ _ ((rd_T48 l0_0 a1).f1) _ _ t154 true _ ?side1 ?side2 ?side3 ?side4 A26.out).mono ?_); (case side1 => exact cl); (case side2 => exact HC150_1.out); (case side3 => repeat (first | exact (Kd.R_reads' HO156.out).2.2 | (with_reducible refine Kd.C_alloc ?_ _) | (with_reducible refine Kd.C_drewN ?_ _) | (with_reducible refine Kd.C_drew ?_))); (case side4 => exact (Kd.R_reads' HO156.out).2.1); rintro e w32 ⟨rfl, hb⟩; refine ⟨_, rfl, ?_⟩; have n0_ := Aside0.mk (Kd.R_below (by (with_reducible repeat (first | apply Kd.R_alloc | apply Kd.R_drewN | apply Kd.R_drew)); exact HO156.out) hb); have n1_ := Aside0.mk (Kd.R_below (by (with_reducible repeat (first | apply Kd.R_alloc | apply Kd.R_drewN | apply Kd.R_drew)); exact HO159.out) hb); have n2_ := Aside0.mk (blk_below (g := gb149) (o := .cells #[.slice (some ad150) l0_0.length c0_0, .slice (some ad151) l0_1.length c0_1] 25 (0, 0)) bk hb); have n3_ := Aside0.mk (blk_below (g := gb152) (o := .cells #[.int .i64 ((rd_T48 l0_0 a1).f0), .slice A150_1 ((rd_T48 l0_0 a1).f1).length c150_1] 48 (0, 0)) bk hb); have n4_ := Aside0.mk (blk_below (g := gb153) (o := .cells #[.int .i64 ((rd_T50 l0_1 a2).f0), .slice A151_1 ((rd_T50 l0_1 a2).f1).length c151_1, .bool ((rd_T50 l0_1 a2).f2)] 50 (0, 0)) bk hb); have n5_ := Aside0.mk (below_step bl hb); clear HO156; clear HO159; clear BK149; clear BK152; clear BK153; clear HB; have HO156 := n0_; have HO159 := n1_; have BK149 := n2_; have BK152 := n3_; have BK153 := n4_; have HB := n5_; clear n0_ n1_ n2_ n3_ n4_ n5_; (try clear hb); (try clear hb2); (try clear hk); (try clear hi)))
       go_meet
       case rel => exact ⟨_, (true), (by first | rfl | (simp; done) | (simp [*]; done)), H', ⟨by first | omega | exact Nat.le_refl _⟩, ⟨by (with_reducible repeat (first | apply Kd.R_alloc | apply Kd.R_drewN | apply Kd.R_drew)); exact Kd.R_mono HO156.out (fun _ hk => hk.2)⟩, ⟨by (with_reducible repeat (first | apply Kd.R_alloc | apply Kd.R_drewN | apply Kd.R_drew)); exact Kd.R_mono HO159.out (fun _ hk => hk.2)⟩, ⟨bk⟩, ⟨bk⟩, ⟨bk⟩, ⟨bl⟩⟩
      ·replace c27 := Bool.eq_false_iff.mpr c27
       subst c27
       have H1 : (if (rd_T50 l0_1 a2).f2 = true then ((skewbaldref01_sure.f k ((rd_T48 l0_0 a1).f0) ((rd_T48 l0_0 a1).f1) t157).bind fun t161 => (skewbaldref01_can.j0 k t154 t157 t161 ((rd_T48 l0_0 a1).f0) ((rd_T48 l0_0 a1).f1) ((rd_T50 l0_1 a2).f0) ((rd_T50 l0_1 a2).f1) ((rd_T50 l0_1 a2).f2))) else (skewbaldref01_can.j0 k t154 t157 false ((rd_T48 l0_0 a1).f0) ((rd_T48 l0_0 a1).f1) ((rd_T50 l0_1 a2).f0) ((rd_T50 l0_1 a2).f1) ((rd_T50 l0_1 a2).f2))) = some r := by rw [if_neg (show ¬ (false = true) by decide)] at H; exact H
       clear H
       have H := H1
       clear H1
       obtain ⟨bq33, hbq33⟩ : ∃ b_ : Bool, b_ = ((rd_T50 l0_1 a2).f2) := ⟨_, rfl⟩
       replace H : (if bq33 = true then ((skewbaldref01_sure.f k ((rd_T48 l0_0 a1).f0) ((rd_T48 l0_0 a1).f1) t157).bind fun t161 => (skewbaldref01_can.j0 k t154 t157 t161 ((rd_T48 l0_0 a1).f0) ((rd_T48 l0_0 a1).f1) ((rd_T50 l0_1 a2).f0) ((rd_T50 l0_1 a2).f1) bq33)) else (skewbaldref01_can.j0 k t154 t157 false ((rd_T48 l0_0 a1).f0) ((rd_T48 l0_0 a1).f1) ((rd_T50 l0_1 a2).f0) ((rd_T50 l0_1 a2).f1) bq33)) = some r := by rw [← hbq33] at H; exact H
       have Nbq33 := Aside0.mk hbq33
       clear hbq33
       (try rw [← Nbq33.out])
       by_cases c34 : bq33 = true
       ·subst c34
        have H1 : ((skewbaldref01_sure.f k ((rd_T48 l0_0 a1).f0) ((rd_T48 l0_0 a1).f1) t157).bind fun t161 => (skewbaldref01_can.j0 k t154 t157 t161 ((rd_T48 l0_0 a1).f0) ((rd_T48 l0_0 a1).f1) ((rd_T50 l0_1 a2).f0) ((rd_T50 l0_1 a2).f1) true)) = some r := by rw [if_pos rfl] at H; exact H
        clear H
        have H := H1
        clear H1
        replace H := Option.bind_eq_some_iff.mp H
        obtain ⟨t161, A350, H⟩ := H
        replace H : (skewbaldref01_can.j0 k t154 t157 t161 ((rd_T48 l0_0 a1).f0) ((rd_T48 l0_0 a1).f1) ((rd_T50 l0_1 a2).f0) ((rd_T50 l0_1 a2).f1) true) = some r := H
        have A35 := Aside0.mk A350
        clear A350
        have H' := Aside0.mk H
        clear H
        have hnb36 := NB152_149.out
        have hnc36 := NB149_152.out
        have hnb37 := NB152_153.out
        have hnc37 := NB153_152.out
        have hcz38_0 : w25.cell? ⟨gb152, 0, none⟩ = some (.int .i64 ((rd_T48 l0_0 a1).f0)) := (blk_cell BK152.out 0).trans rfl
        have hcz38_1 : w25.cell? ⟨gb152, 1, none⟩ = some (.slice A150_1 ((rd_T48 l0_0 a1).f1).length c150_1) := (blk_cell BK152.out 1).trans rfl
        have hfz38_0 := blk_frozen BK152.out 0
        have hfz38_1 := blk_frozen BK152.out 1
        obtain ⟨Ao39, co39, eo39⟩ := Kd.R_slice HO156.out
        subst eo39
        go_wp2_with (first | ((with_reducible refine gate_callee (f := 100) rfl ?_); refine goesL_ (some 31) rfl rfl Tryd.func100 (by kernel_rfl) rfl #[.agg #[.int .i64 ((rd_T48 l0_0 a1).f0), .slice A150_1 ((rd_T48 l0_0 a1).f1).length c150_1], .slice Ao39 t154.length co39] rfl (by (try simp only [List.map_toArray, List.map_cons, List.map_nil]); first | done | rfl | (simp only [List.length_drop, List.length_take]; rfl)) ?_; (with_reducible refine (skewbaldref01_sure.calls k ((rd_T48 l0_0 a1).f0) _ _ ((rd_T48 l0_0 a1).f1) _ _ t154 false _ ?side1 ?side2 ?side3 ?side4 A26.out).mono ?_); (case side1 => exact cl); (case side2 => exact HC150_1.out); (case side3 => repeat (first | exact (Kd.R_reads' HO156.out).2.2 | (with_reducible refine Kd.C_alloc ?_ _) | (with_reducible refine Kd.C_drewN ?_ _) | (with_reducible refine Kd.C_drew ?_))); (case side4 => exact (Kd.R_reads' HO156.out).2.1); rintro e w40 ⟨rfl, hb⟩; refine ⟨_, rfl, ?_⟩; have n0_ := Aside0.mk (Kd.R_below (by (with_reducible repeat (first | apply Kd.R_alloc | apply Kd.R_drewN | apply Kd.R_drew)); exact HO156.out) hb); have n1_ := Aside0.mk (Kd.R_below (by (with_reducible repeat (first | apply Kd.R_alloc | apply Kd.R_drewN | apply Kd.R_drew)); exact HO159.out) hb); have n2_ := Aside0.mk (blk_below (g := gb149) (o := .cells #[.slice (some ad150) l0_0.length c0_0, .slice (some ad151) l0_1.length c0_1] 25 (0, 0)) bk hb); have n3_ := Aside0.mk (blk_below (g := gb152) (o := .cells #[.int .i64 ((rd_T48 l0_0 a1).f0), .slice A150_1 ((rd_T48 l0_0 a1).f1).length c150_1] 48 (0, 0)) bk hb); have n4_ := Aside0.mk (blk_below (g := gb153) (o := .cells #[.int .i64 ((rd_T50 l0_1 a2).f0), .slice A151_1 ((rd_T50 l0_1 a2).f1).length c151_1, .bool ((rd_T50 l0_1 a2).f2)] 50 (0, 0)) bk hb); have n5_ := Aside0.mk (below_step bl hb); clear HO156; clear HO159; clear BK149; clear BK152; clear BK153; clear HB; have HO156 := n0_; have HO159 := n1_; have BK149 := n2_; have BK152 := n3_; have BK153 := n4_; have HB := n5_; clear n0_ n1_ n2_ n3_ n4_ n5_; (try clear hb); (try clear hb2); (try clear hk); (try clear hi); have hnb41 := NB153_149.out; have hnc41 := NB149_153.out; have hcz42_0 : w40.cell? ⟨gb153, 0, none⟩ = some (.int .i64 ((rd_T50 l0_1 a2).f0)) := (blk_cell BK153.out 0).trans rfl; have hcz42_1 : w40.cell? ⟨gb153, 1, none⟩ = some (.slice A151_1 ((rd_T50 l0_1 a2).f1).length c151_1) := (blk_cell BK153.out 1).trans rfl; have hcz42_2 : w40.cell? ⟨gb153, 2, none⟩ = some (.bool true) := (blk_cell BK153.out 2).trans (by rw [← Nbq33.out]; rfl); have hfz42_0 := blk_frozen BK153.out 0; have hfz42_1 := blk_frozen BK153.out 1; have hfz42_2 := blk_frozen BK153.out 2; have hcz43_0 : w40.cell? ⟨gb152, 0, none⟩ = some (.int .i64 ((rd_T48 l0_0 a1).f0)) := (blk_cell BK152.out 0).trans rfl; have hcz43_1 : w40.cell? ⟨gb152, 1, none⟩ = some (.slice A150_1 ((rd_T48 l0_0 a1).f1).length c150_1) := (blk_cell BK152.out 1).trans rfl; have hfz43_0 := blk_frozen BK152.out 0; have hfz43_1 := blk_frozen BK152.out 1; obtain ⟨Ao44, co44, eo44⟩ := Kd.R_slice HO159.out; subst eo44) | (go_at_call 100; (with_reducible refine (skewbaldref01_sure.calls k ((rd_T48 l0_0 a1).f0) _ _ ((rd_T48 l0_0 a1).f1) _ _ t157 t161 _ ?side1 ?side2 ?side3 ?side4 A35.out).mono ?_); (case side1 => exact cl); (case side2 => exact HC150_1.out); (case side3 => repeat (first | exact (Kd.R_reads' HO159.out).2.2 | (with_reducible refine Kd.C_alloc ?_ _) | (with_reducible refine Kd.C_drewN ?_ _) | (with_reducible refine Kd.C_drew ?_))); (case side4 => exact (Kd.R_reads' HO159.out).2.1); rintro e w45 ⟨rfl, hb⟩; have n0_ := Aside0.mk (Kd.R_below (by (with_reducible repeat (first | apply Kd.R_alloc | apply Kd.R_drewN | apply Kd.R_drew)); exact HO156.out) hb); have n1_ := Aside0.mk (Kd.R_below (by (with_reducible repeat (first | apply Kd.R_alloc | apply Kd.R_drewN | apply Kd.R_drew)); exact HO159.out) hb); have n2_ := Aside0.mk (blk_below (g := gb149) (o := .cells #[.slice (some ad150) l0_0.length c0_0, .slice (some ad151) l0_1.length c0_1] 25 (0, 0)) bk hb); have n3_ := Aside0.mk (blk_below (g := gb152) (o := .cells #[.int .i64 ((rd_T48 l0_0 a1).f0), .slice A150_1 ((rd_T48 l0_0 a1).f1).length c150_1] 48 (0, 0)) bk hb); have n4_ := Aside0.mk (blk_below (g := gb153) (o := .cells #[.int .i64 ((rd_T50 l0_1 a2).f0), .slice A151_1 ((rd_T50 l0_1 a2).f1).length c151_1, .bool ((rd_T50 l0_1 a2).f2)] 50 (0, 0)) bk hb); have n5_ := Aside0.mk (below_step bl hb); clear HO156; clear HO159; clear BK149; clear BK152; clear BK153; clear HB; have HO156 := n0_; have HO159 := n1_; have BK149 := n2_; have BK152 := n3_; have BK153 := n4_; have HB := n5_; clear n0_ n1_ n2_ n3_ n4_ n5_; (try clear hb); (try clear hb2); (try clear hk); (try clear hi)))
        go_meet
        case rel => exact ⟨_, (t161), (by first | rfl | (simp; done) | (simp [*]; done)), (by rw [← Nbq33.out]; exact H'), ⟨by first | omega | exact Nat.le_refl _⟩, ⟨by (with_reducible repeat (first | apply Kd.R_alloc | apply Kd.R_drewN | apply Kd.R_drew)); exact Kd.R_mono HO156.out (fun _ hk => hk.2)⟩, ⟨by (with_reducible repeat (first | apply Kd.R_alloc | apply Kd.R_drewN | apply Kd.R_drew)); exact Kd.R_mono HO159.out (fun _ hk => hk.2)⟩, ⟨bk⟩, ⟨bk⟩, ⟨bk⟩, ⟨bl⟩⟩
       ·replace c34 := Bool.eq_false_iff.mpr c34
        subst c34
        have H1 : (skewbaldref01_can.j0 k t154 t157 false ((rd_T48 l0_0 a1).f0) ((rd_T48 l0_0 a1).f1) ((rd_T50 l0_1 a2).f0) ((rd_T50 l0_1 a2).f1) false) = some r := by rw [if_neg (show ¬ (false = true) by decide)] at H; exact H
        clear H
        have H := H1
        clear H1
        have H' := Aside0.mk H
        clear H
        have hnb46 := NB152_149.out
        have hnc46 := NB149_152.out
        have hnb47 := NB152_153.out
        have hnc47 := NB153_152.out
        have hcz48_0 : w25.cell? ⟨gb152, 0, none⟩ = some (.int .i64 ((rd_T48 l0_0 a1).f0)) := (blk_cell BK152.out 0).trans rfl
        have hcz48_1 : w25.cell? ⟨gb152, 1, none⟩ = some (.slice A150_1 ((rd_T48 l0_0 a1).f1).length c150_1) := (blk_cell BK152.out 1).trans rfl
        have hfz48_0 := blk_frozen BK152.out 0
        have hfz48_1 := blk_frozen BK152.out 1
        obtain ⟨Ao49, co49, eo49⟩ := Kd.R_slice HO156.out
        subst eo49
        go_wp2_with (first | ((with_reducible refine gate_callee (f := 100) rfl ?_); refine goesL_ (some 31) rfl rfl Tryd.func100 (by kernel_rfl) rfl #[.agg #[.int .i64 ((rd_T48 l0_0 a1).f0), .slice A150_1 ((rd_T48 l0_0 a1).f1).length c150_1], .slice Ao49 t154.length co49] rfl (by (try simp only [List.map_toArray, List.map_cons, List.map_nil]); first | done | rfl | (simp only [List.length_drop, List.length_take]; rfl)) ?_; (with_reducible refine (skewbaldref01_sure.calls k ((rd_T48 l0_0 a1).f0) _ _ ((rd_T48 l0_0 a1).f1) _ _ t154 false _ ?side1 ?side2 ?side3 ?side4 A26.out).mono ?_); (case side1 => exact cl); (case side2 => exact HC150_1.out); (case side3 => repeat (first | exact (Kd.R_reads' HO156.out).2.2 | (with_reducible refine Kd.C_alloc ?_ _) | (with_reducible refine Kd.C_drewN ?_ _) | (with_reducible refine Kd.C_drew ?_))); (case side4 => exact (Kd.R_reads' HO156.out).2.1); rintro e w50 ⟨rfl, hb⟩; refine ⟨_, rfl, ?_⟩; have n0_ := Aside0.mk (Kd.R_below (by (with_reducible repeat (first | apply Kd.R_alloc | apply Kd.R_drewN | apply Kd.R_drew)); exact HO156.out) hb); have n1_ := Aside0.mk (Kd.R_below (by (with_reducible repeat (first | apply Kd.R_alloc | apply Kd.R_drewN | apply Kd.R_drew)); exact HO159.out) hb); have n2_ := Aside0.mk (blk_below (g := gb149) (o := .cells #[.slice (some ad150) l0_0.length c0_0, .slice (some ad151) l0_1.length c0_1] 25 (0, 0)) bk hb); have n3_ := Aside0.mk (blk_below (g := gb152) (o := .cells #[.int .i64 ((rd_T48 l0_0 a1).f0), .slice A150_1 ((rd_T48 l0_0 a1).f1).length c150_1] 48 (0, 0)) bk hb); have n4_ := Aside0.mk (blk_below (g := gb153) (o := .cells #[.int .i64 ((rd_T50 l0_1 a2).f0), .slice A151_1 ((rd_T50 l0_1 a2).f1).length c151_1, .bool ((rd_T50 l0_1 a2).f2)] 50 (0, 0)) bk hb); have n5_ := Aside0.mk (below_step bl hb); clear HO156; clear HO159; clear BK149; clear BK152; clear BK153; clear HB; have HO156 := n0_; have HO159 := n1_; have BK149 := n2_; have BK152 := n3_; have BK153 := n4_; have HB := n5_; clear n0_ n1_ n2_ n3_ n4_ n5_; (try clear hb); (try clear hb2); (try clear hk); (try clear hi); have hnb51 := NB153_149.out; have hnc51 := NB149_153.out; have hcz52_0 : w50.cell? ⟨gb153, 0, none⟩ = some (.int .i64 ((rd_T50 l0_1 a2).f0)) := (blk_cell BK153.out 0).trans rfl; have hcz52_1 : w50.cell? ⟨gb153, 1, none⟩ = some (.slice A151_1 ((rd_T50 l0_1 a2).f1).length c151_1) := (blk_cell BK153.out 1).trans rfl; have hcz52_2 : w50.cell? ⟨gb153, 2, none⟩ = some (.bool false) := (blk_cell BK153.out 2).trans (by rw [← Nbq33.out]; rfl); have hfz52_0 := blk_frozen BK153.out 0; have hfz52_1 := blk_frozen BK153.out 1; have hfz52_2 := blk_frozen BK153.out 2))
        go_meet
        case rel => exact ⟨_, (false), (by first | rfl | (simp; done) | (simp [*]; done)), (by rw [← Nbq33.out]; exact H'), ⟨by first | omega | exact Nat.le_refl _⟩, ⟨by (with_reducible repeat (first | apply Kd.R_alloc | apply Kd.R_drewN | apply Kd.R_drew)); exact Kd.R_mono HO156.out (fun _ hk => hk.2)⟩, ⟨by (with_reducible repeat (first | apply Kd.R_alloc | apply Kd.R_drewN | apply Kd.R_drew)); exact Kd.R_mono HO159.out (fun _ hk => hk.2)⟩, ⟨bk⟩, ⟨bk⟩, ⟨bk⟩, ⟨bl⟩⟩
     case rest =>
      clear HC11
      try clear c1
      try clear p1
      try clear q1
      try clear hx1
      try clear c2
      try clear p2
      try clear c3
      try clear q3
      try clear c4
      try clear c5
      try clear c6
      try clear c6b0
      try clear c7
      try clear c7b0
      try clear c8
      try clear c8b0
      try clear c9
      try clear c10
      try clear c15
      try clear p15
      try clear q15
      try clear hx15
      try clear c27
      try clear c28
      try clear c29
      try clear q33
      try clear c34
      try clear c36
      try clear c37
      try clear c41
      try clear c46
      try clear c47
      try clear c51
      try clear hcz30_0
      try clear hcz30_1
      try clear hcz38_0
      try clear hcz38_1
      try clear hcz42_0
      try clear hcz42_1
      try clear hcz42_2
      try clear hcz43_0
      try clear hcz43_1
      try clear hcz48_0
      try clear hcz48_1
      try clear hcz52_0
      try clear hcz52_1
      try clear hcz52_2
      try clear hfz30_0
      try clear hfz30_1
      try clear hfz38_0
      try clear hfz38_1
      try clear hfz42_0
      try clear hfz42_1
      try clear hfz42_2
      try clear hfz43_0
      try clear hfz43_1
      try clear hfz48_0
      try clear hfz48_1
      try clear hfz52_0
      try clear hfz52_1
      try clear hfz52_2
      try clear hx150_0
      try clear hx150_1
      try clear hx151_0
      try clear hx151_1
      try clear hx151_2
      try clear p150
      try clear p151
      try clear q150
      try clear q151
      obtain ⟨kq, x40_10, rfl, HA, HJ10, HO_11, HO_12, BK149, BK152, BK153, HB⟩ := hcut
      cases kq with
      | zero => exact absurd HA.out (by simp [skewbaldref01_can.j0])
      | succ kj10 =>
       have H := HA.out
       clear HA
       simp only [skewbaldref01_can.j0] at H
       by_cases c53 : x40_10 = true
       ·subst c53
        have H1 : (some 2) = some r := by rw [if_pos rfl] at H; exact H
        clear H
        have H := H1
        clear H1
        obtain rfl := Option.some.inj H
        go_wp2
        go_ret
        exact ⟨by first | rfl | (simp [errW_none, errW_some] <;> rfl) | (simp [*, errW_none, errW_some] <;> rfl), bl⟩
       ·replace c53 := Bool.eq_false_iff.mpr c53
        subst c53
        have H1 : ((skewbaldref01_may.f kj10 ((rd_T48 l0_0 a1).f0) ((rd_T48 l0_0 a1).f1) t154).bind fun t162 => (if t162 = true then (some 1) else (if ((rd_T50 l0_1 a2).f2) = true then ((skewbaldref01_may.f kj10 ((rd_T48 l0_0 a1).f0) ((rd_T48 l0_0 a1).f1) t157).bind fun t163 => (if t163 = true then (some 1) else (some 0))) else (some 0)))) = some r := by rw [if_neg (show ¬ (false = true) by decide)] at H; exact H
        clear H
        have H := H1
        clear H1
        replace H := Option.bind_eq_some_iff.mp H
        obtain ⟨t162, A540, H⟩ := H
        replace H : (if t162 = true then (some 1) else (if ((rd_T50 l0_1 a2).f2) = true then ((skewbaldref01_may.f kj10 ((rd_T48 l0_0 a1).f0) ((rd_T48 l0_0 a1).f1) t157).bind fun t163 => (if t163 = true then (some 1) else (some 0))) else (some 0))) = some r := H
        have A54 := Aside0.mk A540
        clear A540
        by_cases c55 : t162 = true
        ·subst c55
         have H1 : (some 1) = some r := by rw [if_pos rfl] at H; exact H
         clear H
         have H := H1
         clear H1
         obtain rfl := Option.some.inj H
         have hnb56 := NB152_149.out
         have hnc56 := NB149_152.out
         have hnb57 := NB152_153.out
         have hnc57 := NB153_152.out
         have hcz58_0 : wc.cell? ⟨gb152, 0, none⟩ = some (.int .i64 ((rd_T48 l0_0 a1).f0)) := (blk_cell BK152.out 0).trans rfl
         have hcz58_1 : wc.cell? ⟨gb152, 1, none⟩ = some (.slice A150_1 ((rd_T48 l0_0 a1).f1).length c150_1) := (blk_cell BK152.out 1).trans rfl
         have hfz58_0 := blk_frozen BK152.out 0
         have hfz58_1 := blk_frozen BK152.out 1
         obtain ⟨Ao59, co59, eo59⟩ := Kd.R_slice HO_11.out
         subst eo59
         go_wp2_with (first | ((with_reducible refine gate_callee (f := 101) rfl ?_); refine goesL_ (some 43) rfl rfl Tryd.func101 (by kernel_rfl) rfl #[.agg #[.int .i64 ((rd_T48 l0_0 a1).f0), .slice A150_1 ((rd_T48 l0_0 a1).f1).length c150_1], .slice Ao59 t154.length co59] rfl (by (try simp only [List.map_toArray, List.map_cons, List.map_nil]); first | done | rfl | (simp only [List.length_drop, List.length_take]; rfl)) ?_; (with_reducible refine (skewbaldref01_may.calls kj10 ((rd_T48 l0_0 a1).f0) _ _ ((rd_T48 l0_0 a1).f1) _ _ t154 true _ ?side1 ?side2 ?side3 ?side4 A54.out).mono ?_); (case side1 => exact cl); (case side2 => exact HC150_1.out); (case side3 => repeat (first | exact (Kd.R_reads' HO_11.out).2.2 | (with_reducible refine Kd.C_alloc ?_ _) | (with_reducible refine Kd.C_drewN ?_ _) | (with_reducible refine Kd.C_drew ?_))); (case side4 => exact (Kd.R_reads' HO_11.out).2.1); rintro e w60 ⟨rfl, hb⟩; refine ⟨_, rfl, ?_⟩; have n0_ := Aside0.mk (Kd.R_below (by (with_reducible repeat (first | apply Kd.R_alloc | apply Kd.R_drewN | apply Kd.R_drew)); exact HO_11.out) hb); have n1_ := Aside0.mk (Kd.R_below (by (with_reducible repeat (first | apply Kd.R_alloc | apply Kd.R_drewN | apply Kd.R_drew)); exact HO_12.out) hb); have n2_ := Aside0.mk (blk_below (g := gb149) (o := .cells #[.slice (some ad150) l0_0.length c0_0, .slice (some ad151) l0_1.length c0_1] 25 (0, 0)) bk hb); have n3_ := Aside0.mk (blk_below (g := gb152) (o := .cells #[.int .i64 ((rd_T48 l0_0 a1).f0), .slice A150_1 ((rd_T48 l0_0 a1).f1).length c150_1] 48 (0, 0)) bk hb); have n4_ := Aside0.mk (blk_below (g := gb153) (o := .cells #[.int .i64 ((rd_T50 l0_1 a2).f0), .slice A151_1 ((rd_T50 l0_1 a2).f1).length c151_1, .bool ((rd_T50 l0_1 a2).f2)] 50 (0, 0)) bk hb); have n5_ := Aside0.mk (below_step bl hb); clear HO_11; clear HO_12; clear BK149; clear BK152; clear BK153; clear HB; have HO_11 := n0_; have HO_12 := n1_; have BK149 := n2_; have BK152 := n3_; have BK153 := n4_; have HB := n5_; clear n0_ n1_ n2_ n3_ n4_ n5_; (try clear hb); (try clear hb2); (try clear hk); (try clear hi)))
         go_ret
         exact ⟨by first | rfl | (simp [errW_none, errW_some] <;> rfl) | (simp [*, errW_none, errW_some] <;> rfl), bl⟩
        ·replace c55 := Bool.eq_false_iff.mpr c55
         subst c55
         have H1 : (if ((rd_T50 l0_1 a2).f2) = true then ((skewbaldref01_may.f kj10 ((rd_T48 l0_0 a1).f0) ((rd_T48 l0_0 a1).f1) t157).bind fun t163 => (if t163 = true then (some 1) else (some 0))) else (some 0)) = some r := by rw [if_neg (show ¬ (false = true) by decide)] at H; exact H
         clear H
         have H := H1
         clear H1
         by_cases c61 : ((rd_T50 l0_1 a2).f2) = true
         ·rw [if_pos c61] at H
          have c61b0 : ((rd_T50 l0_1 a2).f2) = true := c61
          clear c61
          replace H := Option.bind_eq_some_iff.mp H
          obtain ⟨t163, A620, H⟩ := H
          replace H : (if t163 = true then (some 1) else (some 0)) = some r := H
          have A62 := Aside0.mk A620
          clear A620
          by_cases c63 : t163 = true
          ·subst c63
           have H1 : (some 1) = some r := by rw [if_pos rfl] at H; exact H
           clear H
           have H := H1
           clear H1
           obtain rfl := Option.some.inj H
           have hnb64 := NB152_149.out
           have hnc64 := NB149_152.out
           have hnb65 := NB152_153.out
           have hnc65 := NB153_152.out
           have hcz66_0 : wc.cell? ⟨gb152, 0, none⟩ = some (.int .i64 ((rd_T48 l0_0 a1).f0)) := (blk_cell BK152.out 0).trans rfl
           have hcz66_1 : wc.cell? ⟨gb152, 1, none⟩ = some (.slice A150_1 ((rd_T48 l0_0 a1).f1).length c150_1) := (blk_cell BK152.out 1).trans rfl
           have hfz66_0 := blk_frozen BK152.out 0
           have hfz66_1 := blk_frozen BK152.out 1
           obtain ⟨Ao67, co67, eo67⟩ := Kd.R_slice HO_11.out
           subst eo67
           go_wp2_with (first | ((with_reducible refine gate_callee (f := 101) rfl ?_); refine goesL_ (some 43) rfl rfl Tryd.func101 (by kernel_rfl) rfl #[.agg #[.int .i64 ((rd_T48 l0_0 a1).f0), .slice A150_1 ((rd_T48 l0_0 a1).f1).length c150_1], .slice Ao67 t154.length co67] rfl (by (try simp only [List.map_toArray, List.map_cons, List.map_nil]); first | done | rfl | (simp only [List.length_drop, List.length_take]; rfl)) ?_; (with_reducible refine (skewbaldref01_may.calls kj10 ((rd_T48 l0_0 a1).f0) _ _ ((rd_T48 l0_0 a1).f1) _ _ t154 false _ ?side1 ?side2 ?side3 ?side4 A54.out).mono ?_); (case side1 => exact cl); (case side2 => exact HC150_1.out); (case side3 => repeat (first | exact (Kd.R_reads' HO_11.out).2.2 | (with_reducible refine Kd.C_alloc ?_ _) | (with_reducible refine Kd.C_drewN ?_ _) | (with_reducible refine Kd.C_drew ?_))); (case side4 => exact (Kd.R_reads' HO_11.out).2.1); rintro e w68 ⟨rfl, hb⟩; refine ⟨_, rfl, ?_⟩; have n0_ := Aside0.mk (Kd.R_below (by (with_reducible repeat (first | apply Kd.R_alloc | apply Kd.R_drewN | apply Kd.R_drew)); exact HO_11.out) hb); have n1_ := Aside0.mk (Kd.R_below (by (with_reducible repeat (first | apply Kd.R_alloc | apply Kd.R_drewN | apply Kd.R_drew)); exact HO_12.out) hb); have n2_ := Aside0.mk (blk_below (g := gb149) (o := .cells #[.slice (some ad150) l0_0.length c0_0, .slice (some ad151) l0_1.length c0_1] 25 (0, 0)) bk hb); have n3_ := Aside0.mk (blk_below (g := gb152) (o := .cells #[.int .i64 ((rd_T48 l0_0 a1).f0), .slice A150_1 ((rd_T48 l0_0 a1).f1).length c150_1] 48 (0, 0)) bk hb); have n4_ := Aside0.mk (blk_below (g := gb153) (o := .cells #[.int .i64 ((rd_T50 l0_1 a2).f0), .slice A151_1 ((rd_T50 l0_1 a2).f1).length c151_1, .bool ((rd_T50 l0_1 a2).f2)] 50 (0, 0)) bk hb); have n5_ := Aside0.mk (below_step bl hb); clear HO_11; clear HO_12; clear BK149; clear BK152; clear BK153; clear HB; have HO_11 := n0_; have HO_12 := n1_; have BK149 := n2_; have BK152 := n3_; have BK153 := n4_; have HB := n5_; clear n0_ n1_ n2_ n3_ n4_ n5_; (try clear hb); (try clear hb2); (try clear hk); (try clear hi); have hnb69 := NB153_149.out; have hnc69 := NB149_153.out; have hcz70_0 : w68.cell? ⟨gb153, 0, none⟩ = some (.int .i64 ((rd_T50 l0_1 a2).f0)) := (blk_cell BK153.out 0).trans rfl; have hcz70_1 : w68.cell? ⟨gb153, 1, none⟩ = some (.slice A151_1 ((rd_T50 l0_1 a2).f1).length c151_1) := (blk_cell BK153.out 1).trans rfl; have hcz70_2 : w68.cell? ⟨gb153, 2, none⟩ = some (.bool ((rd_T50 l0_1 a2).f2)) := (blk_cell BK153.out 2).trans rfl; have hfz70_0 := blk_frozen BK153.out 0; have hfz70_1 := blk_frozen BK153.out 1; have hfz70_2 := blk_frozen BK153.out 2; have hcz71_0 : w68.cell? ⟨gb152, 0, none⟩ = some (.int .i64 ((rd_T48 l0_0 a1).f0)) := (blk_cell BK152.out 0).trans rfl; have hcz71_1 : w68.cell? ⟨gb152, 1, none⟩ = some (.slice A150_1 ((rd_T48 l0_0 a1).f1).length c150_1) := (blk_cell BK152.out 1).trans rfl; have hfz71_0 := blk_frozen BK152.out 0; have hfz71_1 := blk_frozen BK152.out 1; obtain ⟨Ao72, co72, eo72⟩ := Kd.R_slice HO_12.out; subst eo72) | (go_at_call 101; (with_reducible refine (skewbaldref01_may.calls kj10 ((rd_T48 l0_0 a1).f0) _ _ ((rd_T48 l0_0 a1).f1) _ _ t157 true _ ?side1 ?side2 ?side3 ?side4 A62.out).mono ?_); (case side1 => exact cl); (case side2 => exact HC150_1.out); (case side3 => repeat (first | exact (Kd.R_reads' HO_12.out).2.2 | (with_reducible refine Kd.C_alloc ?_ _) | (with_reducible refine Kd.C_drewN ?_ _) | (with_reducible refine Kd.C_drew ?_))); (case side4 => exact (Kd.R_reads' HO_12.out).2.1); rintro e w73 ⟨rfl, hb⟩; have n0_ := Aside0.mk (Kd.R_below (by (with_reducible repeat (first | apply Kd.R_alloc | apply Kd.R_drewN | apply Kd.R_drew)); exact HO_11.out) hb); have n1_ := Aside0.mk (Kd.R_below (by (with_reducible repeat (first | apply Kd.R_alloc | apply Kd.R_drewN | apply Kd.R_drew)); exact HO_12.out) hb); have n2_ := Aside0.mk (blk_below (g := gb149) (o := .cells #[.slice (some ad150) l0_0.length c0_0, .slice (some ad151) l0_1.length c0_1] 25 (0, 0)) bk hb); have n3_ := Aside0.mk (blk_below (g := gb152) (o := .cells #[.int .i64 ((rd_T48 l0_0 a1).f0), .slice A150_1 ((rd_T48 l0_0 a1).f1).length c150_1] 48 (0, 0)) bk hb); have n4_ := Aside0.mk (blk_below (g := gb153) (o := .cells #[.int .i64 ((rd_T50 l0_1 a2).f0), .slice A151_1 ((rd_T50 l0_1 a2).f1).length c151_1, .bool ((rd_T50 l0_1 a2).f2)] 50 (0, 0)) bk hb); have n5_ := Aside0.mk (below_step bl hb); clear HO_11; clear HO_12; clear BK149; clear BK152; clear BK153; clear HB; have HO_11 := n0_; have HO_12 := n1_; have BK149 := n2_; have BK152 := n3_; have BK153 := n4_; have HB := n5_; clear n0_ n1_ n2_ n3_ n4_ n5_; (try clear hb); (try clear hb2); (try clear hk); (try clear hi)))
           go_ret
           exact ⟨by first | rfl | (simp [errW_none, errW_some] <;> rfl) | (simp [*, errW_none, errW_some] <;> rfl), bl⟩
          ·replace c63 := Bool.eq_false_iff.mpr c63
           subst c63
           have H1 : (some 0) = some r := by rw [if_neg (show ¬ (false = true) by decide)] at H; exact H
           clear H
           have H := H1
           clear H1
           obtain rfl := Option.some.inj H
           have hnb74 := NB152_149.out
           have hnc74 := NB149_152.out
           have hnb75 := NB152_153.out
           have hnc75 := NB153_152.out
           have hcz76_0 : wc.cell? ⟨gb152, 0, none⟩ = some (.int .i64 ((rd_T48 l0_0 a1).f0)) := (blk_cell BK152.out 0).trans rfl
           have hcz76_1 : wc.cell? ⟨gb152, 1, none⟩ = some (.slice A150_1 ((rd_T48 l0_0 a1).f1).length c150_1) := (blk_cell BK152.out 1).trans rfl
           have hfz76_0 := blk_frozen BK152.out 0
           have hfz76_1 := blk_frozen BK152.out 1
           obtain ⟨Ao77, co77, eo77⟩ := Kd.R_slice HO_11.out
           subst eo77
           go_wp2_with (first | ((with_reducible refine gate_callee (f := 101) rfl ?_); refine goesL_ (some 43) rfl rfl Tryd.func101 (by kernel_rfl) rfl #[.agg #[.int .i64 ((rd_T48 l0_0 a1).f0), .slice A150_1 ((rd_T48 l0_0 a1).f1).length c150_1], .slice Ao77 t154.length co77] rfl (by (try simp only [List.map_toArray, List.map_cons, List.map_nil]); first | done | rfl | (simp only [List.length_drop, List.length_take]; rfl)) ?_; (with_reducible refine (skewbaldref01_may.calls kj10 ((rd_T48 l0_0 a1).f0) _ _ ((rd_T48 l0_0 a1).f1) _ _ t154 false _ ?side1 ?side2 ?side3 ?side4 A54.out).mono ?_); (case side1 => exact cl); (case side2 => exact HC150_1.out); (case side3 => repeat (first | exact (Kd.R_reads' HO_11.out).2.2 | (with_reducible refine Kd.C_alloc ?_ _) | (with_reducible refine Kd.C_drewN ?_ _) | (with_reducible refine Kd.C_drew ?_))); (case side4 => exact (Kd.R_reads' HO_11.out).2.1); rintro e w78 ⟨rfl, hb⟩; refine ⟨_, rfl, ?_⟩; have n0_ := Aside0.mk (Kd.R_below (by (with_reducible repeat (first | apply Kd.R_alloc | apply Kd.R_drewN | apply Kd.R_drew)); exact HO_11.out) hb); have n1_ := Aside0.mk (Kd.R_below (by (with_reducible repeat (first | apply Kd.R_alloc | apply Kd.R_drewN | apply Kd.R_drew)); exact HO_12.out) hb); have n2_ := Aside0.mk (blk_below (g := gb149) (o := .cells #[.slice (some ad150) l0_0.length c0_0, .slice (some ad151) l0_1.length c0_1] 25 (0, 0)) bk hb); have n3_ := Aside0.mk (blk_below (g := gb152) (o := .cells #[.int .i64 ((rd_T48 l0_0 a1).f0), .slice A150_1 ((rd_T48 l0_0 a1).f1).length c150_1] 48 (0, 0)) bk hb); have n4_ := Aside0.mk (blk_below (g := gb153) (o := .cells #[.int .i64 ((rd_T50 l0_1 a2).f0), .slice A151_1 ((rd_T50 l0_1 a2).f1).length c151_1, .bool ((rd_T50 l0_1 a2).f2)] 50 (0, 0)) bk hb); have n5_ := Aside0.mk (below_step bl hb); clear HO_11; clear HO_12; clear BK149; clear BK152; clear BK153; clear HB; have HO_11 := n0_; have HO_12 := n1_; have BK149 := n2_; have BK152 := n3_; have BK153 := n4_; have HB := n5_; clear n0_ n1_ n2_ n3_ n4_ n5_; (try clear hb); (try clear hb2); (try clear hk); (try clear hi); have hnb79 := NB153_149.out; have hnc79 := NB149_153.out; have hcz80_0 : w78.cell? ⟨gb153, 0, none⟩ = some (.int .i64 ((rd_T50 l0_1 a2).f0)) := (blk_cell BK153.out 0).trans rfl; have hcz80_1 : w78.cell? ⟨gb153, 1, none⟩ = some (.slice A151_1 ((rd_T50 l0_1 a2).f1).length c151_1) := (blk_cell BK153.out 1).trans rfl; have hcz80_2 : w78.cell? ⟨gb153, 2, none⟩ = some (.bool ((rd_T50 l0_1 a2).f2)) := (blk_cell BK153.out 2).trans rfl; have hfz80_0 := blk_frozen BK153.out 0; have hfz80_1 := blk_frozen BK153.out 1; have hfz80_2 := blk_frozen BK153.out 2; have hcz81_0 : w78.cell? ⟨gb152, 0, none⟩ = some (.int .i64 ((rd_T48 l0_0 a1).f0)) := (blk_cell BK152.out 0).trans rfl; have hcz81_1 : w78.cell? ⟨gb152, 1, none⟩ = some (.slice A150_1 ((rd_T48 l0_0 a1).f1).length c150_1) := (blk_cell BK152.out 1).trans rfl; have hfz81_0 := blk_frozen BK152.out 0; have hfz81_1 := blk_frozen BK152.out 1; obtain ⟨Ao82, co82, eo82⟩ := Kd.R_slice HO_12.out; subst eo82) | (go_at_call 101; (with_reducible refine (skewbaldref01_may.calls kj10 ((rd_T48 l0_0 a1).f0) _ _ ((rd_T48 l0_0 a1).f1) _ _ t157 false _ ?side1 ?side2 ?side3 ?side4 A62.out).mono ?_); (case side1 => exact cl); (case side2 => exact HC150_1.out); (case side3 => repeat (first | exact (Kd.R_reads' HO_12.out).2.2 | (with_reducible refine Kd.C_alloc ?_ _) | (with_reducible refine Kd.C_drewN ?_ _) | (with_reducible refine Kd.C_drew ?_))); (case side4 => exact (Kd.R_reads' HO_12.out).2.1); rintro e w83 ⟨rfl, hb⟩; have n0_ := Aside0.mk (Kd.R_below (by (with_reducible repeat (first | apply Kd.R_alloc | apply Kd.R_drewN | apply Kd.R_drew)); exact HO_11.out) hb); have n1_ := Aside0.mk (Kd.R_below (by (with_reducible repeat (first | apply Kd.R_alloc | apply Kd.R_drewN | apply Kd.R_drew)); exact HO_12.out) hb); have n2_ := Aside0.mk (blk_below (g := gb149) (o := .cells #[.slice (some ad150) l0_0.length c0_0, .slice (some ad151) l0_1.length c0_1] 25 (0, 0)) bk hb); have n3_ := Aside0.mk (blk_below (g := gb152) (o := .cells #[.int .i64 ((rd_T48 l0_0 a1).f0), .slice A150_1 ((rd_T48 l0_0 a1).f1).length c150_1] 48 (0, 0)) bk hb); have n4_ := Aside0.mk (blk_below (g := gb153) (o := .cells #[.int .i64 ((rd_T50 l0_1 a2).f0), .slice A151_1 ((rd_T50 l0_1 a2).f1).length c151_1, .bool ((rd_T50 l0_1 a2).f2)] 50 (0, 0)) bk hb); have n5_ := Aside0.mk (below_step bl hb); clear HO_11; clear HO_12; clear BK149; clear BK152; clear BK153; clear HB; have HO_11 := n0_; have HO_12 := n1_; have BK149 := n2_; have BK152 := n3_; have BK153 := n4_; have HB := n5_; clear n0_ n1_ n2_ n3_ n4_ n5_; (try clear hb); (try clear hb2); (try clear hk); (try clear hi)))
           go_ret
           exact ⟨by first | rfl | (simp [errW_none, errW_some] <;> rfl) | (simp [*, errW_none, errW_some] <;> rfl), bl⟩
         ·rw [if_neg c61] at H
          have c61b0 : ((rd_T50 l0_1 a2).f2) = false := by simpa using c61
          clear c61
          obtain rfl := Option.some.inj H
          have hnb84 := NB152_149.out
          have hnc84 := NB149_152.out
          have hnb85 := NB152_153.out
          have hnc85 := NB153_152.out
          have hcz86_0 : wc.cell? ⟨gb152, 0, none⟩ = some (.int .i64 ((rd_T48 l0_0 a1).f0)) := (blk_cell BK152.out 0).trans rfl
          have hcz86_1 : wc.cell? ⟨gb152, 1, none⟩ = some (.slice A150_1 ((rd_T48 l0_0 a1).f1).length c150_1) := (blk_cell BK152.out 1).trans rfl
          have hfz86_0 := blk_frozen BK152.out 0
          have hfz86_1 := blk_frozen BK152.out 1
          obtain ⟨Ao87, co87, eo87⟩ := Kd.R_slice HO_11.out
          subst eo87
          go_wp2_with (first | ((with_reducible refine gate_callee (f := 101) rfl ?_); refine goesL_ (some 43) rfl rfl Tryd.func101 (by kernel_rfl) rfl #[.agg #[.int .i64 ((rd_T48 l0_0 a1).f0), .slice A150_1 ((rd_T48 l0_0 a1).f1).length c150_1], .slice Ao87 t154.length co87] rfl (by (try simp only [List.map_toArray, List.map_cons, List.map_nil]); first | done | rfl | (simp only [List.length_drop, List.length_take]; rfl)) ?_; (with_reducible refine (skewbaldref01_may.calls kj10 ((rd_T48 l0_0 a1).f0) _ _ ((rd_T48 l0_0 a1).f1) _ _ t154 false _ ?side1 ?side2 ?side3 ?side4 A54.out).mono ?_); (case side1 => exact cl); (case side2 => exact HC150_1.out); (case side3 => repeat (first | exact (Kd.R_reads' HO_11.out).2.2 | (with_reducible refine Kd.C_alloc ?_ _) | (with_reducible refine Kd.C_drewN ?_ _) | (with_reducible refine Kd.C_drew ?_))); (case side4 => exact (Kd.R_reads' HO_11.out).2.1); rintro e w88 ⟨rfl, hb⟩; refine ⟨_, rfl, ?_⟩; have n0_ := Aside0.mk (Kd.R_below (by (with_reducible repeat (first | apply Kd.R_alloc | apply Kd.R_drewN | apply Kd.R_drew)); exact HO_11.out) hb); have n1_ := Aside0.mk (Kd.R_below (by (with_reducible repeat (first | apply Kd.R_alloc | apply Kd.R_drewN | apply Kd.R_drew)); exact HO_12.out) hb); have n2_ := Aside0.mk (blk_below (g := gb149) (o := .cells #[.slice (some ad150) l0_0.length c0_0, .slice (some ad151) l0_1.length c0_1] 25 (0, 0)) bk hb); have n3_ := Aside0.mk (blk_below (g := gb152) (o := .cells #[.int .i64 ((rd_T48 l0_0 a1).f0), .slice A150_1 ((rd_T48 l0_0 a1).f1).length c150_1] 48 (0, 0)) bk hb); have n4_ := Aside0.mk (blk_below (g := gb153) (o := .cells #[.int .i64 ((rd_T50 l0_1 a2).f0), .slice A151_1 ((rd_T50 l0_1 a2).f1).length c151_1, .bool ((rd_T50 l0_1 a2).f2)] 50 (0, 0)) bk hb); have n5_ := Aside0.mk (below_step bl hb); clear HO_11; clear HO_12; clear BK149; clear BK152; clear BK153; clear HB; have HO_11 := n0_; have HO_12 := n1_; have BK149 := n2_; have BK152 := n3_; have BK153 := n4_; have HB := n5_; clear n0_ n1_ n2_ n3_ n4_ n5_; (try clear hb); (try clear hb2); (try clear hk); (try clear hi); have hnb89 := NB153_149.out; have hnc89 := NB149_153.out; have hcz90_0 : w88.cell? ⟨gb153, 0, none⟩ = some (.int .i64 ((rd_T50 l0_1 a2).f0)) := (blk_cell BK153.out 0).trans rfl; have hcz90_1 : w88.cell? ⟨gb153, 1, none⟩ = some (.slice A151_1 ((rd_T50 l0_1 a2).f1).length c151_1) := (blk_cell BK153.out 1).trans rfl; have hcz90_2 : w88.cell? ⟨gb153, 2, none⟩ = some (.bool ((rd_T50 l0_1 a2).f2)) := (blk_cell BK153.out 2).trans rfl; have hfz90_0 := blk_frozen BK153.out 0; have hfz90_1 := blk_frozen BK153.out 1; have hfz90_2 := blk_frozen BK153.out 2))
          go_ret
          exact ⟨by first | rfl | (simp [errW_none, errW_some] <;> rfl) | (simp [*, errW_none, errW_some] <;> rfl), bl⟩
    ·rw [if_neg c8] at H
     exact absurd H (by simp)
   ·rw [if_neg c7] at H
    exact absurd H (by simp)
  ·rw [if_neg c6] at H
   exact absurd H (by simp)
 ·rw [if_neg c5] at H
  exact absurd H (by simp)
end Go.Proofs.YtekjlpldooihhaaDoor.PT
