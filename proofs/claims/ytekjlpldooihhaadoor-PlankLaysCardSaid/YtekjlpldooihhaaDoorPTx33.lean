/- Printed by a program (prx.py). -/
import Derived.Test.YtekjlpldooihhaaDoorRw
import Derived.Test.YtekjlpldooihhaaDoorSv
import Derived.Test.YtekjlpldooihhaaDoorPTx3
import Derived.Test.YtekjlpldooihhaaDoorPTx11
namespace Go.Proofs.YtekjlpldooihhaaDoor.PT
open Go.Proofs.YtekjlpldooihhaaDoorSh
open Go.Proofs.YtekjlpldooihhaaDoor.PA (S48 S50 S60 at_L2 at_L4 at_T48 at_T50 at_T60 errW errW_none errW_some k48 k48_mk k48_mkM k48_open k48_openM k50 k50_mk k50_mkM k50_open k50_openM k60 k60_mk k60_mkM k60_open k60_openM rd_L2 rd_L4 rd_T48 rd_T50 rd_T60 z48 z50 z60)
open Go.Proofs.YtekjlpldooihhaaDoorP Go.Proofs.YtekjlpldooihhaaDoorA Go.Proofs.YtekjlpldooihhaaDoorK
open Go.RowKit Go.Proofs.YtekjlpldooihhaaDoorW.PrintWords Go.Proofs.YtekjlpldooihhaaDoorW.PrintLast Go.Proofs.YtekjlpldooihhaaDoorW.PrintMore
attribute [local go_sem] max2_int min2_int max_two min_two max_three min_three max_four min_four
set_option linter.unusedVariables false
set_option linter.unusedSimpArgs false
mutual
def skewbaldref01_laid.l0 : Nat → Int → List Int → List Int → Int → List Int → Int → List (S48) → List (S50) → Option (List Int × Bool)
 | 0, _, _, _, _, _, _, _, _ => none
 | k + 1, x1, x2, x3, x10, x11, x12, x790000, x790001 => if x12 < (x11.length : Int) then (skewbaldref01_laid.l1 k x1 x2 x3 x10 x11 x12 true 0 x790000 x790001) else (some (([] : List Int), false))
def skewbaldref01_laid.l1 : Nat → Int → List Int → List Int → Int → List Int → Int → Bool → Int → List (S48) → List (S50) → Option (List Int × Bool)
 | 0, _, _, _, _, _, _, _, _, _, _ => none
 | k + 1, x1, x2, x3, x10, x11, x12, x13, x14, x790000, x790001 => if x14 < x10 then (if x13 = true then (if 0 ≤ x12 then (if x12 < (x11.length : Int) then (if 0 ≤ x10 then (if x10 < (x2.length : Int) then (if 0 ≤ (rd x2 x10) then (if (rd x2 x10) < (x790001.length : Int) then (if 0 ≤ x14 then (if x14 < (x3.length : Int) then (if (wrap64 ((rd x11 x12) + ((rd_T50 x790001 (rd x2 x10)).f0))) ≤ (rd x3 x14) then (skewbaldref01_laid.l1 k x1 x2 x3 x10 x11 x12 true (wrap64 (x14 + 1)) x790000 x790001) else (if x14 < (x2.length : Int) then (if 0 ≤ (rd x2 x14) then (if (rd x2 x14) < (x790001.length : Int) then (skewbaldref01_laid.l1 k x1 x2 x3 x10 x11 x12 (decide ((wrap64 ((rd x3 x14) + ((rd_T50 x790001 (rd x2 x14)).f0))) ≤ (rd x11 x12))) (wrap64 (x14 + 1)) x790000 x790001) else (none)) else (none)) else (none))) else (none)) else (none)) else (none)) else (none)) else (none)) else (none)) else (none)) else (none)) else (skewbaldref01_laid.l1 k x1 x2 x3 x10 x11 x12 false (wrap64 (x14 + 1)) x790000 x790001)) else (if x13 = true then (if 0 ≤ x12 then (if x12 < (x11.length : Int) then ((skewbaldref00_Add.f x3 (rd x11 x12)).bind fun t803 => ((skewbaldref01_laid.f k x790000 x790001 x1 x2 t803).bind fun bt806 => (if bt806.2 = true then (some (bt806.1, true)) else (skewbaldref01_laid.l0 k x1 x2 x3 x10 x11 (wrap64 (x12 + 1)) x790000 x790001)))) else (none)) else (none)) else (skewbaldref01_laid.l0 k x1 x2 x3 x10 x11 (wrap64 (x12 + 1)) x790000 x790001))
def skewbaldref01_laid.f : Nat → List (S48) → List (S50) → Int → List Int → List Int → Option (List Int × Bool)
 | 0, _, _, _, _, _ => none
 | k + 1, l0_0, l0_1, a1, l2, l3 => if (l3.length : Int) = (l2.length : Int) then (some (l3, true)) else (if 0 ≤ (l3.length : Int) then (if (l3.length : Int) < (l2.length : Int) then ((skewbaldref01_spots.f k l0_0 l0_1 a1 (rd l2 (l3.length : Int))).bind fun t791 => (skewbaldref01_laid.l0 k a1 l2 l3 (l3.length : Int) t791 0 l0_0 l0_1)) else (none)) else (none))
end
def skewbaldref01_laid.T4 : Bool × List (List Nat × List Nat) := (true, [([], []), ([], []), ([], []), ([], []), ([2, 3], [2, 3]), ([4], [4]), ([0, 1, 5], [0, 1, 5]), ([6, 6, 0, 1, 2, 3, 4, 5, 6], [6])])
def skewbaldref01_laid.B4 : List Nat := [0, 0, 0, 0, 12, 28, 63, 127]
theorem skewbaldref01_laid.tab4 : rtab .any (opsOf Tryd.f78 4) = skewbaldref01_laid.T4 := by kernel_rfl
theorem skewbaldref01_laid.bits4 : waitsOk skewbaldref01_laid.T4.2 skewbaldref01_laid.B4 = true := by kernel_rfl
def skewbaldref01_laid.T12 : Bool × List (List Nat × List Nat) := (true, [([], []), ([0], [0]), ([1], [1]), ([1], [1]), ([2, 3, 1], [1, 2, 3]), ([4, 1], [1, 4]), ([1], [1]), ([6, 1], [1, 6]), ([1], [1]), ([1], [1]), ([8, 9, 1], [1, 8, 9]), ([10, 1], [1, 10]), ([7, 11, 1], [1, 7, 11]), ([12, 1], [1, 12]), ([13, 1], [1, 13]), ([5, 14, 1], [1, 5, 14]), ([1], [1]), ([1], [1]), ([16, 17, 1], [1, 16, 17]), ([18, 1], [1, 18]), ([15, 19, 1], [1, 15, 19]), ([20, 1, 1], [1, 20]), ([21], [21]), ([21], [21]), ([22, 23, 21], [21, 22, 23]), ([24, 21], [21, 24]), ([21], [21]), ([26, 21], [21, 26]), ([21], [21]), ([21], [21]), ([28, 29, 21], [21, 28, 29]), ([30, 21], [21, 30]), ([27, 31, 21], [21, 27, 31]), ([32, 21], [21, 32]), ([33, 21], [21, 33]), ([25, 34, 21], [21, 25, 34]), ([21], [21]), ([21], [21]), ([36, 37, 21], [21, 36, 37]), ([38, 21], [21, 38]), ([35, 39, 21], [21, 35, 39]), ([21, 40, 1], [1, 21, 40]), ([1, 41], [1, 41]), ([42, 21, 0, 1, 2, 3, 4, 5, 6, 7, 8, 9, 10, 11, 12, 13, 14, 15, 16, 17, 18, 19, 20, 21, 22, 23, 24, 25, 26, 27, 28, 29, 30, 31, 32, 33, 34, 35, 36, 37, 38, 39, 40, 41, 42], [0, 42])])
def skewbaldref01_laid.B12 : List Nat := [0, 1, 3, 3, 15, 31, 3, 67, 3, 3, 771, 1795, 4035, 8131, 16323, 32767, 3, 3, 196611, 458755, 1048575, 2097151, 4194303, 4194303, 16777215, 33554431, 4194303, 71303167, 4194303, 4194303, 809500671, 1883242495, 4232052735, 8527020031, 17116954623, 34359738367, 4194303, 4194303, 206162624511, 481040531455, 1099511627775, 2199023255551, 4398046511103, 8796093022207]
theorem skewbaldref01_laid.tab12 : rtab .any (opsOf Tryd.f78 12) = skewbaldref01_laid.T12 := by kernel_rfl
theorem skewbaldref01_laid.bits12 : waitsOk skewbaldref01_laid.T12.2 skewbaldref01_laid.B12 = true := by kernel_rfl
def skewbaldref01_laid.T14 : Bool × List (List Nat × List Nat) := (true, [([], []), ([], []), ([], []), ([], []), ([], []), ([], []), ([4, 5], [4, 5]), ([6], [6]), ([3, 7], [3, 7]), ([0, 1, 2, 8, 8], [0, 1, 2, 8]), ([9], [9]), ([10], [10]), ([10], [10]), ([11, 9, 0, 1, 2, 3, 4, 5, 6, 7, 8, 9, 10, 11], [11]), ([12, 13, 0, 1, 2, 3, 4, 5, 6, 7, 8, 9, 10, 11, 12, 13], [12])])
def skewbaldref01_laid.B14 : List Nat := [0, 0, 0, 0, 0, 0, 48, 112, 248, 511, 1023, 2047, 2047, 4095, 16383]
theorem skewbaldref01_laid.tab14 : rtab .any (opsOf Tryd.f78 14) = skewbaldref01_laid.T14 := by kernel_rfl
theorem skewbaldref01_laid.bits14 : waitsOk skewbaldref01_laid.T14.2 skewbaldref01_laid.B14 = true := by kernel_rfl
set_option maxHeartbeats 8000000 in
set_option maxRecDepth 100000 in
theorem skewbaldref01_laid.calls (k : Nat) : ∀ (A0_0 : Option Addr) (c0_0 : Nat) (l0_0 : List (S48)) (A0_1 : Option Addr) (c0_1 : Nat) (l0_1 : List (S50)) (a1 : Int) (A2 : Option Addr) (c2 : Nat) (l2 : List Int) (P3_ : Nat → Prop) (u9000_ : Value) (l3 : List Int) (r1 : List Int) (r2 : Bool) (w0 w : World) (hB : Below w0.heap.size w0 w) (hr0_0 : ∀ W_, Kept w W_ (fun k_ => P3_ k_) → Kd.C k48 W_ A0_0 l0_0.length l0_0) (hc0_0 : l0_0.length ≤ c0_0) (hr0_1 : ∀ W_, Kept w W_ (fun k_ => P3_ k_) → Kd.C k50 W_ A0_1 l0_1.length l0_1) (hc0_1 : l0_1.length ≤ c0_1) (hr2 : ∀ W_, Kept w W_ (fun k_ => P3_ k_) → Kd.C (Kd.int .i64) W_ A2 l2.length l2) (hc2 : l2.length ≤ c2) (ho3 : Kd.R (Kd.int .i64) 3 w w0.heap.size P3_ u9000_ l3) (h : skewbaldref01_laid.f k l0_0 l0_1 a1 l2 l3 = some (r1, r2)),
  Calls Tryd.prog 78 #[.agg #[.slice A0_0 l0_0.length c0_0, .slice A0_1 l0_1.length c0_1], .int .i64 a1, .slice A2 l2.length c2, u9000_] w fun e w' => ∃ v0_ : Value, e = .returned (.tuple #[v0_, .bool r2]) ∧ Kd.R (Kd.int .i64) 3 w' w0.heap.size (fun k_ => (P3_ k_ ∨ w.heap.size ≤ k_)) v0_ r1 ∧ Below w0.heap.size w0 w' ∧ Kept w w' (fun k_ => P3_ k_) := by
 induction k using Nat.strongRecOn with
 | _ k ih =>
 intro A0_0 c0_0 l0_0 A0_1 c0_1 l0_1 a1 A2 c2 l2 P3_ u9000_ l3 r1 r2 w0 w hB hr0_0 hc0_0 hr0_1 hc0_1 hr2 hc2 ho3 h
 cases k with
 | zero => exact absurd h (by simp [skewbaldref01_laid.f])
 | succ k =>
 simp only [skewbaldref01_laid.f] at h
 have hu25 := Tryd.underlying25; have HR0_0 := Aside0.mk hr0_0; have HC0_0 := Aside0.mk hc0_0; clear hr0_0 hc0_0; have HR0_1 := Aside0.mk hr0_1; have HC0_1 := Aside0.mk hc0_1; clear hr0_1 hc0_1; have HR2 := Aside0.mk hr2; have HC2 := Aside0.mk hc2; clear hr2 hc2
 have HO3 := Aside0.mk (show Kd.R (Kd.int .i64) 3 w w0.heap.size (fun k_ => (P3_ k_ ∨ w.heap.size ≤ k_)) u9000_ l3 from Kd.R_mono ho3 (fun k_ hk => (.inl hk)))
 have HK := Aside0.mk (Kept.refl w (fun k_ => P3_ k_))
 have HW0 := Aside0.mk hB.size; have HB := Aside0.mk hB; clear hB
 have H : (if (l3.length : Int) = (l2.length : Int) then (some (l3, true)) else (if 0 ≤ (l3.length : Int) then (if (l3.length : Int) < (l2.length : Int) then ((skewbaldref01_spots.f k l0_0 l0_1 a1 (rd l2 (l3.length : Int))).bind fun t791 => (skewbaldref01_laid.l0 k a1 l2 l3 (l3.length : Int) t791 0 l0_0 l0_1)) else (none)) else (none))) = some (r1, r2) := h
 clear h
 by_cases c5 : (l3.length : Int) = (l2.length : Int)
 ·rw [if_pos c5] at H
  have c5b0 : ((l3.length : Int) == (l2.length : Int)) = true := beq_iff_eq.mpr c5
  have c5b1 : ((l3.length : Int) != (l2.length : Int)) = false := bne_eq_false_iff_eq.mpr c5
  have c5b2 : (l3.length == l2.length) = true := by first | simpa using c5 | (simp at c5 ⊢; omega)
  clear c5
  simp only [Option.some.injEq, Prod.mk.injEq] at H
  obtain ⟨rfl, rfl⟩ := H
  go_enter Tryd.func78, Tryd.ntmps78
  go_wp2_with (first | (refine bx 4 #[.slice A0_0 l0_0.length c0_0, .slice A0_1 l0_1.length c0_1] 25 ?_; intro gb789 hg w6 hbox hb; replace HO3 := Aside0.mk (Kd.R_below (bR HO3) hb); have BK789 := Aside0.mk hbox; have GW789 := Aside0.mk ((by rw [hg]; exact (by first | exact HK.out.1 | exact (show Kept w _ (fun k_ => P3_ k_) from by repeat (first | (with_reducible first | exact HK.out | apply Kept.alloc | apply Kept.drewN | apply Kept.drew) | exact HK.out)).1) : w.heap.size ≤ gb789)); replace HK := Aside0.mk (Kept.below (S := (fun k_ => P3_ k_)) (by repeat (first | (with_reducible first | exact HK.out | apply Kept.alloc | apply Kept.drewN | apply Kept.drew) | exact HK.out)) hb); have GE789 := Aside0.mk ((by rw [hg]; exact (below_size bl) : w0.heap.size ≤ gb789)); replace HB := hs HB hb; clear hb hbox hg; obtain ⟨Ao7, co7, eo7⟩ := Kd.R_slice HO3.out; subst eo7))
  go_ret2
  exact ⟨_, by first | rfl | (simp [errW_none, errW_some] <;> rfl) | (simp [*, errW_none, errW_some] <;> rfl), by (with_reducible repeat (first | apply Kd.R_alloc | apply Kd.R_drewN | apply Kd.R_drew)); exact HO3.out, bl, by repeat (first | (with_reducible first | exact HK.out | apply Kept.alloc | apply Kept.drewN | apply Kept.drew | refine Kept.setCell ?_ (.inr GW789.out) _) | exact HK.out)⟩
 ·rw [if_neg c5] at H
  have c5b0 : ((l3.length : Int) == (l2.length : Int)) = false := beq_eq_false_iff_ne.mpr c5
  have c5b1 : ((l3.length : Int) != (l2.length : Int)) = true := bne_iff_ne.mpr c5
  have c5b2 : (l3.length == l2.length) = false := by first | simpa using c5 | (simp at c5 ⊢; omega)
  by_cases c8 : 0 ≤ (l3.length : Int)
  ·rw [if_pos c8] at H; have c8b0 := decide_eq_true c8
   have c8b1 : decide (0 ≤ l3.length) = true := decide_eq_true (by omega)
   clear c8
   by_cases c9 : (l3.length : Int) < (l2.length : Int)
   ·rw [if_pos c9] at H; have c9b0 := decide_eq_true c9
    have c9b1 : decide (l3.length < l2.length) = true := decide_eq_true (Int.ofNat_lt.mp c9)
    clear c9; obtain ⟨t791, A10, H⟩ := ob H
    replace H : (skewbaldref01_laid.l0 k a1 l2 l3 (l3.length : Int) t791 0 l0_0 l0_1) = some (r1, r2) := H
    have H' := Aside0.mk H; clear H
    go_enter Tryd.func78, Tryd.ntmps78
    try go_wp2_with (first | (refine bx 4 #[.slice A0_0 l0_0.length c0_0, .slice A0_1 l0_1.length c0_1] 25 ?_; intro gb789 hg w11 hbox hb; replace HO3 := Aside0.mk (Kd.R_below (bR HO3) hb); have BK789 := Aside0.mk hbox; have GW789 := Aside0.mk ((by rw [hg]; exact (by first | exact HK.out.1 | exact (show Kept w _ (fun k_ => P3_ k_) from by repeat (first | (with_reducible first | exact HK.out | apply Kept.alloc | apply Kept.drewN | apply Kept.drew) | exact HK.out)).1) : w.heap.size ≤ gb789)); replace HK := Aside0.mk (Kept.below (S := (fun k_ => P3_ k_)) (by repeat (first | (with_reducible first | exact HK.out | apply Kept.alloc | apply Kept.drewN | apply Kept.drew) | exact HK.out)) hb); have GE789 := Aside0.mk ((by rw [hg]; exact (below_size bl) : w0.heap.size ≤ gb789)); replace HB := hs HB hb; clear hb hbox hg; obtain ⟨Ao12, co12, eo12⟩ := Kd.R_slice HO3.out; subst eo12))
    replace HO3 := Aside0.mk (Kd.R_drew HO3.out); replace BK789 := Aside0.mk (blk_drew BK789.out); replace HK := Aside0.mk (Kept.drew HK.out); replace HB := Aside0.mk (below_drew1 HB.out)
    have p790 : 0 ≤ ((l3.length : Int) : Int) := od
    have q790 : (l3.length : Int) < (l2.length : Int) := od
    obtain ⟨ad790, e790, hx790_0⟩ := Kd.at_int (Kd.C_kept_now HR2.out HK.out) (l3.length : Int) p790 q790; have hw790_0 := hx790_0
    cases e790
    (try simp only [Go.IntWalk.toNatUp] at hx790_0)
    replace p790 := eq_true p790; replace q790 := eq_true q790
    refine start_ (n := 8) (S := fun w' => w'.cell? ⟨gb789, 0, none⟩ = some (.slice A0_0 l0_0.length c0_0) ∧ w'.cell? ⟨gb789, 1, none⟩ = some (.slice A0_1 l0_1.length c0_1) ∧ w'.cell? (ad790.add l3.length) = some (.int .i64 (rd l2 (l3.length : Int)))) (ds := []) #[false, false, false, false, false, false, false, false] (by kernel_rfl) rfl rfl ⟨bq BK789 0, bq BK789 1, (Kd.foot_int (HR2.out _ (by repeat (first | exact HK.out | apply Kept.alloc | apply Kept.drewN | apply Kept.drew))) (l3.length : Int) (of_eq_true p790) (of_eq_true q790))⟩ (fun hHeld => ?_); refine with_tabW skewbaldref01_laid.tab4 skewbaldref01_laid.bits4 (fun HT_ HW_ => ?_)
    generalize w11.drew = w13 at HO3 BK789 HK HB hx790_0 hHeld ⊢
    refine pu_ (i := 1) (N := some 25) (qa_ 8 2) ?_
    refine pu_ (i := 2) (N := some 26) (qa_ 8 6) ?_
    refine pu_ (i := 3) (N := some 27) (qa_ 8 14) ?_
    refine pu_ (i := 4) (N := some 28) (qa_ 8 30) ?_
    refine tk_ (i := 0) (N := some 24) (qa_ 8 31) hHeld ?_
    refine tk_ (i := 5) (N := some 29) (qa_ 8 63) hHeld ?_
    refine on_ (i := 6) (N := some 30) (qa_ 8 127) (fun K hK => ?_)
    refine goes_ Tryd.func75 (by kernel_rfl) rfl #[.agg #[.slice A0_0 l0_0.length c0_0, .slice A0_1 l0_1.length c0_1], .int .i64 a1, .int .i64 (rd l2 (l3.length : Int))] (by rfl) rfl rfl (by (try simp only [List.map_toArray, List.map_cons, List.map_nil]); first | done | rfl | (simp only [List.length_drop, List.length_take]; rfl)) ?_
    with_reducible refine (skewbaldref01_spots.calls k _ _ l0_0 _ _ l0_1 a1 (rd l2 (l3.length : Int)) t791 _ ?side1 ?side2 ?side3 ?side4 A10.out).mono ?_
    (case side1 => exact Kd.C_kept_now HR0_0.out (by repeat (first | (with_reducible first | exact HK.out | apply Kept.alloc | apply Kept.drewN | apply Kept.drew | refine Kept.setCell ?_ (.inr GW789.out) _) | exact HK.out)))
    (case side2 => exact HC0_0.out)
    (case side3 => exact Kd.C_kept_now HR0_1.out (by repeat (first | (with_reducible first | exact HK.out | apply Kept.alloc | apply Kept.drewN | apply Kept.drew | refine Kept.setCell ?_ (.inr GW789.out) _) | exact HK.out)))
    (case side4 => exact HC0_1.out)
    rintro e w14 ⟨v792, rfl, ho0, hb⟩
    refine ⟨_, rfl, ?_⟩
    have HO793 := Aside0.mk (Kd.R_lower (Kd.R_new' (Kd.R_newM (M := fun k_ => (P3_ k_ ∨ w.heap.size ≤ k_)) ho0 (by first | exact HK.out.1 | exact (show Kept w _ (fun k_ => P3_ k_) from by repeat (first | (with_reducible first | exact HK.out | apply Kept.alloc | apply Kept.drewN | apply Kept.drew | refine Kept.setCell ?_ (.inr GW789.out) _) | exact HK.out)).1) (fun k_ h_ => .inr h_)) (Kd.R_lt (bR HO3))) (below_size bl))
    replace HO3 := Aside0.mk (Kd.R_elder' (bR HO3) (Kd.R_base ho0) hb); replace BK789 := nb BK789 hb
    replace HK := Aside0.mk (Kept.below (S := (fun k_ => P3_ k_)) (by repeat (first | (with_reducible first | exact HK.out | apply Kept.alloc | apply Kept.drewN | apply Kept.drew | refine Kept.setCell ?_ (.inr GW789.out) _) | exact HK.out)) hb)
    replace HB := hs HB hb; (try clear hb); (try clear hb2); (try clear hk); (try clear hi); (try clear ho0)
    refine hK.out _ _ ⟨bq BK789 0, bq BK789 1, (Kd.foot_int (HR2.out _ (by repeat (first | exact HK.out | apply Kept.alloc | apply Kept.drewN | apply Kept.drew))) (l3.length : Int) (of_eq_true p790) (of_eq_true q790))⟩ (fun hHeld => ?_)
    clear hK K
    refine nm_ (some 30) ?_
    refine pu_ (i := 7) (N := some 11) (qa_ 8 255) ?_
    refine done_ (done_of HT_.out (by kernel_rfl)) ?_
    try go_wp2
    go_loopg [12] k (fun kq v12 w' => ∃ (x12_1 : Int), v12 = .int .i64 x12_1 ∧ Aside0 (skewbaldref01_laid.l0 kq a1 l2 l3 (l3.length : Int) t791 x12_1 l0_0 l0_1 = some (r1, r2)) ∧ Aside0 (kq ≤ k) ∧ Aside0 (Kd.R (Kd.int .i64) 3 w' w0.heap.size (fun k_ => (P3_ k_ ∨ w.heap.size ≤ k_) ∧ some k_ ≠ (v792 : Value).ownBlock) (.slice Ao12 l3.length co12) l3) ∧ Aside0 (Kd.R (Kd.int .i64) 3 w' w0.heap.size (fun k_ => (P3_ k_ ∨ w.heap.size ≤ k_) ∧ some k_ ≠ ((.slice Ao12 l3.length co12) : Value).ownBlock) v792 t791) ∧ Aside0 (w'.heap[gb789]? = some (.cells #[(.slice A0_0 l0_0.length c0_0), (.slice A0_1 l0_1.length c0_1)] 25 (0, 0))) ∧ Aside0 (Kept w w' (fun k_ => P3_ k_)) ∧ Aside0 (Below w0.heap.size w0 w'))
    case atStart => exact ⟨(0), sm, H', ⟨Nat.le_refl _⟩, ⟨bR HO3⟩, ⟨by (with_reducible repeat (first | apply Kd.R_alloc | apply Kd.R_drewN | apply Kd.R_drew)); exact Kd.R_mono HO793.out (fun _ hk => ⟨hk.1.1, hk.2⟩)⟩, ⟨bk⟩, ⟨by repeat (first | (with_reducible first | exact HK.out | apply Kept.alloc | apply Kept.drewN | apply Kept.drew | refine Kept.setCell ?_ (.inr GW789.out) _) | exact HK.out)⟩, ⟨bl⟩⟩
    case round =>
     clear H'; (try clear c2); (try clear p2); (try clear c5); (try clear c5b0); (try clear c5b1); (try clear c5b2); (try clear c7); (try clear p7); (try clear q7); (try clear hx7); (try clear c8); (try clear c8b0); (try clear c8b1); (try clear c9); (try clear c9b0); (try clear c9b1); (try clear hx790_0); (try clear p790); (try clear q790); obtain ⟨x12_1, rfl, HA, HK1, HO_3, HO_11, BK789, HK, HB⟩ := hrel
     cases gk with
     | zero => exact absurd HA.out (by simp [skewbaldref01_laid.l0])
     | succ k1 =>
      have H := HA.out; clear HA
      simp only [skewbaldref01_laid.l0] at H
      by_cases c15 : x12_1 < (t791.length : Int)
      ·rw [if_pos c15] at H; have c15b0 := decide_eq_true c15; clear c15; have H' := Aside0.mk H; clear H; obtain ⟨Ao16, co16, eo16⟩ := Kd.R_slice HO_11.out; subst eo16
       go_wp2
       go_loopg [13, 14] k1 (fun kq v13 v14 w' => ∃ (x13_2 : Bool) (x14_2 : Int), v13 = .bool x13_2 ∧ v14 = .int .i64 x14_2 ∧ Aside0 (skewbaldref01_laid.l1 kq a1 l2 l3 (l3.length : Int) t791 x12_1 x13_2 x14_2 l0_0 l0_1 = some (r1, r2)) ∧ Aside0 (kq ≤ k1) ∧ Aside0 (Kd.R (Kd.int .i64) 3 w' w0.heap.size (fun k_ => (P3_ k_ ∨ w.heap.size ≤ k_) ∧ some k_ ≠ ((.slice Ao16 t791.length co16) : Value).ownBlock) (.slice Ao12 l3.length co12) l3) ∧ Aside0 (Kd.R (Kd.int .i64) 3 w' w0.heap.size (fun k_ => (P3_ k_ ∨ w.heap.size ≤ k_) ∧ some k_ ≠ ((.slice Ao12 l3.length co12) : Value).ownBlock) (.slice Ao16 t791.length co16) t791) ∧ Aside0 (w'.heap[gb789]? = some (.cells #[(.slice A0_0 l0_0.length c0_0), (.slice A0_1 l0_1.length c0_1)] 25 (0, 0))) ∧ Aside0 (Kept w w' (fun k_ => P3_ k_)) ∧ Aside0 (Below w0.heap.size w0 w'))
       case atStart => exact ⟨(true), (0), sm, sm, H', ⟨Nat.le_refl _⟩, ⟨bR HO_3⟩, ⟨bR HO_11⟩, ⟨bk⟩, ⟨by repeat (first | (with_reducible first | exact HK.out | apply Kept.alloc | apply Kept.drewN | apply Kept.drew | refine Kept.setCell ?_ (.inr GW789.out) _) | exact HK.out)⟩, ⟨bl⟩⟩
       case round =>
        clear H'; (try clear c1); (try clear c2); (try clear p2); (try clear c5); (try clear c5b0); (try clear c5b1); (try clear c5b2); (try clear c7); (try clear p7); (try clear q7); (try clear hx7); (try clear c8); (try clear c8b0); (try clear c8b1); (try clear c9); (try clear c9b0); (try clear c9b1); (try clear c15); (try clear c15b0); (try clear hx790_0); (try clear p790); (try clear q790); obtain ⟨x13_2, x14_2, rfl, rfl, HA, HK2, HO_3, HO_11, BK789, HK, HB⟩ := hrel
        cases gk with
        | zero => exact absurd HA.out (by simp [skewbaldref01_laid.l1])
        | succ k2 =>
         have H := HA.out; clear HA
         simp only [skewbaldref01_laid.l1] at H
         by_cases c17 : x14_2 < (l3.length : Int)
         ·rw [if_pos c17] at H; have c17b0 := decide_eq_true c17; clear c17
          by_cases c18 : x13_2 = true
          ·subst c18
           have H1 : (if 0 ≤ x12_1 then (if x12_1 < (t791.length : Int) then (if 0 ≤ (l3.length : Int) then (if (l3.length : Int) < (l2.length : Int) then (if 0 ≤ (rd l2 (l3.length : Int)) then (if (rd l2 (l3.length : Int)) < (l0_1.length : Int) then (if 0 ≤ x14_2 then (if x14_2 < (l3.length : Int) then (if (wrap64 ((rd t791 x12_1) + ((rd_T50 l0_1 (rd l2 (l3.length : Int))).f0))) ≤ (rd l3 x14_2) then (skewbaldref01_laid.l1 k2 a1 l2 l3 (l3.length : Int) t791 x12_1 true (wrap64 (x14_2 + 1)) l0_0 l0_1) else (if x14_2 < (l2.length : Int) then (if 0 ≤ (rd l2 x14_2) then (if (rd l2 x14_2) < (l0_1.length : Int) then (skewbaldref01_laid.l1 k2 a1 l2 l3 (l3.length : Int) t791 x12_1 (decide ((wrap64 ((rd l3 x14_2) + ((rd_T50 l0_1 (rd l2 x14_2)).f0))) ≤ (rd t791 x12_1))) (wrap64 (x14_2 + 1)) l0_0 l0_1) else (none)) else (none)) else (none))) else (none)) else (none)) else (none)) else (none)) else (none)) else (none)) else (none)) else (none)) = some (r1, r2) := by rw [if_pos rfl] at H; exact H
           clear H; have H := H1; clear H1
           by_cases c19 : 0 ≤ x12_1
           ·rw [if_pos c19] at H; have c19b0 := decide_eq_true c19; clear c19
            by_cases c20 : x12_1 < (t791.length : Int)
            ·rw [if_pos c20] at H; have c20b0 := decide_eq_true c20; clear c20
             by_cases c21 : 0 ≤ (l3.length : Int)
             ·rw [if_pos c21] at H; have c21b0 := decide_eq_true c21
              have c21b1 : decide (0 ≤ l3.length) = true := decide_eq_true (by omega)
              clear c21
              by_cases c22 : (l3.length : Int) < (l2.length : Int)
              ·rw [if_pos c22] at H; have c22b0 := decide_eq_true c22
               have c22b1 : decide (l3.length < l2.length) = true := decide_eq_true (Int.ofNat_lt.mp c22)
               clear c22
               by_cases c23 : 0 ≤ (rd l2 (l3.length : Int))
               ·rw [if_pos c23] at H; have c23b0 := decide_eq_true c23; clear c23
                by_cases c24 : (rd l2 (l3.length : Int)) < (l0_1.length : Int)
                ·rw [if_pos c24] at H; have c24b0 := decide_eq_true c24; clear c24
                 by_cases c25 : 0 ≤ x14_2
                 ·rw [if_pos c25] at H; have c25b0 := decide_eq_true c25; clear c25
                  by_cases c26 : x14_2 < (l3.length : Int)
                  ·rw [if_pos c26] at H; have c26b0 := decide_eq_true c26; clear c26
                   by_cases c27 : (wrap64 ((rd t791 x12_1) + ((rd_T50 l0_1 (rd l2 (l3.length : Int))).f0))) ≤ (rd l3 x14_2)
                   ·rw [if_pos c27] at H; have c27b0 := decide_eq_true c27; clear c27; have H' := Aside0.mk H; clear H
                    try go_wp2
                    replace HO_3 := Aside0.mk (Kd.R_drew HO_3.out); replace HO_11 := Aside0.mk (Kd.R_drew HO_11.out); replace BK789 := Aside0.mk (blk_drew BK789.out); replace HK := Aside0.mk (Kept.drew HK.out); replace HB := Aside0.mk (below_drew1 HB.out)
                    have p794 : 0 ≤ (x12_1 : Int) := od
                    have q794 : x12_1 < (t791.length : Int) := od
                    obtain ⟨ad794, e794, hx794_0⟩ := Kd.at_int (Kd.R_reads' HO_11.out).2.2 x12_1 p794 q794
                    cases e794
                    replace p794 := eq_true p794; replace q794 := eq_true q794
                    have p795 : 0 ≤ ((l3.length : Int) : Int) := od
                    have q795 : (l3.length : Int) < (l2.length : Int) := od
                    obtain ⟨ad795, e795, hx795_0⟩ := Kd.at_int (Kd.C_kept_now HR2.out HK.out) (l3.length : Int) p795 q795; have hw795_0 := hx795_0
                    obtain rfl : ad790 = ad795 := (by injection e795)
                    (try simp only [Go.IntWalk.toNatUp] at hx795_0)
                    replace p795 := eq_true p795; replace q795 := eq_true q795
                    have p796 : 0 ≤ ((rd l2 (l3.length : Int)) : Int) := od
                    have q796 : (rd l2 (l3.length : Int)) < (l0_1.length : Int) := od
                    obtain ⟨ad796, A796_1, c796_1, e796, hx796_0, hx796_1, hx796_2, hl796_1, hi796_1⟩ := at_T50 (Kd.C_kept_now HR0_1.out HK.out) (rd l2 (l3.length : Int)) p796 q796; have hw796_2 := hx796_2; have hw796_1 := hx796_1; have hw796_0 := hx796_0
                    cases e796
                    have HR796_1 := Aside0.mk hi796_1; have HC796_1 := Aside0.mk hl796_1; clear hi796_1 hl796_1
                    (try simp only [Go.IntWalk.toNatUp] at hx796_0)
                    (try simp only [Go.IntWalk.toNatUp] at hx796_1)
                    (try simp only [Go.IntWalk.toNatUp] at hx796_2)
                    replace p796 := eq_true p796; replace q796 := eq_true q796
                    have p797 : 0 ≤ (x14_2 : Int) := od
                    have q797 : x14_2 < (l3.length : Int) := od
                    obtain ⟨ad797, e797, hx797_0⟩ := Kd.at_int (Kd.R_reads' HO_3.out).2.2 x14_2 p797 q797
                    cases e797
                    replace p797 := eq_true p797; replace q797 := eq_true q797
                    refine start_ (n := 44) (S := fun w' => w'.cell? ⟨gb789, 0, none⟩ = some (.slice A0_0 l0_0.length c0_0) ∧ w'.cell? ⟨gb789, 1, none⟩ = some (.slice (some ad796) l0_1.length c0_1) ∧ w'.cell? (ad794.add (x12_1).toNat) = some (.int .i64 (rd t791 x12_1)) ∧ w'.cell? (ad790.add l3.length) = some (.int .i64 (rd l2 (l3.length : Int))) ∧ w'.cell? (ad796.add (((rd l2 (l3.length : Int))).toNat * 3)) = some (.int .i64 ((rd_T50 l0_1 (rd l2 (l3.length : Int))).f0)) ∧ w'.cell? ⟨(ad796.add (((rd l2 (l3.length : Int))).toNat * 3)).block, (ad796.add (((rd l2 (l3.length : Int))).toNat * 3)).off + 1, none⟩ = some (.slice A796_1 ((rd_T50 l0_1 (rd l2 (l3.length : Int))).f1).length c796_1) ∧ w'.cell? ⟨(ad796.add (((rd l2 (l3.length : Int))).toNat * 3)).block, (ad796.add (((rd l2 (l3.length : Int))).toNat * 3)).off + 2, none⟩ = some (.bool ((rd_T50 l0_1 (rd l2 (l3.length : Int))).f2)) ∧ w'.cell? (ad797.add (x14_2).toNat) = some (.int .i64 (rd l3 x14_2))) (ds := []) #[false, false, false, false, false, false, false, false, false, false, false, false, false, false, false, false, false, false, false, false, false, false, false, false, false, false, false, false, false, false, false, false, false, false, false, false, false, false, false, false, false, false, false, false] (by kernel_rfl) rfl rfl ⟨bq BK789 0, bq BK789 1, hx794_0, (Kd.foot_int (HR2.out _ (by repeat (first | exact HK.out | apply Kept.alloc | apply Kept.drewN | apply Kept.drew))) (l3.length : Int) (of_eq_true p795) (of_eq_true q795)), hx796_0, hx796_1, hx796_2, hx797_0⟩ (fun hHeld => ?_); refine with_tabW skewbaldref01_laid.tab12 skewbaldref01_laid.bits12 (fun HT_ HW_ => ?_)
                    generalize wr.drew = w28 at HO_3 HO_11 BK789 HK HB HR796_1 hx794_0 hx795_0 hx796_0 hx796_1 hx796_2 hx797_0 hHeld ⊢
                    refine pu_ (i := 0) (N := some 42) (qa_ 44 1) ?_
                    refine pu_ (i := 1) (N := some 43) (qa_ 44 3) ?_
                    refine pu_ (i := 2) (N := some 44) (qa_ 44 7) ?_
                    refine pu_ (i := 3) (N := some 45) (qa_ 44 15) ?_
                    refine pu_ (i := 4) (N := some 46) (qa_ 44 31) ?_
                    refine pu_ (i := 6) (N := some 48) (qa_ 44 95) ?_
                    refine pu_ (i := 8) (N := some 50) (qa_ 44 351) ?_
                    refine pu_ (i := 9) (N := some 51) (qa_ 44 863) ?_
                    refine pu_ (i := 10) (N := some 52) (qa_ 44 1887) ?_
                    refine pu_ (i := 16) (N := some 58) (qa_ 44 67423) ?_
                    refine pu_ (i := 17) (N := some 59) (qa_ 44 198495) ?_
                    refine pu_ (i := 18) (N := some 60) (qa_ 44 460639) ?_
                    refine tk_ (i := 5) (N := some 47) (qa_ 44 460671) hHeld ?_
                    refine tk_ (i := 7) (N := some 49) (qa_ 44 460799) hHeld ?_
                    refine tk_ (i := 11) (N := some 53) (qa_ 44 462847) hHeld ?_
                    refine pu_ (i := 12) (N := some 54) (qa_ 44 466943) ?_
                    refine pu_ (i := 13) (N := some 55) (qa_ 44 475135) ?_
                    refine tk_ (i := 14) (N := some 56) (qa_ 44 491519) hHeld ?_
                    refine pu_ (i := 15) (N := some 57) (qa_ 44 524287) ?_
                    refine tk_ (i := 19) (N := some 61) (qa_ 44 1048575) hHeld ?_
                    refine pu_ (i := 20) (N := some 62) (qa_ 44 2097151) ?_
                    refine pu_ (i := 21) (N := some 63) (qa_ 44 4194303) ?_
                    refine pn_ (i := 22) (N := some 64) (qa_ 44 8388607) ?_
                    refine pn_ (i := 23) (N := some 65) (qa_ 44 16777215) ?_
                    refine pn_ (i := 24) (N := some 66) (qa_ 44 33554431) ?_
                    refine pn_ (i := 25) (N := some 67) (qa_ 44 67108863) ?_
                    refine pn_ (i := 26) (N := some 68) (qa_ 44 134217727) ?_
                    refine pn_ (i := 27) (N := some 69) (qa_ 44 268435455) ?_
                    refine pn_ (i := 28) (N := some 70) (qa_ 44 536870911) ?_
                    refine pn_ (i := 29) (N := some 71) (qa_ 44 1073741823) ?_
                    refine pn_ (i := 30) (N := some 72) (qa_ 44 2147483647) ?_
                    refine pn_ (i := 31) (N := some 73) (qa_ 44 4294967295) ?_
                    refine pn_ (i := 32) (N := some 74) (qa_ 44 8589934591) ?_
                    refine pn_ (i := 33) (N := some 75) (qa_ 44 17179869183) ?_
                    refine pn_ (i := 34) (N := some 76) (qa_ 44 34359738367) ?_
                    refine pn_ (i := 35) (N := some 77) (qa_ 44 68719476735) ?_
                    refine pn_ (i := 36) (N := some 78) (qa_ 44 137438953471) ?_
                    refine pn_ (i := 37) (N := some 79) (qa_ 44 274877906943) ?_
                    refine pn_ (i := 38) (N := some 80) (qa_ 44 549755813887) ?_
                    refine pn_ (i := 39) (N := some 81) (qa_ 44 1099511627775) ?_
                    refine pn_ (i := 40) (N := some 82) (qa_ 44 2199023255551) ?_
                    refine pu_ (i := 41) (N := some 83) (qa_ 44 4398046511103) ?_
                    refine pu_ (i := 42) (N := some 84) (qa_ 44 8796093022207) ?_
                    refine pu_ (i := 43) (N := some 13) (qa_ 44 17592186044415) ?_
                    refine done_ (done_of HT_.out (by kernel_rfl)) ?_
                    try go_wp2
                    go_roundg k2
                    case measure => have := HK1.out; have := HK2.out; omega
                    case rel => exact ⟨(true), (wrap64 (x14_2 + 1)), sm, sm, H', ⟨lp HK1 HK2⟩, ⟨bR HO_3⟩, ⟨bR HO_11⟩, ⟨bk⟩, ⟨by repeat (first | (with_reducible first | exact HK.out | apply Kept.alloc | apply Kept.drewN | apply Kept.drew | refine Kept.setCell ?_ (.inr GW789.out) _) | exact HK.out)⟩, ⟨bl⟩⟩
                   ·rw [if_neg c27] at H
                    have c27b0 : decide ((wrap64 ((rd t791 x12_1) + ((rd_T50 l0_1 (rd l2 (l3.length : Int))).f0))) ≤ (rd l3 x14_2)) = false := decide_eq_false c27
                    clear c27
                    by_cases c29 : x14_2 < (l2.length : Int)
                    ·rw [if_pos c29] at H; have c29b0 := decide_eq_true c29; clear c29
                     by_cases c30 : 0 ≤ (rd l2 x14_2)
                     ·rw [if_pos c30] at H; have c30b0 := decide_eq_true c30; clear c30
                      by_cases c31 : (rd l2 x14_2) < (l0_1.length : Int)
                      ·rw [if_pos c31] at H; have c31b0 := decide_eq_true c31; clear c31; have H' := Aside0.mk H; clear H
                       try go_wp2
                       replace HO_3 := Aside0.mk (Kd.R_drew HO_3.out); replace HO_11 := Aside0.mk (Kd.R_drew HO_11.out); replace BK789 := Aside0.mk (blk_drew BK789.out); replace HK := Aside0.mk (Kept.drew HK.out); replace HB := Aside0.mk (below_drew1 HB.out)
                       have p794 : 0 ≤ (x12_1 : Int) := od
                       have q794 : x12_1 < (t791.length : Int) := od
                       obtain ⟨ad794, e794, hx794_0⟩ := Kd.at_int (Kd.R_reads' HO_11.out).2.2 x12_1 p794 q794
                       cases e794
                       replace p794 := eq_true p794; replace q794 := eq_true q794
                       have p795 : 0 ≤ ((l3.length : Int) : Int) := od
                       have q795 : (l3.length : Int) < (l2.length : Int) := od
                       obtain ⟨ad795, e795, hx795_0⟩ := Kd.at_int (Kd.C_kept_now HR2.out HK.out) (l3.length : Int) p795 q795; have hw795_0 := hx795_0
                       obtain rfl : ad790 = ad795 := (by injection e795)
                       (try simp only [Go.IntWalk.toNatUp] at hx795_0)
                       replace p795 := eq_true p795; replace q795 := eq_true q795
                       have p796 : 0 ≤ ((rd l2 (l3.length : Int)) : Int) := od
                       have q796 : (rd l2 (l3.length : Int)) < (l0_1.length : Int) := od
                       obtain ⟨ad796, A796_1, c796_1, e796, hx796_0, hx796_1, hx796_2, hl796_1, hi796_1⟩ := at_T50 (Kd.C_kept_now HR0_1.out HK.out) (rd l2 (l3.length : Int)) p796 q796; have hw796_2 := hx796_2; have hw796_1 := hx796_1; have hw796_0 := hx796_0
                       cases e796
                       have HR796_1 := Aside0.mk hi796_1; have HC796_1 := Aside0.mk hl796_1; clear hi796_1 hl796_1
                       (try simp only [Go.IntWalk.toNatUp] at hx796_0)
                       (try simp only [Go.IntWalk.toNatUp] at hx796_1)
                       (try simp only [Go.IntWalk.toNatUp] at hx796_2)
                       replace p796 := eq_true p796; replace q796 := eq_true q796
                       have p797 : 0 ≤ (x14_2 : Int) := od
                       have q797 : x14_2 < (l3.length : Int) := od
                       obtain ⟨ad797, e797, hx797_0⟩ := Kd.at_int (Kd.R_reads' HO_3.out).2.2 x14_2 p797 q797
                       cases e797
                       replace p797 := eq_true p797; replace q797 := eq_true q797
                       have p798 : 0 ≤ (x14_2 : Int) := od
                       have q798 : x14_2 < (l3.length : Int) := od
                       obtain ⟨ad798, e798, hx798_0⟩ := Kd.at_int (Kd.R_reads' HO_3.out).2.2 x14_2 p798 q798
                       obtain rfl : ad797 = ad798 := (by injection e798)
                       replace p798 := eq_true p798; replace q798 := eq_true q798
                       have p799 : 0 ≤ (x14_2 : Int) := od
                       have q799 : x14_2 < (l2.length : Int) := od
                       obtain ⟨ad799, e799, hx799_0⟩ := Kd.at_int (Kd.C_kept_now HR2.out HK.out) x14_2 p799 q799; have hw799_0 := hx799_0
                       obtain rfl : ad790 = ad799 := (by injection e799)
                       replace p799 := eq_true p799; replace q799 := eq_true q799
                       have p800 : 0 ≤ ((rd l2 x14_2) : Int) := od
                       have q800 : (rd l2 x14_2) < (l0_1.length : Int) := od
                       obtain ⟨ad800, A800_1, c800_1, e800, hx800_0, hx800_1, hx800_2, hl800_1, hi800_1⟩ := at_T50 (Kd.C_kept_now HR0_1.out HK.out) (rd l2 x14_2) p800 q800; have hw800_2 := hx800_2; have hw800_1 := hx800_1; have hw800_0 := hx800_0
                       obtain rfl : ad796 = ad800 := (by injection e800)
                       have HR800_1 := Aside0.mk hi800_1; have HC800_1 := Aside0.mk hl800_1; clear hi800_1 hl800_1; replace p800 := eq_true p800; replace q800 := eq_true q800
                       have p801 : 0 ≤ (x12_1 : Int) := od
                       have q801 : x12_1 < (t791.length : Int) := od
                       obtain ⟨ad801, e801, hx801_0⟩ := Kd.at_int (Kd.R_reads' HO_11.out).2.2 x12_1 p801 q801
                       obtain rfl : ad794 = ad801 := (by injection e801)
                       replace p801 := eq_true p801; replace q801 := eq_true q801
                       refine start_ (n := 44) (S := fun w' => w'.cell? ⟨gb789, 0, none⟩ = some (.slice A0_0 l0_0.length c0_0) ∧ w'.cell? ⟨gb789, 1, none⟩ = some (.slice (some ad796) l0_1.length c0_1) ∧ w'.cell? (ad794.add (x12_1).toNat) = some (.int .i64 (rd t791 x12_1)) ∧ w'.cell? (ad790.add l3.length) = some (.int .i64 (rd l2 (l3.length : Int))) ∧ w'.cell? (ad796.add (((rd l2 (l3.length : Int))).toNat * 3)) = some (.int .i64 ((rd_T50 l0_1 (rd l2 (l3.length : Int))).f0)) ∧ w'.cell? ⟨(ad796.add (((rd l2 (l3.length : Int))).toNat * 3)).block, (ad796.add (((rd l2 (l3.length : Int))).toNat * 3)).off + 1, none⟩ = some (.slice A796_1 ((rd_T50 l0_1 (rd l2 (l3.length : Int))).f1).length c796_1) ∧ w'.cell? ⟨(ad796.add (((rd l2 (l3.length : Int))).toNat * 3)).block, (ad796.add (((rd l2 (l3.length : Int))).toNat * 3)).off + 2, none⟩ = some (.bool ((rd_T50 l0_1 (rd l2 (l3.length : Int))).f2)) ∧ w'.cell? (ad797.add (x14_2).toNat) = some (.int .i64 (rd l3 x14_2)) ∧ w'.cell? (ad797.add (x14_2).toNat) = some (.int .i64 (rd l3 x14_2)) ∧ w'.cell? (ad790.add (x14_2).toNat) = some (.int .i64 (rd l2 x14_2)) ∧ w'.cell? (ad796.add (((rd l2 x14_2)).toNat * 3)) = some (.int .i64 ((rd_T50 l0_1 (rd l2 x14_2)).f0)) ∧ w'.cell? ⟨(ad796.add (((rd l2 x14_2)).toNat * 3)).block, (ad796.add (((rd l2 x14_2)).toNat * 3)).off + 1, none⟩ = some (.slice A800_1 ((rd_T50 l0_1 (rd l2 x14_2)).f1).length c800_1) ∧ w'.cell? ⟨(ad796.add (((rd l2 x14_2)).toNat * 3)).block, (ad796.add (((rd l2 x14_2)).toNat * 3)).off + 2, none⟩ = some (.bool ((rd_T50 l0_1 (rd l2 x14_2)).f2)) ∧ w'.cell? (ad794.add (x12_1).toNat) = some (.int .i64 (rd t791 x12_1))) (ds := []) #[false, false, false, false, false, false, false, false, false, false, false, false, false, false, false, false, false, false, false, false, false, false, false, false, false, false, false, false, false, false, false, false, false, false, false, false, false, false, false, false, false, false, false, false] (by kernel_rfl) rfl rfl ⟨bq BK789 0, bq BK789 1, hx794_0, (Kd.foot_int (HR2.out _ (by repeat (first | exact HK.out | apply Kept.alloc | apply Kept.drewN | apply Kept.drew))) (l3.length : Int) (of_eq_true p795) (of_eq_true q795)), hx796_0, hx796_1, hx796_2, hx797_0, hx798_0, (Kd.foot_int (HR2.out _ (by repeat (first | exact HK.out | apply Kept.alloc | apply Kept.drewN | apply Kept.drew))) x14_2 (of_eq_true p799) (of_eq_true q799)), hx800_0, hx800_1, hx800_2, hx801_0⟩ (fun hHeld => ?_); refine with_tabW skewbaldref01_laid.tab12 skewbaldref01_laid.bits12 (fun HT_ HW_ => ?_)
                       generalize wr.drew = w32 at HO_3 HO_11 BK789 HK HB HR796_1 HR800_1 hx794_0 hx795_0 hx796_0 hx796_1 hx796_2 hx797_0 hx798_0 hx799_0 hx800_0 hx800_1 hx800_2 hx801_0 hHeld ⊢
                       refine pu_ (i := 0) (N := some 42) (qa_ 44 1) ?_
                       refine pu_ (i := 1) (N := some 43) (qa_ 44 3) ?_
                       refine pu_ (i := 2) (N := some 44) (qa_ 44 7) ?_
                       refine pu_ (i := 3) (N := some 45) (qa_ 44 15) ?_
                       refine pu_ (i := 4) (N := some 46) (qa_ 44 31) ?_
                       refine pu_ (i := 6) (N := some 48) (qa_ 44 95) ?_
                       refine pu_ (i := 8) (N := some 50) (qa_ 44 351) ?_
                       refine pu_ (i := 9) (N := some 51) (qa_ 44 863) ?_
                       refine pu_ (i := 10) (N := some 52) (qa_ 44 1887) ?_
                       refine pu_ (i := 16) (N := some 58) (qa_ 44 67423) ?_
                       refine pu_ (i := 17) (N := some 59) (qa_ 44 198495) ?_
                       refine pu_ (i := 18) (N := some 60) (qa_ 44 460639) ?_
                       refine tk_ (i := 5) (N := some 47) (qa_ 44 460671) hHeld ?_
                       refine tk_ (i := 7) (N := some 49) (qa_ 44 460799) hHeld ?_
                       refine tk_ (i := 11) (N := some 53) (qa_ 44 462847) hHeld ?_
                       refine pu_ (i := 12) (N := some 54) (qa_ 44 466943) ?_
                       refine pu_ (i := 13) (N := some 55) (qa_ 44 475135) ?_
                       refine tk_ (i := 14) (N := some 56) (qa_ 44 491519) hHeld ?_
                       refine pu_ (i := 15) (N := some 57) (qa_ 44 524287) ?_
                       refine tk_ (i := 19) (N := some 61) (qa_ 44 1048575) hHeld ?_
                       refine pu_ (i := 20) (N := some 62) (qa_ 44 2097151) ?_
                       refine pu_ (i := 21) (N := some 63) (qa_ 44 4194303) ?_
                       refine pu_ (i := 22) (N := some 64) (qa_ 44 8388607) ?_
                       refine pu_ (i := 23) (N := some 65) (qa_ 44 16777215) ?_
                       refine pu_ (i := 24) (N := some 66) (qa_ 44 33554431) ?_
                       refine pu_ (i := 26) (N := some 68) (qa_ 44 100663295) ?_
                       refine pu_ (i := 28) (N := some 70) (qa_ 44 369098751) ?_
                       refine pu_ (i := 29) (N := some 71) (qa_ 44 905969663) ?_
                       refine pu_ (i := 30) (N := some 72) (qa_ 44 1979711487) ?_
                       refine pu_ (i := 36) (N := some 78) (qa_ 44 70699188223) ?_
                       refine pu_ (i := 37) (N := some 79) (qa_ 44 208138141695) ?_
                       refine pu_ (i := 38) (N := some 80) (qa_ 44 483016048639) ?_
                       refine tk_ (i := 25) (N := some 67) (qa_ 44 483049603071) hHeld ?_
                       refine tk_ (i := 27) (N := some 69) (qa_ 44 483183820799) hHeld ?_
                       refine tk_ (i := 31) (N := some 73) (qa_ 44 485331304447) hHeld ?_
                       refine pu_ (i := 32) (N := some 74) (qa_ 44 489626271743) ?_
                       refine pu_ (i := 33) (N := some 75) (qa_ 44 498216206335) ?_
                       refine tk_ (i := 34) (N := some 76) (qa_ 44 515396075519) hHeld ?_
                       refine pu_ (i := 35) (N := some 77) (qa_ 44 549755813887) ?_
                       refine tk_ (i := 39) (N := some 81) (qa_ 44 1099511627775) hHeld ?_
                       refine pu_ (i := 40) (N := some 82) (qa_ 44 2199023255551) ?_
                       refine pu_ (i := 41) (N := some 83) (qa_ 44 4398046511103) ?_
                       refine pu_ (i := 42) (N := some 84) (qa_ 44 8796093022207) ?_
                       refine pu_ (i := 43) (N := some 13) (qa_ 44 17592186044415) ?_
                       refine done_ (done_of HT_.out (by kernel_rfl)) ?_
                       try go_wp2
                       go_roundg k2
                       case measure => have := HK1.out; have := HK2.out; omega
                       case rel => exact ⟨(decide ((wrap64 ((rd l3 x14_2) + ((rd_T50 l0_1 (rd l2 x14_2)).f0))) ≤ (rd t791 x12_1))), (wrap64 (x14_2 + 1)), sm, sm, H', ⟨lp HK1 HK2⟩, ⟨bR HO_3⟩, ⟨bR HO_11⟩, ⟨bk⟩, ⟨by repeat (first | (with_reducible first | exact HK.out | apply Kept.alloc | apply Kept.drewN | apply Kept.drew | refine Kept.setCell ?_ (.inr GW789.out) _) | exact HK.out)⟩, ⟨bl⟩⟩
                      ·rw [if_neg c31] at H
                       exact absurd H (by simp)
                     ·rw [if_neg c30] at H
                      exact absurd H (by simp)
                    ·rw [if_neg c29] at H
                     exact absurd H (by simp)
                  ·rw [if_neg c26] at H
                   exact absurd H (by simp)
                 ·rw [if_neg c25] at H
                  exact absurd H (by simp)
                ·rw [if_neg c24] at H
                 exact absurd H (by simp)
               ·rw [if_neg c23] at H
                exact absurd H (by simp)
              ·rw [if_neg c22] at H
               exact absurd H (by simp)
             ·rw [if_neg c21] at H
              exact absurd H (by simp)
            ·rw [if_neg c20] at H
             exact absurd H (by simp)
           ·rw [if_neg c19] at H
            exact absurd H (by simp)
          ·replace c18 := Bool.eq_false_iff.mpr c18; subst c18
           have H1 : (skewbaldref01_laid.l1 k2 a1 l2 l3 (l3.length : Int) t791 x12_1 false (wrap64 (x14_2 + 1)) l0_0 l0_1) = some (r1, r2) := by rw [if_neg (show ¬ (false = true) by decide)] at H; exact H
           clear H; have H := H1; clear H1; have H' := Aside0.mk H; clear H
           try go_wp2
           replace HO_3 := Aside0.mk (Kd.R_drew HO_3.out); replace HO_11 := Aside0.mk (Kd.R_drew HO_11.out); replace BK789 := Aside0.mk (blk_drew BK789.out); replace HK := Aside0.mk (Kept.drew HK.out); replace HB := Aside0.mk (below_drew1 HB.out)
           refine start_ (n := 44) (S := fun w' => True) (ds := []) #[false, false, false, false, false, false, false, false, false, false, false, false, false, false, false, false, false, false, false, false, false, false, false, false, false, false, false, false, false, false, false, false, false, false, false, false, false, false, false, false, false, false, false, false] (by kernel_rfl) rfl rfl trivial (fun hHeld => ?_); refine with_tabW skewbaldref01_laid.tab12 skewbaldref01_laid.bits12 (fun HT_ HW_ => ?_)
           generalize wr.drew = w33 at HO_3 HO_11 BK789 HK HB hHeld ⊢
           refine pu_ (i := 0) (N := some 42) (qa_ 44 1) ?_
           refine pu_ (i := 1) (N := some 43) (qa_ 44 3) ?_
           refine pn_ (i := 2) (N := some 44) (qa_ 44 7) ?_
           refine pn_ (i := 3) (N := some 45) (qa_ 44 15) ?_
           refine pn_ (i := 4) (N := some 46) (qa_ 44 31) ?_
           refine pn_ (i := 5) (N := some 47) (qa_ 44 63) ?_
           refine pn_ (i := 6) (N := some 48) (qa_ 44 127) ?_
           refine pn_ (i := 7) (N := some 49) (qa_ 44 255) ?_
           refine pn_ (i := 8) (N := some 50) (qa_ 44 511) ?_
           refine pn_ (i := 9) (N := some 51) (qa_ 44 1023) ?_
           refine pn_ (i := 10) (N := some 52) (qa_ 44 2047) ?_
           refine pn_ (i := 11) (N := some 53) (qa_ 44 4095) ?_
           refine pn_ (i := 12) (N := some 54) (qa_ 44 8191) ?_
           refine pn_ (i := 13) (N := some 55) (qa_ 44 16383) ?_
           refine pn_ (i := 14) (N := some 56) (qa_ 44 32767) ?_
           refine pn_ (i := 15) (N := some 57) (qa_ 44 65535) ?_
           refine pn_ (i := 16) (N := some 58) (qa_ 44 131071) ?_
           refine pn_ (i := 17) (N := some 59) (qa_ 44 262143) ?_
           refine pn_ (i := 18) (N := some 60) (qa_ 44 524287) ?_
           refine pn_ (i := 19) (N := some 61) (qa_ 44 1048575) ?_
           refine pn_ (i := 20) (N := some 62) (qa_ 44 2097151) ?_
           refine pn_ (i := 21) (N := some 63) (qa_ 44 4194303) ?_
           refine pn_ (i := 22) (N := some 64) (qa_ 44 8388607) ?_
           refine pn_ (i := 23) (N := some 65) (qa_ 44 16777215) ?_
           refine pn_ (i := 24) (N := some 66) (qa_ 44 33554431) ?_
           refine pn_ (i := 25) (N := some 67) (qa_ 44 67108863) ?_
           refine pn_ (i := 26) (N := some 68) (qa_ 44 134217727) ?_
           refine pn_ (i := 27) (N := some 69) (qa_ 44 268435455) ?_
           refine pn_ (i := 28) (N := some 70) (qa_ 44 536870911) ?_
           refine pn_ (i := 29) (N := some 71) (qa_ 44 1073741823) ?_
           refine pn_ (i := 30) (N := some 72) (qa_ 44 2147483647) ?_
           refine pn_ (i := 31) (N := some 73) (qa_ 44 4294967295) ?_
           refine pn_ (i := 32) (N := some 74) (qa_ 44 8589934591) ?_
           refine pn_ (i := 33) (N := some 75) (qa_ 44 17179869183) ?_
           refine pn_ (i := 34) (N := some 76) (qa_ 44 34359738367) ?_
           refine pn_ (i := 35) (N := some 77) (qa_ 44 68719476735) ?_
           refine pn_ (i := 36) (N := some 78) (qa_ 44 137438953471) ?_
           refine pn_ (i := 37) (N := some 79) (qa_ 44 274877906943) ?_
           refine pn_ (i := 38) (N := some 80) (qa_ 44 549755813887) ?_
           refine pn_ (i := 39) (N := some 81) (qa_ 44 1099511627775) ?_
           refine pn_ (i := 40) (N := some 82) (qa_ 44 2199023255551) ?_
           refine pn_ (i := 41) (N := some 83) (qa_ 44 4398046511103) ?_
           refine pu_ (i := 42) (N := some 84) (qa_ 44 8796093022207) ?_
           refine pu_ (i := 43) (N := some 13) (qa_ 44 17592186044415) ?_
           refine done_ (done_of HT_.out (by kernel_rfl)) ?_
           try go_wp2
           go_roundg k2
           case measure => have := HK1.out; have := HK2.out; omega
           case rel => exact ⟨(false), (wrap64 (x14_2 + 1)), sm, sm, H', ⟨lp HK1 HK2⟩, ⟨bR HO_3⟩, ⟨bR HO_11⟩, ⟨bk⟩, ⟨by repeat (first | (with_reducible first | exact HK.out | apply Kept.alloc | apply Kept.drewN | apply Kept.drew | refine Kept.setCell ?_ (.inr GW789.out) _) | exact HK.out)⟩, ⟨bl⟩⟩
         ·rw [if_neg c17] at H
          have c17b0 : decide (x14_2 < (l3.length : Int)) = false := decide_eq_false c17
          clear c17
          by_cases c34 : x13_2 = true
          ·subst c34
           have H1 : (if 0 ≤ x12_1 then (if x12_1 < (t791.length : Int) then ((skewbaldref00_Add.f l3 (rd t791 x12_1)).bind fun t803 => ((skewbaldref01_laid.f k2 l0_0 l0_1 a1 l2 t803).bind fun bt806 => (if bt806.2 = true then (some (bt806.1, true)) else (skewbaldref01_laid.l0 k2 a1 l2 l3 (l3.length : Int) t791 (wrap64 (x12_1 + 1)) l0_0 l0_1)))) else (none)) else (none)) = some (r1, r2) := by rw [if_pos rfl] at H; exact H
           clear H; have H := H1; clear H1
           by_cases c35 : 0 ≤ x12_1
           ·rw [if_pos c35] at H; have c35b0 := decide_eq_true c35; clear c35
            by_cases c36 : x12_1 < (t791.length : Int)
            ·rw [if_pos c36] at H; have c36b0 := decide_eq_true c36; clear c36; obtain ⟨t803, A37, H⟩ := ob H
             replace H : ((skewbaldref01_laid.f k2 l0_0 l0_1 a1 l2 t803).bind fun bt806 => (if bt806.2 = true then (some (bt806.1, true)) else (skewbaldref01_laid.l0 k2 a1 l2 l3 (l3.length : Int) t791 (wrap64 (x12_1 + 1)) l0_0 l0_1))) = some (r1, r2) := H
             replace H := Option.bind_eq_some_iff.mp H; obtain ⟨⟨t806, t809⟩, A380, H⟩ := H
             replace H : (if t809 = true then (some (t806, true)) else (skewbaldref01_laid.l0 k2 a1 l2 l3 (l3.length : Int) t791 (wrap64 (x12_1 + 1)) l0_0 l0_1)) = some (r1, r2) := H
             have A38 := Aside0.mk A380; clear A380
             by_cases c39 : t809 = true
             ·subst c39
              have H1 : (some (t806, true)) = some (r1, r2) := by rw [if_pos rfl] at H; exact H
              clear H; have H := H1; clear H1
              simp only [Option.some.injEq, Prod.mk.injEq] at H
              obtain ⟨rfl, rfl⟩ := H
              try go_wp2
              replace HO_3 := Aside0.mk (Kd.R_drew HO_3.out); replace HO_11 := Aside0.mk (Kd.R_drew HO_11.out); replace BK789 := Aside0.mk (blk_drew BK789.out); replace HK := Aside0.mk (Kept.drew HK.out); replace HB := Aside0.mk (below_drew1 HB.out)
              have p802 : 0 ≤ (x12_1 : Int) := od
              have q802 : x12_1 < (t791.length : Int) := od
              obtain ⟨ad802, e802, hx802_0⟩ := Kd.at_int (Kd.R_reads' HO_11.out).2.2 x12_1 p802 q802
              cases e802
              replace p802 := eq_true p802; replace q802 := eq_true q802
              refine start_ (n := 15) (S := fun w' => w'.cell? ⟨gb789, 0, none⟩ = some (.slice A0_0 l0_0.length c0_0) ∧ w'.cell? ⟨gb789, 1, none⟩ = some (.slice A0_1 l0_1.length c0_1) ∧ w'.cell? (ad802.add (x12_1).toNat) = some (.int .i64 (rd t791 x12_1))) (ds := []) #[false, false, false, false, false, false, false, false, false, false, false, false, false, false, false] (by kernel_rfl) rfl rfl ⟨bq BK789 0, bq BK789 1, hx802_0⟩ (fun hHeld => ?_); refine with_tabW skewbaldref01_laid.tab14 skewbaldref01_laid.bits14 (fun HT_ HW_ => ?_)
              generalize wr.drew = w40 at HO_3 HO_11 BK789 HK HB hx802_0 hHeld ⊢
              refine pu_ (i := 1) (N := some 89) (qa_ 15 2) ?_
              refine pu_ (i := 2) (N := some 90) (qa_ 15 6) ?_
              refine pu_ (i := 3) (N := some 91) (qa_ 15 14) ?_
              refine pu_ (i := 4) (N := some 92) (qa_ 15 30) ?_
              refine pu_ (i := 5) (N := some 93) (qa_ 15 62) ?_
              refine pu_ (i := 6) (N := some 94) (qa_ 15 126) ?_
              refine tk_ (i := 0) (N := some 88) (qa_ 15 127) hHeld ?_
              refine tk_ (i := 7) (N := some 95) (qa_ 15 255) hHeld ?_
              refine on_ (i := 8) (N := some 96) (qa_ 15 511) (fun K hK => ?_)
              refine goes_ Tryd.func106 (by kernel_rfl) rfl #[.slice Ao12 l3.length co12, .int .i64 (rd t791 x12_1)] (by rfl) rfl rfl (by (try simp only [List.map_toArray, List.map_cons, List.map_nil]); first | done | rfl | (simp only [List.length_drop, List.length_take]; rfl)) ?_
              with_reducible refine (skewbaldref00_Add.calls _ _ l3 (rd t791 x12_1) t803 _ ?side1 ?side2 A37.out).mono ?_
              (case side1 => repeat (first | exact (Kd.R_reads' HO_3.out).2.2 | (with_reducible refine Kd.C_alloc ?_ _) | (with_reducible refine Kd.C_drewN ?_ _) | (with_reducible refine Kd.C_drew ?_)))
              (case side2 => exact (Kd.R_reads' HO_3.out).2.1)
              rintro e w41 ⟨v804, rfl, ho0, hb⟩
              have HS2_ := (hb.cell (World.block_lt_of_cell? _ _ (hHeld.2.2))).trans (hHeld.2.2)
              refine ⟨_, rfl, ?_⟩
              have HO805 := Aside0.mk (Kd.R_lower (Kd.R_new' (Kd.R_new' (Kd.R_newM (M := fun k_ => (P3_ k_ ∨ w.heap.size ≤ k_)) ho0 (by first | exact HK.out.1 | exact (show Kept w _ (fun k_ => P3_ k_) from by repeat (first | (with_reducible first | exact HK.out | apply Kept.alloc | apply Kept.drewN | apply Kept.drew | refine Kept.setCell ?_ (.inr GW789.out) _) | exact HK.out)).1) (fun k_ h_ => .inr h_)) (Kd.R_lt (bR HO_3))) (Kd.R_lt (bR HO_11))) (below_size bl))
              replace HO_3 := Aside0.mk (Kd.R_elder' (bR HO_3) (Kd.R_base ho0) hb); replace HO_11 := Aside0.mk (Kd.R_elder' (bR HO_11) (Kd.R_base ho0) hb); replace BK789 := nb BK789 hb
              replace HK := Aside0.mk (Kept.below (S := (fun k_ => P3_ k_)) (by repeat (first | (with_reducible first | exact HK.out | apply Kept.alloc | apply Kept.drewN | apply Kept.drew | refine Kept.setCell ?_ (.inr GW789.out) _) | exact HK.out)) hb)
              replace HB := hs HB hb; (try clear hb); (try clear hb2); (try clear hk); (try clear hi); (try clear ho0); obtain ⟨Ao42, co42, eo42⟩ := Kd.R_slice HO805.out
              (first | subst eo42 | (injection eo42 with f1_ f2_ f3_; have f4_ := f1_.symm; have f5_ := f3_.symm; clear f1_ f2_ f3_; subst f4_; subst f5_))
              refine hK.out _ _ ⟨bq BK789 0, bq BK789 1, HS2_⟩ (fun hHeld => ?_)
              clear hK K
              refine nm_ (some 96) ?_
              refine on_ (i := 9) (N := some 97) (qa_ 15 1023) (fun K hK => ?_)
              refine goes_ Tryd.func78 (by kernel_rfl) rfl #[.agg #[.slice A0_0 l0_0.length c0_0, .slice A0_1 l0_1.length c0_1], .int .i64 a1, .slice (some ad790) l2.length c2, .slice Ao42 t803.length co42] (by rfl) rfl rfl (by (try simp only [List.map_toArray, List.map_cons, List.map_nil]); first | done | rfl | (simp only [List.length_drop, List.length_take]; rfl)) ?_
              with_reducible refine (ih k2 (lp HK1 HK2) _ _ l0_0 _ _ l0_1 a1 _ _ l2 (fun k_ => some k_ = (.slice Ao42 t803.length co42 : Value).ownBlock) (.slice Ao42 t803.length co42) t803 t806 true w0 _ ?side1 ?side2 ?side3 ?side4 ?side5 ?side6 ?side7 ?side8 A38.out).mono ?_
              (case side1 => repeat (first | (with_reducible first | exact HB.out | apply below_alloc | apply pw_below_drewN | apply below_drew1 | refine below_set ?_ GE789.out) | exact HB.out))
              (case side2 => exact Kd.C_kept_call HR0_0.out (by repeat (first | (with_reducible first | exact HK.out | apply Kept.alloc | apply Kept.drewN | apply Kept.drew | refine Kept.setCell ?_ (.inr GW789.out) _) | exact HK.out)) (fun k_ hs_ => (fun e_ => (HO805.out.1 k_ e_.symm).1.1.1) hs_))
              (case side3 => exact HC0_0.out)
              (case side4 => exact Kd.C_kept_call HR0_1.out (by repeat (first | (with_reducible first | exact HK.out | apply Kept.alloc | apply Kept.drewN | apply Kept.drew | refine Kept.setCell ?_ (.inr GW789.out) _) | exact HK.out)) (fun k_ hs_ => (fun e_ => (HO805.out.1 k_ e_.symm).1.1.1) hs_))
              (case side5 => exact HC0_1.out)
              (case side6 => exact Kd.C_kept_call HR2.out (by repeat (first | (with_reducible first | exact HK.out | apply Kept.alloc | apply Kept.drewN | apply Kept.drew | refine Kept.setCell ?_ (.inr GW789.out) _) | exact HK.out)) (fun k_ hs_ => (fun e_ => (HO805.out.1 k_ e_.symm).1.1.1) hs_))
              (case side7 => exact HC2.out)
              (case side8 => exact Kd.R_tight rfl HO805.out)
              rintro e w43 ⟨v807, rfl, ho0, hb, hkp⟩
              have HS2_ := Go.Proofs.YtekjlpldooihhaaDoorW.PrintWords.cell_kept (hHeld.2.2) hkp (by first | (rw [add_block]; exact (fun hs_ => (((HO_11.out).1 _ rfl).2) hs_)) | (show ¬ _; simp only [add_block]; exact (fun hs_ => (((HO_11.out).1 _ rfl).2) hs_)) | exact (fun hs_ => (((HO_11.out).1 _ rfl).2) hs_))
              refine ⟨_, rfl, ?_⟩
              replace BK789 := Aside0.mk (blk_kept bk hkp (fun hs_ => (fun e_ => (Kd.R_ne HO805.out BK789.out (by decide)) e_) hs_))
              have HO808 := Aside0.mk (Kd.R_mono (ok' := fun k_ => (P3_ k_ ∨ w.heap.size ≤ k_) ∧ some k_ ≠ (.slice Ao12 l3.length co12 : Value).ownBlock ∧ some k_ ≠ (.slice (some ad802) t791.length co16 : Value).ownBlock) ho0 (fun k_ hk_ => ⟨Or.elim hk_ (fun hs_ => (HO805.out.1 k_ (hs_).symm).1.1.1) (fun hn_ => (.inr (Nat.le_trans (by first | exact HK.out.1 | exact (show Kept w _ (fun k_ => P3_ k_) from by repeat (first | (with_reducible first | exact HK.out | apply Kept.alloc | apply Kept.drewN | apply Kept.drew | refine Kept.setCell ?_ (.inr GW789.out) _) | exact HK.out)).1) hn_))), Or.elim hk_ (fun hs_ => fun e_ => (((HO_3.out).1 k_ e_.symm).2) hs_) (fun hn_ => (Kd.fresh' (Kd.R_lt (bR HO_3)) k_ hn_)), Or.elim hk_ (fun hs_ => fun e_ => (((HO_11.out).1 k_ e_.symm).2) hs_) (fun hn_ => (Kd.fresh' (Kd.R_lt (bR HO_11)) k_ hn_))⟩))
              replace HO_3 := Aside0.mk (Kd.R_mono (ok' := fun k_ => (P3_ k_ ∨ w.heap.size ≤ k_) ∧ some k_ ≠ (.slice (some ad802) t791.length co16 : Value).ownBlock ∧ some k_ ≠ (v807 : Value).ownBlock) (Kd.R_keptB (HO_3.out) hkp (fun k_ hk_ hs_ => (hk_.2) hs_)) (fun k_ hk_ => ⟨hk_.1.1.1, hk_.1.1.2, fun e_ => Or.elim (ho0.1 k_ e_.symm) (fun hs_ => hk_.2.1 hs_) (fun hn_ => Nat.not_le.2 hk_.2.2 hn_)⟩))
              replace HO_11 := Aside0.mk (Kd.R_mono (ok' := fun k_ => (P3_ k_ ∨ w.heap.size ≤ k_) ∧ some k_ ≠ (.slice Ao12 l3.length co12 : Value).ownBlock ∧ some k_ ≠ (v807 : Value).ownBlock) (Kd.R_keptB (HO_11.out) hkp (fun k_ hk_ hs_ => (hk_.2) hs_)) (fun k_ hk_ => ⟨hk_.1.1.1, hk_.1.1.2, fun e_ => Or.elim (ho0.1 k_ e_.symm) (fun hs_ => hk_.2.1 hs_) (fun hn_ => Nat.not_le.2 hk_.2.2 hn_)⟩))
              replace HK := Aside0.mk (Kept.then_ (S := (fun k_ => P3_ k_)) (by repeat (first | (with_reducible first | exact HK.out | apply Kept.alloc | apply Kept.drewN | apply Kept.drew | refine Kept.setCell ?_ (.inr GW789.out) _) | exact HK.out)) hkp (fun k_ hs_ => (fun e_ => (HO805.out.1 k_ e_.symm).1.1.1) hs_))
              replace HB := Aside0.mk hb; clear HO805; (try clear hb); (try clear hkp); (try clear ho0)
              refine hK.out _ _ ⟨bq BK789 0, bq BK789 1, HS2_⟩ (fun hHeld => ?_)
              clear hK K
              refine nm_ (some 97) ?_
              refine pu_ (i := 10) (N := some 87) (qa_ 15 2047) ?_
              refine pu_ (i := 11) (N := some 98) (qa_ 15 4095) ?_
              refine pu_ (i := 12) (N := some 99) (qa_ 15 8191) ?_
              refine pu_ (i := 13) (N := some 15) (qa_ 15 16383) ?_
              refine pu_ (i := 14) (N := some 16) (qa_ 15 32767) ?_
              refine done_ (done_of HT_.out (by kernel_rfl)) ?_
              try go_wp2
              go_ret2
              exact ⟨_, by first | rfl | (simp [errW_none, errW_some] <;> rfl) | (simp [*, errW_none, errW_some] <;> rfl), by (with_reducible repeat (first | apply Kd.R_alloc | apply Kd.R_drewN | apply Kd.R_drew)); exact Kd.R_mono HO808.out (fun _ hk => hk.1), bl, by repeat (first | (with_reducible first | exact HK.out | apply Kept.alloc | apply Kept.drewN | apply Kept.drew | refine Kept.setCell ?_ (.inr GW789.out) _) | exact HK.out)⟩
             ·replace c39 := Bool.eq_false_iff.mpr c39; subst c39
              have H1 : (skewbaldref01_laid.l0 k2 a1 l2 l3 (l3.length : Int) t791 (wrap64 (x12_1 + 1)) l0_0 l0_1) = some (r1, r2) := by rw [if_neg (show ¬ (false = true) by decide)] at H; exact H
              clear H; have H := H1; clear H1; have H' := Aside0.mk H; clear H
              try go_wp2
              replace HO_3 := Aside0.mk (Kd.R_drew HO_3.out); replace HO_11 := Aside0.mk (Kd.R_drew HO_11.out); replace BK789 := Aside0.mk (blk_drew BK789.out); replace HK := Aside0.mk (Kept.drew HK.out); replace HB := Aside0.mk (below_drew1 HB.out)
              have p802 : 0 ≤ (x12_1 : Int) := od
              have q802 : x12_1 < (t791.length : Int) := od
              obtain ⟨ad802, e802, hx802_0⟩ := Kd.at_int (Kd.R_reads' HO_11.out).2.2 x12_1 p802 q802
              cases e802
              replace p802 := eq_true p802; replace q802 := eq_true q802
              refine start_ (n := 15) (S := fun w' => w'.cell? ⟨gb789, 0, none⟩ = some (.slice A0_0 l0_0.length c0_0) ∧ w'.cell? ⟨gb789, 1, none⟩ = some (.slice A0_1 l0_1.length c0_1) ∧ w'.cell? (ad802.add (x12_1).toNat) = some (.int .i64 (rd t791 x12_1))) (ds := []) #[false, false, false, false, false, false, false, false, false, false, false, false, false, false, false] (by kernel_rfl) rfl rfl ⟨bq BK789 0, bq BK789 1, hx802_0⟩ (fun hHeld => ?_); refine with_tabW skewbaldref01_laid.tab14 skewbaldref01_laid.bits14 (fun HT_ HW_ => ?_)
              generalize wr.drew = w44 at HO_3 HO_11 BK789 HK HB hx802_0 hHeld ⊢
              refine pu_ (i := 1) (N := some 89) (qa_ 15 2) ?_
              refine pu_ (i := 2) (N := some 90) (qa_ 15 6) ?_
              refine pu_ (i := 3) (N := some 91) (qa_ 15 14) ?_
              refine pu_ (i := 4) (N := some 92) (qa_ 15 30) ?_
              refine pu_ (i := 5) (N := some 93) (qa_ 15 62) ?_
              refine pu_ (i := 6) (N := some 94) (qa_ 15 126) ?_
              refine tk_ (i := 0) (N := some 88) (qa_ 15 127) hHeld ?_
              refine tk_ (i := 7) (N := some 95) (qa_ 15 255) hHeld ?_
              refine on_ (i := 8) (N := some 96) (qa_ 15 511) (fun K hK => ?_)
              refine goes_ Tryd.func106 (by kernel_rfl) rfl #[.slice Ao12 l3.length co12, .int .i64 (rd t791 x12_1)] (by rfl) rfl rfl (by (try simp only [List.map_toArray, List.map_cons, List.map_nil]); first | done | rfl | (simp only [List.length_drop, List.length_take]; rfl)) ?_
              with_reducible refine (skewbaldref00_Add.calls _ _ l3 (rd t791 x12_1) t803 _ ?side1 ?side2 A37.out).mono ?_
              (case side1 => repeat (first | exact (Kd.R_reads' HO_3.out).2.2 | (with_reducible refine Kd.C_alloc ?_ _) | (with_reducible refine Kd.C_drewN ?_ _) | (with_reducible refine Kd.C_drew ?_)))
              (case side2 => exact (Kd.R_reads' HO_3.out).2.1)
              rintro e w45 ⟨v804, rfl, ho0, hb⟩
              have HS2_ := (hb.cell (World.block_lt_of_cell? _ _ (hHeld.2.2))).trans (hHeld.2.2)
              refine ⟨_, rfl, ?_⟩
              have HO805 := Aside0.mk (Kd.R_lower (Kd.R_new' (Kd.R_new' (Kd.R_newM (M := fun k_ => (P3_ k_ ∨ w.heap.size ≤ k_)) ho0 (by first | exact HK.out.1 | exact (show Kept w _ (fun k_ => P3_ k_) from by repeat (first | (with_reducible first | exact HK.out | apply Kept.alloc | apply Kept.drewN | apply Kept.drew | refine Kept.setCell ?_ (.inr GW789.out) _) | exact HK.out)).1) (fun k_ h_ => .inr h_)) (Kd.R_lt (bR HO_3))) (Kd.R_lt (bR HO_11))) (below_size bl))
              replace HO_3 := Aside0.mk (Kd.R_elder' (bR HO_3) (Kd.R_base ho0) hb); replace HO_11 := Aside0.mk (Kd.R_elder' (bR HO_11) (Kd.R_base ho0) hb); replace BK789 := nb BK789 hb
              replace HK := Aside0.mk (Kept.below (S := (fun k_ => P3_ k_)) (by repeat (first | (with_reducible first | exact HK.out | apply Kept.alloc | apply Kept.drewN | apply Kept.drew | refine Kept.setCell ?_ (.inr GW789.out) _) | exact HK.out)) hb)
              replace HB := hs HB hb; (try clear hb); (try clear hb2); (try clear hk); (try clear hi); (try clear ho0); obtain ⟨Ao46, co46, eo46⟩ := Kd.R_slice HO805.out
              (first | subst eo46 | (injection eo46 with f1_ f2_ f3_; have f4_ := f1_.symm; have f5_ := f3_.symm; clear f1_ f2_ f3_; subst f4_; subst f5_))
              refine hK.out _ _ ⟨bq BK789 0, bq BK789 1, HS2_⟩ (fun hHeld => ?_)
              clear hK K
              refine nm_ (some 96) ?_
              refine on_ (i := 9) (N := some 97) (qa_ 15 1023) (fun K hK => ?_)
              refine goes_ Tryd.func78 (by kernel_rfl) rfl #[.agg #[.slice A0_0 l0_0.length c0_0, .slice A0_1 l0_1.length c0_1], .int .i64 a1, .slice (some ad790) l2.length c2, .slice Ao46 t803.length co46] (by rfl) rfl rfl (by (try simp only [List.map_toArray, List.map_cons, List.map_nil]); first | done | rfl | (simp only [List.length_drop, List.length_take]; rfl)) ?_
              with_reducible refine (ih k2 (lp HK1 HK2) _ _ l0_0 _ _ l0_1 a1 _ _ l2 (fun k_ => some k_ = (.slice Ao46 t803.length co46 : Value).ownBlock) (.slice Ao46 t803.length co46) t803 t806 false w0 _ ?side1 ?side2 ?side3 ?side4 ?side5 ?side6 ?side7 ?side8 A38.out).mono ?_
              (case side1 => repeat (first | (with_reducible first | exact HB.out | apply below_alloc | apply pw_below_drewN | apply below_drew1 | refine below_set ?_ GE789.out) | exact HB.out))
              (case side2 => exact Kd.C_kept_call HR0_0.out (by repeat (first | (with_reducible first | exact HK.out | apply Kept.alloc | apply Kept.drewN | apply Kept.drew | refine Kept.setCell ?_ (.inr GW789.out) _) | exact HK.out)) (fun k_ hs_ => (fun e_ => (HO805.out.1 k_ e_.symm).1.1.1) hs_))
              (case side3 => exact HC0_0.out)
              (case side4 => exact Kd.C_kept_call HR0_1.out (by repeat (first | (with_reducible first | exact HK.out | apply Kept.alloc | apply Kept.drewN | apply Kept.drew | refine Kept.setCell ?_ (.inr GW789.out) _) | exact HK.out)) (fun k_ hs_ => (fun e_ => (HO805.out.1 k_ e_.symm).1.1.1) hs_))
              (case side5 => exact HC0_1.out)
              (case side6 => exact Kd.C_kept_call HR2.out (by repeat (first | (with_reducible first | exact HK.out | apply Kept.alloc | apply Kept.drewN | apply Kept.drew | refine Kept.setCell ?_ (.inr GW789.out) _) | exact HK.out)) (fun k_ hs_ => (fun e_ => (HO805.out.1 k_ e_.symm).1.1.1) hs_))
              (case side7 => exact HC2.out)
              (case side8 => exact Kd.R_tight rfl HO805.out)
              rintro e w47 ⟨v807, rfl, ho0, hb, hkp⟩
              have HS2_ := Go.Proofs.YtekjlpldooihhaaDoorW.PrintWords.cell_kept (hHeld.2.2) hkp (by first | (rw [add_block]; exact (fun hs_ => (((HO_11.out).1 _ rfl).2) hs_)) | (show ¬ _; simp only [add_block]; exact (fun hs_ => (((HO_11.out).1 _ rfl).2) hs_)) | exact (fun hs_ => (((HO_11.out).1 _ rfl).2) hs_))
              refine ⟨_, rfl, ?_⟩
              replace BK789 := Aside0.mk (blk_kept bk hkp (fun hs_ => (fun e_ => (Kd.R_ne HO805.out BK789.out (by decide)) e_) hs_))
              have HO808 := Aside0.mk (Kd.R_mono (ok' := fun k_ => (P3_ k_ ∨ w.heap.size ≤ k_) ∧ some k_ ≠ (.slice Ao12 l3.length co12 : Value).ownBlock ∧ some k_ ≠ (.slice (some ad802) t791.length co16 : Value).ownBlock) ho0 (fun k_ hk_ => ⟨Or.elim hk_ (fun hs_ => (HO805.out.1 k_ (hs_).symm).1.1.1) (fun hn_ => (.inr (Nat.le_trans (by first | exact HK.out.1 | exact (show Kept w _ (fun k_ => P3_ k_) from by repeat (first | (with_reducible first | exact HK.out | apply Kept.alloc | apply Kept.drewN | apply Kept.drew | refine Kept.setCell ?_ (.inr GW789.out) _) | exact HK.out)).1) hn_))), Or.elim hk_ (fun hs_ => fun e_ => (((HO_3.out).1 k_ e_.symm).2) hs_) (fun hn_ => (Kd.fresh' (Kd.R_lt (bR HO_3)) k_ hn_)), Or.elim hk_ (fun hs_ => fun e_ => (((HO_11.out).1 k_ e_.symm).2) hs_) (fun hn_ => (Kd.fresh' (Kd.R_lt (bR HO_11)) k_ hn_))⟩))
              replace HO_3 := Aside0.mk (Kd.R_mono (ok' := fun k_ => (P3_ k_ ∨ w.heap.size ≤ k_) ∧ some k_ ≠ (.slice (some ad802) t791.length co16 : Value).ownBlock ∧ some k_ ≠ (v807 : Value).ownBlock) (Kd.R_keptB (HO_3.out) hkp (fun k_ hk_ hs_ => (hk_.2) hs_)) (fun k_ hk_ => ⟨hk_.1.1.1, hk_.1.1.2, fun e_ => Or.elim (ho0.1 k_ e_.symm) (fun hs_ => hk_.2.1 hs_) (fun hn_ => Nat.not_le.2 hk_.2.2 hn_)⟩))
              replace HO_11 := Aside0.mk (Kd.R_mono (ok' := fun k_ => (P3_ k_ ∨ w.heap.size ≤ k_) ∧ some k_ ≠ (.slice Ao12 l3.length co12 : Value).ownBlock ∧ some k_ ≠ (v807 : Value).ownBlock) (Kd.R_keptB (HO_11.out) hkp (fun k_ hk_ hs_ => (hk_.2) hs_)) (fun k_ hk_ => ⟨hk_.1.1.1, hk_.1.1.2, fun e_ => Or.elim (ho0.1 k_ e_.symm) (fun hs_ => hk_.2.1 hs_) (fun hn_ => Nat.not_le.2 hk_.2.2 hn_)⟩))
              replace HK := Aside0.mk (Kept.then_ (S := (fun k_ => P3_ k_)) (by repeat (first | (with_reducible first | exact HK.out | apply Kept.alloc | apply Kept.drewN | apply Kept.drew | refine Kept.setCell ?_ (.inr GW789.out) _) | exact HK.out)) hkp (fun k_ hs_ => (fun e_ => (HO805.out.1 k_ e_.symm).1.1.1) hs_))
              replace HB := Aside0.mk hb; clear HO805; (try clear hb); (try clear hkp); (try clear ho0)
              refine hK.out _ _ ⟨bq BK789 0, bq BK789 1, HS2_⟩ (fun hHeld => ?_)
              clear hK K
              refine nm_ (some 97) ?_
              refine pu_ (i := 10) (N := some 87) (qa_ 15 2047) ?_
              refine pu_ (i := 11) (N := some 98) (qa_ 15 4095) ?_
              refine pu_ (i := 12) (N := some 99) (qa_ 15 8191) ?_
              refine pu_ (i := 13) (N := some 15) (qa_ 15 16383) ?_
              refine pu_ (i := 14) (N := some 16) (qa_ 15 32767) ?_
              refine done_ (done_of HT_.out (by kernel_rfl)) ?_
              try go_wp2
              go_roundg k2
              case measure => have := HK1.out; have := HK2.out; omega
              case rel => exact ⟨(wrap64 (x12_1 + 1)), sm, H', ⟨lp HK1 HK2⟩, ⟨by (with_reducible repeat (first | apply Kd.R_alloc | apply Kd.R_drewN | apply Kd.R_drew)); exact Kd.R_mono HO_3.out (fun _ hk => ⟨hk.1, hk.2.1⟩)⟩, ⟨by (with_reducible repeat (first | apply Kd.R_alloc | apply Kd.R_drewN | apply Kd.R_drew)); exact Kd.R_mono HO_11.out (fun _ hk => ⟨hk.1, hk.2.1⟩)⟩, ⟨bk⟩, ⟨by repeat (first | (with_reducible first | exact HK.out | apply Kept.alloc | apply Kept.drewN | apply Kept.drew | refine Kept.setCell ?_ (.inr GW789.out) _) | exact HK.out)⟩, ⟨bl⟩⟩
            ·rw [if_neg c36] at H
             exact absurd H (by simp)
           ·rw [if_neg c35] at H
            exact absurd H (by simp)
          ·replace c34 := Bool.eq_false_iff.mpr c34; subst c34
           have H1 : (skewbaldref01_laid.l0 k2 a1 l2 l3 (l3.length : Int) t791 (wrap64 (x12_1 + 1)) l0_0 l0_1) = some (r1, r2) := by rw [if_neg (show ¬ (false = true) by decide)] at H; exact H
           clear H; have H := H1; clear H1; have H' := Aside0.mk H; clear H
           go_wp2
           go_roundg k2
           case measure => have := HK1.out; have := HK2.out; omega
           case rel => exact ⟨(wrap64 (x12_1 + 1)), sm, H', ⟨lp HK1 HK2⟩, ⟨bR HO_3⟩, ⟨bR HO_11⟩, ⟨bk⟩, ⟨by repeat (first | (with_reducible first | exact HK.out | apply Kept.alloc | apply Kept.drewN | apply Kept.drew | refine Kept.setCell ?_ (.inr GW789.out) _) | exact HK.out)⟩, ⟨bl⟩⟩
      ·rw [if_neg c15] at H
       have c15b0 : decide (x12_1 < (t791.length : Int)) = false := decide_eq_false c15
       clear c15
       simp only [Option.some.injEq, Prod.mk.injEq] at H
       obtain ⟨rfl, rfl⟩ := H; obtain ⟨Ao48, co48, eo48⟩ := Kd.R_slice HO_11.out; subst eo48
       go_wp2
       go_ret2
       exact ⟨_, by first | rfl | (simp [errW_none, errW_some] <;> rfl) | (simp [*, errW_none, errW_some] <;> rfl), by first | exact Kd.R_nil _ _ _ _ _ | exact Kd.N_nil _ _ _ _ _ | exact Kd.V_nil _ _ _ _ _ | exact Kd.Q_nil _ _ _ _ _ | exact Kd.S_nil _ _ _ _ _, bl, by repeat (first | (with_reducible first | exact HK.out | apply Kept.alloc | apply Kept.drewN | apply Kept.drew | refine Kept.setCell ?_ (.inr GW789.out) _) | exact HK.out)⟩
   ·rw [if_neg c9] at H
    exact absurd H (by simp)
  ·rw [if_neg c8] at H
   exact absurd H (by simp)
def skewbaldref01_Lay.j0 : Nat → Int → List Int → Int → List (S48) → List (S50) → Option (List Int × Int)
 | 0, _, _, _, _, _ => none
 | k + 1, x1, x2, x8, x811000, x811001 => if x8 = 0 then ((skewbaldref01_ends.f k x811000 x811001 x1).bind fun t815 => ((skewbaldref00_Set.f k x2).bind fun t818 => (if 0 ≤ t818 then (if t818 < (t815.length : Int) then (if (rd t815 t818) = 99 then (some (([] : List Int), 4)) else ((skewbaldref01_laid.f k x811000 x811001 x1 x2 (([] : List Int))).bind fun bt823 => (some (bt823.1, 0)))) else (none)) else (none)))) else (some (([] : List Int), x8))
def skewbaldref01_Lay.f (k : Nat) (l0_0 : List (S48)) (l0_1 : List (S50)) (a1 : Int) (l2 : List Int) : Option (List Int × Int) := (skewbaldref01_isPlank.f l0_0 l0_1 a1).bind fun t811 => (if t811 = true then ((skewbaldref00_Grows.f k l2 (l0_1.length : Int)).bind fun t812 => ((skewbaldref01_asked.f k l0_0 l0_1 t812).bind fun t813 => (skewbaldref01_Lay.j0 k a1 l2 t813 l0_0 l0_1))) else ((skewbaldref01_asked.f k l0_0 l0_1 false).bind fun t814 => (skewbaldref01_Lay.j0 k a1 l2 t814 l0_0 l0_1)))
def skewbaldref01_Lay.T1 : Bool × List (List Nat × List Nat) := (true, [([], []), ([], []), ([], []), ([1, 2], [1, 2]), ([3, 3], [3]), ([4], [4]), ([4], [4]), ([6, 4], [4, 6]), ([7, 4], [4, 7]), ([5, 8, 4, 4], [4, 5, 8]), ([4, 9], [4, 9]), ([0, 10, 9], [0, 10]), ([11, 11, 0, 1, 2, 3, 4, 5, 6, 7, 8, 9, 10, 11], [11])])
def skewbaldref01_Lay.B1 : List Nat := [0, 0, 0, 6, 14, 30, 30, 94, 222, 510, 1022, 2047, 4095]
theorem skewbaldref01_Lay.tab1 : rtab .any (opsOf Tryd.f25 1) = skewbaldref01_Lay.T1 := by kernel_rfl
theorem skewbaldref01_Lay.bits1 : waitsOk skewbaldref01_Lay.T1.2 skewbaldref01_Lay.B1 = true := by kernel_rfl
set_option maxHeartbeats 8000000 in
set_option maxRecDepth 100000 in
theorem skewbaldref01_Lay.calls (k : Nat) (A0_0 : Option Addr) (c0_0 : Nat) (l0_0 : List (S48)) (A0_1 : Option Addr) (c0_1 : Nat) (l0_1 : List (S50)) (a1 : Int) (A2 : Option Addr) (c2 : Nat) (l2 : List Int) (r1 : List Int) (r2 : Int) (w : World) (hr0_0 : Kd.C k48 w A0_0 l0_0.length l0_0) (hc0_0 : l0_0.length ≤ c0_0) (hr0_1 : Kd.C k50 w A0_1 l0_1.length l0_1) (hc0_1 : l0_1.length ≤ c0_1) (hr2 : Kd.C (Kd.int .i64) w A2 l2.length l2) (hc2 : l2.length ≤ c2) (h : skewbaldref01_Lay.f k l0_0 l0_1 a1 l2 = some (r1, r2)) :
  Calls Tryd.prog 25 #[.agg #[.slice A0_0 l0_0.length c0_0, .slice A0_1 l0_1.length c0_1], .int .i64 a1, .slice A2 l2.length c2] w fun e w' => ∃ v0_ : Value, e = .returned (.tuple #[v0_, .int .i64 r2]) ∧ Kd.R (Kd.int .i64) 3 w' w.heap.size (fun _ => True) v0_ r1 ∧ Below w.heap.size w w' := by
 have hu25 := Tryd.underlying25; have HR0_0 := Aside0.mk hr0_0; have HC0_0 := Aside0.mk hc0_0; clear hr0_0 hc0_0; have HR0_1 := Aside0.mk hr0_1; have HC0_1 := Aside0.mk hc0_1; clear hr0_1 hc0_1; have HR2 := Aside0.mk hr2; have HC2 := Aside0.mk hc2; clear hr2 hc2; have HB := Aside0.mk (Below.refl w.heap.size w)
 have H : ((skewbaldref01_isPlank.f l0_0 l0_1 a1).bind fun t811 => (if t811 = true then ((skewbaldref00_Grows.f k l2 (l0_1.length : Int)).bind fun t812 => ((skewbaldref01_asked.f k l0_0 l0_1 t812).bind fun t813 => (skewbaldref01_Lay.j0 k a1 l2 t813 l0_0 l0_1))) else ((skewbaldref01_asked.f k l0_0 l0_1 false).bind fun t814 => (skewbaldref01_Lay.j0 k a1 l2 t814 l0_0 l0_1)))) = some (r1, r2) := h
 clear h; have HC4 := Aside0.mk H; clear H
 go_enter Tryd.func25, Tryd.ntmps25
 go_upto_region 1 with (first | ((with_reducible refine gate_dst (N := 3) rfl ?_); (try (refine gate_guard (by rfl) ?_; dsimp only)); refine bx 3 #[.slice A0_0 l0_0.length c0_0, .slice A0_1 l0_1.length c0_1] 25 ?_; intro gb810 hg w5 hbox hb; have BK810 := Aside0.mk hbox; have GW810 := gw hg HB; have GE810 := gw hg HB; replace HB := hs HB hb; clear hb hbox hg))
 (try simp only [Act.put, List.setIfInBounds_toArray, List.set_cons_zero, List.set_cons_succ])
 go_cut [8] (fun v8 wc => ∃ (kq : Nat) (x8_3 : Int), v8 = .int .i64 x8_3 ∧ Aside0 (skewbaldref01_Lay.j0 kq a1 l2 x8_3 l0_0 l0_1 = some (r1, r2)) ∧ Aside0 (kq ≤ k) ∧ Aside0 (wc.heap[gb810]? = some (.cells #[(.slice A0_0 l0_0.length c0_0), (.slice A0_1 l0_1.length c0_1)] 25 (0, 0))) ∧ Aside0 (Below w.heap.size w wc))
 case first =>
  have H := HC4.out; clear HC4; obtain ⟨t811, A6, H⟩ := ob H
  replace H : (if t811 = true then ((skewbaldref00_Grows.f k l2 (l0_1.length : Int)).bind fun t812 => ((skewbaldref01_asked.f k l0_0 l0_1 t812).bind fun t813 => (skewbaldref01_Lay.j0 k a1 l2 t813 l0_0 l0_1))) else ((skewbaldref01_asked.f k l0_0 l0_1 false).bind fun t814 => (skewbaldref01_Lay.j0 k a1 l2 t814 l0_0 l0_1))) = some (r1, r2) := H
  by_cases c7 : t811 = true
  ·subst c7
   have H1 : ((skewbaldref00_Grows.f k l2 (l0_1.length : Int)).bind fun t812 => ((skewbaldref01_asked.f k l0_0 l0_1 t812).bind fun t813 => (skewbaldref01_Lay.j0 k a1 l2 t813 l0_0 l0_1))) = some (r1, r2) := by rw [if_pos rfl] at H; exact H
   clear H; have H := H1; clear H1; obtain ⟨t812, A8, H⟩ := ob H
   replace H : ((skewbaldref01_asked.f k l0_0 l0_1 t812).bind fun t813 => (skewbaldref01_Lay.j0 k a1 l2 t813 l0_0 l0_1)) = some (r1, r2) := H
   obtain ⟨t813, A9, H⟩ := ob H
   replace H : (skewbaldref01_Lay.j0 k a1 l2 t813 l0_0 l0_1) = some (r1, r2) := H
   have H' := Aside0.mk H; clear H
   try go_wp2
   replace BK810 := Aside0.mk (blk_drew BK810.out); replace HB := Aside0.mk (below_drew1 HB.out)
   refine start_ (n := 13) (S := fun w' => w'.cell? ⟨gb810, 0, none⟩ = some (.slice A0_0 l0_0.length c0_0) ∧ w'.cell? ⟨gb810, 1, none⟩ = some (.slice A0_1 l0_1.length c0_1)) (ds := []) #[false, false, false, false, false, false, false, false, false, false, false, false, false] (by kernel_rfl) rfl rfl ⟨bq BK810 0, bq BK810 1⟩ (fun hHeld => ?_); refine with_tabW skewbaldref01_Lay.tab1 skewbaldref01_Lay.bits1 (fun HT_ HW_ => ?_)
   generalize w5.drew = w10 at BK810 HB hHeld ⊢
   refine pu_ (i := 2) (N := some 13) (qa_ 13 4) ?_
   refine tk_ (i := 0) (N := some 11) (qa_ 13 5) hHeld ?_
   refine tk_ (i := 1) (N := some 12) (qa_ 13 7) hHeld ?_
   refine on_ (i := 3) (N := some 14) (qa_ 13 15) (fun K hK => ?_)
   refine goes_ Tryd.func66 (by kernel_rfl) rfl #[.agg #[.slice A0_0 l0_0.length c0_0, .slice A0_1 l0_1.length c0_1], .int .i64 a1] (by rfl) rfl rfl (by (try simp only [List.map_toArray, List.map_cons, List.map_nil]); first | done | rfl | (simp only [List.length_drop, List.length_take]; rfl)) ?_
   with_reducible refine (skewbaldref01_isPlank.calls _ _ l0_0 _ _ l0_1 a1 true _ ?side1 ?side2 ?side3 ?side4 A6.out).mono ?_
   (case side1 => exact cl)
   (case side2 => exact HC0_0.out)
   (case side3 => exact cl)
   (case side4 => exact HC0_1.out)
   rintro e w11 ⟨rfl, hb⟩
   refine ⟨_, rfl, ?_⟩
   replace BK810 := nb BK810 hb; replace HB := hs HB hb; (try clear hb); (try clear hb2); (try clear hk); (try clear hi)
   refine hK.out _ _ ⟨bq BK810 0, bq BK810 1⟩ (fun hHeld => ?_)
   clear hK K
   refine nm_ (some 14) ?_
   refine pu_ (i := 4) (N := some 15) (qa_ 13 31) ?_
   refine pu_ (i := 5) (N := some 16) (qa_ 13 63) ?_
   refine pu_ (i := 6) (N := some 17) (qa_ 13 127) ?_
   refine tk_ (i := 7) (N := some 18) (qa_ 13 255) hHeld ?_
   refine pu_ (i := 8) (N := some 19) (qa_ 13 511) ?_
   refine on_ (i := 9) (N := some 20) (qa_ 13 1023) (fun K hK => ?_)
   refine goes_ Tryd.func39 (by kernel_rfl) rfl #[.slice A2 l2.length c2, .int .i64 (l0_1.length : Int)] (by rfl) rfl rfl (by (try simp only [List.map_toArray, List.map_cons, List.map_nil]); first | done | rfl | (simp only [List.length_drop, List.length_take]; rfl)) ?_
   with_reducible refine (skewbaldref00_Grows.calls k _ _ l2 (l0_1.length : Int) t812 _ ?side1 ?side2 A8.out).mono ?_
   (case side1 => repeat (first | exact (Kd.C_below HR2.out HB.out) | (with_reducible refine Kd.C_alloc ?_ _) | (with_reducible refine Kd.C_drewN ?_ _) | (with_reducible refine Kd.C_drew ?_)))
   (case side2 => exact HC2.out)
   rintro e w' ⟨rfl, ⟨nd, rfl⟩⟩
   refine ⟨_, rfl, ?_⟩
   refine hK.out _ _ ⟨bq BK810 0, bq BK810 1⟩ (fun hHeld => ?_)
   clear hK K
   refine nm_ (some 20) ?_
   refine pu_ (i := 10) (N := some 21) (qa_ 13 2047) ?_
   refine on_ (i := 11) (N := some 22) (qa_ 13 4095) (fun K hK => ?_)
   refine goes_ Tryd.func65 (by kernel_rfl) rfl #[.agg #[.slice A0_0 l0_0.length c0_0, .slice A0_1 l0_1.length c0_1], .bool t812] (by rfl) rfl rfl (by (try simp only [List.map_toArray, List.map_cons, List.map_nil]); first | done | rfl | (simp only [List.length_drop, List.length_take]; rfl)) ?_
   with_reducible refine (skewbaldref01_asked.calls k _ _ l0_0 _ _ l0_1 t812 t813 _ ?side1 ?side2 ?side3 ?side4 A9.out).mono ?_
   (case side1 => repeat (first | exact (Kd.C_below HR0_0.out bl) | (with_reducible refine Kd.C_alloc ?_ _) | (with_reducible refine Kd.C_drewN ?_ _) | (with_reducible refine Kd.C_drew ?_)))
   (case side2 => exact HC0_0.out)
   (case side3 => repeat (first | exact (Kd.C_below HR0_1.out bl) | (with_reducible refine Kd.C_alloc ?_ _) | (with_reducible refine Kd.C_drewN ?_ _) | (with_reducible refine Kd.C_drew ?_)))
   (case side4 => exact HC0_1.out)
   rintro e w12 ⟨rfl, hb⟩
   refine ⟨_, rfl, ?_⟩
   replace BK810 := nb BK810 hb; replace HB := hs HB hb; (try clear hb); (try clear hb2); (try clear hk); (try clear hi)
   refine hK.out _ _ ⟨bq BK810 0, bq BK810 1⟩ (fun hHeld => ?_)
   clear hK K
   refine nm_ (some 22) ?_
   refine pu_ (i := 12) (N := some 8) (qa_ 13 8191) ?_
   refine done_ (done_of HT_.out (by kernel_rfl)) ?_
   try go_wp2
   go_meet
   case rel => exact ⟨_, (t813), sm, H', ⟨by first | omega | exact Nat.le_refl _⟩, ⟨bk⟩, ⟨bl⟩⟩
  ·replace c7 := Bool.eq_false_iff.mpr c7; subst c7
   have H1 : ((skewbaldref01_asked.f k l0_0 l0_1 false).bind fun t814 => (skewbaldref01_Lay.j0 k a1 l2 t814 l0_0 l0_1)) = some (r1, r2) := by rw [if_neg (show ¬ (false = true) by decide)] at H; exact H
   clear H; have H := H1; clear H1; obtain ⟨t814, A13, H⟩ := ob H
   replace H : (skewbaldref01_Lay.j0 k a1 l2 t814 l0_0 l0_1) = some (r1, r2) := H
   have H' := Aside0.mk H; clear H
   try go_wp2
   replace BK810 := Aside0.mk (blk_drew BK810.out); replace HB := Aside0.mk (below_drew1 HB.out)
   refine start_ (n := 13) (S := fun w' => w'.cell? ⟨gb810, 0, none⟩ = some (.slice A0_0 l0_0.length c0_0) ∧ w'.cell? ⟨gb810, 1, none⟩ = some (.slice A0_1 l0_1.length c0_1)) (ds := []) #[false, false, false, false, false, false, false, false, false, false, false, false, false] (by kernel_rfl) rfl rfl ⟨bq BK810 0, bq BK810 1⟩ (fun hHeld => ?_); refine with_tabW skewbaldref01_Lay.tab1 skewbaldref01_Lay.bits1 (fun HT_ HW_ => ?_)
   generalize w5.drew = w14 at BK810 HB hHeld ⊢
   refine pu_ (i := 2) (N := some 13) (qa_ 13 4) ?_
   refine tk_ (i := 0) (N := some 11) (qa_ 13 5) hHeld ?_
   refine tk_ (i := 1) (N := some 12) (qa_ 13 7) hHeld ?_
   refine on_ (i := 3) (N := some 14) (qa_ 13 15) (fun K hK => ?_)
   refine goes_ Tryd.func66 (by kernel_rfl) rfl #[.agg #[.slice A0_0 l0_0.length c0_0, .slice A0_1 l0_1.length c0_1], .int .i64 a1] (by rfl) rfl rfl (by (try simp only [List.map_toArray, List.map_cons, List.map_nil]); first | done | rfl | (simp only [List.length_drop, List.length_take]; rfl)) ?_
   with_reducible refine (skewbaldref01_isPlank.calls _ _ l0_0 _ _ l0_1 a1 false _ ?side1 ?side2 ?side3 ?side4 A6.out).mono ?_
   (case side1 => exact cl)
   (case side2 => exact HC0_0.out)
   (case side3 => exact cl)
   (case side4 => exact HC0_1.out)
   rintro e w15 ⟨rfl, hb⟩
   refine ⟨_, rfl, ?_⟩
   replace BK810 := nb BK810 hb; replace HB := hs HB hb; (try clear hb); (try clear hb2); (try clear hk); (try clear hi)
   refine hK.out _ _ ⟨bq BK810 0, bq BK810 1⟩ (fun hHeld => ?_)
   clear hK K
   refine nm_ (some 14) ?_
   refine pu_ (i := 4) (N := some 15) (qa_ 13 31) ?_
   refine pn_ (i := 5) (N := some 16) (qa_ 13 63) ?_
   refine pn_ (i := 6) (N := some 17) (qa_ 13 127) ?_
   refine pn_ (i := 7) (N := some 18) (qa_ 13 255) ?_
   refine pn_ (i := 8) (N := some 19) (qa_ 13 511) ?_
   refine pn_ (i := 9) (N := some 20) (qa_ 13 1023) ?_
   refine pu_ (i := 10) (N := some 21) (qa_ 13 2047) ?_
   refine on_ (i := 11) (N := some 22) (qa_ 13 4095) (fun K hK => ?_)
   refine goes_ Tryd.func65 (by kernel_rfl) rfl #[.agg #[.slice A0_0 l0_0.length c0_0, .slice A0_1 l0_1.length c0_1], .bool false] (by rfl) rfl rfl (by (try simp only [List.map_toArray, List.map_cons, List.map_nil]); first | done | rfl | (simp only [List.length_drop, List.length_take]; rfl)) ?_
   with_reducible refine (skewbaldref01_asked.calls k _ _ l0_0 _ _ l0_1 false t814 _ ?side1 ?side2 ?side3 ?side4 A13.out).mono ?_
   (case side1 => exact cl)
   (case side2 => exact HC0_0.out)
   (case side3 => exact cl)
   (case side4 => exact HC0_1.out)
   rintro e w16 ⟨rfl, hb⟩
   refine ⟨_, rfl, ?_⟩
   replace BK810 := nb BK810 hb; replace HB := hs HB hb; (try clear hb); (try clear hb2); (try clear hk); (try clear hi)
   refine hK.out _ _ ⟨bq BK810 0, bq BK810 1⟩ (fun hHeld => ?_)
   clear hK K
   refine nm_ (some 22) ?_
   refine pu_ (i := 12) (N := some 8) (qa_ 13 8191) ?_
   refine done_ (done_of HT_.out (by kernel_rfl)) ?_
   try go_wp2
   go_meet
   case rel => exact ⟨_, (t814), sm, H', ⟨by first | omega | exact Nat.le_refl _⟩, ⟨bk⟩, ⟨bl⟩⟩
 case rest =>
  clear HC4; (try clear c2); (try clear p2); (try clear c3); (try clear c6); (try clear c7); obtain ⟨kq, x8_3, rfl, HA, HJ3, BK810, HB⟩ := hcut
  cases kq with
  | zero => exact absurd HA.out (by simp [skewbaldref01_Lay.j0])
  | succ kj3 =>
   have H := HA.out; clear HA
   simp only [skewbaldref01_Lay.j0] at H
   by_cases c17 : x8_3 = 0
   ·rw [if_pos c17] at H
    have c17b0 : (x8_3 == 0) = true := beq_iff_eq.mpr c17
    have c17b1 : (x8_3 != 0) = false := bne_eq_false_iff_eq.mpr c17
    clear c17; obtain ⟨t815, A18, H⟩ := ob H
    replace H : ((skewbaldref00_Set.f kj3 l2).bind fun t818 => (if 0 ≤ t818 then (if t818 < (t815.length : Int) then (if (rd t815 t818) = 99 then (some (([] : List Int), 4)) else ((skewbaldref01_laid.f kj3 l0_0 l0_1 a1 l2 (([] : List Int))).bind fun bt823 => (some (bt823.1, 0)))) else (none)) else (none))) = some (r1, r2) := H
    obtain ⟨t818, A19, H⟩ := ob H
    replace H : (if 0 ≤ t818 then (if t818 < (t815.length : Int) then (if (rd t815 t818) = 99 then (some (([] : List Int), 4)) else ((skewbaldref01_laid.f kj3 l0_0 l0_1 a1 l2 (([] : List Int))).bind fun bt823 => (some (bt823.1, 0)))) else (none)) else (none)) = some (r1, r2) := H
    by_cases c20 : 0 ≤ t818
    ·rw [if_pos c20] at H; have c20b0 := decide_eq_true c20; clear c20
     by_cases c21 : t818 < (t815.length : Int)
     ·rw [if_pos c21] at H; have c21b0 := decide_eq_true c21; clear c21
      by_cases c22 : (rd t815 t818) = 99
      ·rw [if_pos c22] at H
       have c22b0 : ((rd t815 t818) == 99) = true := beq_iff_eq.mpr c22
       have c22b1 : ((rd t815 t818) != 99) = false := bne_eq_false_iff_eq.mpr c22
       clear c22
       simp only [Option.some.injEq, Prod.mk.injEq] at H
       obtain ⟨rfl, rfl⟩ := H; obtain ⟨hcz23_0, hcz23_1, hfz23_0, hfz23_1⟩ := b2 (w := wc) BK810
       go_wp2_with (first | ((with_reducible refine gate_callee (f := 77) rfl ?_); refine gl (some 28) Tryd.func77 #[.agg #[.slice A0_0 l0_0.length c0_0, .slice A0_1 l0_1.length c0_1], .int .i64 a1] ?_; (with_reducible refine (skewbaldref01_ends.calls kj3 _ _ l0_0 _ _ l0_1 a1 t815 _ cl HC0_0.out cl HC0_1.out A18.out).mono ?_); rintro e w24 ⟨v816, rfl, ho0, hb⟩; refine ⟨_, rfl, ?_⟩; have HO817 := Aside0.mk (Kd.R_lower ho0 (below_size bl)); replace BK810 := nb BK810 hb; replace HB := hs HB hb; (try clear hb); (try clear hb2); (try clear hk); (try clear hi); (try clear ho0)) | ((with_reducible refine gate_callee (f := 49) rfl ?_); refine gl (some 30) Tryd.func49 #[.slice A2 l2.length c2] ?_; (with_reducible refine (skewbaldref00_Set.calls kj3 _ _ l2 t818 _ ?side1 ?side2 A19.out).mono ?_); (case side1 => repeat (first | exact (Kd.C_below HR2.out HB.out) | (with_reducible refine Kd.C_alloc ?_ _) | (with_reducible refine Kd.C_drewN ?_ _) | (with_reducible refine Kd.C_drew ?_))); (case side2 => exact HC2.out); rintro e w' ⟨rfl, ⟨nd, rfl⟩⟩; refine ⟨_, rfl, ?_⟩; obtain ⟨Ao25, co25, eo25⟩ := Kd.R_slice HO817.out; subst eo25; have p819 : 0 ≤ (t818 : Int) := od; have q819 : t818 < (t815.length : Int) := od; obtain ⟨ad819, e819, hx819_0⟩ := Kd.at_int (Kd.R_reads' HO817.out).2.2 t818 p819 q819; cases e819; replace p819 := eq_true p819; replace q819 := eq_true q819))
       go_ret2
       exact ⟨_, by first | rfl | (simp [errW_none, errW_some] <;> rfl) | (simp [*, errW_none, errW_some] <;> rfl), by first | exact Kd.R_nil _ _ _ _ _ | exact Kd.N_nil _ _ _ _ _ | exact Kd.V_nil _ _ _ _ _ | exact Kd.Q_nil _ _ _ _ _ | exact Kd.S_nil _ _ _ _ _, bl⟩
      ·rw [if_neg c22] at H
       have c22b0 : ((rd t815 t818) == 99) = false := beq_eq_false_iff_ne.mpr c22
       have c22b1 : ((rd t815 t818) != 99) = true := bne_iff_ne.mpr c22
       obtain ⟨y820, hy820⟩ : ∃ y_ : List Int, y_ = (([] : List Int)) := ⟨_, rfl⟩
       replace H : ((skewbaldref01_laid.f kj3 l0_0 l0_1 a1 l2 y820).bind fun bt823 => (some (bt823.1, 0))) = some (r1, r2) := tr H hy820
       have Ny820 := Aside0.mk hy820; clear hy820; replace H := Option.bind_eq_some_iff.mp H; obtain ⟨⟨t823, t826⟩, A260, H⟩ := H
       replace H : (some (t823, 0)) = some (r1, r2) := H
       have A26 := Aside0.mk A260; clear A260
       simp only [Option.some.injEq, Prod.mk.injEq] at H
       obtain ⟨rfl, rfl⟩ := H; obtain ⟨hcz27_0, hcz27_1, hfz27_0, hfz27_1⟩ := b2 (w := wc) BK810
       go_wp2_with (first | ((with_reducible refine gate_callee (f := 77) rfl ?_); refine gl (some 28) Tryd.func77 #[.agg #[.slice A0_0 l0_0.length c0_0, .slice A0_1 l0_1.length c0_1], .int .i64 a1] ?_; (with_reducible refine (skewbaldref01_ends.calls kj3 _ _ l0_0 _ _ l0_1 a1 t815 _ cl HC0_0.out cl HC0_1.out A18.out).mono ?_); rintro e w28 ⟨v816, rfl, ho0, hb⟩; refine ⟨_, rfl, ?_⟩; have HO817 := Aside0.mk (Kd.R_lower ho0 (below_size bl)); replace BK810 := nb BK810 hb; replace HB := hs HB hb; (try clear hb); (try clear hb2); (try clear hk); (try clear hi); (try clear ho0)) | ((with_reducible refine gate_callee (f := 49) rfl ?_); refine gl (some 30) Tryd.func49 #[.slice A2 l2.length c2] ?_; (with_reducible refine (skewbaldref00_Set.calls kj3 _ _ l2 t818 _ ?side1 ?side2 A19.out).mono ?_); (case side1 => repeat (first | exact (Kd.C_below HR2.out HB.out) | (with_reducible refine Kd.C_alloc ?_ _) | (with_reducible refine Kd.C_drewN ?_ _) | (with_reducible refine Kd.C_drew ?_))); (case side2 => exact HC2.out); rintro e w' ⟨rfl, ⟨nd, rfl⟩⟩; refine ⟨_, rfl, ?_⟩; obtain ⟨Ao29, co29, eo29⟩ := Kd.R_slice HO817.out; subst eo29; have p819 : 0 ≤ (t818 : Int) := od; have q819 : t818 < (t815.length : Int) := od; obtain ⟨ad819, e819, hx819_0⟩ := Kd.at_int (Kd.R_reads' HO817.out).2.2 t818 p819 q819; cases e819; replace p819 := eq_true p819; replace q819 := eq_true q819; obtain ⟨hcz30_0, hcz30_1, hfz30_0, hfz30_1⟩ := b2 (w := w28) BK810) | ((with_reducible refine gate_dst (N := 38) rfl ?_); (try (refine gate_guard (by rfl) ?_; dsimp only)); refine Kd.R_lit (Kd.int .i64) _ 3 ?hg (N := 38) ?hd (xs := ([] : List Int)) (inner := []) (ok := fun _ => True) (okp := fun _ => True) ?hr ?hp (fun _ hk => hk) trivial (Below.refl _ _) (Nat.le_refl _) (by simp) ?_; (case hd => rfl); (case hg => rfl); (case hr => first | (go_simp; done) | (go_simp; rfl)); (case hp => exact (Reps.none _ _)); intro v821 w31 ho32 hb hg_ hnew_; clear hg_ hnew_; (first | rw [← Ny820.out] at ho32 | (simp only [Int.reduceToNat] at ho32; rw [← Ny820.out] at ho32)); have HO822 := Aside0.mk (Kd.R_lower (Kd.R_new' ho32 (Kd.R_lt (bR HO817))) (below_size bl)); replace HO817 := Aside0.mk (Kd.R_elder' (bR HO817) (Kd.R_base ho32) hb); replace BK810 := nb BK810 hb; replace HB := hs HB hb; clear hb ho32; obtain ⟨Ao33, co33, eo33⟩ := Kd.R_slice HO822.out; subst eo33) | ((with_reducible refine gate_callee (f := 78) rfl ?_); refine gl (some 39) Tryd.func78 #[.agg #[.slice A0_0 l0_0.length c0_0, .slice A0_1 l0_1.length c0_1], .int .i64 a1, .slice A2 l2.length c2, .slice Ao33 y820.length co33] ?_; (with_reducible refine (skewbaldref01_laid.calls kj3 _ _ l0_0 _ _ l0_1 a1 _ _ l2 (fun k_ => some k_ = (.slice Ao33 y820.length co33 : Value).ownBlock) (.slice Ao33 y820.length co33) y820 t823 t826 w _ ?side1 ?side2 ?side3 ?side4 ?side5 ?side6 ?side7 ?side8 A26.out).mono ?_); (case side1 => repeat (first | (with_reducible first | exact HB.out | apply below_alloc | apply pw_below_drewN | apply below_drew1 | refine below_set ?_ GE810.out) | exact HB.out)); (case side2 => exact Kd.C_kept_came k48_heap HR0_0.out bl (fun k_ hs_ => (fun e_ => Kd.R_base HO822.out k_ e_.symm) hs_)); (case side3 => exact HC0_0.out); (case side4 => exact Kd.C_kept_came k50_heap HR0_1.out bl (fun k_ hs_ => (fun e_ => Kd.R_base HO822.out k_ e_.symm) hs_)); (case side5 => exact HC0_1.out); (case side6 => exact Kd.C_kept_came (Kd.heap_int .i64) HR2.out bl (fun k_ hs_ => (fun e_ => Kd.R_base HO822.out k_ e_.symm) hs_)); (case side7 => exact HC2.out); (case side8 => exact Kd.R_tight rfl HO822.out); rintro e w34 ⟨v824, rfl, ho0, hb, hkp⟩; refine ⟨_, rfl, ?_⟩; replace BK810 := Aside0.mk (blk_kept bk hkp (fun hs_ => (fun e_ => (Kd.R_ne HO822.out BK810.out (by decide)) e_) hs_)); have HO825 := Aside0.mk (Kd.R_mono (ok' := fun k_ => some k_ ≠ (.slice (some ad819) t815.length co29 : Value).ownBlock) ho0 (fun k_ hk_ => Or.elim hk_ (fun hs_ => fun e_ => (((HO817.out).1 k_ e_.symm).2) hs_) (fun hn_ => (Kd.fresh' (Kd.R_lt (bR HO817)) k_ hn_)))); replace HO817 := Aside0.mk (Kd.R_mono (ok' := fun k_ => some k_ ≠ (v824 : Value).ownBlock) (Kd.R_keptB (HO817.out) hkp (fun k_ hk_ hs_ => (hk_.2) hs_)) (fun k_ hk_ => fun e_ => Or.elim (ho0.1 k_ e_.symm) (fun hs_ => hk_.2.1 hs_) (fun hn_ => Nat.not_le.2 hk_.2.2 hn_))); replace HB := Aside0.mk hb; clear HO822; (try clear hb); (try clear hkp); (try clear ho0)))
       go_ret2
       exact ⟨_, by first | rfl | (simp [errW_none, errW_some] <;> rfl) | (simp [*, errW_none, errW_some] <;> rfl), by (with_reducible repeat (first | apply Kd.R_alloc | apply Kd.R_drewN | apply Kd.R_drew)); exact Kd.R_mono HO825.out (fun _ hk => trivial), bl⟩
     ·rw [if_neg c21] at H
      exact absurd H (by simp)
    ·rw [if_neg c20] at H
     exact absurd H (by simp)
   ·rw [if_neg c17] at H
    have c17b0 : (x8_3 == 0) = false := beq_eq_false_iff_ne.mpr c17
    have c17b1 : (x8_3 != 0) = true := bne_iff_ne.mpr c17
    simp only [Option.some.injEq, Prod.mk.injEq] at H
    obtain ⟨rfl, rfl⟩ := H
    go_wp2
    go_ret2
    exact ⟨_, by first | rfl | (simp [errW_none, errW_some] <;> rfl) | (simp [*, errW_none, errW_some] <;> rfl), by first | exact Kd.R_nil _ _ _ _ _ | exact Kd.N_nil _ _ _ _ _ | exact Kd.V_nil _ _ _ _ _ | exact Kd.Q_nil _ _ _ _ _ | exact Kd.S_nil _ _ _ _ _, bl⟩
def skewbaldref01_Most.f (k : Nat) (l0_0 : List (S48)) (l0_1 : List (S50)) : Option (List Int × Int) := (skewbaldref01_Check.f k l0_0 l0_1).bind fun t828 => (if t828 = 0 then ((skewbaldref01_most.f k l0_0 l0_1).bind fun t829 => (some (t829, 0))) else (some (([] : List Int), t828)))
set_option maxHeartbeats 8000000 in
set_option maxRecDepth 100000 in
theorem skewbaldref01_Most.calls (k : Nat) (A0_0 : Option Addr) (c0_0 : Nat) (l0_0 : List (S48)) (A0_1 : Option Addr) (c0_1 : Nat) (l0_1 : List (S50)) (r1 : List Int) (r2 : Int) (w : World) (hr0_0 : Kd.C k48 w A0_0 l0_0.length l0_0) (hc0_0 : l0_0.length ≤ c0_0) (hr0_1 : Kd.C k50 w A0_1 l0_1.length l0_1) (hc0_1 : l0_1.length ≤ c0_1) (h : skewbaldref01_Most.f k l0_0 l0_1 = some (r1, r2)) :
  Calls Tryd.prog 27 #[.agg #[.slice A0_0 l0_0.length c0_0, .slice A0_1 l0_1.length c0_1]] w fun e w' => ∃ v0_ : Value, e = .returned (.tuple #[v0_, .int .i64 r2]) ∧ Kd.R (Kd.int .i64) 3 w' w.heap.size (fun _ => True) v0_ r1 ∧ Below w.heap.size w w' := by
 have hu25 := Tryd.underlying25; have HR0_0 := Aside0.mk hr0_0; have HC0_0 := Aside0.mk hc0_0; clear hr0_0 hc0_0; have HR0_1 := Aside0.mk hr0_1; have HC0_1 := Aside0.mk hc0_1; clear hr0_1 hc0_1; have HB := Aside0.mk (Below.refl w.heap.size w)
 have H : ((skewbaldref01_Check.f k l0_0 l0_1).bind fun t828 => (if t828 = 0 then ((skewbaldref01_most.f k l0_0 l0_1).bind fun t829 => (some (t829, 0))) else (some (([] : List Int), t828)))) = some (r1, r2) := h
 clear h; obtain ⟨t828, A2, H⟩ := ob H
 replace H : (if t828 = 0 then ((skewbaldref01_most.f k l0_0 l0_1).bind fun t829 => (some (t829, 0))) else (some (([] : List Int), t828))) = some (r1, r2) := H
 by_cases c3 : t828 = 0
 ·rw [if_pos c3] at H
  have c3b0 : (t828 == 0) = true := beq_iff_eq.mpr c3
  have c3b1 : (t828 != 0) = false := bne_eq_false_iff_eq.mpr c3
  clear c3; obtain ⟨t829, A4, H⟩ := ob H
  replace H : (some (t829, 0)) = some (r1, r2) := H
  simp only [Option.some.injEq, Prod.mk.injEq] at H
  obtain ⟨rfl, rfl⟩ := H
  go_enter Tryd.func27, Tryd.ntmps27
  go_wp2_with (first | (refine bx 1 #[.slice A0_0 l0_0.length c0_0, .slice A0_1 l0_1.length c0_1] 25 ?_; intro gb827 hg w5 hbox hb; have BK827 := Aside0.mk hbox; have GW827 := gw hg HB; have GE827 := gw hg HB; replace HB := hs HB hb; clear hb hbox hg; obtain ⟨hcz6_0, hcz6_1, hfz6_0, hfz6_1⟩ := b2 (w := w5) BK827) | ((with_reducible refine gate_callee (f := 19) rfl ?_); refine gl (some 6) Tryd.func19 #[.agg #[.slice A0_0 l0_0.length c0_0, .slice A0_1 l0_1.length c0_1]] ?_; (with_reducible refine (skewbaldref01_Check.calls k _ _ l0_0 _ _ l0_1 t828 _ cl HC0_0.out cl HC0_1.out A2.out).mono ?_); rintro e w7 ⟨rfl, hb⟩; refine ⟨_, rfl, ?_⟩; replace BK827 := nb BK827 hb; replace HB := hs HB hb; (try clear hb); (try clear hb2); (try clear hk); (try clear hi); obtain ⟨hcz8_0, hcz8_1, hfz8_0, hfz8_1⟩ := b2 (w := w7) BK827) | ((with_reducible refine gate_callee (f := 80) rfl ?_); refine gl (some 11) Tryd.func80 #[.agg #[.slice A0_0 l0_0.length c0_0, .slice A0_1 l0_1.length c0_1]] ?_; (with_reducible refine (skewbaldref01_most.calls k _ _ l0_0 _ _ l0_1 t829 _ cl HC0_0.out cl HC0_1.out A4.out).mono ?_); rintro e w9 ⟨v830, rfl, ho0, hb⟩; refine ⟨_, rfl, ?_⟩; have HO831 := Aside0.mk (Kd.R_lower ho0 (below_size bl)); replace BK827 := nb BK827 hb; replace HB := hs HB hb; (try clear hb); (try clear hb2); (try clear hk); (try clear hi); (try clear ho0)))
  go_ret2
  exact ⟨_, by first | rfl | (simp [errW_none, errW_some] <;> rfl) | (simp [*, errW_none, errW_some] <;> rfl), by (with_reducible repeat (first | apply Kd.R_alloc | apply Kd.R_drewN | apply Kd.R_drew)); exact HO831.out, bl⟩
 ·rw [if_neg c3] at H
  have c3b0 : (t828 == 0) = false := beq_eq_false_iff_ne.mpr c3
  have c3b1 : (t828 != 0) = true := bne_iff_ne.mpr c3
  simp only [Option.some.injEq, Prod.mk.injEq] at H
  obtain ⟨rfl, rfl⟩ := H
  go_enter Tryd.func27, Tryd.ntmps27
  go_wp2_with (first | (refine bx 1 #[.slice A0_0 l0_0.length c0_0, .slice A0_1 l0_1.length c0_1] 25 ?_; intro gb827 hg w10 hbox hb; have BK827 := Aside0.mk hbox; have GW827 := gw hg HB; have GE827 := gw hg HB; replace HB := hs HB hb; clear hb hbox hg; obtain ⟨hcz11_0, hcz11_1, hfz11_0, hfz11_1⟩ := b2 (w := w10) BK827) | ((with_reducible refine gate_callee (f := 19) rfl ?_); refine gl (some 6) Tryd.func19 #[.agg #[.slice A0_0 l0_0.length c0_0, .slice A0_1 l0_1.length c0_1]] ?_; (with_reducible refine (skewbaldref01_Check.calls k _ _ l0_0 _ _ l0_1 t828 _ cl HC0_0.out cl HC0_1.out A2.out).mono ?_); rintro e w12 ⟨rfl, hb⟩; refine ⟨_, rfl, ?_⟩; replace BK827 := nb BK827 hb; replace HB := hs HB hb; (try clear hb); (try clear hb2); (try clear hk); (try clear hi)))
  go_ret2
  exact ⟨_, by first | rfl | (simp [errW_none, errW_some] <;> rfl) | (simp [*, errW_none, errW_some] <;> rfl), by first | exact Kd.R_nil _ _ _ _ _ | exact Kd.N_nil _ _ _ _ _ | exact Kd.V_nil _ _ _ _ _ | exact Kd.Q_nil _ _ _ _ _ | exact Kd.S_nil _ _ _ _ _, bl⟩
def skewbaldlaw01_PlankLays.j0 : Nat → Bool → List (S48) → List (S50) → Option (Bool)
 | 0, _, _, _ => none
 | k + 1, x33, x833000, x833001 => if x33 = true then (some false) else ((plank_Most.f x833000 x833001).bind fun bt842 => ((skewbaldref01_Most.f k x833000 x833001).bind fun bt846 => ((skewbaldref00_Equal.f k bt842.1 bt846.1).bind fun t850 => (if t850 = true then (if bt842.2 = bt846.2 then ((skewbaldlaw01_sawn.f).bind fun t851 => (some t851)) else (some false)) else (some false)))))
def skewbaldlaw01_PlankLays.f (k : Nat) (l0_0 : List (S48)) (l0_1 : List (S50)) (a1 : Int) (l2 : List Int) : Option (Bool) := (plank_Lay.f l0_0 l0_1 a1 l2).bind fun bt833 => ((skewbaldref01_Lay.f k l0_0 l0_1 a1 l2).bind fun bt837 => ((skewbaldref00_Equal.f k bt833.1 bt837.1).bind fun t841 => (if t841 = true then (skewbaldlaw01_PlankLays.j0 k (bt833.2 != bt837.2) l0_0 l0_1) else (skewbaldlaw01_PlankLays.j0 k true l0_0 l0_1))))
set_option maxHeartbeats 8000000 in
set_option maxRecDepth 100000 in
theorem skewbaldlaw01_PlankLays.calls (k : Nat) (A0_0 : Option Addr) (c0_0 : Nat) (l0_0 : List (S48)) (A0_1 : Option Addr) (c0_1 : Nat) (l0_1 : List (S50)) (a1 : Int) (A2 : Option Addr) (c2 : Nat) (l2 : List Int) (w : World) (hr0_0 : Kd.C k48 w A0_0 l0_0.length l0_0) (hc0_0 : l0_0.length ≤ c0_0) (hr0_1 : Kd.C k50 w A0_1 l0_1.length l0_1) (hc0_1 : l0_1.length ≤ c0_1) (hr2 : Kd.C (Kd.int .i64) w A2 l2.length l2) (hc2 : l2.length ≤ c2) (hG : Glob w) (h : skewbaldlaw01_PlankLays.f k l0_0 l0_1 a1 l2 = some true) :
  Calls Tryd.prog 4 #[.agg #[.slice A0_0 l0_0.length c0_0, .slice A0_1 l0_1.length c0_1], .int .i64 a1, .slice A2 l2.length c2] w fun e w' => e = .returned (.bool true) ∧ Below w.heap.size w w' := by
 have hu25 := Tryd.underlying25; have HR0_0 := Aside0.mk hr0_0; have HC0_0 := Aside0.mk hc0_0; clear hr0_0 hc0_0; have HR0_1 := Aside0.mk hr0_1; have HC0_1 := Aside0.mk hc0_1; clear hr0_1 hc0_1; have HR2 := Aside0.mk hr2; have HC2 := Aside0.mk hc2; clear hr2 hc2; have HGL := Aside0.mk hG; clear hG; have HB := Aside0.mk (Below.refl w.heap.size w)
 have H : ((plank_Lay.f l0_0 l0_1 a1 l2).bind fun bt833 => ((skewbaldref01_Lay.f k l0_0 l0_1 a1 l2).bind fun bt837 => ((skewbaldref00_Equal.f k bt833.1 bt837.1).bind fun t841 => (if t841 = true then (skewbaldlaw01_PlankLays.j0 k (bt833.2 != bt837.2) l0_0 l0_1) else (skewbaldlaw01_PlankLays.j0 k true l0_0 l0_1))))) = some true := h
 clear h; replace H := Option.bind_eq_some_iff.mp H; obtain ⟨⟨t833, t836⟩, A40, H⟩ := H
 replace H : ((skewbaldref01_Lay.f k l0_0 l0_1 a1 l2).bind fun bt837 => ((skewbaldref00_Equal.f k t833 bt837.1).bind fun t841 => (if t841 = true then (skewbaldlaw01_PlankLays.j0 k (t836 != bt837.2) l0_0 l0_1) else (skewbaldlaw01_PlankLays.j0 k true l0_0 l0_1)))) = some true := H
 have A4 := Aside0.mk A40; clear A40; replace H := Option.bind_eq_some_iff.mp H; obtain ⟨⟨t837, t840⟩, A50, H⟩ := H
 replace H : ((skewbaldref00_Equal.f k t833 t837).bind fun t841 => (if t841 = true then (skewbaldlaw01_PlankLays.j0 k (t836 != t840) l0_0 l0_1) else (skewbaldlaw01_PlankLays.j0 k true l0_0 l0_1))) = some true := H
 have A5 := Aside0.mk A50; clear A50; have HC6 := Aside0.mk H; clear H
 go_enter Tryd.func4, Tryd.ntmps4
 go_upto_region 3 with (first | (refine bx 3 #[.slice A0_0 l0_0.length c0_0, .slice A0_1 l0_1.length c0_1] 25 ?_; intro gb832 hg w7 hbox hb; have BK832 := Aside0.mk hbox; have GW832 := gw hg HB; have GE832 := gw hg HB; replace HB := hs HB hb; clear hb hbox hg; obtain ⟨hcz8_0, hcz8_1, hfz8_0, hfz8_1⟩ := b2 (w := w7) BK832) | ((with_reducible refine gate_callee (f := 24) rfl ?_); refine gl (some 15) Tryd.func24 #[.agg #[.slice A0_0 l0_0.length c0_0, .slice A0_1 l0_1.length c0_1], .int .i64 a1, .slice A2 l2.length c2] ?_; (with_reducible refine (plank_Lay.calls _ _ l0_0 _ _ l0_1 a1 _ _ l2 t833 t836 _ ?side1 ?side2 ?side3 ?side4 ?side5 ?side6 ?side7 A4.out).mono ?_); (case side1 => exact cl); (case side2 => exact HC0_0.out); (case side3 => exact cl); (case side4 => exact HC0_1.out); (case side5 => repeat (first | exact (Kd.C_below HR2.out HB.out) | (with_reducible refine Kd.C_alloc ?_ _) | (with_reducible refine Kd.C_drewN ?_ _) | (with_reducible refine Kd.C_drew ?_))); (case side6 => exact HC2.out); (case side7 => exact Glob.below HGL.out bl); rintro e w9 ⟨v834, rfl, ho0, hb⟩; refine ⟨_, rfl, ?_⟩; have HO835 := Aside0.mk (Kd.V_lower (Kd.V_mono (ok' := fun k_ => k_ ≠ gb832) ho0 (fun k_ hk_ => (Kd.freshB (g := gb832) (o := .cells #[.slice A0_0 l0_0.length c0_0, .slice A0_1 l0_1.length c0_1] 25 (0, 0)) bk k_ hk_))) (below_size bl)); replace BK832 := nb BK832 hb; replace HB := hs HB hb; (try clear hb); (try clear hb2); (try clear hk); (try clear hi); (try clear ho0); obtain ⟨hcz10_0, hcz10_1, hfz10_0, hfz10_1⟩ := b2 (w := w9) BK832) | ((with_reducible refine gate_callee (f := 25) rfl ?_); refine gl (some 22) Tryd.func25 #[.agg #[.slice A0_0 l0_0.length c0_0, .slice A0_1 l0_1.length c0_1], .int .i64 a1, .slice A2 l2.length c2] ?_; (with_reducible refine (skewbaldref01_Lay.calls k _ _ l0_0 _ _ l0_1 a1 _ _ l2 t837 t840 _ ?side1 ?side2 ?side3 ?side4 ?side5 ?side6 A5.out).mono ?_); (case side1 => exact cl); (case side2 => exact HC0_0.out); (case side3 => exact cl); (case side4 => exact HC0_1.out); (case side5 => repeat (first | exact (Kd.C_below HR2.out HB.out) | (with_reducible refine Kd.C_alloc ?_ _) | (with_reducible refine Kd.C_drewN ?_ _) | (with_reducible refine Kd.C_drew ?_))); (case side6 => exact HC2.out); rintro e w11 ⟨v838, rfl, ho0, hb⟩; refine ⟨_, rfl, ?_⟩; replace HO835 := Aside0.mk (Kd.V_elder' (by (with_reducible repeat (first | apply Kd.V_alloc | apply Kd.V_drewN | apply Kd.V_drew)); exact HO835.out) (Kd.R_base ho0) hb); have HO839 := Aside0.mk (Kd.R_lower ho0 (below_size bl)); replace BK832 := nb BK832 hb; replace HB := hs HB hb; (try clear hb); (try clear hb2); (try clear hk); (try clear hi); (try clear ho0)))
 (try simp only [Act.put, List.setIfInBounds_toArray, List.set_cons_zero, List.set_cons_succ])
 go_cut [33] (fun v33 wc => ∃ (kq : Nat) (x33_5 : Bool), v33 = .bool x33_5 ∧ Aside0 (skewbaldlaw01_PlankLays.j0 kq x33_5 l0_0 l0_1 = some true) ∧ Aside0 (kq ≤ k) ∧ Aside0 (wc.heap[gb832]? = some (.cells #[(.slice A0_0 l0_0.length c0_0), (.slice A0_1 l0_1.length c0_1)] 25 (0, 0))) ∧ Aside0 (Below w.heap.size w wc))
 case first =>
  have H := HC6.out; clear HC6; obtain ⟨t841, A12, H⟩ := ob H
  replace H : (if t841 = true then (skewbaldlaw01_PlankLays.j0 k (t836 != t840) l0_0 l0_1) else (skewbaldlaw01_PlankLays.j0 k true l0_0 l0_1)) = some true := H
  by_cases c13 : t841 = true
  ·subst c13
   have H1 : (skewbaldlaw01_PlankLays.j0 k (t836 != t840) l0_0 l0_1) = some true := by rw [if_pos rfl] at H; exact H
   clear H; have H := H1; clear H1; have H' := Aside0.mk H; clear H; obtain ⟨Ao14, co14, eo14⟩ := Kd.V_slice HO835.out; subst eo14; obtain ⟨Ao15, co15, eo15⟩ := Kd.R_slice HO839.out; subst eo15
   go_wp2_with (first | ((with_reducible refine gate_callee (f := 22) rfl ?_); refine gl (some 27) Tryd.func22 #[.slice Ao14 t833.length co14, .slice Ao15 t837.length co15] ?_; (with_reducible refine (skewbaldref00_Equal.calls k _ _ t833 _ _ t837 true _ ?side1 ?side2 ?side3 ?side4 A12.out).mono ?_); (case side1 => repeat (first | exact (Kd.V_reads' HO835.out).2.2 | (with_reducible refine Kd.C_alloc ?_ _) | (with_reducible refine Kd.C_drewN ?_ _) | (with_reducible refine Kd.C_drew ?_))); (case side2 => exact (Kd.V_reads' HO835.out).2.1); (case side3 => repeat (first | exact (Kd.R_reads' HO839.out).2.2 | (with_reducible refine Kd.C_alloc ?_ _) | (with_reducible refine Kd.C_drewN ?_ _) | (with_reducible refine Kd.C_drew ?_))); (case side4 => exact (Kd.R_reads' HO839.out).2.1); rintro e w' ⟨rfl, ⟨nd, rfl⟩⟩; refine ⟨_, rfl, ?_⟩))
   go_meet
   case rel => exact ⟨_, ((t836 != t840)), sm, H', ⟨by first | omega | exact Nat.le_refl _⟩, ⟨bk⟩, ⟨bl⟩⟩
  ·replace c13 := Bool.eq_false_iff.mpr c13; subst c13
   have H1 : (skewbaldlaw01_PlankLays.j0 k true l0_0 l0_1) = some true := by rw [if_neg (show ¬ (false = true) by decide)] at H; exact H
   clear H; have H := H1; clear H1
   exact absurd H (by rcases k with _ | k <;> (first | (simp [skewbaldlaw01_PlankLays.j0]; done) | (rcases k with _ | k <;> simp [skewbaldlaw01_PlankLays.j0])))
 case rest =>
  clear HC6; (try clear c1); (try clear c2); (try clear p2); (try clear c4); (try clear c13); (try clear hcz10_0); (try clear hcz10_1); (try clear hcz8_0); (try clear hcz8_1); (try clear hfz10_0); (try clear hfz10_1); (try clear hfz8_0); (try clear hfz8_1); obtain ⟨kq, x33_5, rfl, HA, HJ5, BK832, HB⟩ := hcut
  cases kq with
  | zero => exact absurd HA.out (by simp [skewbaldlaw01_PlankLays.j0])
  | succ kj5 =>
   have H := HA.out; clear HA
   simp only [skewbaldlaw01_PlankLays.j0] at H
   by_cases c16 : x33_5 = true
   ·subst c16
    have H1 : (some false) = some true := by rw [if_pos rfl] at H; exact H
    clear H; have H := H1; clear H1
    exact absurd H (by simp)
   ·replace c16 := Bool.eq_false_iff.mpr c16; subst c16
    have H1 : ((plank_Most.f l0_0 l0_1).bind fun bt842 => ((skewbaldref01_Most.f kj5 l0_0 l0_1).bind fun bt846 => ((skewbaldref00_Equal.f kj5 bt842.1 bt846.1).bind fun t850 => (if t850 = true then (if bt842.2 = bt846.2 then ((skewbaldlaw01_sawn.f).bind fun t851 => (some t851)) else (some false)) else (some false))))) = some true := by rw [if_neg (show ¬ (false = true) by decide)] at H; exact H
    clear H; have H := H1; clear H1; replace H := Option.bind_eq_some_iff.mp H; obtain ⟨⟨t842, t845⟩, A170, H⟩ := H
    replace H : ((skewbaldref01_Most.f kj5 l0_0 l0_1).bind fun bt846 => ((skewbaldref00_Equal.f kj5 t842 bt846.1).bind fun t850 => (if t850 = true then (if t845 = bt846.2 then ((skewbaldlaw01_sawn.f).bind fun t851 => (some t851)) else (some false)) else (some false)))) = some true := H
    have A17 := Aside0.mk A170; clear A170; replace H := Option.bind_eq_some_iff.mp H; obtain ⟨⟨t846, t849⟩, A180, H⟩ := H
    replace H : ((skewbaldref00_Equal.f kj5 t842 t846).bind fun t850 => (if t850 = true then (if t845 = t849 then ((skewbaldlaw01_sawn.f).bind fun t851 => (some t851)) else (some false)) else (some false))) = some true := H
    have A18 := Aside0.mk A180; clear A180; obtain ⟨t850, A19, H⟩ := ob H
    replace H : (if t850 = true then (if t845 = t849 then ((skewbaldlaw01_sawn.f).bind fun t851 => (some t851)) else (some false)) else (some false)) = some true := H
    by_cases c20 : t850 = true
    ·subst c20
     have H1 : (if t845 = t849 then ((skewbaldlaw01_sawn.f).bind fun t851 => (some t851)) else (some false)) = some true := by rw [if_pos rfl] at H; exact H
     clear H; have H := H1; clear H1
     by_cases c21 : t845 = t849
     ·rw [if_pos c21] at H
      have c21b0 : (t845 == t849) = true := beq_iff_eq.mpr c21
      have c21b1 : (t845 != t849) = false := bne_eq_false_iff_eq.mpr c21
      clear c21; obtain ⟨t851, A22, H⟩ := ob H
      replace H : (some t851) = some true := H
      have HE_ := Aside0.mk (Option.some.inj H); clear H; obtain ⟨hcz23_0, hcz23_1, hfz23_0, hfz23_1⟩ := b2 (w := wc) BK832
      go_wp2_with (first | ((with_reducible refine gate_callee (f := 26) rfl ?_); refine gl (some 36) Tryd.func26 #[.agg #[.slice A0_0 l0_0.length c0_0, .slice A0_1 l0_1.length c0_1]] ?_; (with_reducible refine (plank_Most.calls _ _ l0_0 _ _ l0_1 t842 t845 _ ?side1 ?side2 ?side3 ?side4 ?side5 A17.out).mono ?_); (case side1 => exact cl); (case side2 => exact HC0_0.out); (case side3 => exact cl); (case side4 => exact HC0_1.out); (case side5 => exact Glob.below HGL.out bl); rintro e w24 ⟨v843, rfl, ho0, hb⟩; refine ⟨_, rfl, ?_⟩; have HO844 := Aside0.mk (Kd.V_lower (Kd.V_mono (ok' := fun k_ => k_ ≠ gb832) ho0 (fun k_ hk_ => (Kd.freshB (g := gb832) (o := .cells #[.slice A0_0 l0_0.length c0_0, .slice A0_1 l0_1.length c0_1] 25 (0, 0)) bk k_ hk_))) (below_size bl)); replace BK832 := nb BK832 hb; replace HB := hs HB hb; (try clear hb); (try clear hb2); (try clear hk); (try clear hi); (try clear ho0); obtain ⟨hcz25_0, hcz25_1, hfz25_0, hfz25_1⟩ := b2 (w := w24) BK832) | ((with_reducible refine gate_callee (f := 27) rfl ?_); refine gl (some 41) Tryd.func27 #[.agg #[.slice A0_0 l0_0.length c0_0, .slice A0_1 l0_1.length c0_1]] ?_; (with_reducible refine (skewbaldref01_Most.calls kj5 _ _ l0_0 _ _ l0_1 t846 t849 _ cl HC0_0.out cl HC0_1.out A18.out).mono ?_); rintro e w26 ⟨v847, rfl, ho0, hb⟩; refine ⟨_, rfl, ?_⟩; replace HO844 := Aside0.mk (Kd.V_elder' (by (with_reducible repeat (first | apply Kd.V_alloc | apply Kd.V_drewN | apply Kd.V_drew)); exact HO844.out) (Kd.R_base ho0) hb); have HO848 := Aside0.mk (Kd.R_lower ho0 (below_size bl)); replace BK832 := nb BK832 hb; replace HB := hs HB hb; (try clear hb); (try clear hb2); (try clear hk); (try clear hi); (try clear ho0); obtain ⟨Ao27, co27, eo27⟩ := Kd.V_slice HO844.out; subst eo27; obtain ⟨Ao28, co28, eo28⟩ := Kd.R_slice HO848.out; subst eo28) | ((with_reducible refine gate_callee (f := 22) rfl ?_); refine gl (some 46) Tryd.func22 #[.slice Ao27 t842.length co27, .slice Ao28 t846.length co28] ?_; (with_reducible refine (skewbaldref00_Equal.calls kj5 _ _ t842 _ _ t846 true _ ?side1 ?side2 ?side3 ?side4 A19.out).mono ?_); (case side1 => repeat (first | exact (Kd.V_reads' HO844.out).2.2 | (with_reducible refine Kd.C_alloc ?_ _) | (with_reducible refine Kd.C_drewN ?_ _) | (with_reducible refine Kd.C_drew ?_))); (case side2 => exact (Kd.V_reads' HO844.out).2.1); (case side3 => repeat (first | exact (Kd.R_reads' HO848.out).2.2 | (with_reducible refine Kd.C_alloc ?_ _) | (with_reducible refine Kd.C_drewN ?_ _) | (with_reducible refine Kd.C_drew ?_))); (case side4 => exact (Kd.R_reads' HO848.out).2.1); rintro e w' ⟨rfl, ⟨nd, rfl⟩⟩; refine ⟨_, rfl, ?_⟩) | (go_at_call 23; (with_reducible refine (skewbaldlaw01_sawn.calls  t851 _ ?side1 A22.out).mono ?_); (case side1 => exact Glob.below HGL.out bl); rintro e w29 ⟨rfl, hb⟩; replace HO844 := Aside0.mk (Kd.V_below (by (with_reducible repeat (first | apply Kd.V_alloc | apply Kd.V_drewN | apply Kd.V_drew)); exact HO844.out) hb); replace HO848 := Aside0.mk (Kd.R_below (bR HO848) hb); replace BK832 := nb BK832 hb; replace HB := hs HB hb; (try clear hb); (try clear hb2); (try clear hk); (try clear hi)))
      go_ret
      exact ⟨by first | rfl | (rw [HE_.out]; done) | (simp [HE_.out]; done) | (simp [errW_none, errW_some] <;> rfl) | (simp [*, errW_none, errW_some] <;> rfl), bl⟩
     ·rw [if_neg c21] at H
      have c21b0 : (t845 == t849) = false := beq_eq_false_iff_ne.mpr c21
      have c21b1 : (t845 != t849) = true := bne_iff_ne.mpr c21
      exact absurd H (by simp)
    ·replace c20 := Bool.eq_false_iff.mpr c20; subst c20
     have H1 : (some false) = some true := by rw [if_neg (show ¬ (false = true) by decide)] at H; exact H
     clear H; have H := H1; clear H1
     exact absurd H (by simp)
mutual
def skewbaldlaw01_sound.j0 : Nat → Bool → List (S48) → List (S50) → Option (Bool)
 | 0, _, _, _ => none
 | k + 1, x3, x339000, x339001 => skewbaldlaw01_sound.l0 k x3 0 x339000 x339001
def skewbaldlaw01_sound.l0 : Nat → Bool → Int → List (S48) → List (S50) → Option (Bool)
 | 0, _, _, _, _ => none
 | k + 1, x3, x4, x339000, x339001 => if x3 = true then (skewbaldlaw01_sound.j2 k x3 x4 (decide (x4 < (x339000.length : Int))) x339000 x339001) else (skewbaldlaw01_sound.j2 k x3 x4 false x339000 x339001)
def skewbaldlaw01_sound.j2 : Nat → Bool → Int → Bool → List (S48) → List (S50) → Option (Bool)
 | 0, _, _, _, _, _ => none
 | k + 1, x3, x4, x31, x339000, x339001 => if x31 = true then (if 0 ≤ x4 then (if x4 < (x339000.length : Int) then ((skewbaldref00_In.f ((rd_T48 x339000 x4).f0) 1 16).bind fun t344 => (if t344 = true then (skewbaldlaw01_sound.j3 k (decide ((((rd_T48 x339000 x4).f1).length : Int) ≤ 3)) x4 x339000 x339001 ((rd_T48 x339000 x4).f0) ((rd_T48 x339000 x4).f1)) else (skewbaldlaw01_sound.j3 k false x4 x339000 x339001 ((rd_T48 x339000 x4).f0) ((rd_T48 x339000 x4).f1)))) else (none)) else (none)) else (skewbaldlaw01_sound.l2 k x3 0 x339000 x339001)
def skewbaldlaw01_sound.j3 : Nat → Bool → Int → List (S48) → List (S50) → Int → List (S60) → Option (Bool)
 | 0, _, _, _, _, _, _ => none
 | k + 1, x3, x4, x339000, x339001, x344000, x344001 => skewbaldlaw01_sound.l1 k x3 x4 0 x339000 x339001 x344000 x344001
def skewbaldlaw01_sound.l1 : Nat → Bool → Int → Int → List (S48) → List (S50) → Int → List (S60) → Option (Bool)
 | 0, _, _, _, _, _, _, _ => none
 | k + 1, x3, x4, x6, x339000, x339001, x344000, x344001 => if x3 = true then (if x6 < (x344001.length : Int) then (if 0 ≤ x6 then ((skewbaldref00_Ordered.f ((rd_T60 x344001 x6).f0) ((rd_T60 x344001 x6).f1) 0 (wrap64 (x344000 - 1))).bind fun t346 => (skewbaldlaw01_sound.l1 k t346 x4 (wrap64 (x6 + 1)) x339000 x339001 x344000 x344001)) else (none)) else (skewbaldlaw01_sound.l0 k x3 (wrap64 (x4 + 1)) x339000 x339001)) else (skewbaldlaw01_sound.l0 k x3 (wrap64 (x4 + 1)) x339000 x339001)
def skewbaldlaw01_sound.l2 : Nat → Bool → Int → List (S48) → List (S50) → Option (Bool)
 | 0, _, _, _, _ => none
 | k + 1, x3, x7, x339000, x339001 => if x3 = true then (skewbaldlaw01_sound.j6 k x3 x7 (decide (x7 < (x339001.length : Int))) x339000 x339001) else (skewbaldlaw01_sound.j6 k x3 x7 false x339000 x339001)
def skewbaldlaw01_sound.j6 : Nat → Bool → Int → Bool → List (S48) → List (S50) → Option (Bool)
 | 0, _, _, _, _, _ => none
 | k + 1, x3, x7, x74, x339000, x339001 => if x74 = true then (if 0 ≤ x7 then (if x7 < (x339001.length : Int) then ((skewbaldref00_In.f ((rd_T50 x339001 x7).f0) 1 12).bind fun t349 => (if t349 = true then (if (((rd_T50 x339001 x7).f1).length : Int) ≤ 3 then ((skewbaldref00_Grows.f k ((rd_T50 x339001 x7).f1) ((rd_T50 x339001 x7).f0)).bind fun t350 => (skewbaldlaw01_sound.l2 k t350 (wrap64 (x7 + 1)) x339000 x339001)) else (skewbaldlaw01_sound.l2 k false (wrap64 (x7 + 1)) x339000 x339001)) else (skewbaldlaw01_sound.l2 k false (wrap64 (x7 + 1)) x339000 x339001))) else (none)) else (none)) else (some x3)
end
def skewbaldlaw01_sound.f (k : Nat) (l0_0 : List (S48)) (l0_1 : List (S50)) : Option (Bool) := (plank_Check.f l0_0 l0_1).bind fun t339 => (if t339 = 0 then ((skewbaldref00_In.f (l0_0.length : Int) 1 3).bind fun t340 => (if t340 = true then ((skewbaldref00_In.f (l0_1.length : Int) 1 5).bind fun t341 => (skewbaldlaw01_sound.j0 k t341 l0_0 l0_1)) else (skewbaldlaw01_sound.j0 k false l0_0 l0_1))) else (skewbaldlaw01_sound.j0 k false l0_0 l0_1))
def skewbaldlaw01_sound.T10 : Bool × List (List Nat × List Nat) := (true, [([], []), ([0], [0]), ([], []), ([1, 2], [1, 2]), ([3], [3]), ([], []), ([5], [5]), ([6], [6]), ([4, 7], [4, 7]), ([8, 8, 0, 1, 2, 3, 4, 5, 6, 7, 8], [8])])
def skewbaldlaw01_sound.B10 : List Nat := [0, 1, 0, 7, 15, 0, 32, 96, 255, 511]
theorem skewbaldlaw01_sound.tab10 : rtab .any (opsOf Tryd.f34 10) = skewbaldlaw01_sound.T10 := by kernel_rfl
theorem skewbaldlaw01_sound.bits10 : waitsOk skewbaldlaw01_sound.T10.2 skewbaldlaw01_sound.B10 = true := by kernel_rfl
def skewbaldref00_Round.f (a0 : Int) (a1 : Int) : Option (Int) := if a1 < 1 then (some 0) else (if a1 = 0 then (none) else (if (Int.tmod a0 a1) < 0 then (some (wrap64 ((Int.tmod a0 a1) + a1))) else (some (Int.tmod a0 a1))))
mutual
def skewbaldlaw01_only.l0 : Nat → Int → Int → Int → List (S48) → List (S50) → List (S48) → Option ((List (S48)) × (List (S50)))
 | 0, _, _, _, _, _, _ => none
 | k + 1, x1, x2, x8, x517000, x517001, x519000 => if x8 < (x517000.length : Int) then ((skewbaldref00_Of.f x1 x8).bind fun t519 => (if t519 = true then (if 0 ≤ x8 then (if x519000.length < 4398046511104 then (skewbaldlaw01_only.l0 k x1 x2 (wrap64 (x8 + 1)) x517000 x517001 (x519000 ++ [(⟨(rd_T48 x517000 x8).f0, (rd_T48 x517000 x8).f1⟩ : S48)])) else (none)) else (none)) else (skewbaldlaw01_only.l0 k x1 x2 (wrap64 (x8 + 1)) x517000 x517001 x519000))) else (skewbaldlaw01_only.l1 k x2 0 x517000 x517001 x519000 ([] : List (S50)))
def skewbaldlaw01_only.l1 : Nat → Int → Int → List (S48) → List (S50) → List (S48) → List (S50) → Option ((List (S48)) × (List (S50)))
 | 0, _, _, _, _, _, _ => none
 | k + 1, x2, x9, x517000, x517001, x519000, x519001 => if x9 < (x517001.length : Int) then ((skewbaldref00_Of.f x2 x9).bind fun t524 => (if t524 = true then (if 0 ≤ x9 then (if x519001.length < 3518437208883 then (skewbaldlaw01_only.l1 k x2 (wrap64 (x9 + 1)) x517000 x517001 x519000 (x519001 ++ [(⟨(rd_T50 x517001 x9).f0, (rd_T50 x517001 x9).f1, (rd_T50 x517001 x9).f2⟩ : S50)])) else (none)) else (none)) else (skewbaldlaw01_only.l1 k x2 (wrap64 (x9 + 1)) x517000 x517001 x519000 x519001))) else (some (x519000, x519001))
end
def skewbaldlaw01_only.f (k : Nat) (l0_0 : List (S48)) (l0_1 : List (S50)) (a1 : Int) (a2 : Int) : Option ((List (S48)) × (List (S50))) := skewbaldlaw01_only.l0 k a1 a2 0 l0_0 l0_1 ([] : List (S48))
def skewbaldlaw01_enough.j0 : Nat → Int → Int → Bool → List (S48) → List (S50) → Option (Bool × Bool)
 | 0, _, _, _, _, _ => none
 | k + 1, x1, x2, x15, x530000, x530001 => if x15 = true then (some ((x2 == 0), true)) else ((skewbaldlaw01_only.f k x530000 x530001 x1 x2).bind fun bt530 => ((plank_Fewest.f bt530.1 bt530.2).bind fun bt536 => (if bt536.2 = 0 then (some ((bt536.2 == 0), true)) else (some ((bt536.2 == 0), (bt536.2 == 4))))))
def skewbaldlaw01_enough.f (k : Nat) (l0_0 : List (S48)) (l0_1 : List (S50)) (a1 : Int) (a2 : Int) : Option (Bool × Bool) := if a2 = 0 then (skewbaldlaw01_enough.j0 k a1 a2 true l0_0 l0_1) else (skewbaldlaw01_enough.j0 k a1 a2 (a1 == 0) l0_0 l0_1)
def skewbaldlaw01_PlankMost.j0 : Nat → List Int → List Int → Bool → Bool → Option (Bool)
 | 0, _, _, _, _ => none
 | k + 1, x5, x10, x11, x101 => if x101 = true then (some false) else (if x11 = true then (if (x10.length : Int) < (x5.length : Int) then ((skewbaldlaw01_sawn.f).bind fun t592 => (some t592)) else (if (x10.length : Int) = (x5.length : Int) then ((skewbaldref00_Less.f k x10 x5).bind fun t593 => (if t593 = true then (some false) else ((skewbaldlaw01_sawn.f).bind fun t594 => (some t594)))) else (some false))) else ((skewbaldlaw01_sawn.f).bind fun t595 => (some t595)))
def skewbaldlaw01_PlankMost.f (k : Nat) (l0_0 : List (S48)) (l0_1 : List (S50)) (a1 : Int) : Option (Bool) := (plank_Most.f l0_0 l0_1).bind fun bt571 => ((skewbaldlaw01_sound.f k l0_0 l0_1).bind fun t575 => (if t575 = true then ((skewbaldref00_Set.f k bt571.1).bind fun t577 => ((skewbaldlaw01_enough.f k l0_0 l0_1 (wrap64 ((shl .i64 1 (l0_0.length : Int)) - 1)) t577).bind fun bt578 => ((skewbaldref00_Round.f a1 (shl .i64 1 (l0_1.length : Int))).bind fun t580 => ((skewbaldref00_List.f k t580 (l0_1.length : Int)).bind fun t581 => ((skewbaldref00_Set.f k t581).bind fun t584 => ((skewbaldlaw01_enough.f k l0_0 l0_1 (wrap64 ((shl .i64 1 (l0_0.length : Int)) - 1)) t584).bind fun bt585 => ((plank_Fewest.f l0_0 l0_1).bind fun bt587 => (if bt571.2 = 0 then (if bt578.2 = true then (if bt585.2 = true then (if bt578.1 = true then ((skewbaldref00_Grows.f k bt571.1 (l0_1.length : Int)).bind fun t591 => (if t591 = true then (skewbaldlaw01_PlankMost.j0 k bt571.1 t581 bt585.1 (((bt571.1.length : Int) == (l0_1.length : Int)) != (bt587.2 == 0))) else (skewbaldlaw01_PlankMost.j0 k bt571.1 t581 bt585.1 true))) else (skewbaldlaw01_PlankMost.j0 k bt571.1 t581 bt585.1 true)) else (skewbaldlaw01_PlankMost.j0 k bt571.1 t581 bt585.1 true)) else (skewbaldlaw01_PlankMost.j0 k bt571.1 t581 bt585.1 true)) else (skewbaldlaw01_PlankMost.j0 k bt571.1 t581 bt585.1 true))))))))) else (if bt571.2 = 10 then (if (bt571.1.length : Int) = 0 then ((skewbaldlaw01_sawn.f).bind fun t576 => (some t576)) else (some false)) else (some false))))
mutual
def skewbaldlaw01_shared.l0 : Nat → List Int → Int → Int → List (S48) → List (S50) → Option (Bool)
 | 0, _, _, _, _, _ => none
 | k + 1, x1, x2, x7, x541000, x541001 => if x7 ≥ 0 then (if (Go.bits .and .i64 x7 x2) = x7 then (if 0 < (x1.length : Int) then ((skewbaldref00_List.f k x7 (x541001.length : Int)).bind fun t542 => ((plank_Lay.f x541000 x541001 (rd x1 0) t542).bind fun bt545 => (if bt545.2 = 0 then (if 1 ≤ (x1.length : Int) then ((skewbaldlaw01_shared.f k x541000 x541001 (x1.drop 1) (wrap64 (x2 - x7))).bind fun t550 => (if t550 = true then (some true) else (skewbaldlaw01_shared.l0 k x1 x2 (wrap64 (x7 - 1)) x541000 x541001))) else (none)) else (skewbaldlaw01_shared.l0 k x1 x2 (wrap64 (x7 - 1)) x541000 x541001)))) else (none)) else (skewbaldlaw01_shared.l0 k x1 x2 (wrap64 (x7 - 1)) x541000 x541001)) else (some false)
def skewbaldlaw01_shared.f : Nat → List (S48) → List (S50) → List Int → Int → Option (Bool)
 | 0, _, _, _, _ => none
 | k + 1, l0_0, l0_1, l1, a2 => if (l1.length : Int) = 0 then (some (a2 == 0)) else (skewbaldlaw01_shared.l0 k l1 a2 a2 l0_0 l0_1)
end
def skewbaldlaw01_PlankFewest.j0 : Nat → List Int → Int → Bool → List (S48) → List (S50) → Option (Bool)
 | 0, _, _, _, _, _ => none
 | k + 1, x5, x7, x92, x552000, x552001 => if x92 = true then (some false) else ((skewbaldlaw01_shared.f k x552000 x552001 x5 x7).bind fun t567 => (if t567 = true then ((skewbaldlaw01_sawn.f).bind fun t568 => (some t568)) else (some false)))
def skewbaldlaw01_PlankFewest.f (k : Nat) (l0_0 : List (S48)) (l0_1 : List (S50)) (a1 : Int) : Option (Bool) := (plank_Fewest.f l0_0 l0_1).bind fun bt552 => ((skewbaldlaw01_sound.f k l0_0 l0_1).bind fun t556 => (if t556 = true then ((skewbaldref00_Round.f a1 (shl .i64 1 (l0_0.length : Int))).bind fun t558 => ((skewbaldlaw01_enough.f k l0_0 l0_1 t558 (wrap64 ((shl .i64 1 (l0_1.length : Int)) - 1))).bind fun bt559 => (if bt552.2 = 0 then (if bt559.2 = true then ((skewbaldref00_Grows.f k bt552.1 (l0_0.length : Int)).bind fun t562 => (if t562 = true then (if (bt552.1.length : Int) = 0 then (skewbaldlaw01_PlankFewest.j0 k bt552.1 (wrap64 ((shl .i64 1 (l0_1.length : Int)) - 1)) true l0_0 l0_1) else (if bt559.1 = true then ((skewbaldref00_List.f k t558 (l0_0.length : Int)).bind fun t563 => ((skewbaldref00_Shorter.f k t563 bt552.1).bind fun t566 => (skewbaldlaw01_PlankFewest.j0 k bt552.1 (wrap64 ((shl .i64 1 (l0_1.length : Int)) - 1)) t566 l0_0 l0_1))) else (skewbaldlaw01_PlankFewest.j0 k bt552.1 (wrap64 ((shl .i64 1 (l0_1.length : Int)) - 1)) false l0_0 l0_1))) else (skewbaldlaw01_PlankFewest.j0 k bt552.1 (wrap64 ((shl .i64 1 (l0_1.length : Int)) - 1)) true l0_0 l0_1))) else (skewbaldlaw01_PlankFewest.j0 k bt552.1 (wrap64 ((shl .i64 1 (l0_1.length : Int)) - 1)) true l0_0 l0_1)) else (if bt552.2 = 4 then (if (bt552.1.length : Int) = 0 then (if bt559.2 = true then (if bt559.1 = true then (some false) else ((skewbaldlaw01_sawn.f).bind fun t561 => (some t561))) else (some false)) else (some false)) else (some false))))) else (if bt552.2 = 10 then (if (bt552.1.length : Int) = 0 then ((skewbaldlaw01_sawn.f).bind fun t557 => (some t557)) else (some false)) else (some false))))
def skewbaldref01_Fewest.T4 : Bool × List (List Nat × List Nat) := (true, [([], []), ([0], [0]), ([], []), ([2], [2]), ([3], [3]), ([4], [4]), ([5], [5]), ([1, 1, 0, 1], [1]), ([6, 7, 0, 1, 2, 3, 4, 5, 6, 7], [6])])
def skewbaldref01_Fewest.B4 : List Nat := [0, 1, 0, 4, 12, 28, 60, 3, 255]
theorem skewbaldref01_Fewest.tab4 : rtab .any (opsOf Tryd.f29 4) = skewbaldref01_Fewest.T4 := by kernel_rfl
theorem skewbaldref01_Fewest.bits4 : waitsOk skewbaldref01_Fewest.T4.2 skewbaldref01_Fewest.B4 = true := by kernel_rfl
def skewbaldref01_Can.T1 : Bool × List (List Nat × List Nat) := (true, [([], []), ([], []), ([], []), ([1, 2], [1, 2]), ([3, 3], [3]), ([4], [4]), ([4], [4]), ([5, 6, 4, 4], [4, 5, 6]), ([4, 7], [4, 7]), ([8, 7], [8]), ([9], [9]), ([9], [9]), ([9], [9]), ([9], [9]), ([10, 11, 12, 13, 9, 9], [9, 10, 11, 12, 13]), ([9, 14], [9, 14]), ([0, 15, 14], [0, 15]), ([16, 16, 0, 1, 2, 3, 4, 5, 6, 7, 8, 9, 10, 11, 12, 13, 14, 15, 16], [16])])
def skewbaldref01_Can.B1 : List Nat := [0, 0, 0, 6, 14, 30, 30, 126, 254, 510, 1022, 1022, 1022, 1022, 16382, 32766, 65535, 131071]
theorem skewbaldref01_Can.tab1 : rtab .any (opsOf Tryd.f17 1) = skewbaldref01_Can.T1 := by kernel_rfl
theorem skewbaldref01_Can.bits1 : waitsOk skewbaldref01_Can.T1.2 skewbaldref01_Can.B1 = true := by kernel_rfl
end Go.Proofs.YtekjlpldooihhaaDoor.PT
