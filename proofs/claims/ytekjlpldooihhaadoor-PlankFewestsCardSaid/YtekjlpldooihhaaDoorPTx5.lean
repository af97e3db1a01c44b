/- Printed by a program (prx.py). -/
import Derived.Test.YtekjlpldooihhaaDoorRw
import Derived.Test.YtekjlpldooihhaaDoorKn
import Derived.Test.YtekjlpldooihhaaDoorPTx2
namespace Go.Proofs.YtekjlpldooihhaaDoor.PT
open Go.Proofs.YtekjlpldooihhaaDoorSh
open Go.Proofs.YtekjlpldooihhaaDoor.PA (S48 S50 S60 at_L2 at_L4 at_T48 at_T50 at_T60 errW errW_none errW_some k48 k48_mk k48_mkM k48_open k48_openM k50 k50_mk k50_mkM k50_open k50_openM k60 k60_mk k60_mkM k60_open k60_openM rd_L2 rd_L4 rd_T48 rd_T50 rd_T60 z48 z50 z60)
open Go.Proofs.YtekjlpldooihhaaDoorP Go.Proofs.YtekjlpldooihhaaDoorK
open Go.RowKit Go.Proofs.YtekjlpldooihhaaDoorW.PrintWords Go.Proofs.YtekjlpldooihhaaDoorW.PrintLast Go.Proofs.YtekjlpldooihhaaDoorW.PrintMore
attribute [local go_sem] max2_int min2_int max_two min_two max_three min_three max_four min_four
set_option linter.unusedVariables false
set_option linter.unusedSimpArgs false
def skewbaldref01_can.j0 : Nat → List Int → List Int → Bool → Int → List (S60) → Int → List Int → Bool → Option (Int)
 | 0, _, _, _, _, _, _, _, _ => none
 | k + 1, x11, x12, x40, x153000, x153001, x154000, x154001, x154002 => if x40 = true then (some 2) else ((skewbaldref01_may.f k x153000 x153001 x11).bind fun t162 => (if t162 = true then (some 1) else (if x154002 = true then ((skewbaldref01_may.f k x153000 x153001 x12).bind fun t163 => (if t163 = true then (some 1) else (some 0))) else (some 0))))
def skewbaldref01_can.f (k : Nat) (l0_0 : List (S48)) (l0_1 : List (S50)) (a1 : Int) (a2 : Int) (a3 : Int) : Option (Int) := if 0 ≤ a1 then (if a1 < (l0_0.length : Int) then (if 0 ≤ a2 then (if a2 < (l0_1.length : Int) then ((skewbaldref01_joints.f k ((rd_T50 l0_1 a2).f0) ((rd_T50 l0_1 a2).f1) ((rd_T50 l0_1 a2).f2) a3 false).bind fun t154 => ((skewbaldref01_joints.f k ((rd_T50 l0_1 a2).f0) ((rd_T50 l0_1 a2).f1) ((rd_T50 l0_1 a2).f2) a3 true).bind fun t157 => ((skewbaldref01_sure.f k ((rd_T48 l0_0 a1).f0) ((rd_T48 l0_0 a1).f1) t154).bind fun t160 => (if t160 = true then (skewbaldref01_can.j0 k t154 t157 true ((rd_T48 l0_0 a1).f0) ((rd_T48 l0_0 a1).f1) ((rd_T50 l0_1 a2).f0) ((rd_T50 l0_1 a2).f1) ((rd_T50 l0_1 a2).f2)) else (if (rd_T50 l0_1 a2).f2 = true then ((skewbaldref01_sure.f k ((rd_T48 l0_0 a1).f0) ((rd_T48 l0_0 a1).f1) t157).bind fun t161 => (skewbaldref01_can.j0 k t154 t157 t161 ((rd_T48 l0_0 a1).f0) ((rd_T48 l0_0 a1).f1) ((rd_T50 l0_1 a2).f0) ((rd_T50 l0_1 a2).f1) ((rd_T50 l0_1 a2).f2))) else (skewbaldref01_can.j0 k t154 t157 false ((rd_T48 l0_0 a1).f0) ((rd_T48 l0_0 a1).f1) ((rd_T50 l0_1 a2).f0) ((rd_T50 l0_1 a2).f1) ((rd_T50 l0_1 a2).f2))))))) else (none)) else (none)) else (none)) else (none)
def skewbaldref01_can.T1 : Bool × List (List Nat × List Nat) := (true, [([], []), ([0], [0]), ([], []), ([1, 2], [1, 2]), ([3], [3]), ([], []), ([5], [5]), ([], []), ([6, 7], [6, 7]), ([8], [8]), ([], []), ([], []), ([10, 4, 0, 1, 2, 3, 4, 10, 11], [4, 10]), ([11, 9, 12, 0, 1, 2, 3, 4, 5, 6, 7, 8, 9, 10, 11, 12], [9, 11])])
def skewbaldref01_can.B1 : List Nat := [0, 1, 0, 7, 15, 0, 32, 0, 224, 480, 0, 0, 3103, 8191]
theorem skewbaldref01_can.tab1 : rtab .any (opsOf Tryd.f69 1) = skewbaldref01_can.T1 := by kernel_rfl
theorem skewbaldref01_can.bits1 : waitsOk skewbaldref01_can.T1.2 skewbaldref01_can.B1 = true := by kernel_rfl
def skewbaldref01_can.T2 : Bool × List (List Nat × List Nat) := (true, [([], []), ([], []), ([0, 1], [0, 1]), ([], []), ([], []), ([3, 4, 2], [3, 4]), ([2, 5, 0, 1, 2], [2]), ([5, 6, 0, 1, 2, 3, 4, 5, 6], [5])])
def skewbaldref01_can.B2 : List Nat := [0, 0, 3, 0, 0, 31, 63, 127]
theorem skewbaldref01_can.tab2 : rtab .any (opsOf Tryd.f69 2) = skewbaldref01_can.T2 := by kernel_rfl
theorem skewbaldref01_can.bits2 : waitsOk skewbaldref01_can.T2.2 skewbaldref01_can.B2 = true := by kernel_rfl
set_option maxHeartbeats 8000000 in
set_option maxRecDepth 100000 in
theorem skewbaldref01_can.calls (k : Nat) (A0_0 : Option Addr) (c0_0 : Nat) (l0_0 : List (S48)) (A0_1 : Option Addr) (c0_1 : Nat) (l0_1 : List (S50)) (a1 : Int) (a2 : Int) (a3 : Int) (r : Int) (w : World) (hr0_0 : Kd.C k48 w A0_0 l0_0.length l0_0) (hc0_0 : l0_0.length ≤ c0_0) (hr0_1 : Kd.C k50 w A0_1 l0_1.length l0_1) (hc0_1 : l0_1.length ≤ c0_1) (h : skewbaldref01_can.f k l0_0 l0_1 a1 a2 a3 = some r) :
  Calls Tryd.prog 69 #[.agg #[.slice A0_0 l0_0.length c0_0, .slice A0_1 l0_1.length c0_1], .int .i64 a1, .int .i64 a2, .int .i64 a3] w fun e w' => e = .returned (.int .i64 r) ∧ Below w.heap.size w w' := by
 have hu25 := Tryd.underlying25; have hu48 := Tryd.underlying48; have hu50 := Tryd.underlying50; have HR0_0 := Aside0.mk hr0_0; have HC0_0 := Aside0.mk hc0_0; clear hr0_0 hc0_0; have HR0_1 := Aside0.mk hr0_1; have HC0_1 := Aside0.mk hc0_1; clear hr0_1 hc0_1; have HB := Aside0.mk (Below.refl w.heap.size w)
 have H : (if 0 ≤ a1 then (if a1 < (l0_0.length : Int) then (if 0 ≤ a2 then (if a2 < (l0_1.length : Int) then ((skewbaldref01_joints.f k ((rd_T50 l0_1 a2).f0) ((rd_T50 l0_1 a2).f1) ((rd_T50 l0_1 a2).f2) a3 false).bind fun t154 => ((skewbaldref01_joints.f k ((rd_T50 l0_1 a2).f0) ((rd_T50 l0_1 a2).f1) ((rd_T50 l0_1 a2).f2) a3 true).bind fun t157 => ((skewbaldref01_sure.f k ((rd_T48 l0_0 a1).f0) ((rd_T48 l0_0 a1).f1) t154).bind fun t160 => (if t160 = true then (skewbaldref01_can.j0 k t154 t157 true ((rd_T48 l0_0 a1).f0) ((rd_T48 l0_0 a1).f1) ((rd_T50 l0_1 a2).f0) ((rd_T50 l0_1 a2).f1) ((rd_T50 l0_1 a2).f2)) else (if (rd_T50 l0_1 a2).f2 = true then ((skewbaldref01_sure.f k ((rd_T48 l0_0 a1).f0) ((rd_T48 l0_0 a1).f1) t157).bind fun t161 => (skewbaldref01_can.j0 k t154 t157 t161 ((rd_T48 l0_0 a1).f0) ((rd_T48 l0_0 a1).f1) ((rd_T50 l0_1 a2).f0) ((rd_T50 l0_1 a2).f1) ((rd_T50 l0_1 a2).f2))) else (skewbaldref01_can.j0 k t154 t157 false ((rd_T48 l0_0 a1).f0) ((rd_T48 l0_0 a1).f1) ((rd_T50 l0_1 a2).f0) ((rd_T50 l0_1 a2).f1) ((rd_T50 l0_1 a2).f2))))))) else (none)) else (none)) else (none)) else (none)) = some r := h
 clear h
 by_cases c5 : 0 ≤ a1
 ·rw [if_pos c5] at H; have c5b0 := decide_eq_true c5; clear c5
  by_cases c6 : a1 < (l0_0.length : Int)
  ·rw [if_pos c6] at H; have c6b0 := decide_eq_true c6; clear c6
   by_cases c7 : 0 ≤ a2
   ·rw [if_pos c7] at H; have c7b0 := decide_eq_true c7; clear c7
    by_cases c8 : a2 < (l0_1.length : Int)
    ·rw [if_pos c8] at H; have c8b0 := decide_eq_true c8; clear c8; obtain ⟨t154, A9, H⟩ := ob H; obtain ⟨t157, A10, H⟩ := ob H; have HC11 := Aside0.mk H; clear H
     go_enter Tryd.func69, Tryd.ntmps69
     try go_wp2_with (first | (refine bx 4 #[.slice A0_0 l0_0.length c0_0, .slice A0_1 l0_1.length c0_1] 25 ?_; intro gb149 hg w12 hbox hb; have BK149 := Aside0.mk hbox; have GW149 := gw hg HB; have GE149 := gw hg HB; replace HB := hs HB hb; clear hb hbox hg))
     replace BK149 := Aside0.mk (blk_drew BK149.out); replace HB := Aside0.mk (below_drew1 HB.out)
     have p150 : 0 ≤ (a1 : Int) := od
     have q150 : a1 < (l0_0.length : Int) := od
     obtain ⟨ad150, A150_1, c150_1, e150, hx150_0, hx150_1, hl150_1, hi150_1⟩ := at_T48 HR0_0.out a1 p150 q150; have hw150_1 := hx150_1; have hw150_0 := hx150_0
     cases e150
     replace hx150_0 := cm HB hx150_0; replace hx150_1 := cm HB hx150_1; have HR150_1 := Aside0.mk hi150_1; have HC150_1 := Aside0.mk hl150_1; clear hi150_1 hl150_1; replace p150 := eq_true p150; replace q150 := eq_true q150
     have p151 : 0 ≤ (a2 : Int) := od
     have q151 : a2 < (l0_1.length : Int) := od
     obtain ⟨ad151, A151_1, c151_1, e151, hx151_0, hx151_1, hx151_2, hl151_1, hi151_1⟩ := at_T50 HR0_1.out a2 p151 q151; have hw151_2 := hx151_2; have hw151_1 := hx151_1; have hw151_0 := hx151_0
     cases e151
     replace hx151_0 := cm HB hx151_0; replace hx151_1 := cm HB hx151_1; replace hx151_2 := cm HB hx151_2; have HR151_1 := Aside0.mk hi151_1; have HC151_1 := Aside0.mk hl151_1; clear hi151_1 hl151_1; replace p151 := eq_true p151; replace q151 := eq_true q151
     refine start_ (n := 14) (S := fun w' => w'.cell? ⟨gb149, 0, none⟩ = some (.slice (some ad150) l0_0.length c0_0) ∧ w'.cell? ⟨gb149, 1, none⟩ = some (.slice (some ad151) l0_1.length c0_1) ∧ w'.cell? (ad150.add ((a1).toNat * 2)) = some (.int .i64 ((rd_T48 l0_0 a1).f0)) ∧ w'.cell? ⟨(ad150.add ((a1).toNat * 2)).block, (ad150.add ((a1).toNat * 2)).off + 1, none⟩ = some (.slice A150_1 ((rd_T48 l0_0 a1).f1).length c150_1) ∧ w'.cell? (ad151.add ((a2).toNat * 3)) = some (.int .i64 ((rd_T50 l0_1 a2).f0)) ∧ w'.cell? ⟨(ad151.add ((a2).toNat * 3)).block, (ad151.add ((a2).toNat * 3)).off + 1, none⟩ = some (.slice A151_1 ((rd_T50 l0_1 a2).f1).length c151_1) ∧ w'.cell? ⟨(ad151.add ((a2).toNat * 3)).block, (ad151.add ((a2).toNat * 3)).off + 2, none⟩ = some (.bool ((rd_T50 l0_1 a2).f2))) (ds := []) #[false, false, false, false, false, false, false, false, false, false, false, false, false, false] (by kernel_rfl) rfl rfl ⟨bq BK149 0, bq BK149 1, (cm HB hw150_0 :), (cm HB hw150_1 :), (cm HB hw151_0 :), (cm HB hw151_1 :), (cm HB hw151_2 :)⟩ (fun hHeld => ?_); refine with_tabW skewbaldref01_can.tab1 skewbaldref01_can.bits1 (fun HT_ HW_ => ?_)
     generalize w12.drew = w13 at BK149 HB HR150_1 HR151_1 hx150_0 hx150_1 hx151_0 hx151_1 hx151_2 hHeld ⊢
     refine pu_ (i := 0) (N := some 13) (qa_ 14 1) ?_
     refine pu_ (i := 2) (N := some 15) (qa_ 14 5) ?_
     refine pu_ (i := 5) (N := some 18) (qa_ 14 37) ?_
     refine pu_ (i := 7) (N := some 20) (qa_ 14 165) ?_
     refine tk_ (i := 1) (N := some 14) (qa_ 14 167) hHeld ?_
     refine pu_ (i := 3) (N := some 16) (qa_ 14 175) ?_
     refine tk_ (i := 4) (N := some 17) (qa_ 14 191) hHeld ?_
     refine tk_ (i := 6) (N := some 19) (qa_ 14 255) hHeld ?_
     refine pu_ (i := 8) (N := some 21) (qa_ 14 511) ?_
     refine tk_ (i := 9) (N := some 22) (qa_ 14 1023) hHeld ?_
     refine join_ (σ := Nat × Nat) 2 #[true, true, true, true, true, true, true, true, true, true, true, true, false, false] (fun s_ => [(9, .pointer (some ⟨s_.1, 0, none⟩)), (10, .pointer (some ⟨s_.2, 0, none⟩))]) (fun s_ w' => (w'.cell? ⟨gb149, 0, none⟩ = some (.slice (some ad150) l0_0.length c0_0) ∧ w'.cell? ⟨gb149, 1, none⟩ = some (.slice (some ad151) l0_1.length c0_1) ∧ w'.cell? (ad150.add ((a1).toNat * 2)) = some (.int .i64 ((rd_T48 l0_0 a1).f0)) ∧ w'.cell? ⟨(ad150.add ((a1).toNat * 2)).block, (ad150.add ((a1).toNat * 2)).off + 1, none⟩ = some (.slice A150_1 ((rd_T48 l0_0 a1).f1).length c150_1) ∧ w'.cell? (ad151.add ((a2).toNat * 3)) = some (.int .i64 ((rd_T50 l0_1 a2).f0)) ∧ w'.cell? ⟨(ad151.add ((a2).toNat * 3)).block, (ad151.add ((a2).toNat * 3)).off + 1, none⟩ = some (.slice A151_1 ((rd_T50 l0_1 a2).f1).length c151_1) ∧ w'.cell? ⟨(ad151.add ((a2).toNat * 3)).block, (ad151.add ((a2).toNat * 3)).off + 2, none⟩ = some (.bool ((rd_T50 l0_1 a2).f2))) ∧ (w'.heap[gb149]? = some (.cells #[.slice (some ad150) l0_0.length c0_0, .slice (some ad151) l0_1.length c0_1] 25 (0, 0))) ∧ (w'.heap[s_.1]? = some (.cells #[.int .i64 0, .slice none 0 0] 48 (0, 0))) ∧ (w'.heap[s_.2]? = some (.cells #[.int .i64 0, .slice none 0 0, .bool false] 50 (0, 0))) ∧ (w.heap.size ≤ s_.1) ∧ (w.heap.size ≤ s_.1) ∧ (gb149 ≠ s_.1) ∧ (s_.1 ≠ gb149) ∧ (s_.2 ≠ s_.1) ∧ (s_.1 ≠ s_.2) ∧ (w.heap.size ≤ s_.2) ∧ (w.heap.size ≤ s_.2) ∧ (gb149 ≠ s_.2) ∧ (s_.2 ≠ gb149) ∧ (Below w.heap.size w w')) ?_ ?_
     rotate_left
     ·intro hCont
      refine two_ (i := 10) (j := 11) (Ni := some 9) (Nj := some 10) #[true, true, true, true, true, true, true, true, true, true, true, false, false, false] #[true, true, true, true, true, true, true, true, true, true, false, true, false, false] rfl rfl rfl rfl (two_of HT_.out (by kernel_rfl)) (by decide) (by decide) (fun K hK => ?_) (fun K hK => ?_)
      ·skip
       refine box_step ?hg (N := 9) ?hd (cs := #[.int .i64 0, .slice none 0 0]) (t := 48) ?hr ?_; (case hd => rfl); (case hg => rfl); (case hr => first | (go_simp; done) | (go_simp; rfl))
       intro gb152 hg w14 hbox hb
       have BK152 := Aside0.mk hbox; have GW152 := gw hg HB; have GE152 := gw hg HB; replace HB := hs HB hb; have NB149_152 := nl hg BK149; have NB152_149 := ng hg BK149; replace BK149 := nb BK149 hb; clear hb hbox hg
       refine hK.out _ _ ⟨bq BK149 0, bq BK149 1, (cm HB hw150_0 :), (cm HB hw150_1 :), (cm HB hw151_0 :), (cm HB hw151_1 :), (cm HB hw151_2 :)⟩ (fun hHeld => ?_)
       clear hK K
       refine nm_ (some 9) ?_
       refine on_ (i := 11) (N := some 10) (qa_ 14 4095) (fun K hK => ?_)
       refine box_step ?hg (N := 10) ?hd (cs := #[.int .i64 0, .slice none 0 0, .bool false]) (t := 50) ?hr ?_; (case hd => rfl); (case hg => rfl); (case hr => first | (go_simp; done) | (go_simp; rfl))
       intro gb153 hg w15 hbox hb
       have BK153 := Aside0.mk hbox; have GW153 := gw hg HB; have GE153 := gw hg HB; replace HB := hs HB hb; have NB149_153 := nl hg BK149; have NB153_149 := ng hg BK149; replace BK149 := nb BK149 hb; have NB152_153 := nl hg BK152; have NB153_152 := ng hg BK152; replace BK152 := nb BK152 hb; clear hb hbox hg
       refine hK.out _ _ ⟨bq BK149 0, bq BK149 1, (cm HB hw150_0 :), (cm HB hw150_1 :), (cm HB hw151_0 :), (cm HB hw151_1 :), (cm HB hw151_2 :)⟩ (fun hHeld => ?_)
       clear hK K
       refine nm_ (some 10) ?_
       exact norm_ (by simp only [putAll, Act.put, List.setIfInBounds_toArray, List.set_cons_zero, List.set_cons_succ]) (hCont (gb152, gb153) _ ⟨hHeld, bk, bk, bk, GW152.out, GE152.out, NB149_152.out, NB152_149.out, NB153_152.out, NB152_153.out, GW153.out, GE153.out, NB149_153.out, NB153_149.out, bl⟩)
      ·skip
       refine box_step ?hg (N := 10) ?hd (cs := #[.int .i64 0, .slice none 0 0, .bool false]) (t := 50) ?hr ?_; (case hd => rfl); (case hg => rfl); (case hr => first | (go_simp; done) | (go_simp; rfl))
       intro gb153 hg w14 hbox hb
       have BK153 := Aside0.mk hbox; have GW153 := gw hg HB; have GE153 := gw hg HB; replace HB := hs HB hb; have NB149_153 := nl hg BK149; have NB153_149 := ng hg BK149; replace BK149 := nb BK149 hb; clear hb hbox hg
       refine hK.out _ _ ⟨bq BK149 0, bq BK149 1, (cm HB hw150_0 :), (cm HB hw150_1 :), (cm HB hw151_0 :), (cm HB hw151_1 :), (cm HB hw151_2 :)⟩ (fun hHeld => ?_)
       clear hK K
       refine nm_ (some 10) ?_
       refine on_ (i := 10) (N := some 9) (qa_ 14 4095) (fun K hK => ?_)
       refine box_step ?hg (N := 9) ?hd (cs := #[.int .i64 0, .slice none 0 0]) (t := 48) ?hr ?_; (case hd => rfl); (case hg => rfl); (case hr => first | (go_simp; done) | (go_simp; rfl))
       intro gb152 hg w15 hbox hb
       have BK152 := Aside0.mk hbox; have GW152 := gw hg HB; have GE152 := gw hg HB; replace HB := hs HB hb; have NB149_152 := nl hg BK149; have NB152_149 := ng hg BK149; replace BK149 := nb BK149 hb; have NB153_152 := nl hg BK153; have NB152_153 := ng hg BK153; replace BK153 := nb BK153 hb; clear hb hbox hg
       refine hK.out _ _ ⟨bq BK149 0, bq BK149 1, (cm HB hw150_0 :), (cm HB hw150_1 :), (cm HB hw151_0 :), (cm HB hw151_1 :), (cm HB hw151_2 :)⟩ (fun hHeld => ?_)
       clear hK K
       refine nm_ (some 9) ?_
       exact norm_ (by simp only [putAll, Act.put, List.setIfInBounds_toArray, List.set_cons_zero, List.set_cons_succ]) (hCont (gb152, gb153) _ ⟨hHeld, bk, bk, bk, GW152.out, GE152.out, NB149_152.out, NB152_149.out, NB153_152.out, NB152_153.out, GW153.out, GE153.out, NB149_153.out, NB153_149.out, bl⟩)
     rintro ⟨gb152, gb153⟩ w16 ⟨hS_, h0_, h1_, h2_, h3_, h4_, h5_, h6_, h7_, h8_, h9_, h10_, h11_, h12_, h13_⟩
     have n0_ : Aside0 (w16.heap[gb149]? = some (.cells #[.slice (some ad150) l0_0.length c0_0, .slice (some ad151) l0_1.length c0_1] 25 (0, 0))) := ⟨h0_⟩
     have n1_ : Aside0 (w16.heap[gb152]? = some (.cells #[.int .i64 0, .slice none 0 0] 48 (0, 0))) := ⟨h1_⟩
     have n2_ : Aside0 (w16.heap[gb153]? = some (.cells #[.int .i64 0, .slice none 0 0, .bool false] 50 (0, 0))) := ⟨h2_⟩
     have n3_ : Aside0 (w.heap.size ≤ gb152) := ⟨h3_⟩
     have n4_ : Aside0 (w.heap.size ≤ gb152) := ⟨h4_⟩
     have n5_ : Aside0 (gb149 ≠ gb152) := ⟨h5_⟩
     have n6_ : Aside0 (gb152 ≠ gb149) := ⟨h6_⟩
     have n7_ : Aside0 (gb153 ≠ gb152) := ⟨h7_⟩
     have n8_ : Aside0 (gb152 ≠ gb153) := ⟨h8_⟩
     have n9_ : Aside0 (w.heap.size ≤ gb153) := ⟨h9_⟩
     have n10_ : Aside0 (w.heap.size ≤ gb153) := ⟨h10_⟩
     have n11_ : Aside0 (gb149 ≠ gb153) := ⟨h11_⟩
     have n12_ : Aside0 (gb153 ≠ gb149) := ⟨h12_⟩
     have n13_ : Aside0 (Below w.heap.size w w16) := ⟨h13_⟩
     clear BK149; clear HB; clear h0_ h1_ h2_ h3_ h4_ h5_ h6_ h7_ h8_ h9_ h10_ h11_ h12_ h13_; have BK149 := n0_; have BK152 := n1_; have BK153 := n2_; have GW152 := n3_; have GE152 := n4_; have NB149_152 := n5_; have NB152_149 := n6_; have NB153_152 := n7_; have NB152_153 := n8_; have GW153 := n9_; have GE153 := n10_; have NB149_153 := n11_; have NB153_149 := n12_; have HB := n13_; clear n0_ n1_ n2_ n3_ n4_ n5_ n6_ n7_ n8_ n9_ n10_ n11_ n12_ n13_
     have hHeld : w16.cell? ⟨gb149, 0, none⟩ = some (.slice (some ad150) l0_0.length c0_0) ∧ w16.cell? ⟨gb149, 1, none⟩ = some (.slice (some ad151) l0_1.length c0_1) ∧ w16.cell? (ad150.add ((a1).toNat * 2)) = some (.int .i64 ((rd_T48 l0_0 a1).f0)) ∧ w16.cell? ⟨(ad150.add ((a1).toNat * 2)).block, (ad150.add ((a1).toNat * 2)).off + 1, none⟩ = some (.slice A150_1 ((rd_T48 l0_0 a1).f1).length c150_1) ∧ w16.cell? (ad151.add ((a2).toNat * 3)) = some (.int .i64 ((rd_T50 l0_1 a2).f0)) ∧ w16.cell? ⟨(ad151.add ((a2).toNat * 3)).block, (ad151.add ((a2).toNat * 3)).off + 1, none⟩ = some (.slice A151_1 ((rd_T50 l0_1 a2).f1).length c151_1) ∧ w16.cell? ⟨(ad151.add ((a2).toNat * 3)).block, (ad151.add ((a2).toNat * 3)).off + 2, none⟩ = some (.bool ((rd_T50 l0_1 a2).f2)) := hS_
     refine norm_ (a' := ?_) ?_ ?_
     rotate_left
     ·simp only [putAll, Act.put, List.setIfInBounds_toArray, List.set_cons_zero, List.set_cons_succ]
      rfl
     refine on_ (i := 12) (N := none) (qa_ 14 8191) (fun K hK => ?_)
     have hs17 : w16.cell? ⟨gb152, 0, none⟩ = some (.int .i64 0) := (blk_cell BK152.out 0).trans rfl
     have hfs17 := blk_frozen BK152.out 0; have hns17_0 := NB149_152.out; have hns17_2 := NB153_152.out; have hms17_0 := NB152_149.out; have hms17_2 := NB152_153.out
     have hs18 : w16.cell? ⟨gb152, 1, none⟩ = some (.slice none 0 0) := (blk_cell BK152.out 1).trans rfl
     have hfs18 := blk_frozen BK152.out 1; have hns18_0 := NB149_152.out; have hns18_2 := NB153_152.out; have hms18_0 := NB152_149.out; have hms18_2 := NB152_153.out
     refine skip_ (w1 := ?_) (by rfl) rfl ?_ ?_
     rotate_left
     ·go_simp
      rfl
     refine hK.out _ _ ⟨(cx NB149_152.out (cx NB149_152.out hHeld.1)), (cx NB149_152.out (cx NB149_152.out hHeld.2.1)), (cx (fb hw150_0 GW152) (cx (fb hw150_0 GW152) hHeld.2.2.1)), (cx (fb hw150_1 GW152) (cx (fb hw150_1 GW152) hHeld.2.2.2.1)), (cx (fb hw151_0 GW152) (cx (fb hw151_0 GW152) hHeld.2.2.2.2.1)), (cx (fb hw151_1 GW152) (cx (fb hw151_1 GW152) hHeld.2.2.2.2.2.1)), (cx (fb hw151_2 GW152) (cx (fb hw151_2 GW152) hHeld.2.2.2.2.2.2))⟩ (fun hHeld => ?_)
     clear hK K
     refine on_ (i := 13) (N := none) (qa_ 14 16383) (fun K hK => ?_)
     have hs19 : w16.cell? ⟨gb153, 0, none⟩ = some (.int .i64 0) := (blk_cell BK153.out 0).trans rfl
     have hfs19 := blk_frozen BK153.out 0; have hns19_0 := NB149_153.out; have hns19_1 := NB152_153.out; have hms19_0 := NB153_149.out; have hms19_1 := NB153_152.out
     have hs20 : w16.cell? ⟨gb153, 1, none⟩ = some (.slice none 0 0) := (blk_cell BK153.out 1).trans rfl
     have hfs20 := blk_frozen BK153.out 1; have hns20_0 := NB149_153.out; have hns20_1 := NB152_153.out; have hms20_0 := NB153_149.out; have hms20_1 := NB153_152.out
     have hs21 : w16.cell? ⟨gb153, 2, none⟩ = some (.bool false) := (blk_cell BK153.out 2).trans rfl
     have hfs21 := blk_frozen BK153.out 2; have hns21_0 := NB149_153.out; have hns21_1 := NB152_153.out; have hms21_0 := NB153_149.out; have hms21_1 := NB153_152.out
     refine skip_ (w1 := ?_) (by rfl) rfl ?_ ?_
     rotate_left
     ·go_simp
      rfl
     refine hK.out _ _ ⟨(cx NB149_153.out (cx NB149_153.out (cx NB149_153.out hHeld.1))), (cx NB149_153.out (cx NB149_153.out (cx NB149_153.out hHeld.2.1))), (cx (fb hw150_0 GW153) (cx (fb hw150_0 GW153) (cx (fb hw150_0 GW153) hHeld.2.2.1))), (cx (fb hw150_1 GW153) (cx (fb hw150_1 GW153) (cx (fb hw150_1 GW153) hHeld.2.2.2.1))), (cx (fb hw151_0 GW153) (cx (fb hw151_0 GW153) (cx (fb hw151_0 GW153) hHeld.2.2.2.2.1))), (cx (fb hw151_1 GW153) (cx (fb hw151_1 GW153) (cx (fb hw151_1 GW153) hHeld.2.2.2.2.2.1))), (cx (fb hw151_2 GW153) (cx (fb hw151_2 GW153) (cx (fb hw151_2 GW153) hHeld.2.2.2.2.2.2)))⟩ (fun hHeld => ?_)
     clear hK K
     refine done_ (done_of HT_.out (by kernel_rfl)) ?_
     try go_wp2
     have n0_ : Aside0 ((((((w16.setCell ⟨gb152, 0, none⟩ (.int .i64 ((rd_T48 l0_0 a1).f0))).setCell ⟨gb152, 1, none⟩ (.slice A150_1 ((rd_T48 l0_0 a1).f1).length c150_1)).setCell ⟨gb153, 0, none⟩ (.int .i64 ((rd_T50 l0_1 a2).f0))).setCell ⟨gb153, 1, none⟩ (.slice A151_1 ((rd_T50 l0_1 a2).f1).length c151_1)).setCell ⟨gb153, 2, none⟩ (.bool ((rd_T50 l0_1 a2).f2))).heap[gb149]? = some (.cells #[.slice (some ad150) l0_0.length c0_0, .slice (some ad151) l0_1.length c0_1] 25 (0, 0))) := ⟨by (with_reducible repeat (first | refine blk_drewN ?_ _ | refine blk_drew ?_ | refine blk_alloc ?_ _)); refine blk_far ?_ NB149_153.out _; (with_reducible repeat (first | refine blk_drewN ?_ _ | refine blk_drew ?_ | refine blk_alloc ?_ _)); refine blk_far ?_ NB149_153.out _; (with_reducible repeat (first | refine blk_drewN ?_ _ | refine blk_drew ?_ | refine blk_alloc ?_ _)); refine blk_far ?_ NB149_153.out _; (with_reducible repeat (first | refine blk_drewN ?_ _ | refine blk_drew ?_ | refine blk_alloc ?_ _)); refine blk_far ?_ NB149_152.out _; (with_reducible repeat (first | refine blk_drewN ?_ _ | refine blk_drew ?_ | refine blk_alloc ?_ _)); refine blk_far ?_ NB149_152.out _; (with_reducible repeat (first | refine blk_drewN ?_ _ | refine blk_drew ?_ | refine blk_alloc ?_ _)); exact BK149.out⟩
     have n1_ : Aside0 ((((((w16.setCell ⟨gb152, 0, none⟩ (.int .i64 ((rd_T48 l0_0 a1).f0))).setCell ⟨gb152, 1, none⟩ (.slice A150_1 ((rd_T48 l0_0 a1).f1).length c150_1)).setCell ⟨gb153, 0, none⟩ (.int .i64 ((rd_T50 l0_1 a2).f0))).setCell ⟨gb153, 1, none⟩ (.slice A151_1 ((rd_T50 l0_1 a2).f1).length c151_1)).setCell ⟨gb153, 2, none⟩ (.bool ((rd_T50 l0_1 a2).f2))).heap[gb152]? = some (.cells #[.int .i64 ((rd_T48 l0_0 a1).f0), .slice A150_1 ((rd_T48 l0_0 a1).f1).length c150_1] 48 (0, 0))) := ⟨by (with_reducible repeat (first | refine blk_drewN ?_ _ | refine blk_drew ?_ | refine blk_alloc ?_ _)); refine blk_far ?_ NB152_153.out _; (with_reducible repeat (first | refine blk_drewN ?_ _ | refine blk_drew ?_ | refine blk_alloc ?_ _)); refine blk_far ?_ NB152_153.out _; (with_reducible repeat (first | refine blk_drewN ?_ _ | refine blk_drew ?_ | refine blk_alloc ?_ _)); refine blk_far ?_ NB152_153.out _; (with_reducible repeat (first | refine blk_drewN ?_ _ | refine blk_drew ?_ | refine blk_alloc ?_ _)); refine blk_put (cs := #[.int .i64 ((rd_T48 l0_0 a1).f0), .slice none 0 0]) ?_ 1 _ rfl; (with_reducible repeat (first | refine blk_drewN ?_ _ | refine blk_drew ?_ | refine blk_alloc ?_ _)); refine blk_put (cs := #[.int .i64 0, .slice none 0 0]) ?_ 0 _ rfl; (with_reducible repeat (first | refine blk_drewN ?_ _ | refine blk_drew ?_ | refine blk_alloc ?_ _)); exact BK152.out⟩
     have n2_ : Aside0 ((((((w16.setCell ⟨gb152, 0, none⟩ (.int .i64 ((rd_T48 l0_0 a1).f0))).setCell ⟨gb152, 1, none⟩ (.slice A150_1 ((rd_T48 l0_0 a1).f1).length c150_1)).setCell ⟨gb153, 0, none⟩ (.int .i64 ((rd_T50 l0_1 a2).f0))).setCell ⟨gb153, 1, none⟩ (.slice A151_1 ((rd_T50 l0_1 a2).f1).length c151_1)).setCell ⟨gb153, 2, none⟩ (.bool ((rd_T50 l0_1 a2).f2))).heap[gb153]? = some (.cells #[.int .i64 ((rd_T50 l0_1 a2).f0), .slice A151_1 ((rd_T50 l0_1 a2).f1).length c151_1, .bool ((rd_T50 l0_1 a2).f2)] 50 (0, 0))) := ⟨by (with_reducible repeat (first | refine blk_drewN ?_ _ | refine blk_drew ?_ | refine blk_alloc ?_ _)); refine blk_put (cs := #[.int .i64 ((rd_T50 l0_1 a2).f0), .slice A151_1 ((rd_T50 l0_1 a2).f1).length c151_1, .bool false]) ?_ 2 _ rfl; (with_reducible repeat (first | refine blk_drewN ?_ _ | refine blk_drew ?_ | refine blk_alloc ?_ _)); refine blk_put (cs := #[.int .i64 ((rd_T50 l0_1 a2).f0), .slice none 0 0, .bool false]) ?_ 1 _ rfl; (with_reducible repeat (first | refine blk_drewN ?_ _ | refine blk_drew ?_ | refine blk_alloc ?_ _)); refine blk_put (cs := #[.int .i64 0, .slice none 0 0, .bool false]) ?_ 0 _ rfl; (with_reducible repeat (first | refine blk_drewN ?_ _ | refine blk_drew ?_ | refine blk_alloc ?_ _)); refine blk_far ?_ NB153_152.out _; (with_reducible repeat (first | refine blk_drewN ?_ _ | refine blk_drew ?_ | refine blk_alloc ?_ _)); refine blk_far ?_ NB153_152.out _; (with_reducible repeat (first | refine blk_drewN ?_ _ | refine blk_drew ?_ | refine blk_alloc ?_ _)); exact BK153.out⟩
     have n3_ : Aside0 (Below w.heap.size w (((((w16.setCell ⟨gb152, 0, none⟩ (.int .i64 ((rd_T48 l0_0 a1).f0))).setCell ⟨gb152, 1, none⟩ (.slice A150_1 ((rd_T48 l0_0 a1).f1).length c150_1)).setCell ⟨gb153, 0, none⟩ (.int .i64 ((rd_T50 l0_1 a2).f0))).setCell ⟨gb153, 1, none⟩ (.slice A151_1 ((rd_T50 l0_1 a2).f1).length c151_1)).setCell ⟨gb153, 2, none⟩ (.bool ((rd_T50 l0_1 a2).f2)))) := ⟨bl⟩
     (try clear BK149); (try clear BK152); (try clear BK153); (try clear HB)
     generalize (((((w16.setCell ⟨gb152, 0, none⟩ (.int .i64 ((rd_T48 l0_0 a1).f0))).setCell ⟨gb152, 1, none⟩ (.slice A150_1 ((rd_T48 l0_0 a1).f1).length c150_1)).setCell ⟨gb153, 0, none⟩ (.int .i64 ((rd_T50 l0_1 a2).f0))).setCell ⟨gb153, 1, none⟩ (.slice A151_1 ((rd_T50 l0_1 a2).f1).length c151_1)).setCell ⟨gb153, 2, none⟩ (.bool ((rd_T50 l0_1 a2).f2))) = w22 at n0_ n1_ n2_ n3_ ⊢
     have BK149 := n0_; have BK152 := n1_; have BK153 := n2_; have HB := n3_; clear n0_ n1_ n2_ n3_; replace BK149 := Aside0.mk (blk_drew BK149.out); replace BK152 := Aside0.mk (blk_drew BK152.out); replace BK153 := Aside0.mk (blk_drew BK153.out); replace HB := Aside0.mk (below_drew1 HB.out)
     refine start_ (n := 8) (S := fun w' => w'.cell? ⟨gb153, 0, none⟩ = some (.int .i64 ((rd_T50 l0_1 a2).f0)) ∧ w'.cell? ⟨gb153, 1, none⟩ = some (.slice A151_1 ((rd_T50 l0_1 a2).f1).length c151_1) ∧ w'.cell? ⟨gb153, 2, none⟩ = some (.bool ((rd_T50 l0_1 a2).f2))) (ds := []) #[false, false, false, false, false, false, false, false] (by kernel_rfl) rfl rfl ⟨bq BK153 0, bq BK153 1, bq BK153 2⟩ (fun hHeld => ?_); refine with_tabW skewbaldref01_can.tab2 skewbaldref01_can.bits2 (fun HT_ HW_ => ?_)
     generalize w22.drew = w23 at BK149 BK152 BK153 HB hHeld ⊢
     refine pu_ (i := 1) (N := some 24) (qa_ 8 2) ?_
     refine pu_ (i := 4) (N := some 27) (qa_ 8 18) ?_
     refine tk_ (i := 0) (N := some 23) (qa_ 8 19) hHeld ?_
     refine tk_ (i := 3) (N := some 26) (qa_ 8 27) hHeld ?_
     refine on_ (i := 2) (N := some 25) (qa_ 8 31) (fun K hK => ?_)
     refine goes_ Tryd.func99 (by kernel_rfl) rfl #[.agg #[.int .i64 ((rd_T50 l0_1 a2).f0), .slice A151_1 ((rd_T50 l0_1 a2).f1).length c151_1, .bool ((rd_T50 l0_1 a2).f2)], .int .i64 a3, .bool false] (by rfl) rfl rfl (by (try simp only [List.map_toArray, List.map_cons, List.map_nil]); first | done | rfl | (simp only [List.length_drop, List.length_take]; rfl)) ?_
     with_reducible refine (skewbaldref01_joints.calls k ((rd_T50 l0_1 a2).f0) _ _ ((rd_T50 l0_1 a2).f1) ((rd_T50 l0_1 a2).f2) a3 false t154 _ ?side1 ?side2 A9.out).mono ?_
     (case side1 => exact cl)
     (case side2 => exact HC151_1.out)
     rintro e w24 ⟨v155, rfl, ho0, hb⟩
     refine ⟨_, rfl, ?_⟩
     have HO156 := Aside0.mk (Kd.R_lower ho0 (below_size bl)); replace BK149 := nb BK149 hb; replace BK152 := nb BK152 hb; replace BK153 := nb BK153 hb; replace HB := hs HB hb; (try clear hb); (try clear hb2); (try clear hk); (try clear hi); (try clear ho0)
     refine hK.out _ _ ⟨bq BK153 0, bq BK153 1, bq BK153 2⟩ (fun hHeld => ?_)
     clear hK K
     refine nm_ (some 25) ?_
     refine on_ (i := 5) (N := some 28) (qa_ 8 63) (fun K hK => ?_)
     refine goes_ Tryd.func99 (by kernel_rfl) rfl #[.agg #[.int .i64 ((rd_T50 l0_1 a2).f0), .slice A151_1 ((rd_T50 l0_1 a2).f1).length c151_1, .bool ((rd_T50 l0_1 a2).f2)], .int .i64 a3, .bool true] (by rfl) rfl rfl (by (try simp only [List.map_toArray, List.map_cons, List.map_nil]); first | done | rfl | (simp only [List.length_drop, List.length_take]; rfl)) ?_
     with_reducible refine (skewbaldref01_joints.calls k ((rd_T50 l0_1 a2).f0) _ _ ((rd_T50 l0_1 a2).f1) ((rd_T50 l0_1 a2).f2) a3 true t157 _ ?side1 ?side2 A10.out).mono ?_
     (case side1 => exact cl)
     (case side2 => exact HC151_1.out)
     rintro e w25 ⟨v158, rfl, ho0, hb⟩
     refine ⟨_, rfl, ?_⟩
     have HO159 := Aside0.mk (Kd.R_lower (Kd.R_new' ho0 (Kd.R_lt (bR HO156))) (below_size bl)); replace HO156 := Aside0.mk (Kd.R_elder' (bR HO156) (Kd.R_base ho0) hb); replace BK149 := nb BK149 hb; replace BK152 := nb BK152 hb; replace BK153 := nb BK153 hb; replace HB := hs HB hb; (try clear hb); (try clear hb2); (try clear hk); (try clear hi); (try clear ho0)
     refine hK.out _ _ ⟨bq BK153 0, bq BK153 1, bq BK153 2⟩ (fun hHeld => ?_)
     clear hK K
     refine nm_ (some 28) ?_
     refine pu_ (i := 6) (N := some 11) (qa_ 8 127) ?_
     refine pu_ (i := 7) (N := some 12) (qa_ 8 255) ?_
     refine done_ (done_of HT_.out (by kernel_rfl)) ?_
     go_upto_region 3 with (fail)
     go_cut [40] (fun v40 wc => ∃ (kq : Nat) (x40_10 : Bool), v40 = .bool x40_10 ∧ Aside0 (skewbaldref01_can.j0 kq t154 t157 x40_10 ((rd_T48 l0_0 a1).f0) ((rd_T48 l0_0 a1).f1) ((rd_T50 l0_1 a2).f0) ((rd_T50 l0_1 a2).f1) ((rd_T50 l0_1 a2).f2) = some r) ∧ Aside0 (kq ≤ k) ∧ Aside0 (Kd.R (Kd.int .i64) 3 wc w.heap.size (fun k_ => some k_ ≠ (v158 : Value).ownBlock) v155 t154) ∧ Aside0 (Kd.R (Kd.int .i64) 3 wc w.heap.size (fun k_ => some k_ ≠ (v155 : Value).ownBlock) v158 t157) ∧ Aside0 (wc.heap[gb149]? = some (.cells #[(.slice (some ad150) l0_0.length c0_0), (.slice (some ad151) l0_1.length c0_1)] 25 (0, 0))) ∧ Aside0 (wc.heap[gb152]? = some (.cells #[.int .i64 ((rd_T48 l0_0 a1).f0), (.slice A150_1 ((rd_T48 l0_0 a1).f1).length c150_1)] 48 (0, 0))) ∧ Aside0 (wc.heap[gb153]? = some (.cells #[.int .i64 ((rd_T50 l0_1 a2).f0), (.slice A151_1 ((rd_T50 l0_1 a2).f1).length c151_1), .bool ((rd_T50 l0_1 a2).f2)] 50 (0, 0))) ∧ Aside0 (Below w.heap.size w wc))
     case first =>
      have H := HC11.out; clear HC11; obtain ⟨t160, A26, H⟩ := ob H
      by_cases c27 : t160 = true
      ·subst c27; rw [if_pos rfl] at H; have H' := Aside0.mk H; clear H; have hnb28 := NB152_149.out; have hnc28 := NB149_152.out; have hnb29 := NB152_153.out; have hnc29 := NB153_152.out; obtain ⟨hcz30_0, hcz30_1, hfz30_0, hfz30_1⟩ := b2 (w := w25) BK152; obtain ⟨Ao31, co31, eo31⟩ := Kd.R_slice HO156.out; subst eo31
       go_wp2_with (first | ((with_reducible refine gate_callee (f := 100) rfl ?_); refine gl (some 31) Tryd.func100 #[.agg #[.int .i64 ((rd_T48 l0_0 a1).f0), .slice A150_1 ((rd_T48 l0_0 a1).f1).length c150_1], .slice Ao31 t154.length co31] ?_; (with_reducible refine (skewbaldref01_sure.calls k ((rd_T48 l0_0 a1).f0) _ _ ((rd_T48 l0_0 a1).f1) _ _ t154 true _ ?side1 ?side2 ?side3 ?side4 A26.out).mono ?_); (case side1 => exact cl); (case side2 => exact HC150_1.out); (case side3 => repeat (first | exact (Kd.R_reads' HO156.out).2.2 | (with_reducible refine Kd.C_alloc ?_ _) | (with_reducible refine Kd.C_drewN ?_ _) | (with_reducible refine Kd.C_drew ?_))); (case side4 => exact (Kd.R_reads' HO156.out).2.1); rintro e w32 ⟨rfl, hb⟩; refine ⟨_, rfl, ?_⟩; replace HO156 := Aside0.mk (Kd.R_below (bR HO156) hb); replace HO159 := Aside0.mk (Kd.R_below (bR HO159) hb); replace BK149 := nb BK149 hb; replace BK152 := nb BK152 hb; replace BK153 := nb BK153 hb; replace HB := hs HB hb; (try clear hb); (try clear hb2); (try clear hk); (try clear hi)))
       go_meet
       case rel => exact ⟨_, (true), sm, H', ⟨by first | omega | exact Nat.le_refl _⟩, ⟨by (with_reducible repeat (first | apply Kd.R_alloc | apply Kd.R_drewN | apply Kd.R_drew)); exact Kd.R_mono HO156.out (fun _ hk => hk.2)⟩, ⟨by (with_reducible repeat (first | apply Kd.R_alloc | apply Kd.R_drewN | apply Kd.R_drew)); exact Kd.R_mono HO159.out (fun _ hk => hk.2)⟩, ⟨bk⟩, ⟨bk⟩, ⟨bk⟩, ⟨bl⟩⟩
      ·replace c27 := Bool.eq_false_iff.mpr c27; subst c27
       rw [if_neg (show ¬ (false = true) by decide)] at H
       obtain ⟨bq33, hbq33⟩ : ∃ b_ : Bool, b_ = ((rd_T50 l0_1 a2).f2) := ⟨_, rfl⟩
       replace H : (if bq33 = true then ((skewbaldref01_sure.f k ((rd_T48 l0_0 a1).f0) ((rd_T48 l0_0 a1).f1) t157).bind fun t161 => (skewbaldref01_can.j0 k t154 t157 t161 ((rd_T48 l0_0 a1).f0) ((rd_T48 l0_0 a1).f1) ((rd_T50 l0_1 a2).f0) ((rd_T50 l0_1 a2).f1) bq33)) else (skewbaldref01_can.j0 k t154 t157 false ((rd_T48 l0_0 a1).f0) ((rd_T48 l0_0 a1).f1) ((rd_T50 l0_1 a2).f0) ((rd_T50 l0_1 a2).f1) bq33)) = some r := by rw [← hbq33] at H; exact H
       have Nbq33 := Aside0.mk hbq33; clear hbq33
       (try rw [← Nbq33.out])
       by_cases c34 : bq33 = true
       ·subst c34; rw [if_pos rfl] at H; obtain ⟨t161, A35, H⟩ := ob H; have H' := Aside0.mk H; clear H; have hnb36 := NB152_149.out; have hnc36 := NB149_152.out; have hnb37 := NB152_153.out; have hnc37 := NB153_152.out; obtain ⟨hcz38_0, hcz38_1, hfz38_0, hfz38_1⟩ := b2 (w := w25) BK152; obtain ⟨Ao39, co39, eo39⟩ := Kd.R_slice HO156.out; subst eo39
        go_wp2_with (first | ((with_reducible refine gate_callee (f := 100) rfl ?_); refine gl (some 31) Tryd.func100 #[.agg #[.int .i64 ((rd_T48 l0_0 a1).f0), .slice A150_1 ((rd_T48 l0_0 a1).f1).length c150_1], .slice Ao39 t154.length co39] ?_; (with_reducible refine (skewbaldref01_sure.calls k ((rd_T48 l0_0 a1).f0) _ _ ((rd_T48 l0_0 a1).f1) _ _ t154 false _ ?side1 ?side2 ?side3 ?side4 A26.out).mono ?_); (case side1 => exact cl); (case side2 => exact HC150_1.out); (case side3 => repeat (first | exact (Kd.R_reads' HO156.out).2.2 | (with_reducible refine Kd.C_alloc ?_ _) | (with_reducible refine Kd.C_drewN ?_ _) | (with_reducible refine Kd.C_drew ?_))); (case side4 => exact (Kd.R_reads' HO156.out).2.1); rintro e w40 ⟨rfl, hb⟩; refine ⟨_, rfl, ?_⟩; replace HO156 := Aside0.mk (Kd.R_below (bR HO156) hb); replace HO159 := Aside0.mk (Kd.R_below (bR HO159) hb); replace BK149 := nb BK149 hb; replace BK152 := nb BK152 hb; replace BK153 := nb BK153 hb; replace HB := hs HB hb; (try clear hb); (try clear hb2); (try clear hk); (try clear hi); have hnb41 := NB153_149.out; have hnc41 := NB149_153.out; have hcz42_0 : w40.cell? ⟨gb153, 0, none⟩ = some (.int .i64 ((rd_T50 l0_1 a2).f0)) := (blk_cell BK153.out 0).trans rfl; have hcz42_1 : w40.cell? ⟨gb153, 1, none⟩ = some (.slice A151_1 ((rd_T50 l0_1 a2).f1).length c151_1) := (blk_cell BK153.out 1).trans rfl; have hcz42_2 : w40.cell? ⟨gb153, 2, none⟩ = some (.bool true) := (blk_cell BK153.out 2).trans (by rw [← Nbq33.out]; rfl); have hfz42_0 := blk_frozen BK153.out 0; have hfz42_1 := blk_frozen BK153.out 1; have hfz42_2 := blk_frozen BK153.out 2; obtain ⟨hcz43_0, hcz43_1, hfz43_0, hfz43_1⟩ := b2 (w := w40) BK152; obtain ⟨Ao44, co44, eo44⟩ := Kd.R_slice HO159.out; subst eo44) | (go_at_call 100; (with_reducible refine (skewbaldref01_sure.calls k ((rd_T48 l0_0 a1).f0) _ _ ((rd_T48 l0_0 a1).f1) _ _ t157 t161 _ ?side1 ?side2 ?side3 ?side4 A35.out).mono ?_); (case side1 => exact cl); (case side2 => exact HC150_1.out); (case side3 => repeat (first | exact (Kd.R_reads' HO159.out).2.2 | (with_reducible refine Kd.C_alloc ?_ _) | (with_reducible refine Kd.C_drewN ?_ _) | (with_reducible refine Kd.C_drew ?_))); (case side4 => exact (Kd.R_reads' HO159.out).2.1); rintro e w45 ⟨rfl, hb⟩; replace HO156 := Aside0.mk (Kd.R_below (bR HO156) hb); replace HO159 := Aside0.mk (Kd.R_below (bR HO159) hb); replace BK149 := nb BK149 hb; replace BK152 := nb BK152 hb; replace BK153 := nb BK153 hb; replace HB := hs HB hb; (try clear hb); (try clear hb2); (try clear hk); (try clear hi)))
        go_meet
        case rel => exact ⟨_, (t161), sm, (by rw [← Nbq33.out]; exact H'), ⟨by first | omega | exact Nat.le_refl _⟩, ⟨by (with_reducible repeat (first | apply Kd.R_alloc | apply Kd.R_drewN | apply Kd.R_drew)); exact Kd.R_mono HO156.out (fun _ hk => hk.2)⟩, ⟨by (with_reducible repeat (first | apply Kd.R_alloc | apply Kd.R_drewN | apply Kd.R_drew)); exact Kd.R_mono HO159.out (fun _ hk => hk.2)⟩, ⟨bk⟩, ⟨bk⟩, ⟨bk⟩, ⟨bl⟩⟩
       ·replace c34 := Bool.eq_false_iff.mpr c34; subst c34
        rw [if_neg (show ¬ (false = true) by decide)] at H
        have H' := Aside0.mk H; clear H; have hnb46 := NB152_149.out; have hnc46 := NB149_152.out; have hnb47 := NB152_153.out; have hnc47 := NB153_152.out; obtain ⟨hcz48_0, hcz48_1, hfz48_0, hfz48_1⟩ := b2 (w := w25) BK152; obtain ⟨Ao49, co49, eo49⟩ := Kd.R_slice HO156.out; subst eo49
        go_wp2_with (first | ((with_reducible refine gate_callee (f := 100) rfl ?_); refine gl (some 31) Tryd.func100 #[.agg #[.int .i64 ((rd_T48 l0_0 a1).f0), .slice A150_1 ((rd_T48 l0_0 a1).f1).length c150_1], .slice Ao49 t154.length co49] ?_; (with_reducible refine (skewbaldref01_sure.calls k ((rd_T48 l0_0 a1).f0) _ _ ((rd_T48 l0_0 a1).f1) _ _ t154 false _ ?side1 ?side2 ?side3 ?side4 A26.out).mono ?_); (case side1 => exact cl); (case side2 => exact HC150_1.out); (case side3 => repeat (first | exact (Kd.R_reads' HO156.out).2.2 | (with_reducible refine Kd.C_alloc ?_ _) | (with_reducible refine Kd.C_drewN ?_ _) | (with_reducible refine Kd.C_drew ?_))); (case side4 => exact (Kd.R_reads' HO156.out).2.1); rintro e w50 ⟨rfl, hb⟩; refine ⟨_, rfl, ?_⟩; replace HO156 := Aside0.mk (Kd.R_below (bR HO156) hb); replace HO159 := Aside0.mk (Kd.R_below (bR HO159) hb); replace BK149 := nb BK149 hb; replace BK152 := nb BK152 hb; replace BK153 := nb BK153 hb; replace HB := hs HB hb; (try clear hb); (try clear hb2); (try clear hk); (try clear hi); have hnb51 := NB153_149.out; have hnc51 := NB149_153.out; have hcz52_0 : w50.cell? ⟨gb153, 0, none⟩ = some (.int .i64 ((rd_T50 l0_1 a2).f0)) := (blk_cell BK153.out 0).trans rfl; have hcz52_1 : w50.cell? ⟨gb153, 1, none⟩ = some (.slice A151_1 ((rd_T50 l0_1 a2).f1).length c151_1) := (blk_cell BK153.out 1).trans rfl; have hcz52_2 : w50.cell? ⟨gb153, 2, none⟩ = some (.bool false) := (blk_cell BK153.out 2).trans (by rw [← Nbq33.out]; rfl); have hfz52_0 := blk_frozen BK153.out 0; have hfz52_1 := blk_frozen BK153.out 1; have hfz52_2 := blk_frozen BK153.out 2))
        go_meet
        case rel => exact ⟨_, (false), sm, (by rw [← Nbq33.out]; exact H'), ⟨by first | omega | exact Nat.le_refl _⟩, ⟨by (with_reducible repeat (first | apply Kd.R_alloc | apply Kd.R_drewN | apply Kd.R_drew)); exact Kd.R_mono HO156.out (fun _ hk => hk.2)⟩, ⟨by (with_reducible repeat (first | apply Kd.R_alloc | apply Kd.R_drewN | apply Kd.R_drew)); exact Kd.R_mono HO159.out (fun _ hk => hk.2)⟩, ⟨bk⟩, ⟨bk⟩, ⟨bk⟩, ⟨bl⟩⟩
     case rest =>
      clear HC11; (try clear c1); (try clear p1); (try clear q1); (try clear hx1); (try clear c2); (try clear p2); (try clear c3); (try clear q3); (try clear c4); (try clear c5); (try clear c6); (try clear c6b0); (try clear c7); (try clear c7b0); (try clear c8); (try clear c8b0); (try clear c9); (try clear c10); (try clear c15); (try clear p15); (try clear q15); (try clear hx15); (try clear c27); (try clear c28); (try clear c29); (try clear q33); (try clear c34); (try clear c36); (try clear c37); (try clear c41); (try clear c46); (try clear c47); (try clear c51); (try clear hcz30_0); (try clear hcz30_1); (try clear hcz38_0); (try clear hcz38_1); (try clear hcz42_0); (try clear hcz42_1); (try clear hcz42_2); (try clear hcz43_0); (try clear hcz43_1); (try clear hcz48_0); (try clear hcz48_1); (try clear hcz52_0); (try clear hcz52_1); (try clear hcz52_2); (try clear hfz30_0); (try clear hfz30_1); (try clear hfz38_0); (try clear hfz38_1); (try clear hfz42_0); (try clear hfz42_1); (try clear hfz42_2); (try clear hfz43_0); (try clear hfz43_1); (try clear hfz48_0); (try clear hfz48_1); (try clear hfz52_0); (try clear hfz52_1); (try clear hfz52_2); (try clear hx150_0); (try clear hx150_1); (try clear hx151_0); (try clear hx151_1); (try clear hx151_2); (try clear p150); (try clear p151); (try clear q150); (try clear q151)
      obtain ⟨kq, x40_10, rfl, HA, HJ10, HO_11, HO_12, BK149, BK152, BK153, HB⟩ := hcut
      cases kq with
      | zero => exact absurd HA.out (by simp [skewbaldref01_can.j0])
      | succ kj10 =>
       have H := HA.out; clear HA
       simp only [skewbaldref01_can.j0] at H
       by_cases c53 : x40_10 = true
       ·subst c53; rw [if_pos rfl] at H; obtain rfl := Option.some.inj H
        go_wp2
        go_ret
        exact ⟨by first | rfl | (simp [errW_none, errW_some] <;> rfl) | (simp [*, errW_none, errW_some] <;> rfl), bl⟩
       ·replace c53 := Bool.eq_false_iff.mpr c53; subst c53
        rw [if_neg (show ¬ (false = true) by decide)] at H
        obtain ⟨t162, A54, H⟩ := ob H
        by_cases c55 : t162 = true
        ·subst c55; rw [if_pos rfl] at H; obtain rfl := Option.some.inj H; have hnb56 := NB152_149.out; have hnc56 := NB149_152.out; have hnb57 := NB152_153.out; have hnc57 := NB153_152.out; obtain ⟨hcz58_0, hcz58_1, hfz58_0, hfz58_1⟩ := b2 (w := wc) BK152; obtain ⟨Ao59, co59, eo59⟩ := Kd.R_slice HO_11.out; subst eo59
         go_wp2_with (first | ((with_reducible refine gate_callee (f := 101) rfl ?_); refine gl (some 43) Tryd.func101 #[.agg #[.int .i64 ((rd_T48 l0_0 a1).f0), .slice A150_1 ((rd_T48 l0_0 a1).f1).length c150_1], .slice Ao59 t154.length co59] ?_; (with_reducible refine (skewbaldref01_may.calls kj10 ((rd_T48 l0_0 a1).f0) _ _ ((rd_T48 l0_0 a1).f1) _ _ t154 true _ ?side1 ?side2 ?side3 ?side4 A54.out).mono ?_); (case side1 => exact cl); (case side2 => exact HC150_1.out); (case side3 => repeat (first | exact (Kd.R_reads' HO_11.out).2.2 | (with_reducible refine Kd.C_alloc ?_ _) | (with_reducible refine Kd.C_drewN ?_ _) | (with_reducible refine Kd.C_drew ?_))); (case side4 => exact (Kd.R_reads' HO_11.out).2.1); rintro e w60 ⟨rfl, hb⟩; refine ⟨_, rfl, ?_⟩; replace HO_11 := Aside0.mk (Kd.R_below (bR HO_11) hb); replace HO_12 := Aside0.mk (Kd.R_below (bR HO_12) hb); replace BK149 := nb BK149 hb; replace BK152 := nb BK152 hb; replace BK153 := nb BK153 hb; replace HB := hs HB hb; (try clear hb); (try clear hb2); (try clear hk); (try clear hi)))
         go_ret
         exact ⟨by first | rfl | (simp [errW_none, errW_some] <;> rfl) | (simp [*, errW_none, errW_some] <;> rfl), bl⟩
        ·replace c55 := Bool.eq_false_iff.mpr c55; subst c55
         rw [if_neg (show ¬ (false = true) by decide)] at H
         by_cases c61 : ((rd_T50 l0_1 a2).f2) = true
         ·rw [if_pos c61] at H
          have c61b0 : ((rd_T50 l0_1 a2).f2) = true := c61
          clear c61; obtain ⟨t163, A62, H⟩ := ob H
          by_cases c63 : t163 = true
          ·subst c63; rw [if_pos rfl] at H; obtain rfl := Option.some.inj H; have hnb64 := NB152_149.out; have hnc64 := NB149_152.out; have hnb65 := NB152_153.out; have hnc65 := NB153_152.out; obtain ⟨hcz66_0, hcz66_1, hfz66_0, hfz66_1⟩ := b2 (w := wc) BK152; obtain ⟨Ao67, co67, eo67⟩ := Kd.R_slice HO_11.out; subst eo67
           go_wp2_with (first | ((with_reducible refine gate_callee (f := 101) rfl ?_); refine gl (some 43) Tryd.func101 #[.agg #[.int .i64 ((rd_T48 l0_0 a1).f0), .slice A150_1 ((rd_T48 l0_0 a1).f1).length c150_1], .slice Ao67 t154.length co67] ?_; (with_reducible refine (skewbaldref01_may.calls kj10 ((rd_T48 l0_0 a1).f0) _ _ ((rd_T48 l0_0 a1).f1) _ _ t154 false _ ?side1 ?side2 ?side3 ?side4 A54.out).mono ?_); (case side1 => exact cl); (case side2 => exact HC150_1.out); (case side3 => repeat (first | exact (Kd.R_reads' HO_11.out).2.2 | (with_reducible refine Kd.C_alloc ?_ _) | (with_reducible refine Kd.C_drewN ?_ _) | (with_reducible refine Kd.C_drew ?_))); (case side4 => exact (Kd.R_reads' HO_11.out).2.1); rintro e w68 ⟨rfl, hb⟩; refine ⟨_, rfl, ?_⟩; replace HO_11 := Aside0.mk (Kd.R_below (bR HO_11) hb); replace HO_12 := Aside0.mk (Kd.R_below (bR HO_12) hb); replace BK149 := nb BK149 hb; replace BK152 := nb BK152 hb; replace BK153 := nb BK153 hb; replace HB := hs HB hb; (try clear hb); (try clear hb2); (try clear hk); (try clear hi); have hnb69 := NB153_149.out; have hnc69 := NB149_153.out; obtain ⟨hcz70_0, hcz70_1, hcz70_2, hfz70_0, hfz70_1, hfz70_2⟩ := b3 (w := w68) BK153; obtain ⟨hcz71_0, hcz71_1, hfz71_0, hfz71_1⟩ := b2 (w := w68) BK152; obtain ⟨Ao72, co72, eo72⟩ := Kd.R_slice HO_12.out; subst eo72) | (go_at_call 101; (with_reducible refine (skewbaldref01_may.calls kj10 ((rd_T48 l0_0 a1).f0) _ _ ((rd_T48 l0_0 a1).f1) _ _ t157 true _ ?side1 ?side2 ?side3 ?side4 A62.out).mono ?_); (case side1 => exact cl); (case side2 => exact HC150_1.out); (case side3 => repeat (first | exact (Kd.R_reads' HO_12.out).2.2 | (with_reducible refine Kd.C_alloc ?_ _) | (with_reducible refine Kd.C_drewN ?_ _) | (with_reducible refine Kd.C_drew ?_))); (case side4 => exact (Kd.R_reads' HO_12.out).2.1); rintro e w73 ⟨rfl, hb⟩; replace HO_11 := Aside0.mk (Kd.R_below (bR HO_11) hb); replace HO_12 := Aside0.mk (Kd.R_below (bR HO_12) hb); replace BK149 := nb BK149 hb; replace BK152 := nb BK152 hb; replace BK153 := nb BK153 hb; replace HB := hs HB hb; (try clear hb); (try clear hb2); (try clear hk); (try clear hi)))
           go_ret
           exact ⟨by first | rfl | (simp [errW_none, errW_some] <;> rfl) | (simp [*, errW_none, errW_some] <;> rfl), bl⟩
          ·replace c63 := Bool.eq_false_iff.mpr c63; subst c63
           rw [if_neg (show ¬ (false = true) by decide)] at H
           obtain rfl := Option.some.inj H; have hnb74 := NB152_149.out; have hnc74 := NB149_152.out; have hnb75 := NB152_153.out; have hnc75 := NB153_152.out; obtain ⟨hcz76_0, hcz76_1, hfz76_0, hfz76_1⟩ := b2 (w := wc) BK152; obtain ⟨Ao77, co77, eo77⟩ := Kd.R_slice HO_11.out; subst eo77
           go_wp2_with (first | ((with_reducible refine gate_callee (f := 101) rfl ?_); refine gl (some 43) Tryd.func101 #[.agg #[.int .i64 ((rd_T48 l0_0 a1).f0), .slice A150_1 ((rd_T48 l0_0 a1).f1).length c150_1], .slice Ao77 t154.length co77] ?_; (with_reducible refine (skewbaldref01_may.calls kj10 ((rd_T48 l0_0 a1).f0) _ _ ((rd_T48 l0_0 a1).f1) _ _ t154 false _ ?side1 ?side2 ?side3 ?side4 A54.out).mono ?_); (case side1 => exact cl); (case side2 => exact HC150_1.out); (case side3 => repeat (first | exact (Kd.R_reads' HO_11.out).2.2 | (with_reducible refine Kd.C_alloc ?_ _) | (with_reducible refine Kd.C_drewN ?_ _) | (with_reducible refine Kd.C_drew ?_))); (case side4 => exact (Kd.R_reads' HO_11.out).2.1); rintro e w78 ⟨rfl, hb⟩; refine ⟨_, rfl, ?_⟩; replace HO_11 := Aside0.mk (Kd.R_below (bR HO_11) hb); replace HO_12 := Aside0.mk (Kd.R_below (bR HO_12) hb); replace BK149 := nb BK149 hb; replace BK152 := nb BK152 hb; replace BK153 := nb BK153 hb; replace HB := hs HB hb; (try clear hb); (try clear hb2); (try clear hk); (try clear hi); have hnb79 := NB153_149.out; have hnc79 := NB149_153.out; obtain ⟨hcz80_0, hcz80_1, hcz80_2, hfz80_0, hfz80_1, hfz80_2⟩ := b3 (w := w78) BK153; obtain ⟨hcz81_0, hcz81_1, hfz81_0, hfz81_1⟩ := b2 (w := w78) BK152; obtain ⟨Ao82, co82, eo82⟩ := Kd.R_slice HO_12.out; subst eo82) | (go_at_call 101; (with_reducible refine (skewbaldref01_may.calls kj10 ((rd_T48 l0_0 a1).f0) _ _ ((rd_T48 l0_0 a1).f1) _ _ t157 false _ ?side1 ?side2 ?side3 ?side4 A62.out).mono ?_); (case side1 => exact cl); (case side2 => exact HC150_1.out); (case side3 => repeat (first | exact (Kd.R_reads' HO_12.out).2.2 | (with_reducible refine Kd.C_alloc ?_ _) | (with_reducible refine Kd.C_drewN ?_ _) | (with_reducible refine Kd.C_drew ?_))); (case side4 => exact (Kd.R_reads' HO_12.out).2.1); rintro e w83 ⟨rfl, hb⟩; replace HO_11 := Aside0.mk (Kd.R_below (bR HO_11) hb); replace HO_12 := Aside0.mk (Kd.R_below (bR HO_12) hb); replace BK149 := nb BK149 hb; replace BK152 := nb BK152 hb; replace BK153 := nb BK153 hb; replace HB := hs HB hb; (try clear hb); (try clear hb2); (try clear hk); (try clear hi)))
           go_ret
           exact ⟨by first | rfl | (simp [errW_none, errW_some] <;> rfl) | (simp [*, errW_none, errW_some] <;> rfl), bl⟩
         ·rw [if_neg c61] at H
          have c61b0 : ((rd_T50 l0_1 a2).f2) = false := by simpa using c61
          clear c61; obtain rfl := Option.some.inj H; have hnb84 := NB152_149.out; have hnc84 := NB149_152.out; have hnb85 := NB152_153.out; have hnc85 := NB153_152.out; obtain ⟨hcz86_0, hcz86_1, hfz86_0, hfz86_1⟩ := b2 (w := wc) BK152; obtain ⟨Ao87, co87, eo87⟩ := Kd.R_slice HO_11.out; subst eo87
          go_wp2_with (first | ((with_reducible refine gate_callee (f := 101) rfl ?_); refine gl (some 43) Tryd.func101 #[.agg #[.int .i64 ((rd_T48 l0_0 a1).f0), .slice A150_1 ((rd_T48 l0_0 a1).f1).length c150_1], .slice Ao87 t154.length co87] ?_; (with_reducible refine (skewbaldref01_may.calls kj10 ((rd_T48 l0_0 a1).f0) _ _ ((rd_T48 l0_0 a1).f1) _ _ t154 false _ ?side1 ?side2 ?side3 ?side4 A54.out).mono ?_); (case side1 => exact cl); (case side2 => exact HC150_1.out); (case side3 => repeat (first | exact (Kd.R_reads' HO_11.out).2.2 | (with_reducible refine Kd.C_alloc ?_ _) | (with_reducible refine Kd.C_drewN ?_ _) | (with_reducible refine Kd.C_drew ?_))); (case side4 => exact (Kd.R_reads' HO_11.out).2.1); rintro e w88 ⟨rfl, hb⟩; refine ⟨_, rfl, ?_⟩; replace HO_11 := Aside0.mk (Kd.R_below (bR HO_11) hb); replace HO_12 := Aside0.mk (Kd.R_below (bR HO_12) hb); replace BK149 := nb BK149 hb; replace BK152 := nb BK152 hb; replace BK153 := nb BK153 hb; replace HB := hs HB hb; (try clear hb); (try clear hb2); (try clear hk); (try clear hi); have hnb89 := NB153_149.out; have hnc89 := NB149_153.out; obtain ⟨hcz90_0, hcz90_1, hcz90_2, hfz90_0, hfz90_1, hfz90_2⟩ := b3 (w := w88) BK153))
          go_ret
          exact ⟨by first | rfl | (simp [errW_none, errW_some] <;> rfl) | (simp [*, errW_none, errW_some] <;> rfl), bl⟩
    ·rw [if_neg c8] at H
     exact absurd H (by simp)
   ·rw [if_neg c7] at H
    exact absurd H (by simp)
  ·rw [if_neg c6] at H
   exact absurd H (by simp)
 ·rw [if_neg c5] at H
  exact absurd H (by simp)
def skewbaldref01_spots.l0 : Nat → Int → Int → List Int → Int → List (S48) → List (S50) → Option (List Int)
 | 0, _, _, _, _, _, _ => none
 | k + 1, x1, x2, x7, x8, x175000, x175001 => (skewbaldref01_lies.f x175000 x175001 x1 x2 x8).bind fun t178 => (if t178 = true then ((skewbaldref01_can.f k x175000 x175001 x1 x2 x8).bind fun t179 => (if t179 = 2 then (if x7.length < 17592186044416 then (skewbaldref01_spots.l0 k x1 x2 (x7 ++ [x8]) (wrap64 (x8 + 1)) x175000 x175001) else (none)) else (skewbaldref01_spots.l0 k x1 x2 x7 (wrap64 (x8 + 1)) x175000 x175001))) else (some x7))
def skewbaldref01_spots.f (k : Nat) (l0_0 : List (S48)) (l0_1 : List (S50)) (a1 : Int) (a2 : Int) : Option (List Int) := skewbaldref01_spots.l0 k a1 a2 (([] : List Int)) 0 l0_0 l0_1
set_option maxHeartbeats 8000000 in
set_option maxRecDepth 100000 in
theorem skewbaldref01_spots.calls (k : Nat) (A0_0 : Option Addr) (c0_0 : Nat) (l0_0 : List (S48)) (A0_1 : Option Addr) (c0_1 : Nat) (l0_1 : List (S50)) (a1 : Int) (a2 : Int) (r : List Int) (w : World) (hr0_0 : Kd.C k48 w A0_0 l0_0.length l0_0) (hc0_0 : l0_0.length ≤ c0_0) (hr0_1 : Kd.C k50 w A0_1 l0_1.length l0_1) (hc0_1 : l0_1.length ≤ c0_1) (h : skewbaldref01_spots.f k l0_0 l0_1 a1 a2 = some r) :
  Calls Tryd.prog 75 #[.agg #[.slice A0_0 l0_0.length c0_0, .slice A0_1 l0_1.length c0_1], .int .i64 a1, .int .i64 a2] w fun e w' => ∃ v0_ : Value, e = .returned (v0_) ∧ Kd.R (Kd.int .i64) 3 w' w.heap.size (fun _ => True) v0_ r ∧ Below w.heap.size w w' := by
 have hu25 := Tryd.underlying25; have HR0_0 := Aside0.mk hr0_0; have HC0_0 := Aside0.mk hc0_0; clear hr0_0 hc0_0; have HR0_1 := Aside0.mk hr0_1; have HC0_1 := Aside0.mk hc0_1; clear hr0_1 hc0_1; have HB := Aside0.mk (Below.refl w.heap.size w)
 have H : (skewbaldref01_spots.l0 k a1 a2 (([] : List Int)) 0 l0_0 l0_1) = some r := h
 clear h
 obtain ⟨y175, hy175⟩ : ∃ y_ : List Int, y_ = (([] : List Int)) := ⟨_, rfl⟩
 replace H : (skewbaldref01_spots.l0 k a1 a2 y175 0 l0_0 l0_1) = some r := tr H hy175
 have Ny175 := Aside0.mk hy175; clear hy175; have H' := Aside0.mk H; clear H
 go_enter Tryd.func75, Tryd.ntmps75
 go_wp2_with (first | (refine bx 3 #[.slice A0_0 l0_0.length c0_0, .slice A0_1 l0_1.length c0_1] 25 ?_; intro gb174 hg w4 hbox hb; have BK174 := Aside0.mk hbox; have GW174 := gw hg HB; have GE174 := gw hg HB; replace HB := hs HB hb; clear hb hbox hg) | ((with_reducible refine gate_dst (N := 9) rfl ?_); refine Kd.R_lit (Kd.int .i64) _ 3 ?hg (N := 9) ?hd (xs := ([] : List Int)) (inner := []) (ok := fun _ => True) (okp := fun _ => True) ?hr ?hp (fun _ hk => hk) trivial (Below.refl _ _) (Nat.le_refl _) (by simp) ?_; (case hd => rfl); (case hg => rfl); (case hr => first | (go_simp; done) | (go_simp; rfl)); (case hp => exact (Reps.none _ _)); intro v176 w5 ho6 hb hg_ hnew_; clear hg_ hnew_; (first | rw [← Ny175.out] at ho6 | (simp only [Int.reduceToNat] at ho6; rw [← Ny175.out] at ho6)); have HO177 := Aside0.mk (Kd.R_lower ho6 (below_size bl)); replace BK174 := nb BK174 hb; replace HB := hs HB hb; clear hb ho6))
 go_loopg [7, 8] k (fun kq v7 v8 w' => ∃ (x7_1 : List Int) (x8_1 : Int), v8 = .int .i64 x8_1 ∧ Aside0 (skewbaldref01_spots.l0 kq a1 a2 x7_1 x8_1 l0_0 l0_1 = some r) ∧ Aside0 (kq ≤ k) ∧ Aside0 (Kd.R (Kd.int .i64) 3 w' w.heap.size (fun _ => True) v7 x7_1) ∧ Aside0 (w'.heap[gb174]? = some (.cells #[(.slice A0_0 l0_0.length c0_0), (.slice A0_1 l0_1.length c0_1)] 25 (0, 0))) ∧ Aside0 (Below w.heap.size w w'))
 case atStart => exact ⟨(y175), (0), sm, H', ⟨Nat.le_refl _⟩, ⟨bR HO177⟩, ⟨bk⟩, ⟨bl⟩⟩
 case round =>
  clear H'; (try clear p2); obtain ⟨x7_1, x8_1, rfl, HA, HK1, HO_7, BK174, HB⟩ := hrel
  cases gk with
  | zero => exact absurd HA.out (by simp [skewbaldref01_spots.l0])
  | succ k1 =>
   have H := HA.out; clear HA
   simp only [skewbaldref01_spots.l0] at H
   obtain ⟨t178, A7, H⟩ := ob H
   by_cases c8 : t178 = true
   ·subst c8; rw [if_pos rfl] at H; obtain ⟨t179, A9, H⟩ := ob H
    by_cases c10 : t179 = 2
    ·rw [if_pos c10] at H
     have c10b0 : (t179 == 2) = true := beq_iff_eq.mpr c10
     have c10b1 : (t179 != 2) = false := bne_eq_false_iff_eq.mpr c10
     clear c10
     by_cases c11 : x7_1.length < 17592186044416
     ·rw [if_pos c11] at H; have LMc11 := Aside0.mk c11; clear c11
      obtain ⟨y180, hy180⟩ : ∃ y_ : List Int, y_ = (x7_1 ++ [x8_1]) := ⟨_, rfl⟩
      replace H : (skewbaldref01_spots.l0 k1 a1 a2 y180 (wrap64 (x8_1 + 1)) l0_0 l0_1) = some r := tr H hy180
      have Ny180 := Aside0.mk hy180; clear hy180; have H' := Aside0.mk H; clear H; obtain ⟨hcz12_0, hcz12_1, hfz12_0, hfz12_1⟩ := b2 (w := wr) BK174
      go_wp2_with (first | ((with_reducible refine gate_callee (f := 68) rfl ?_); refine gl (some 14) Tryd.func68 #[.agg #[.slice A0_0 l0_0.length c0_0, .slice A0_1 l0_1.length c0_1], .int .i64 a1, .int .i64 a2, .int .i64 x8_1] ?_; (with_reducible refine (skewbaldref01_lies.calls _ _ l0_0 _ _ l0_1 a1 a2 x8_1 true _ cl HC0_0.out cl HC0_1.out A7.out).mono ?_); rintro e w13 ⟨rfl, hb⟩; refine ⟨_, rfl, ?_⟩; replace HO_7 := Aside0.mk (Kd.R_below (bR HO_7) hb); replace BK174 := nb BK174 hb; replace HB := hs HB hb; (try clear hb); (try clear hb2); (try clear hk); (try clear hi); obtain ⟨hcz14_0, hcz14_1, hfz14_0, hfz14_1⟩ := b2 (w := w13) BK174) | ((with_reducible refine gate_callee (f := 69) rfl ?_); refine gl (some 21) Tryd.func69 #[.agg #[.slice A0_0 l0_0.length c0_0, .slice A0_1 l0_1.length c0_1], .int .i64 a1, .int .i64 a2, .int .i64 x8_1] ?_; (with_reducible refine (skewbaldref01_can.calls k1 _ _ l0_0 _ _ l0_1 a1 a2 x8_1 t179 _ cl HC0_0.out cl HC0_1.out A9.out).mono ?_); rintro e w15 ⟨rfl, hb⟩; refine ⟨_, rfl, ?_⟩; replace HO_7 := Aside0.mk (Kd.R_below (bR HO_7) hb); replace BK174 := nb BK174 hb; replace HB := hs HB hb; (try clear hb); (try clear hb2); (try clear hk); (try clear hi)) | ((with_reducible refine gate_builtin (b := .append) (xs := #[.tmp 23, .tmp 25]) rfl ?_); at_builtin; refine Kd.R_append (Kd.int .i64) (w0 := w) w.heap.size rfl (.tmp 23) (.tmp 25) 31 3 (.int .i64 0) 8 rfl Tryd.underlying31 info3 rfl (by decide) (by omega) u7 x7_1 x8_1 [.int .i64 x8_1] (fun _ => True) (fun _ => False) rfl rfl ?aP (fun _ hk => hk.elim) ?aF ?aO ?aB ?aS ?aL ?_; (case aP => exact rfl); (case aB => exact bl); (case aF => exact (fun _ _ => trivial)); (case aO => exact (bR HO_7)); (case aS => exact (below_size bl)); (case aL => have := LMc11.out; omega); intro v181 w16 ho hb hg hat; rw [← Ny180.out] at ho; replace BK174 := Aside0.mk (blk_grown (g := gb174) (o := .cells #[.slice A0_0 l0_0.length c0_0, .slice A0_1 l0_1.length c0_1] 25 (0, 0)) bk hg (Kd.R_ne HO_7.out BK174.out (by decide))); replace HB := Aside0.mk hb; have HO182 := Aside0.mk ho; clear HO_7; clear ho hb hg hat))
      go_roundg k1
      case measure => have := HK1.out; omega
      case rel => exact ⟨(y180), (wrap64 (x8_1 + 1)), sm, H', ⟨lo HK1⟩, ⟨bR HO182⟩, ⟨bk⟩, ⟨bl⟩⟩
     ·rw [if_neg c11] at H
      exact absurd H (by simp)
    ·rw [if_neg c10] at H
     have c10b0 : (t179 == 2) = false := beq_eq_false_iff_ne.mpr c10
     have c10b1 : (t179 != 2) = true := bne_iff_ne.mpr c10
     have H' := Aside0.mk H; clear H; obtain ⟨hcz17_0, hcz17_1, hfz17_0, hfz17_1⟩ := b2 (w := wr) BK174
     go_wp2_with (first | ((with_reducible refine gate_callee (f := 68) rfl ?_); refine gl (some 14) Tryd.func68 #[.agg #[.slice A0_0 l0_0.length c0_0, .slice A0_1 l0_1.length c0_1], .int .i64 a1, .int .i64 a2, .int .i64 x8_1] ?_; (with_reducible refine (skewbaldref01_lies.calls _ _ l0_0 _ _ l0_1 a1 a2 x8_1 true _ cl HC0_0.out cl HC0_1.out A7.out).mono ?_); rintro e w18 ⟨rfl, hb⟩; refine ⟨_, rfl, ?_⟩; replace HO_7 := Aside0.mk (Kd.R_below (bR HO_7) hb); replace BK174 := nb BK174 hb; replace HB := hs HB hb; (try clear hb); (try clear hb2); (try clear hk); (try clear hi); obtain ⟨hcz19_0, hcz19_1, hfz19_0, hfz19_1⟩ := b2 (w := w18) BK174) | ((with_reducible refine gate_callee (f := 69) rfl ?_); refine gl (some 21) Tryd.func69 #[.agg #[.slice A0_0 l0_0.length c0_0, .slice A0_1 l0_1.length c0_1], .int .i64 a1, .int .i64 a2, .int .i64 x8_1] ?_; (with_reducible refine (skewbaldref01_can.calls k1 _ _ l0_0 _ _ l0_1 a1 a2 x8_1 t179 _ cl HC0_0.out cl HC0_1.out A9.out).mono ?_); rintro e w20 ⟨rfl, hb⟩; refine ⟨_, rfl, ?_⟩; replace HO_7 := Aside0.mk (Kd.R_below (bR HO_7) hb); replace BK174 := nb BK174 hb; replace HB := hs HB hb; (try clear hb); (try clear hb2); (try clear hk); (try clear hi)))
     go_roundg k1
     case measure => have := HK1.out; omega
     case rel => exact ⟨(x7_1), (wrap64 (x8_1 + 1)), sm, H', ⟨lo HK1⟩, ⟨bR HO_7⟩, ⟨bk⟩, ⟨bl⟩⟩
   ·replace c8 := Bool.eq_false_iff.mpr c8; subst c8
    rw [if_neg (show ¬ (false = true) by decide)] at H
    obtain rfl := Option.some.inj H; obtain ⟨hcz21_0, hcz21_1, hfz21_0, hfz21_1⟩ := b2 (w := wr) BK174
    go_wp2_with (first | ((with_reducible refine gate_callee (f := 68) rfl ?_); refine gl (some 14) Tryd.func68 #[.agg #[.slice A0_0 l0_0.length c0_0, .slice A0_1 l0_1.length c0_1], .int .i64 a1, .int .i64 a2, .int .i64 x8_1] ?_; (with_reducible refine (skewbaldref01_lies.calls _ _ l0_0 _ _ l0_1 a1 a2 x8_1 false _ cl HC0_0.out cl HC0_1.out A7.out).mono ?_); rintro e w22 ⟨rfl, hb⟩; refine ⟨_, rfl, ?_⟩; replace HO_7 := Aside0.mk (Kd.R_below (bR HO_7) hb); replace BK174 := nb BK174 hb; replace HB := hs HB hb; (try clear hb); (try clear hb2); (try clear hk); (try clear hi)))
    go_ret
    exact ⟨_, by first | rfl | (simp [errW_none, errW_some] <;> rfl) | (simp [*, errW_none, errW_some] <;> rfl), by (with_reducible repeat (first | apply Kd.R_alloc | apply Kd.R_drewN | apply Kd.R_drew)); exact HO_7.out, bl⟩
def skewbaldref01_Spots.T1 : Bool × List (List Nat × List Nat) := (true, [([], []), ([], []), ([], []), ([1, 2], [1, 2]), ([3, 3], [3]), ([4], [4]), ([4], [4]), ([5, 6, 4, 4], [4, 5, 6]), ([4, 7], [4, 7]), ([0, 8, 7], [0, 8]), ([9, 9, 0, 1, 2, 3, 4, 5, 6, 7, 8, 9], [9])])
def skewbaldref01_Spots.B1 : List Nat := [0, 0, 0, 6, 14, 30, 30, 126, 254, 511, 1023]
theorem skewbaldref01_Spots.tab1 : rtab .any (opsOf Tryd.f21 1) = skewbaldref01_Spots.T1 := by kernel_rfl
theorem skewbaldref01_Spots.bits1 : waitsOk skewbaldref01_Spots.T1.2 skewbaldref01_Spots.B1 = true := by kernel_rfl
mutual
def skewbaldref01_ends.l0 : Nat → Int → List Int → Int → List (S48) → List (S50) → Option (List Int)
 | 0, _, _, _, _, _ => none
 | k + 1, x1, x5, x6, x227000, x227001 => if x6 < (x5.length : Int) then (if 0 ≤ x6 then (skewbaldref01_ends.l1 k x1 (x5.set (x6 : Int).toNat 99) x6 0 x227000 x227001) else (none)) else (some x5)
def skewbaldref01_ends.l1 : Nat → Int → List Int → Int → Int → List (S48) → List (S50) → Option (List Int)
 | 0, _, _, _, _, _, _ => none
 | k + 1, x1, x5, x6, x7, x227000, x227001 => if x7 < (x227001.length : Int) then ((skewbaldref00_Of.f x6 x7).bind fun t231 => (if t231 = true then (if 0 ≤ x7 then (if 0 ≤ (wrap64 (x6 - (shl .i64 1 x7))) then (if (wrap64 (x6 - (shl .i64 1 x7))) < (x5.length : Int) then ((skewbaldref01_spots.f k x227000 x227001 x1 x7).bind fun t233 => (skewbaldref01_ends.l2 k x1 x5 x6 x7 (rd x5 (wrap64 (x6 - (shl .i64 1 x7)))) t233 0 x227000 x227001)) else (none)) else (none)) else (none)) else (skewbaldref01_ends.l1 k x1 x5 x6 (wrap64 (x7 + 1)) x227000 x227001))) else (skewbaldref01_ends.l0 k x1 x5 (wrap64 (x6 + 1)) x227000 x227001)
def skewbaldref01_ends.l2 : Nat → Int → List Int → Int → Int → Int → List Int → Int → List (S48) → List (S50) → Option (List Int)
 | 0, _, _, _, _, _, _, _, _, _ => none
 | k + 1, x1, x5, x6, x7, x8, x9, x10, x227000, x227001 => if x10 < (x9.length : Int) then (if 0 ≤ x10 then (if (rd x9 x10) ≥ x8 then (if 0 ≤ x6 then (if x6 < (x5.length : Int) then (if 0 ≤ x7 then (if x7 < (x227001.length : Int) then (skewbaldref01_ends.l2 k x1 (x5.set (x6 : Int).toNat (mn (rd x5 x6) (wrap64 ((rd x9 x10) + ((rd_T50 x227001 x7).f0))))) x6 x7 x8 x9 (wrap64 (x10 + 1)) x227000 x227001) else (none)) else (none)) else (none)) else (none)) else (skewbaldref01_ends.l2 k x1 x5 x6 x7 x8 x9 (wrap64 (x10 + 1)) x227000 x227001)) else (none)) else (skewbaldref01_ends.l1 k x1 x5 x6 (wrap64 (x7 + 1)) x227000 x227001)
end
def skewbaldref01_ends.f (k : Nat) (l0_0 : List (S48)) (l0_1 : List (S50)) (a1 : Int) : Option (List Int) := if 0 ≤ (shl .i64 1 (l0_1.length : Int)) then (if (shl .i64 1 (l0_1.length : Int) : Int).toNat ≤ 35184372088832 then (skewbaldref01_ends.l0 k a1 (List.replicate (shl .i64 1 (l0_1.length : Int) : Int).toNat 0) 1 l0_0 l0_1) else (none)) else (none)
def skewbaldref01_ends.T10 : Bool × List (List Nat × List Nat) := (true, [([], []), ([], []), ([], []), ([2], [2]), ([1, 3], [1, 3]), ([0, 4], [0, 4]), ([5], [5]), ([], []), ([], []), ([], []), ([7, 8, 9], [7, 8, 9]), ([6, 10, 0, 1, 2, 3, 4, 5, 6], [6]), ([10, 11, 0, 1, 2, 3, 4, 5, 6, 7, 8, 9, 10, 11], [10])])
def skewbaldref01_ends.B10 : List Nat := [0, 0, 0, 4, 14, 31, 63, 0, 0, 0, 896, 2047, 4095]
theorem skewbaldref01_ends.tab10 : rtab .any (opsOf Tryd.f77 10) = skewbaldref01_ends.T10 := by kernel_rfl
theorem skewbaldref01_ends.bits10 : waitsOk skewbaldref01_ends.T10.2 skewbaldref01_ends.B10 = true := by kernel_rfl
def skewbaldref01_ends.T15 : Bool × List (List Nat × List Nat) := (true, [([], []), ([], []), ([], []), ([], []), ([2, 3], [2, 3]), ([4], [4]), ([], []), ([], []), ([6, 7], [6, 7]), ([8], [8]), ([], []), ([10], [10]), ([], []), ([11, 12], [11, 12]), ([13], [13]), ([14], [14]), ([9, 15], [9, 15]), ([5, 16], [5, 16]), ([0, 1, 0, 1, 2, 3, 4, 5, 6, 7, 8, 9, 10, 11, 12, 13, 14, 15, 16, 17], [0, 1]), ([18, 17, 0, 1, 2, 3, 4, 5, 6, 7, 8, 9, 10, 11, 12, 13, 14, 15, 16, 17], [17, 18])])
def skewbaldref01_ends.B15 : List Nat := [0, 0, 0, 0, 12, 28, 0, 0, 192, 448, 0, 1024, 0, 7168, 15360, 31744, 65472, 131068, 262143, 524287]
theorem skewbaldref01_ends.tab15 : rtab .any (opsOf Tryd.f77 15) = skewbaldref01_ends.T15 := by kernel_rfl
theorem skewbaldref01_ends.bits15 : waitsOk skewbaldref01_ends.T15.2 skewbaldref01_ends.B15 = true := by kernel_rfl
set_option maxHeartbeats 8000000 in
set_option maxRecDepth 100000 in
theorem skewbaldref01_ends.calls (k : Nat) (A0_0 : Option Addr) (c0_0 : Nat) (l0_0 : List (S48)) (A0_1 : Option Addr) (c0_1 : Nat) (l0_1 : List (S50)) (a1 : Int) (r : List Int) (w : World) (hr0_0 : Kd.C k48 w A0_0 l0_0.length l0_0) (hc0_0 : l0_0.length ≤ c0_0) (hr0_1 : Kd.C k50 w A0_1 l0_1.length l0_1) (hc0_1 : l0_1.length ≤ c0_1) (h : skewbaldref01_ends.f k l0_0 l0_1 a1 = some r) :
  Calls Tryd.prog 77 #[.agg #[.slice A0_0 l0_0.length c0_0, .slice A0_1 l0_1.length c0_1], .int .i64 a1] w fun e w' => ∃ v0_ : Value, e = .returned (v0_) ∧ Kd.R (Kd.int .i64) 3 w' w.heap.size (fun _ => True) v0_ r ∧ Below w.heap.size w w' := by
 have hu25 := Tryd.underlying25; have HR0_0 := Aside0.mk hr0_0; have HC0_0 := Aside0.mk hc0_0; clear hr0_0 hc0_0; have HR0_1 := Aside0.mk hr0_1; have HC0_1 := Aside0.mk hc0_1; clear hr0_1 hc0_1; have HB := Aside0.mk (Below.refl w.heap.size w)
 have H : (if 0 ≤ (shl .i64 1 (l0_1.length : Int)) then (if (shl .i64 1 (l0_1.length : Int) : Int).toNat ≤ 35184372088832 then (skewbaldref01_ends.l0 k a1 (List.replicate (shl .i64 1 (l0_1.length : Int) : Int).toNat 0) 1 l0_0 l0_1) else (none)) else (none)) = some r := h
 clear h
 obtain ⟨ji3, hji3⟩ : ∃ j_ : Int, (shl .i64 1 (l0_1.length : Int)) = j_ := ⟨_, rfl⟩
 replace H : (if 0 ≤ (ji3) then (if (ji3 : Int).toNat ≤ 35184372088832 then (skewbaldref01_ends.l0 k a1 (List.replicate (ji3 : Int).toNat 0) 1 l0_0 l0_1) else (none)) else (none)) = some r := by first | (rw [hji3] at H; exact H) | (simp only [hji3] at H ⊢; exact H)
 have hji3_ : (IntKind.i64.wrap (1 * 2 ^ min (l0_1.length : Int).toNat 64)) = ji3 := hji3
 have hji3z : (l0_1.length : Int) ≤ 64 → (IntKind.i64.wrap (1 * 2 ^ (l0_1.length : Int).toNat)) = ji3 := shl_small hji3
 have hji3p : (IntKind.i64.wrap (1 * 2 ^ min l0_1.length 64)) = ji3 := hji3_
 have hji3q : (l0_1.length : Int) ≤ 64 → (IntKind.i64.wrap (1 * 2 ^ l0_1.length)) = ji3 := hji3z
 have hji3r : (IntKind.i64.wrap (2 ^ min l0_1.length 64)) = ji3 := by have h_ := hji3p; rw [Int.one_mul] at h_; exact h_
 have hji3s : (l0_1.length : Int) ≤ 64 → (IntKind.i64.wrap (2 ^ l0_1.length)) = ji3 := fun hle_ => by have h_ := hji3q hle_; rw [Int.one_mul] at h_; exact h_
 have hji3u : (IntKind.i64.wrap (2 ^ min (l0_1.length : Int).toNat 64)) = ji3 := by have h_ := hji3_; rw [Int.one_mul] at h_; exact h_
 have hji3v : (l0_1.length : Int) ≤ 64 → (IntKind.i64.wrap (2 ^ (l0_1.length : Int).toNat)) = ji3 := fun hle_ => by have h_ := hji3z hle_; rw [Int.one_mul] at h_; exact h_
 have hji3y : (wrap64 (1 * 2 ^ min (l0_1.length : Int).toNat 64)) = ji3 := (i64_w _).symm.trans hji3_
 have hji3x : (l0_1.length : Int) ≤ 64 → (wrap64 (1 * 2 ^ (l0_1.length : Int).toNat)) = ji3 := fun h_ => (i64_w _).symm.trans (hji3z h_)
 have hji3A : (wrap64 (2 ^ min (l0_1.length : Int).toNat 64)) = ji3 := (i64_w _).symm.trans hji3u
 have hji3B : (l0_1.length : Int) ≤ 64 → (wrap64 (2 ^ (l0_1.length : Int).toNat)) = ji3 := fun h_ => (i64_w _).symm.trans (hji3v h_)
 have hji3C : (wrap64 (2 ^ min l0_1.length 64)) = ji3 := (i64_w _).symm.trans hji3r
 have hji3D : (l0_1.length : Int) ≤ 64 → (wrap64 (2 ^ l0_1.length)) = ji3 := fun h_ => (i64_w _).symm.trans (hji3s h_)
 by_cases c4 : 0 ≤ (ji3)
 ·rw [if_pos c4] at H; have c4b0 := eq_true c4; have c4b1 := decide_eq_true c4; clear c4
  by_cases c5 : (ji3 : Int).toNat ≤ 35184372088832
  ·rw [if_pos c5] at H; have c5b0 := eq_true c5; have c5b1 := decide_eq_true c5; clear c5
   obtain ⟨y227, hy227⟩ : ∃ y_ : List Int, y_ = (List.replicate (ji3 : Int).toNat 0) := ⟨_, rfl⟩
   replace H : (skewbaldref01_ends.l0 k a1 y227 1 l0_0 l0_1) = some r := tr H hy227
   have Ny227 := Aside0.mk hy227; clear hy227; have H' := Aside0.mk H; clear H
   go_enter Tryd.func77, Tryd.ntmps77
   go_wp2_with (first | (refine bx 2 #[.slice A0_0 l0_0.length c0_0, .slice A0_1 l0_1.length c0_1] 25 ?_; intro gb226 hg w6 hbox hb; have BK226 := Aside0.mk hbox; have GW226 := gw hg HB; have GE226 := gw hg HB; replace HB := hs HB hb; clear hb hbox hg; obtain ⟨hcz7_0, hcz7_1, hfz7_0, hfz7_1⟩ := b2 (w := w6) BK226) | ((with_reducible refine gate_dst (N := 15) rfl ?_); refine Kd.R_make (Kd.int .i64) _ 3 rfl (N := 15) rfl 31 _ _ rfl ji3 rfl rfl Tryd.underlying31 (.int .i64 0) 8 info3 rfl (by decide) (by omega) 0 (ok := fun _ => True) (okp := fun _ => True) rfl (fun _ hk => hk) trivial od (Nat.le_trans (Nat.mul_le_mul_right _ (od : ji3.toNat ≤ 35184372088832)) (by omega)) (Below.refl _ _) (Nat.le_refl _) ?_; intro v228 w8 ho9 hb hg_ hnew_; clear hg_ hnew_; (first | rw [← Ny227.out] at ho9 | (simp only [Int.reduceToNat] at ho9; rw [← Ny227.out] at ho9)); have HO229 := Aside0.mk (Kd.R_lower ho9 (below_size bl)); replace BK226 := nb BK226 hb; replace HB := hs HB hb; clear hb ho9))
   go_loopg [6] k (fun kq v6 w' => ∃ (x5_1 : List Int) (x6_1 : Int), v6 = .int .i64 x6_1 ∧ Aside0 (skewbaldref01_ends.l0 kq a1 x5_1 x6_1 l0_0 l0_1 = some r) ∧ Aside0 (kq ≤ k) ∧ Aside0 (Kd.R (Kd.int .i64) 3 w' w.heap.size (fun _ => True) v228 x5_1) ∧ Aside0 (w'.heap[gb226]? = some (.cells #[(.slice A0_0 l0_0.length c0_0), (.slice A0_1 l0_1.length c0_1)] 25 (0, 0))) ∧ Aside0 (Below w.heap.size w w'))
   case atStart => exact ⟨(y227), (1), sm, H', ⟨Nat.le_refl _⟩, ⟨bR HO229⟩, ⟨bk⟩, ⟨bl⟩⟩
   case round =>
    clear H'; (try clear p2); (try clear c4); (try clear c4b0); (try clear c4b1); (try clear c5); (try clear c5b0); (try clear c5b1); (try clear p6); (try clear c7); (try clear hcz7_0); (try clear hcz7_1); (try clear hfz7_0); (try clear hfz7_1); obtain ⟨x5_1, x6_1, rfl, HA, HK1, HO_5, BK226, HB⟩ := hrel
    cases gk with
    | zero => exact absurd HA.out (by simp [skewbaldref01_ends.l0])
    | succ k1 =>
     have H := HA.out; clear HA
     simp only [skewbaldref01_ends.l0] at H
     by_cases c10 : x6_1 < (x5_1.length : Int)
     ·rw [if_pos c10] at H; have c10b0 := decide_eq_true c10; clear c10
      by_cases c11 : 0 ≤ x6_1
      ·rw [if_pos c11] at H; have c11b0 := decide_eq_true c11; clear c11
       obtain ⟨y230, hy230⟩ : ∃ y_ : List Int, y_ = (x5_1.set (x6_1 : Int).toNat 99) := ⟨_, rfl⟩
       replace H : (skewbaldref01_ends.l1 k1 a1 y230 x6_1 0 l0_0 l0_1) = some r := tr H hy230
       have Ny230 := Aside0.mk hy230; clear hy230; have H' := Aside0.mk H; clear H; obtain ⟨Ao13, co13, eo13⟩ := Kd.R_slice HO_5.out; subst eo13
       have p12 : 0 ≤ (x6_1 : Int) := od
       have q12 : (x6_1 : Int) < ((x5_1.length : Int) : Int) := od
       obtain ⟨go12, co12, eo12, gb12, gl12, cl12, HG12⟩ := Kd.R_form HO_5.out (by omega)
       (first | cases eo12 | (injection eo12 with ea_ en_ ec_; (first | subst ea_ | (injection ea_ with ea_; subst ea_)); subst ec_; clear en_))
       have GB12 := Aside0.mk gb12; have GG12 := Aside0.mk HG12; clear gb12 gl12 HG12; obtain ⟨hx12_0, hf12_0⟩ := Kd.R_celln 0 HO_5.out (x6_1 : Int) p12 q12; replace p12 := eq_true p12; replace q12 := eq_true q12; have HP14 := Kd.R_putg HO_5.out (x6_1 : Int) 99
       go_wp2_with (first | ((with_reducible refine gate_store (t := 3) (p := 24) rfl ?_); refine store_event (t := 3) (p := 24) (v := ?vo_w15) (w1 := (wr.setCell ⟨go12, (x6_1 : Int).toNat, none⟩ (.int .i64 99))) ?hg ?ho ?hn ?hr ?_; (case ho => rfl); (case hg => rfl); (case hn => rfl); (case hr => first | (go_simp; done) | (go_simp; rfl)); intro w15 hw; have hg : wr.grownBy w15 (some go12) := (by rw [hw]; exact HP14.2); have hp_ : Kd.R (Kd.int .i64) 3 w15 w.heap.size (fun _ => True) (.slice (some ⟨go12, 0, none⟩) x5_1.length co13) y230 := (by rw [hw, Ny230.out]; exact HP14.1); clear HP14; replace BK226 := Aside0.mk (blk_grown (g := gb226) (o := .cells #[.slice A0_0 l0_0.length c0_0, .slice A0_1 l0_1.length c0_1] 25 (0, 0)) bk hg (Kd.R_ne HO_5.out BK226.out (by decide))); replace HO_5 := Aside0.mk hp_; replace HB := Aside0.mk ((by rw [hw]; exact below_set (HB.out) GB12.out : Below w.heap.size w w15)); clear hg hw hp_))
       go_loopg [7] k1 (fun kq v7 w' => ∃ (x5_2 : List Int) (x7_2 : Int), v7 = .int .i64 x7_2 ∧ Aside0 (skewbaldref01_ends.l1 kq a1 x5_2 x6_1 x7_2 l0_0 l0_1 = some r) ∧ Aside0 (kq ≤ k1) ∧ Aside0 (Kd.R (Kd.int .i64) 3 w' w.heap.size (fun _ => True) (.slice (some ⟨go12, 0, none⟩) x5_1.length co13) x5_2) ∧ Aside0 (w'.heap[gb226]? = some (.cells #[(.slice A0_0 l0_0.length c0_0), (.slice A0_1 l0_1.length c0_1)] 25 (0, 0))) ∧ Aside0 (Below w.heap.size w w'))
       case atStart => exact ⟨(y230), (0), sm, H', ⟨Nat.le_refl _⟩, ⟨bR HO_5⟩, ⟨bk⟩, ⟨bl⟩⟩
       case round =>
        clear H'; (try clear c1); (try clear p1); (try clear q1); (try clear hx1); (try clear p2); (try clear c4); (try clear c4b0); (try clear c4b1); (try clear c5); (try clear c5b0); (try clear c5b1); (try clear p6); (try clear c7); (try clear c10); (try clear c10b0); (try clear c11); (try clear c11b0); (try clear p12); (try clear q12); (try clear hx12); (try clear hf12); (try clear hcz7_0); (try clear hcz7_1); (try clear hfz7_0); (try clear hfz7_1); (try clear hx12_0); obtain ⟨x5_2, x7_2, rfl, HA, HK2, HO_5, BK226, HB⟩ := hrel; have hl5_2 := (Kd.R_reads' HO_5.out).1; rw [hl5_2] at HO_5
        (try simp only [hl5_2])
        (try simp only [hl5_2] at BK226)
        cases gk with
        | zero => exact absurd HA.out (by simp [skewbaldref01_ends.l1])
        | succ k2 =>
         have H := HA.out; clear HA
         simp only [skewbaldref01_ends.l1] at H
         by_cases c16 : x7_2 < (l0_1.length : Int)
         ·rw [if_pos c16] at H; have c16b0 := decide_eq_true c16; clear c16; obtain ⟨t231, A17, H⟩ := ob H
          by_cases c18 : t231 = true
          ·subst c18; rw [if_pos rfl] at H
           by_cases c19 : 0 ≤ x7_2
           ·rw [if_pos c19] at H; have c19b0 := eq_true c19; have c19b1 := decide_eq_true c19; clear c19
            obtain ⟨ji20, hji20⟩ : ∃ j_ : Int, (shl .i64 1 x7_2) = j_ := ⟨_, rfl⟩
            replace H : (if 0 ≤ (wrap64 (x6_1 - (ji20))) then (if (wrap64 (x6_1 - (ji20))) < (x5_2.length : Int) then ((skewbaldref01_spots.f k2 l0_0 l0_1 a1 x7_2).bind fun t233 => (skewbaldref01_ends.l2 k2 a1 x5_2 x6_1 x7_2 (rd x5_2 (wrap64 (x6_1 - (ji20)))) t233 0 l0_0 l0_1)) else (none)) else (none)) = some r := by first | (rw [hji20] at H; exact H) | (simp only [hji20] at H ⊢; exact H)
            (try rw [hji20] at A17)
            have hji20_ : (IntKind.i64.wrap (1 * 2 ^ min x7_2.toNat 64)) = ji20 := hji20
            have hji20z : x7_2 ≤ 64 → (IntKind.i64.wrap (1 * 2 ^ x7_2.toNat)) = ji20 := shl_small hji20
            have hji20u : (IntKind.i64.wrap (2 ^ min x7_2.toNat 64)) = ji20 := by have h_ := hji20_; rw [Int.one_mul] at h_; exact h_
            have hji20v : x7_2 ≤ 64 → (IntKind.i64.wrap (2 ^ x7_2.toNat)) = ji20 := fun hle_ => by have h_ := hji20z hle_; rw [Int.one_mul] at h_; exact h_
            have hji20y : (wrap64 (1 * 2 ^ min x7_2.toNat 64)) = ji20 := (i64_w _).symm.trans hji20_
            have hji20x : x7_2 ≤ 64 → (wrap64 (1 * 2 ^ x7_2.toNat)) = ji20 := fun h_ => (i64_w _).symm.trans (hji20z h_)
            have hji20A : (wrap64 (2 ^ min x7_2.toNat 64)) = ji20 := (i64_w _).symm.trans hji20u
            have hji20B : x7_2 ≤ 64 → (wrap64 (2 ^ x7_2.toNat)) = ji20 := fun h_ => (i64_w _).symm.trans (hji20v h_)
            obtain ⟨ji21, hji21⟩ : ∃ j_ : Int, (wrap64 (x6_1 - (ji20))) = j_ := ⟨_, rfl⟩
            replace H : (if 0 ≤ (ji21) then (if (ji21) < (x5_2.length : Int) then ((skewbaldref01_spots.f k2 l0_0 l0_1 a1 x7_2).bind fun t233 => (skewbaldref01_ends.l2 k2 a1 x5_2 x6_1 x7_2 (rd x5_2 (ji21)) t233 0 l0_0 l0_1)) else (none)) else (none)) = some r := by first | (rw [hji21] at H; exact H) | (simp only [hji21] at H ⊢; exact H)
            (try rw [hji21] at A17)
            have hji21w : (IntKind.i64.wrap (x6_1 - (ji20))) = ji21 := (i64_w _).trans hji21
            by_cases c22 : 0 ≤ (ji21)
            ·rw [if_pos c22] at H; have c22b0 := decide_eq_true c22; clear c22
             by_cases c23 : (ji21) < (x5_2.length : Int)
             ·rw [if_pos c23] at H; have c23b0 := decide_eq_true c23; clear c23; obtain ⟨t233, A24, H⟩ := ob H; have H' := Aside0.mk H; clear H; obtain ⟨hcz25_0, hcz25_1, hfz25_0, hfz25_1⟩ := b2 (w := wr) BK226
              try go_wp2_with (first | ((with_reducible refine gate_callee (f := 95) rfl ?_); refine gl (some 34) Tryd.func95 #[.int .i64 x6_1, .int .i64 x7_2] ?_; (with_reducible refine (skewbaldref00_Of.calls x6_1 x7_2 true _ A17.out).mono ?_); rintro e w' ⟨rfl, ⟨nd, rfl⟩⟩; refine ⟨_, rfl, ?_⟩))
              (try (rw [drewN_self wr]; generalize hq_ : World.drewN wr _ = wr; have n0_ : Aside0 (Kd.R (Kd.int .i64) 3 wr w.heap.size (fun _ => True) (.slice (some ⟨go12, 0, none⟩) x5_2.length co13) x5_2) := ⟨by rw [← hq_]; exact (bR HO_5)⟩; have n1_ : Aside0 (wr.heap[gb226]? = some (.cells #[.slice A0_0 l0_0.length c0_0, .slice A0_1 l0_1.length c0_1] 25 (0, 0))) := ⟨by rw [← hq_]; exact bk⟩; have n2_ : Aside0 (Below w.heap.size w wr) := ⟨by rw [← hq_]; exact bl⟩; clear HO_5 BK226 HB hq_; have HO_5 := n0_; have BK226 := n1_; have HB := n2_; clear n0_ n1_ n2_))
              replace HO_5 := Aside0.mk (Kd.R_drew HO_5.out); replace BK226 := Aside0.mk (blk_drew BK226.out); replace HB := Aside0.mk (below_drew1 HB.out)
              have p232 : 0 ≤ ((ji21) : Int) := od
              have q232 : (ji21) < (x5_2.length : Int) := od
              obtain ⟨ad232, e232, hx232_0⟩ := Kd.at_int (Kd.R_reads' HO_5.out).2.2 (ji21) p232 q232
              obtain rfl : (⟨go12, 0, none⟩ : Addr) = ad232 := (by injection e232)
              (first | simp only [add_plain] at hx232_0 | simp only [add_at] at hx232_0 | simp only [Addr.add, Nat.zero_add] at hx232_0 | skip)
              replace p232 := eq_true p232; replace q232 := eq_true q232
              refine start_ (n := 13) (S := fun w' => w'.cell? ⟨gb226, 0, none⟩ = some (.slice A0_0 l0_0.length c0_0) ∧ w'.cell? ⟨gb226, 1, none⟩ = some (.slice A0_1 l0_1.length c0_1) ∧ w'.cell? ⟨go12, ((ji21)).toNat, none⟩ = some (.int .i64 (rd x5_2 (ji21)))) (ds := []) #[false, false, false, false, false, false, false, false, false, false, false, false, false] (by kernel_rfl) rfl rfl ⟨bq BK226 0, bq BK226 1, hx232_0⟩ (fun hHeld => ?_); refine with_tabW skewbaldref01_ends.tab10 skewbaldref01_ends.bits10 (fun HT_ HW_ => ?_)
              generalize wr.drew = w26 at HO_5 BK226 HB hx232_0 hHeld ⊢
              refine pu_ (i := 0) (N := some 36) (qa_ 13 1) ?_
              refine pu_ (i := 1) (N := some 37) (qa_ 13 3) ?_
              refine pu_ (i := 2) (N := some 38) (qa_ 13 7) ?_
              refine pu_ (i := 3) (N := some 39) (qa_ 13 15) ?_
              refine pu_ (i := 4) (N := some 40) (qa_ 13 31) ?_
              refine pu_ (i := 5) (N := some 41) (qa_ 13 63) ?_
              refine pu_ (i := 8) (N := some 44) (qa_ 13 319) ?_
              refine pu_ (i := 9) (N := some 45) (qa_ 13 831) ?_
              refine tk_ (i := 6) (N := some 42) (qa_ 13 895) hHeld ?_
              refine tk_ (i := 7) (N := some 43) (qa_ 13 1023) hHeld ?_
              refine on_ (i := 10) (N := some 46) (qa_ 13 2047) (fun K hK => ?_)
              refine goes_ Tryd.func75 (by kernel_rfl) rfl #[.agg #[.slice A0_0 l0_0.length c0_0, .slice A0_1 l0_1.length c0_1], .int .i64 a1, .int .i64 x7_2] (by rfl) rfl rfl (by (try simp only [List.map_toArray, List.map_cons, List.map_nil]); first | done | rfl | (simp only [List.length_drop, List.length_take]; rfl)) ?_
              with_reducible refine (skewbaldref01_spots.calls k2 _ _ l0_0 _ _ l0_1 a1 x7_2 t233 _ ?side1 ?side2 ?side3 ?side4 A24.out).mono ?_
              (case side1 => exact cl)
              (case side2 => exact HC0_0.out)
              (case side3 => exact cl)
              (case side4 => exact HC0_1.out)
              rintro e w27 ⟨v234, rfl, ho0, hb⟩
              have HS2_ := (hb.cell (World.block_lt_of_cell? _ _ (hHeld.2.2))).trans (hHeld.2.2)
              refine ⟨_, rfl, ?_⟩
              have HO235 := Aside0.mk (Kd.R_lower (Kd.R_new' ho0 (Kd.R_lt (bR HO_5))) (below_size bl)); replace HO_5 := Aside0.mk (Kd.R_elder' (bR HO_5) (Kd.R_base ho0) hb); replace BK226 := nb BK226 hb; replace HB := hs HB hb; (try clear hb); (try clear hb2); (try clear hk); (try clear hi); (try clear ho0)
              refine hK.out _ _ ⟨bq BK226 0, bq BK226 1, HS2_⟩ (fun hHeld => ?_)
              clear hK K
              refine nm_ (some 46) ?_
              refine pu_ (i := 11) (N := some 8) (qa_ 13 4095) ?_
              refine pu_ (i := 12) (N := some 9) (qa_ 13 8191) ?_
              refine done_ (done_of HT_.out (by kernel_rfl)) ?_
              try go_wp2
              go_loopg [10] k2 (fun kq v10 w' => ∃ (x5_3 : List Int) (x10_3 : Int), v10 = .int .i64 x10_3 ∧ Aside0 (skewbaldref01_ends.l2 kq a1 x5_3 x6_1 x7_2 (rd x5_2 (ji21)) t233 x10_3 l0_0 l0_1 = some r) ∧ Aside0 (kq ≤ k2) ∧ Aside0 (Kd.R (Kd.int .i64) 3 w' w.heap.size (fun k_ => some k_ ≠ (v234 : Value).ownBlock) (.slice (some ⟨go12, 0, none⟩) x5_2.length co13) x5_3) ∧ Aside0 (Kd.R (Kd.int .i64) 3 w' w.heap.size (fun k_ => some k_ ≠ ((.slice (some ⟨go12, 0, none⟩) x5_2.length co13) : Value).ownBlock) v234 t233) ∧ Aside0 (w'.heap[gb226]? = some (.cells #[(.slice A0_0 l0_0.length c0_0), (.slice A0_1 l0_1.length c0_1)] 25 (0, 0))) ∧ Aside0 (Below w.heap.size w w'))
              case atStart => exact ⟨(x5_2), (0), sm, H', ⟨Nat.le_refl _⟩, ⟨by (try simp only [hl5_2]); (with_reducible repeat (first | apply Kd.R_alloc | apply Kd.R_drewN | apply Kd.R_drew)); exact Kd.R_mono HO_5.out (fun _ hk => hk.2)⟩, ⟨by (try simp only [hl5_2]); (with_reducible repeat (first | apply Kd.R_alloc | apply Kd.R_drewN | apply Kd.R_drew)); exact Kd.R_mono HO235.out (fun _ hk => hk.2)⟩, ⟨by (try simp only [hl5_2]); (with_reducible repeat (first | refine blk_drewN ?_ _ | refine blk_drew ?_ | refine blk_alloc ?_ _)); exact BK226.out⟩, ⟨bl⟩⟩
              case round =>
               clear H'; (try clear c1); (try clear p1); (try clear q1); (try clear hx1); (try clear c2); (try clear p2); (try clear q2); (try clear hx2); (try clear c4); (try clear c4b0); (try clear c4b1); (try clear c5); (try clear c5b0); (try clear c5b1); (try clear p6); (try clear c7); (try clear c9); (try clear c10); (try clear c10b0); (try clear c11); (try clear c11b0); (try clear p12); (try clear q12); (try clear hx12); (try clear hf12); (try clear c16); (try clear c16b0); (try clear c18); (try clear c19); (try clear c19b0); (try clear c19b1); (try clear c22); (try clear c22b0); (try clear c23); (try clear c23b0); (try clear p23); (try clear q23); (try clear hx23); (try clear hcz25_0); (try clear hcz25_1); (try clear hcz7_0); (try clear hcz7_1); (try clear hfz25_0); (try clear hfz25_1); (try clear hfz7_0); (try clear hfz7_1); (try clear hx12_0); (try clear hx232_0); (try clear p232); (try clear q232)
               obtain ⟨x5_3, x10_3, rfl, HA, HK3, HO_5, HO_9, BK226, HB⟩ := hrel; have hl5_3 := (Kd.R_reads' HO_5.out).1; rw [hl5_3] at HO_5
               (try simp only [hl5_3])
               (try simp only [hl5_3] at BK226)
               (try simp only [hl5_3] at HO_9)
               cases gk with
               | zero => exact absurd HA.out (by simp [skewbaldref01_ends.l2])
               | succ k3 =>
                have H := HA.out; clear HA
                simp only [skewbaldref01_ends.l2] at H
                by_cases c28 : x10_3 < (t233.length : Int)
                ·rw [if_pos c28] at H; have c28b0 := decide_eq_true c28; clear c28
                 by_cases c29 : 0 ≤ x10_3
                 ·rw [if_pos c29] at H; have c29b0 := decide_eq_true c29; clear c29
                  by_cases c30 : (rd t233 x10_3) ≥ (rd x5_2 (ji21))
                  ·rw [if_pos c30] at H; have c30b0 := decide_eq_true c30; clear c30
                   by_cases c31 : 0 ≤ x6_1
                   ·rw [if_pos c31] at H; have c31b0 := decide_eq_true c31; clear c31
                    by_cases c32 : x6_1 < (x5_3.length : Int)
                    ·rw [if_pos c32] at H; have c32b0 := decide_eq_true c32; clear c32
                     by_cases c33 : 0 ≤ x7_2
                     ·rw [if_pos c33] at H; have c33b0 := decide_eq_true c33; clear c33
                      by_cases c34 : x7_2 < (l0_1.length : Int)
                      ·rw [if_pos c34] at H; have c34b0 := decide_eq_true c34; clear c34
                       obtain ⟨ji35, hji35⟩ : ∃ j_ : Int, (mn (rd x5_3 x6_1) (wrap64 ((rd t233 x10_3) + ((rd_T50 l0_1 x7_2).f0)))) = j_ := ⟨_, rfl⟩
                       replace H : (skewbaldref01_ends.l2 k3 a1 (x5_3.set (x6_1 : Int).toNat (ji35)) x6_1 x7_2 (rd x5_2 (ji21)) t233 (wrap64 (x10_3 + 1)) l0_0 l0_1) = some r := by first | (rw [hji35] at H; exact H) | (simp only [hji35] at H ⊢; exact H)
                       have hji35_ : (if (wrap64 ((rd t233 x10_3) + ((rd_T50 l0_1 x7_2).f0))) < (rd x5_3 x6_1) then (wrap64 ((rd t233 x10_3) + ((rd_T50 l0_1 x7_2).f0))) else (rd x5_3 x6_1)) = ji35 := hji35
                       obtain ⟨y240, hy240⟩ : ∃ y_ : List Int, y_ = (x5_3.set (x6_1 : Int).toNat (ji35)) := ⟨_, rfl⟩
                       replace H : (skewbaldref01_ends.l2 k3 a1 y240 x6_1 x7_2 (rd x5_2 (ji21)) t233 (wrap64 (x10_3 + 1)) l0_0 l0_1) = some r := tr H hy240
                       have Ny240 := Aside0.mk hy240; clear hy240; have H' := Aside0.mk H; clear H; obtain ⟨Ao37, co37, eo37⟩ := Kd.R_slice HO_9.out; subst eo37
                       have p236 : 0 ≤ (x10_3 : Int) := od
                       have q236 : x10_3 < (t233.length : Int) := od
                       obtain ⟨ad236, e236, hx236_0⟩ := Kd.at_int (Kd.R_reads' HO_9.out).2.2 x10_3 p236 q236
                       cases e236
                       replace p236 := eq_true p236; replace q236 := eq_true q236
                       try go_wp2
                       replace HO_5 := Aside0.mk (Kd.R_drew HO_5.out); replace HO_9 := Aside0.mk (Kd.R_drew HO_9.out); replace BK226 := Aside0.mk (blk_drew BK226.out); replace HB := Aside0.mk (below_drew1 HB.out)
                       have p237 : 0 ≤ (x6_1 : Int) := od
                       have q237 : x6_1 < (x5_3.length : Int) := od
                       obtain ⟨ad237, e237, hx237_0⟩ := Kd.at_int (Kd.R_reads' HO_5.out).2.2 x6_1 p237 q237
                       obtain rfl : (⟨go12, 0, none⟩ : Addr) = ad237 := (by injection e237)
                       (first | simp only [add_plain] at hx237_0 | simp only [add_at] at hx237_0 | simp only [Addr.add, Nat.zero_add] at hx237_0 | skip)
                       replace p237 := eq_true p237; replace q237 := eq_true q237
                       have p238 : 0 ≤ (x10_3 : Int) := od
                       have q238 : x10_3 < (t233.length : Int) := od
                       obtain ⟨ad238, e238, hx238_0⟩ := Kd.at_int (Kd.R_reads' HO_9.out).2.2 x10_3 p238 q238
                       obtain rfl : ad236 = ad238 := (by injection e238)
                       replace p238 := eq_true p238; replace q238 := eq_true q238
                       have p239 : 0 ≤ (x7_2 : Int) := od
                       have q239 : x7_2 < (l0_1.length : Int) := od
                       obtain ⟨ad239, A239_1, c239_1, e239, hx239_0, hx239_1, hx239_2, hl239_1, hi239_1⟩ := at_T50 HR0_1.out x7_2 p239 q239; have hw239_2 := hx239_2; have hw239_1 := hx239_1; have hw239_0 := hx239_0
                       cases e239
                       replace hx239_0 := cm HB hx239_0; replace hx239_1 := cm HB hx239_1; replace hx239_2 := cm HB hx239_2; have HR239_1 := Aside0.mk hi239_1; have HC239_1 := Aside0.mk hl239_1; clear hi239_1 hl239_1; replace p239 := eq_true p239; replace q239 := eq_true q239
                       have p36 : 0 ≤ (x6_1 : Int) := od
                       have q36 : (x6_1 : Int) < ((x5_3.length : Int) : Int) := od
                       obtain ⟨hx36_0, hf36_0⟩ := Kd.R_celln 0 HO_5.out (x6_1 : Int) p36 q36; replace p36 := eq_true p36; replace q36 := eq_true q36; have HP39 := Kd.R_putn HO_5.out (x6_1 : Int) ji35; rw [← Ny240.out] at HP39; have HQ39 := Aside0.mk HP39; clear HP39
                       refine start_ (n := 20) (S := fun w' => w'.cell? ⟨gb226, 0, none⟩ = some (.slice A0_0 l0_0.length c0_0) ∧ w'.cell? ⟨gb226, 1, none⟩ = some (.slice (some ad239) l0_1.length c0_1) ∧ w'.cell? ⟨go12, (x6_1).toNat, none⟩ = some (.int .i64 (rd x5_3 x6_1)) ∧ w'.cell? (ad236.add (x10_3).toNat) = some (.int .i64 (rd t233 x10_3)) ∧ w'.cell? (ad239.add ((x7_2).toNat * 3)) = some (.int .i64 ((rd_T50 l0_1 x7_2).f0)) ∧ w'.cell? ⟨(ad239.add ((x7_2).toNat * 3)).block, (ad239.add ((x7_2).toNat * 3)).off + 1, none⟩ = some (.slice A239_1 ((rd_T50 l0_1 x7_2).f1).length c239_1) ∧ w'.cell? ⟨(ad239.add ((x7_2).toNat * 3)).block, (ad239.add ((x7_2).toNat * 3)).off + 2, none⟩ = some (.bool ((rd_T50 l0_1 x7_2).f2))) (ds := [19]) #[false, false, false, false, false, false, false, false, false, false, false, false, false, false, false, false, false, false, false, false] (by kernel_rfl) rfl rfl ⟨bq BK226 0, bq BK226 1, hx237_0, hx238_0, (cm HB hw239_0 :), (cm HB hw239_1 :), (cm HB hw239_2 :)⟩ (fun hHeld => ?_); refine with_tabW skewbaldref01_ends.tab15 skewbaldref01_ends.bits15 (fun HT_ HW_ => ?_)
                       generalize wr.drew = w38 at HO_5 HO_9 BK226 HB HQ39 HR239_1 hf36_0 hx237_0 hx238_0 hx239_0 hx239_1 hx239_2 hx36_0 hHeld ⊢
                       refine pu_ (i := 0) (N := some 59) (qa_ 20 1) ?_
                       refine pu_ (i := 1) (N := some 60) (qa_ 20 3) ?_
                       refine pu_ (i := 2) (N := some 61) (qa_ 20 7) ?_
                       refine pu_ (i := 3) (N := some 62) (qa_ 20 15) ?_
                       refine pu_ (i := 4) (N := some 63) (qa_ 20 31) ?_
                       refine pu_ (i := 6) (N := some 65) (qa_ 20 95) ?_
                       refine pu_ (i := 7) (N := some 66) (qa_ 20 223) ?_
                       refine pu_ (i := 8) (N := some 67) (qa_ 20 479) ?_
                       refine pu_ (i := 10) (N := some 69) (qa_ 20 1503) ?_
                       refine pu_ (i := 12) (N := some 71) (qa_ 20 5599) ?_
                       refine tk_ (i := 5) (N := some 64) (qa_ 20 5631) hHeld ?_
                       refine tk_ (i := 9) (N := some 68) (qa_ 20 6143) hHeld ?_
                       refine tk_ (i := 11) (N := some 70) (qa_ 20 8191) hHeld ?_
                       refine pu_ (i := 13) (N := some 72) (qa_ 20 16383) ?_
                       refine pu_ (i := 14) (N := some 73) (qa_ 20 32767) ?_
                       refine tk_ (i := 15) (N := some 74) (qa_ 20 65535) hHeld ?_
                       refine pu_ (i := 16) (N := some 75) (qa_ 20 131071) ?_
                       refine pu_ (i := 17) (N := some 76) (qa_ 20 262143) ?_
                       refine pu_ (i := 18) (N := some 77) (qa_ 20 524287) ?_
                       refine last_ (i := 19) (N := none) (qa_ 20 1048575) rfl rfl (one_of HT_.out (by kernel_rfl)) (by decide) (fun K hK => ?_)
                       refine skip_ (w1 := ?_) (by rfl) rfl ?_ ?_
                       rotate_left
                       ·go_simp
                        rfl
                       refine hK.out _ _ ?_
                       clear hK K
                       refine done_ (done_of HT_.out (by kernel_rfl)) ?_
                       try go_wp2
                       (try simp only [← hl5_3])
                       go_roundg k3
                       case measure => have := HK1.out; have := HK2.out; have := HK3.out; omega
                       case rel => exact ⟨(y240), (wrap64 (x10_3 + 1)), sm, H', ⟨by have := HK1.out; have := HK2.out; have := HK3.out; omega⟩, ⟨by (try simp only [hl5_2]); (try simp only [hl5_3]); (with_reducible repeat (first | apply Kd.R_alloc | apply Kd.R_drewN | apply Kd.R_drew)); exact HQ39.out⟩, ⟨by (try simp only [hl5_2]); (try simp only [hl5_3]); (with_reducible repeat (first | apply Kd.R_alloc | apply Kd.R_drewN | apply Kd.R_drew)); exact Kd.R_mono (Kd.R_far (p := ⟨go12, (x6_1 : Int).toNat, none⟩) (Kd.R_mono HO_9.out (fun k_ hk => (⟨hk, fun e_ => hk (by rw [e_]; rfl)⟩ : _ ∧ k_ ≠ go12))) (fun _ hk => hk.2) (.int .i64 ji35)) (fun _ hk => hk.1)⟩, ⟨by (try simp only [hl5_2]); (try simp only [hl5_3]); (with_reducible repeat (first | refine blk_drewN ?_ _ | refine blk_drew ?_ | refine blk_alloc ?_ _)); refine blk_far ?_ (by have h_ := Kd.R_ne HO_5.out BK226.out (by decide); intro e_; exact h_ (by rw [e_]; rfl)) _; (with_reducible repeat (first | refine blk_drewN ?_ _ | refine blk_drew ?_ | refine blk_alloc ?_ _)); exact BK226.out⟩, ⟨bl⟩⟩
                      ·rw [if_neg c34] at H
                       exact absurd H (by simp)
                     ·rw [if_neg c33] at H
                      exact absurd H (by simp)
                    ·rw [if_neg c32] at H
                     exact absurd H (by simp)
                   ·rw [if_neg c31] at H
                    exact absurd H (by simp)
                  ·rw [if_neg c30] at H
                   have c30b0 : decide ((rd x5_2 (ji21)) ≤ (rd t233 x10_3)) = false := decide_eq_false c30
                   clear c30; have H' := Aside0.mk H; clear H; obtain ⟨Ao40, co40, eo40⟩ := Kd.R_slice HO_9.out; subst eo40
                   have p236 : 0 ≤ (x10_3 : Int) := od
                   have q236 : x10_3 < (t233.length : Int) := od
                   obtain ⟨ad236, e236, hx236_0⟩ := Kd.at_int (Kd.R_reads' HO_9.out).2.2 x10_3 p236 q236
                   cases e236
                   replace p236 := eq_true p236; replace q236 := eq_true q236
                   go_wp2
                   (try simp only [← hl5_3])
                   go_roundg k3
                   case measure => have := HK1.out; have := HK2.out; have := HK3.out; omega
                   case rel => exact ⟨(x5_3), (wrap64 (x10_3 + 1)), sm, H', ⟨by have := HK1.out; have := HK2.out; have := HK3.out; omega⟩, ⟨by (try simp only [hl5_2]); (try simp only [hl5_3]); (with_reducible repeat (first | apply Kd.R_alloc | apply Kd.R_drewN | apply Kd.R_drew)); exact HO_5.out⟩, ⟨by (try simp only [hl5_2]); (try simp only [hl5_3]); (with_reducible repeat (first | apply Kd.R_alloc | apply Kd.R_drewN | apply Kd.R_drew)); exact HO_9.out⟩, ⟨by (try simp only [hl5_2]); (try simp only [hl5_3]); (with_reducible repeat (first | refine blk_drewN ?_ _ | refine blk_drew ?_ | refine blk_alloc ?_ _)); exact BK226.out⟩, ⟨bl⟩⟩
                 ·rw [if_neg c29] at H
                  exact absurd H (by simp)
                ·rw [if_neg c28] at H
                 have c28b0 : decide (x10_3 < (t233.length : Int)) = false := decide_eq_false c28
                 clear c28; have H' := Aside0.mk H; clear H; obtain ⟨Ao41, co41, eo41⟩ := Kd.R_slice HO_9.out; subst eo41
                 go_wp2
                 (try simp only [← hl5_2, ← hl5_3])
                 go_roundg k3
                 case measure => have := HK1.out; have := HK2.out; have := HK3.out; omega
                 case rel => exact ⟨(x5_3), (wrap64 (x7_2 + 1)), sm, H', ⟨by have := HK1.out; have := HK2.out; have := HK3.out; omega⟩, ⟨by (try simp only [hl5_2]); (try simp only [hl5_3]); (with_reducible repeat (first | apply Kd.R_alloc | apply Kd.R_drewN | apply Kd.R_drew)); exact Kd.R_mono HO_5.out (fun _ hk => trivial)⟩, ⟨by (try simp only [hl5_2]); (try simp only [hl5_3]); (with_reducible repeat (first | refine blk_drewN ?_ _ | refine blk_drew ?_ | refine blk_alloc ?_ _)); exact BK226.out⟩, ⟨bl⟩⟩
             ·rw [if_neg c23] at H
              exact absurd H (by simp)
            ·rw [if_neg c22] at H
             exact absurd H (by simp)
           ·rw [if_neg c19] at H
            exact absurd H (by simp)
          ·replace c18 := Bool.eq_false_iff.mpr c18; subst c18
           rw [if_neg (show ¬ (false = true) by decide)] at H
           have H' := Aside0.mk H; clear H; obtain ⟨hcz42_0, hcz42_1, hfz42_0, hfz42_1⟩ := b2 (w := wr) BK226
           go_wp2_with (first | ((with_reducible refine gate_callee (f := 95) rfl ?_); refine gl (some 34) Tryd.func95 #[.int .i64 x6_1, .int .i64 x7_2] ?_; (with_reducible refine (skewbaldref00_Of.calls x6_1 x7_2 false _ A17.out).mono ?_); rintro e w' ⟨rfl, ⟨nd, rfl⟩⟩; refine ⟨_, rfl, ?_⟩))
           (try simp only [← hl5_2])
           go_roundg k2
           case measure => have := HK1.out; have := HK2.out; omega
           case rel => exact ⟨(x5_2), (wrap64 (x7_2 + 1)), sm, H', ⟨lp HK1 HK2⟩, ⟨by (try simp only [hl5_2]); (with_reducible repeat (first | apply Kd.R_alloc | apply Kd.R_drewN | apply Kd.R_drew)); exact HO_5.out⟩, ⟨by (try simp only [hl5_2]); (with_reducible repeat (first | refine blk_drewN ?_ _ | refine blk_drew ?_ | refine blk_alloc ?_ _)); exact BK226.out⟩, ⟨bl⟩⟩
         ·rw [if_neg c16] at H
          have c16b0 : decide (x7_2 < (l0_1.length : Int)) = false := decide_eq_false c16
          clear c16; have H' := Aside0.mk H; clear H; obtain ⟨hcz43_0, hcz43_1, hfz43_0, hfz43_1⟩ := b2 (w := wr) BK226
          go_wp2
          (try simp only [← hl5_2])
          go_roundg k2
          case measure => have := HK1.out; have := HK2.out; omega
          case rel => exact ⟨(x5_2), (wrap64 (x6_1 + 1)), sm, H', ⟨lp HK1 HK2⟩, ⟨by (try simp only [hl5_2]); (with_reducible repeat (first | apply Kd.R_alloc | apply Kd.R_drewN | apply Kd.R_drew)); exact HO_5.out⟩, ⟨by (try simp only [hl5_2]); (with_reducible repeat (first | refine blk_drewN ?_ _ | refine blk_drew ?_ | refine blk_alloc ?_ _)); exact BK226.out⟩, ⟨bl⟩⟩
      ·rw [if_neg c11] at H
       exact absurd H (by simp)
     ·rw [if_neg c10] at H
      have c10b0 : decide (x6_1 < (x5_1.length : Int)) = false := decide_eq_false c10
      clear c10; obtain rfl := Option.some.inj H; obtain ⟨Ao44, co44, eo44⟩ := Kd.R_slice HO_5.out; subst eo44
      go_wp2
      go_ret
      exact ⟨_, by first | rfl | (simp [errW_none, errW_some] <;> rfl) | (simp only [← hji3]; first | rfl | (simp [errW_none, errW_some] <;> rfl)) | (simp [*, errW_none, errW_some] <;> rfl), by (with_reducible repeat (first | apply Kd.R_alloc | apply Kd.R_drewN | apply Kd.R_drew)); exact HO_5.out, bl⟩
  ·rw [if_neg c5] at H
   exact absurd H (by simp)
 ·rw [if_neg c4] at H
  exact absurd H (by simp)
def skewbaldref01_tables.l0 : Nat → List (List Int) → Int → List (S48) → List (S50) → Option ((List (List Int)))
 | 0, _, _, _, _ => none
 | k + 1, x3, x4, x242000, x242001 => if x4 < (x242000.length : Int) then ((skewbaldref01_ends.f k x242000 x242001 x4).bind fun t245 => (if x3.length < 5864062014805 then (skewbaldref01_tables.l0 k (x3 ++ [t245]) (wrap64 (x4 + 1)) x242000 x242001) else (none))) else (some x3)
def skewbaldref01_tables.f (k : Nat) (l0_0 : List (S48)) (l0_1 : List (S50)) : Option ((List (List Int))) := skewbaldref01_tables.l0 k (([] : List (List Int))) 0 l0_0 l0_1
set_option maxHeartbeats 8000000 in
set_option maxRecDepth 100000 in
theorem skewbaldref01_tables.calls (k : Nat) (A0_0 : Option Addr) (c0_0 : Nat) (l0_0 : List (S48)) (A0_1 : Option Addr) (c0_1 : Nat) (l0_1 : List (S50)) (r : List (List Int)) (w : World) (hr0_0 : Kd.C k48 w A0_0 l0_0.length l0_0) (hc0_0 : l0_0.length ≤ c0_0) (hr0_1 : Kd.C k50 w A0_1 l0_1.length l0_1) (hc0_1 : l0_1.length ≤ c0_1) (h : skewbaldref01_tables.f k l0_0 l0_1 = some r) :
  Calls Tryd.prog 87 #[.agg #[.slice A0_0 l0_0.length c0_0, .slice A0_1 l0_1.length c0_1]] w fun e w' => ∃ v0_ : Value, e = .returned (v0_) ∧ Kd.S (Kd.slice 3 (Kd.int .i64)) 31 w' w.heap.size (fun _ => True) v0_ r ∧ Below w.heap.size w w' := by
 have hu25 := Tryd.underlying25; have HR0_0 := Aside0.mk hr0_0; have HC0_0 := Aside0.mk hc0_0; clear hr0_0 hc0_0; have HR0_1 := Aside0.mk hr0_1; have HC0_1 := Aside0.mk hc0_1; clear hr0_1 hc0_1; have HB := Aside0.mk (Below.refl w.heap.size w)
 have H : (skewbaldref01_tables.l0 k (([] : List (List Int))) 0 l0_0 l0_1) = some r := h
 clear h
 obtain ⟨y242, hy242⟩ : ∃ y_ : List (List Int), y_ = (([] : List (List Int))) := ⟨_, rfl⟩
 replace H : (skewbaldref01_tables.l0 k y242 0 l0_0 l0_1) = some r := tr H hy242
 have Ny242 := Aside0.mk hy242; clear hy242; have H' := Aside0.mk H; clear H
 go_enter Tryd.func87, Tryd.ntmps87
 go_wp2_with (first | (refine bx 1 #[.slice A0_0 l0_0.length c0_0, .slice A0_1 l0_1.length c0_1] 25 ?_; intro gb241 hg w2 hbox hb; have BK241 := Aside0.mk hbox; have GW241 := gw hg HB; have GE241 := gw hg HB; replace HB := hs HB hb; clear hb hbox hg) | ((with_reducible refine gate_dst (N := 5) rfl ?_); refine Kd.S_lit (Kd.slice 3 (Kd.int .i64)) _ 31 ?hg (N := 5) ?hd (xs := ([] : List (List Int))) (inner := []) (ok := fun _ => True) (okp := fun _ => True) ?hr ?hp (fun _ hk => hk) trivial (Below.refl _ _) (Nat.le_refl _) (by simp) ?_; (case hd => rfl); (case hg => rfl); (case hr => first | (go_simp; done) | (go_simp; rfl)); (case hp => exact (Reps.none _ _)); intro v243 w3 ho4 hb hg_ hnew_; clear hg_ hnew_; (first | rw [← Ny242.out] at ho4 | (simp only [Int.reduceToNat] at ho4; rw [← Ny242.out] at ho4)); have HO244 := Aside0.mk (Kd.S_lower ho4 (below_size bl)); replace BK241 := nb BK241 hb; replace HB := hs HB hb; clear hb ho4))
 go_loopg [3, 4] k (fun kq v3 v4 w' => ∃ (x3_1 : List (List Int)) (x4_1 : Int), v4 = .int .i64 x4_1 ∧ Aside0 (skewbaldref01_tables.l0 kq x3_1 x4_1 l0_0 l0_1 = some r) ∧ Aside0 (kq ≤ k) ∧ Aside0 (Kd.S (Kd.slice 3 (Kd.int .i64)) 31 w' w.heap.size (fun _ => True) v3 x3_1) ∧ Aside0 (w'.heap[gb241]? = some (.cells #[(.slice A0_0 l0_0.length c0_0), (.slice A0_1 l0_1.length c0_1)] 25 (0, 0))) ∧ Aside0 (Below w.heap.size w w'))
 case atStart => exact ⟨(y242), (0), sm, H', ⟨Nat.le_refl _⟩, ⟨bS HO244⟩, ⟨bk⟩, ⟨bl⟩⟩
 case round =>
  clear H'; (try clear p2); obtain ⟨x3_1, x4_1, rfl, HA, HK1, HO_3, BK241, HB⟩ := hrel
  cases gk with
  | zero => exact absurd HA.out (by simp [skewbaldref01_tables.l0])
  | succ k1 =>
   have H := HA.out; clear HA
   simp only [skewbaldref01_tables.l0] at H
   by_cases c5 : x4_1 < (l0_0.length : Int)
   ·rw [if_pos c5] at H; have c5b0 := decide_eq_true c5; clear c5; obtain ⟨t245, A6, H⟩ := ob H
    by_cases c7 : x3_1.length < 5864062014805
    ·rw [if_pos c7] at H; have LMc7 := Aside0.mk c7; clear c7
     obtain ⟨y248, hy248⟩ : ∃ y_ : List (List Int), y_ = (x3_1 ++ [t245]) := ⟨_, rfl⟩
     replace H : (skewbaldref01_tables.l0 k1 y248 (wrap64 (x4_1 + 1)) l0_0 l0_1) = some r := tr H hy248
     have Ny248 := Aside0.mk hy248; clear hy248; have H' := Aside0.mk H; clear H; obtain ⟨hcz8_0, hcz8_1, hfz8_0, hfz8_1⟩ := b2 (w := wr) BK241
     go_wp2_with (first | ((with_reducible refine gate_callee (f := 77) rfl ?_); refine gl (some 16) Tryd.func77 #[.agg #[.slice A0_0 l0_0.length c0_0, .slice A0_1 l0_1.length c0_1], .int .i64 x4_1] ?_; (with_reducible refine (skewbaldref01_ends.calls k1 _ _ l0_0 _ _ l0_1 x4_1 t245 _ cl HC0_0.out cl HC0_1.out A6.out).mono ?_); rintro e w9 ⟨v246, rfl, ho0, hb⟩; refine ⟨_, rfl, ?_⟩; replace HO_3 := Aside0.mk (Kd.S_elder' (bS HO_3) (Kd.R_base ho0) hb); have HO247 := Aside0.mk (Kd.R_lower ho0 (below_size bl)); replace BK241 := nb BK241 hb; replace HB := hs HB hb; (try clear hb); (try clear hb2); (try clear hk); (try clear hi); (try clear ho0); obtain ⟨Ao11, co11, eo11⟩ := Kd.R_slice HO247.out; subst eo11) | ((with_reducible refine gate_builtin (b := .append) (xs := #[.tmp 13, .tmp 17]) rfl ?_); at_builtin; refine Kd.S_append (Kd.slice 3 (Kd.int .i64)) (w0 := w) w.heap.size rfl (.tmp 13) (.tmp 17) 113 31 (.slice none 0 0) 24 rfl Tryd.underlying113 info31 rfl (by decide) (by omega) u3 x3_1 t245 [.slice Ao11 t245.length co11] (fun _ => True) (fun k_ => some k_ = (.slice Ao11 t245.length co11 : Value).ownBlock) rfl rfl ?aP (fun k_ hk_ => ((Kd.R_mono (ok' := fun k_ => ((fun _ => True)) k_ ∧ some k_ ≠ (u3 : Value).ownBlock) (Kd.R_apart' (HO247.out) (Kd.S_typed HO_3.out) (by decide)) (fun k_ hk => ⟨trivial, hk.2⟩))).1 k_ hk_.symm) ?aF ?aO ?aB ?aS ?aL ?_; (case aP => exact Kd.M_row (Kd.R_mono (Kd.R_tight rfl (Kd.R_mono (ok' := fun k_ => ((fun _ => True)) k_ ∧ some k_ ≠ (u3 : Value).ownBlock) (Kd.R_apart' (HO247.out) (Kd.S_typed HO_3.out) (by decide)) (fun k_ hk => ⟨trivial, hk.2⟩))) (fun _ h_ => h_))); (case aB => exact bl); (case aF => exact (fun _ _ => trivial)); (case aO => exact (by (with_reducible repeat (first | apply Kd.S_alloc | apply Kd.S_drewN | apply Kd.S_drew)); exact Kd.S_mono HO_3.out (fun k_ hk => ⟨trivial, fun e_ => hk.2 e_⟩))); (case aS => exact (below_size bl)); (case aL => have := LMc7.out; omega); intro v249 w10 ho hb hg hat; rw [← Ny248.out] at ho; replace BK241 := Aside0.mk (blk_grown (g := gb241) (o := .cells #[.slice A0_0 l0_0.length c0_0, .slice A0_1 l0_1.length c0_1] 25 (0, 0)) bk hg (Kd.S_ne HO_3.out BK241.out (by decide))); replace HB := Aside0.mk hb; have HO250 := Aside0.mk ho; clear HO_3 HO247; clear ho hb hg hat))
     go_roundg k1
     case measure => have := HK1.out; omega
     case rel => exact ⟨(y248), (wrap64 (x4_1 + 1)), sm, H', ⟨lo HK1⟩, ⟨bS HO250⟩, ⟨bk⟩, ⟨bl⟩⟩
    ·rw [if_neg c7] at H
     exact absurd H (by simp)
   ·rw [if_neg c5] at H
    have c5b0 : decide (x4_1 < (l0_0.length : Int)) = false := decide_eq_false c5
    clear c5; obtain rfl := Option.some.inj H; obtain ⟨hcz12_0, hcz12_1, hfz12_0, hfz12_1⟩ := b2 (w := wr) BK241
    go_wp2
    go_ret
    exact ⟨_, by first | rfl | (simp [errW_none, errW_some] <;> rfl) | (simp [*, errW_none, errW_some] <;> rfl), by (with_reducible repeat (first | apply Kd.S_alloc | apply Kd.S_drewN | apply Kd.S_drew)); exact HO_3.out, bl⟩
def skewbaldref01_every.f (k : Nat) (l0_0 : List (S48)) (l0_1 : List (S50)) : Option (List Int) := (skewbaldref00_List.f k (wrap64 ((shl .i64 1 (l0_0.length : Int)) - 1)) (l0_0.length : Int)).bind fun t252 => (some t252)
def skewbaldref01_every.T1 : Bool × List (List Nat × List Nat) := (true, [([], []), ([0], [0]), ([1], [1]), ([2], [2]), ([3], [3]), ([], []), ([5], [5]), ([6], [6]), ([4, 7], [4, 7]), ([8, 8, 0, 1, 2, 3, 4, 5, 6, 7, 8], [8])])
def skewbaldref01_every.B1 : List Nat := [0, 1, 3, 7, 15, 0, 32, 96, 255, 511]
theorem skewbaldref01_every.tab1 : rtab .any (opsOf Tryd.f88 1) = skewbaldref01_every.T1 := by kernel_rfl
theorem skewbaldref01_every.bits1 : waitsOk skewbaldref01_every.T1.2 skewbaldref01_every.B1 = true := by kernel_rfl
set_option maxHeartbeats 8000000 in
set_option maxRecDepth 100000 in
theorem skewbaldref01_every.calls (k : Nat) (A0_0 : Option Addr) (c0_0 : Nat) (l0_0 : List (S48)) (A0_1 : Option Addr) (c0_1 : Nat) (l0_1 : List (S50)) (r : List Int) (w : World) (hr0_0 : Kd.C k48 w A0_0 l0_0.length l0_0) (hc0_0 : l0_0.length ≤ c0_0) (hr0_1 : Kd.C k50 w A0_1 l0_1.length l0_1) (hc0_1 : l0_1.length ≤ c0_1) (h : skewbaldref01_every.f k l0_0 l0_1 = some r) :
  Calls Tryd.prog 88 #[.agg #[.slice A0_0 l0_0.length c0_0, .slice A0_1 l0_1.length c0_1]] w fun e w' => ∃ v0_ : Value, e = .returned (v0_) ∧ Kd.R (Kd.int .i64) 3 w' w.heap.size (fun _ => True) v0_ r ∧ Below w.heap.size w w' := by
 have hu25 := Tryd.underlying25; have HR0_0 := Aside0.mk hr0_0; have HC0_0 := Aside0.mk hc0_0; clear hr0_0 hc0_0; have HR0_1 := Aside0.mk hr0_1; have HC0_1 := Aside0.mk hc0_1; clear hr0_1 hc0_1; have HB := Aside0.mk (Below.refl w.heap.size w)
 have H : ((skewbaldref00_List.f k (wrap64 ((shl .i64 1 (l0_0.length : Int)) - 1)) (l0_0.length : Int)).bind fun t252 => (some t252)) = some r := h
 clear h
 obtain ⟨ji2, hji2⟩ : ∃ j_ : Int, (shl .i64 1 (l0_0.length : Int)) = j_ := ⟨_, rfl⟩
 replace H : ((skewbaldref00_List.f k (wrap64 ((ji2) - 1)) (l0_0.length : Int)).bind fun t252 => (some t252)) = some r := by first | (rw [hji2] at H; exact H) | (simp only [hji2] at H ⊢; exact H)
 have hji2_ : (IntKind.i64.wrap (1 * 2 ^ min (l0_0.length : Int).toNat 64)) = ji2 := hji2
 have hji2z : (l0_0.length : Int) ≤ 64 → (IntKind.i64.wrap (1 * 2 ^ (l0_0.length : Int).toNat)) = ji2 := shl_small hji2
 have hji2p : (IntKind.i64.wrap (1 * 2 ^ min l0_0.length 64)) = ji2 := hji2_
 have hji2q : (l0_0.length : Int) ≤ 64 → (IntKind.i64.wrap (1 * 2 ^ l0_0.length)) = ji2 := hji2z
 have hji2r : (IntKind.i64.wrap (2 ^ min l0_0.length 64)) = ji2 := by have h_ := hji2p; rw [Int.one_mul] at h_; exact h_
 have hji2s : (l0_0.length : Int) ≤ 64 → (IntKind.i64.wrap (2 ^ l0_0.length)) = ji2 := fun hle_ => by have h_ := hji2q hle_; rw [Int.one_mul] at h_; exact h_
 have hji2u : (IntKind.i64.wrap (2 ^ min (l0_0.length : Int).toNat 64)) = ji2 := by have h_ := hji2_; rw [Int.one_mul] at h_; exact h_
 have hji2v : (l0_0.length : Int) ≤ 64 → (IntKind.i64.wrap (2 ^ (l0_0.length : Int).toNat)) = ji2 := fun hle_ => by have h_ := hji2z hle_; rw [Int.one_mul] at h_; exact h_
 have hji2y : (wrap64 (1 * 2 ^ min (l0_0.length : Int).toNat 64)) = ji2 := (i64_w _).symm.trans hji2_
 have hji2x : (l0_0.length : Int) ≤ 64 → (wrap64 (1 * 2 ^ (l0_0.length : Int).toNat)) = ji2 := fun h_ => (i64_w _).symm.trans (hji2z h_)
 have hji2A : (wrap64 (2 ^ min (l0_0.length : Int).toNat 64)) = ji2 := (i64_w _).symm.trans hji2u
 have hji2B : (l0_0.length : Int) ≤ 64 → (wrap64 (2 ^ (l0_0.length : Int).toNat)) = ji2 := fun h_ => (i64_w _).symm.trans (hji2v h_)
 have hji2C : (wrap64 (2 ^ min l0_0.length 64)) = ji2 := (i64_w _).symm.trans hji2r
 have hji2D : (l0_0.length : Int) ≤ 64 → (wrap64 (2 ^ l0_0.length)) = ji2 := fun h_ => (i64_w _).symm.trans (hji2s h_)
 obtain ⟨t252, A3, H⟩ := ob H; obtain rfl := Option.some.inj H
 go_enter Tryd.func88, Tryd.ntmps88
 try go_wp2_with (first | (refine bx 1 #[.slice A0_0 l0_0.length c0_0, .slice A0_1 l0_1.length c0_1] 25 ?_; intro gb251 hg w4 hbox hb; have BK251 := Aside0.mk hbox; have GW251 := gw hg HB; have GE251 := gw hg HB; replace HB := hs HB hb; clear hb hbox hg))
 replace BK251 := Aside0.mk (blk_drew BK251.out); replace HB := Aside0.mk (below_drew1 HB.out)
 refine start_ (n := 10) (S := fun w' => w'.cell? ⟨gb251, 0, none⟩ = some (.slice A0_0 l0_0.length c0_0) ∧ w'.cell? ⟨gb251, 1, none⟩ = some (.slice A0_1 l0_1.length c0_1)) (ds := []) #[false, false, false, false, false, false, false, false, false, false] (by kernel_rfl) rfl rfl ⟨bq BK251 0, bq BK251 1⟩ (fun hHeld => ?_); refine with_tabW skewbaldref01_every.tab1 skewbaldref01_every.bits1 (fun HT_ HW_ => ?_)
 generalize w4.drew = w5 at BK251 HB hHeld ⊢
 refine pu_ (i := 0) (N := some 3) (qa_ 10 1) ?_
 refine pu_ (i := 5) (N := some 8) (qa_ 10 33) ?_
 refine tk_ (i := 1) (N := some 4) (qa_ 10 35) hHeld ?_
 refine pu_ (i := 2) (N := some 5) (qa_ 10 39) ?_
 refine pu_ (i := 3) (N := some 6) (qa_ 10 47) ?_
 refine pu_ (i := 4) (N := some 7) (qa_ 10 63) ?_
 refine tk_ (i := 6) (N := some 9) (qa_ 10 127) hHeld ?_
 refine pu_ (i := 7) (N := some 10) (qa_ 10 255) ?_
 refine on_ (i := 8) (N := some 11) (qa_ 10 511) (fun K hK => ?_)
 refine goes_ Tryd.func40 (by kernel_rfl) rfl #[.int .i64 (wrap64 ((ji2) - 1)), .int .i64 (l0_0.length : Int)] (by rfl) rfl rfl (by (try simp only [List.map_toArray, List.map_cons, List.map_nil]); first | done | (simp only [hji2]; rfl) | rfl | (simp only [List.length_drop, List.length_take]; rfl)) ?_
 with_reducible refine (skewbaldref00_List.calls k (wrap64 ((ji2) - 1)) (l0_0.length : Int) t252 _ A3.out).mono ?_
 rintro e w6 ⟨v253, rfl, ho0, hb⟩
 refine ⟨_, rfl, ?_⟩
 have HO254 := Aside0.mk (Kd.R_lower ho0 (below_size bl)); replace BK251 := nb BK251 hb; replace HB := hs HB hb; (try clear hb); (try clear hb2); (try clear hk); (try clear hi); (try clear ho0)
 refine hK.out _ _ ⟨bq BK251 0, bq BK251 1⟩ (fun hHeld => ?_)
 clear hK K
 refine nm_ (some 11) ?_
 refine pu_ (i := 9) (N := some 2) (qa_ 10 1023) ?_
 refine done_ (done_of HT_.out (by kernel_rfl)) ?_
 try go_wp2
 go_ret
 exact ⟨_, by first | rfl | (simp [errW_none, errW_some] <;> rfl) | (simp only [← hji2]; first | rfl | (simp [errW_none, errW_some] <;> rfl)) | (simp [*, errW_none, errW_some] <;> rfl), by (with_reducible repeat (first | apply Kd.R_alloc | apply Kd.R_drewN | apply Kd.R_drew)); exact HO254.out, bl⟩
mutual
def skewbaldref01_given.l0 : Nat → List (List Int) → List Int → Int → Int → Option (Bool)
 | 0, _, _, _, _ => none
 | k + 1, x0, x1, x2, x7 => if x7 ≤ x2 then (if (Go.bits .and .i64 x7 x2) = x7 then (if 0 < (x1.length : Int) then (if 0 ≤ (rd x1 0) then (if (rd x1 0) < (x0.length : Int) then (if 0 ≤ x7 then (if x7 < ((rd_L4 x0 (rd x1 0)).length : Int) then (if (rd (rd_L4 x0 (rd x1 0)) x7) < 99 then (if 1 ≤ (x1.length : Int) then ((skewbaldref01_given.f k x0 (x1.drop 1) (wrap64 (x2 - x7))).bind fun t259 => (if t259 = true then (some true) else (skewbaldref01_given.l0 k x0 x1 x2 (wrap64 (x7 + 1))))) else (none)) else (skewbaldref01_given.l0 k x0 x1 x2 (wrap64 (x7 + 1)))) else (none)) else (none)) else (none)) else (none)) else (none)) else (skewbaldref01_given.l0 k x0 x1 x2 (wrap64 (x7 + 1)))) else (some false)
def skewbaldref01_given.f : Nat → List (List Int) → List Int → Int → Option (Bool)
 | 0, _, _, _ => none
 | k + 1, l0, l1, a2 => if (l1.length : Int) = 0 then (some (a2 == 0)) else (skewbaldref01_given.l0 k l0 l1 a2 0)
end
set_option maxHeartbeats 8000000 in
set_option maxRecDepth 100000 in
theorem skewbaldref01_given.calls (k : Nat) : ∀ (A0 : Option Addr) (c0 : Nat) (l0 : List (List Int)) (A1 : Option Addr) (c1 : Nat) (l1 : List Int) (a2 : Int) (r : Bool) (w : World) (hr0 : Kd.C (Kd.slice 3 (Kd.int .i64)) w A0 l0.length l0) (hc0 : l0.length ≤ c0) (hr1 : Kd.C (Kd.int .i64) w A1 l1.length l1) (hc1 : l1.length ≤ c1) (h : skewbaldref01_given.f k l0 l1 a2 = some r),
  Calls Tryd.prog 89 #[.slice A0 l0.length c0, .slice A1 l1.length c1, .int .i64 a2] w fun e w' => e = .returned (.bool r) ∧ Drawn0 w w' := by
 induction k using Nat.strongRecOn with
 | _ k ih =>
 intro A0 c0 l0 A1 c1 l1 a2 r w hr0 hc0 hr1 hc1 h
 cases k with
 | zero => exact absurd h (by simp [skewbaldref01_given.f])
 | succ k =>
 simp only [skewbaldref01_given.f] at h
 have HR0 := Aside0.mk hr0; have HC0 := Aside0.mk hc0; clear hr0 hc0; have HR1 := Aside0.mk hr1; have HC1 := Aside0.mk hc1; clear hr1 hc1
 have H : (if (l1.length : Int) = 0 then (some (a2 == 0)) else (skewbaldref01_given.l0 k l0 l1 a2 0)) = some r := h
 clear h
 by_cases c4 : (l1.length : Int) = 0
 ·rw [if_pos c4] at H
  have c4b0 : ((l1.length : Int) == 0) = true := beq_iff_eq.mpr c4
  have c4b1 : ((l1.length : Int) != 0) = false := bne_eq_false_iff_eq.mpr c4
  clear c4; obtain rfl := Option.some.inj H
  go_enter Tryd.func89, Tryd.ntmps89
  go_wp2
  go_ret
  exact ⟨sm, by repeat (first | exact Drawn0.refl _ | apply Drawn0.step)⟩
 ·rw [if_neg c4] at H
  have c4b0 : ((l1.length : Int) == 0) = false := beq_eq_false_iff_ne.mpr c4
  have c4b1 : ((l1.length : Int) != 0) = true := bne_iff_ne.mpr c4
  have c4b2 : ¬ (l1 = []) := fun h_ => c4 (by rw [h_]; rfl)
  have H' := Aside0.mk H; clear H
  go_enter Tryd.func89, Tryd.ntmps89
  go_wp2
  go_loopg [7] k (fun kq v7 w' => ∃ (x7_1 : Int), v7 = .int .i64 x7_1 ∧ Aside0 (skewbaldref01_given.l0 kq l0 l1 a2 x7_1 = some r) ∧ Aside0 (kq ≤ k) ∧ Drawn0 w w')
  case atStart => exact ⟨(0), sm, H', ⟨Nat.le_refl _⟩, by repeat (first | exact Drawn0.refl _ | apply Drawn0.step)⟩
  case round =>
   clear H'; (try clear c1); (try clear p2); (try clear c4); (try clear c4b0); (try clear c4b1); (try clear c4b2); obtain ⟨x7_1, rfl, HA, HK1, ⟨m1, rfl⟩⟩ := hrel
   cases gk with
   | zero => exact absurd HA.out (by simp [skewbaldref01_given.l0])
   | succ k1 =>
    have H := HA.out; clear HA
    simp only [skewbaldref01_given.l0] at H
    by_cases c5 : x7_1 ≤ a2
    ·rw [if_pos c5] at H; have c5b0 := decide_eq_true c5; clear c5
     by_cases c6 : (Go.bits .and .i64 x7_1 a2) = x7_1
     ·rw [if_pos c6] at H
      have c6b0 : ((Go.bits .and .i64 x7_1 a2) == x7_1) = true := beq_iff_eq.mpr c6
      have c6b1 : ((Go.bits .and .i64 x7_1 a2) != x7_1) = false := bne_eq_false_iff_eq.mpr c6
      clear c6
      by_cases c7 : 0 < (l1.length : Int)
      ·rw [if_pos c7] at H; have c7b0 := decide_eq_true c7
       have c7b1 : decide (0 < l1.length) = true := decide_eq_true (by omega)
       clear c7
       by_cases c8 : 0 ≤ (rd l1 0)
       ·rw [if_pos c8] at H; have c8b0 := decide_eq_true c8; clear c8
        by_cases c9 : (rd l1 0) < (l0.length : Int)
        ·rw [if_pos c9] at H; have c9b0 := decide_eq_true c9; clear c9
         by_cases c10 : 0 ≤ x7_1
         ·rw [if_pos c10] at H; have c10b0 := decide_eq_true c10; clear c10
          by_cases c11 : x7_1 < ((rd_L4 l0 (rd l1 0)).length : Int)
          ·rw [if_pos c11] at H; have c11b0 := decide_eq_true c11; clear c11
           by_cases c12 : (rd (rd_L4 l0 (rd l1 0)) x7_1) < 99
           ·rw [if_pos c12] at H; have c12b0 := decide_eq_true c12; clear c12
            by_cases c13 : 1 ≤ (l1.length : Int)
            ·rw [if_pos c13] at H; have c13b0 := eq_true c13; have c13b1 := decide_eq_true c13; clear c13; obtain ⟨t259, A14, H⟩ := ob H
             by_cases c15 : t259 = true
             ·subst c15; rw [if_pos rfl] at H; obtain rfl := Option.some.inj H
              have p255 : 0 ≤ (0 : Int) := (by omega)
              have q255 : 0 < (l1.length : Int) := od
              obtain ⟨ad255, e255, hx255_0⟩ := Kd.at_int HR1.out 0 p255 q255
              cases e255
              have qi255 : (0 < l1.length) = True := eq_true (by omega)
              (try rw [show ((0 : Int)).toNat = 0 from rfl] at hx255_0)
              (try rw [Addr.add_zero'] at hx255_0)
              replace p255 := eq_true p255; replace q255 := eq_true q255
              have p256 : 0 ≤ ((rd l1 0) : Int) := od
              have q256 : (rd l1 0) < (l0.length : Int) := od
              obtain ⟨ad256, A256_0, c256_0, e256, hx256_0, hl256_0, hi256_0⟩ := at_L4 HR0.out (rd l1 0) p256 q256
              cases e256
              have HR256_0 := Aside0.mk hi256_0; have HC256_0 := Aside0.mk hl256_0; clear hi256_0 hl256_0; replace p256 := eq_true p256; replace q256 := eq_true q256
              have p257 : 0 ≤ (x7_1 : Int) := od
              have q257 : x7_1 < ((rd_L4 l0 (rd l1 0)).length : Int) := od
              obtain ⟨ad257, e257, hx257_0⟩ := Kd.at_int HR256_0.out x7_1 p257 q257
              cases e257
              replace p257 := eq_true p257; replace q257 := eq_true q257; obtain ⟨i016, hi016, _, hsz16, _⟩ := info_parts info3
              obtain ⟨A16, hcut16, hA16, hC16⟩ := print_drop_of (P := Tryd.prog) (Value.int .i64) 0 31 3 .i64 Tryd.underlying31 hi016 hsz16 (some ad255) c1 l1 1 (by omega) od HC1.out
              have HR258 := Aside0.mk (Kd.C_of_reads (h1 := fun _ => rfl) (hA16 _ (Kd.reads_of_C HR1.out)))
              have HC258 := Aside0.mk hC16; clear hA16 hC16 hi016 hsz16
              go_wp2_with (first | (go_at_call 89; (rw [show l1.length - 1 = (l1.drop 1).length from List.length_drop.symm]); (with_reducible refine (ih k1 (lo HK1) _ _ l0 _ _ (l1.drop 1) (wrap64 (a2 - x7_1)) true _ ?side1 ?side2 ?side3 ?side4 A14.out).mono ?_); (case side1 => repeat (first | exact HR0.out | (with_reducible refine Kd.C_alloc ?_ _) | (with_reducible refine Kd.C_drewN ?_ _) | (with_reducible refine Kd.C_drew ?_))); (case side2 => exact HC0.out); (case side3 => repeat (first | exact HR258.out | (with_reducible refine Kd.C_alloc ?_ _) | (with_reducible refine Kd.C_drewN ?_ _) | (with_reducible refine Kd.C_drew ?_))); (case side4 => exact HC258.out); rintro e w' ⟨rfl, ⟨nd, rfl⟩⟩))
              go_ret
              exact ⟨sm, by repeat (first | exact Drawn0.refl _ | apply Drawn0.step)⟩
             ·replace c15 := Bool.eq_false_iff.mpr c15; subst c15
              rw [if_neg (show ¬ (false = true) by decide)] at H
              have H' := Aside0.mk H; clear H
              have p255 : 0 ≤ (0 : Int) := (by omega)
              have q255 : 0 < (l1.length : Int) := od
              obtain ⟨ad255, e255, hx255_0⟩ := Kd.at_int HR1.out 0 p255 q255
              cases e255
              have qi255 : (0 < l1.length) = True := eq_true (by omega)
              (try rw [show ((0 : Int)).toNat = 0 from rfl] at hx255_0)
              (try rw [Addr.add_zero'] at hx255_0)
              replace p255 := eq_true p255; replace q255 := eq_true q255
              have p256 : 0 ≤ ((rd l1 0) : Int) := od
              have q256 : (rd l1 0) < (l0.length : Int) := od
              obtain ⟨ad256, A256_0, c256_0, e256, hx256_0, hl256_0, hi256_0⟩ := at_L4 HR0.out (rd l1 0) p256 q256
              cases e256
              have HR256_0 := Aside0.mk hi256_0; have HC256_0 := Aside0.mk hl256_0; clear hi256_0 hl256_0; replace p256 := eq_true p256; replace q256 := eq_true q256
              have p257 : 0 ≤ (x7_1 : Int) := od
              have q257 : x7_1 < ((rd_L4 l0 (rd l1 0)).length : Int) := od
              obtain ⟨ad257, e257, hx257_0⟩ := Kd.at_int HR256_0.out x7_1 p257 q257
              cases e257
              replace p257 := eq_true p257; replace q257 := eq_true q257; obtain ⟨i017, hi017, _, hsz17, _⟩ := info_parts info3
              obtain ⟨A17, hcut17, hA17, hC17⟩ := print_drop_of (P := Tryd.prog) (Value.int .i64) 0 31 3 .i64 Tryd.underlying31 hi017 hsz17 (some ad255) c1 l1 1 (by omega) od HC1.out
              have HR258 := Aside0.mk (Kd.C_of_reads (h1 := fun _ => rfl) (hA17 _ (Kd.reads_of_C HR1.out)))
              have HC258 := Aside0.mk hC17; clear hA17 hC17 hi017 hsz17
              go_wp2_with (first | (go_at_call 89; (rw [show l1.length - 1 = (l1.drop 1).length from List.length_drop.symm]); (with_reducible refine (ih k1 (lo HK1) _ _ l0 _ _ (l1.drop 1) (wrap64 (a2 - x7_1)) false _ ?side1 ?side2 ?side3 ?side4 A14.out).mono ?_); (case side1 => repeat (first | exact HR0.out | (with_reducible refine Kd.C_alloc ?_ _) | (with_reducible refine Kd.C_drewN ?_ _) | (with_reducible refine Kd.C_drew ?_))); (case side2 => exact HC0.out); (case side3 => repeat (first | exact HR258.out | (with_reducible refine Kd.C_alloc ?_ _) | (with_reducible refine Kd.C_drewN ?_ _) | (with_reducible refine Kd.C_drew ?_))); (case side4 => exact HC258.out); rintro e w' ⟨rfl, ⟨nd, rfl⟩⟩))
              go_roundg k1
              case measure => have := HK1.out; omega
              case rel => exact ⟨(wrap64 (x7_1 + 1)), sm, H', ⟨lo HK1⟩, by repeat (first | exact Drawn0.refl _ | apply Drawn0.step)⟩
            ·rw [if_neg c13] at H
             exact absurd H (by simp)
           ·rw [if_neg c12] at H
            have c12b0 : decide ((rd (rd_L4 l0 (rd l1 0)) x7_1) < 99) = false := decide_eq_false c12
            clear c12; have H' := Aside0.mk H; clear H
            have p255 : 0 ≤ (0 : Int) := (by omega)
            have q255 : 0 < (l1.length : Int) := od
            obtain ⟨ad255, e255, hx255_0⟩ := Kd.at_int HR1.out 0 p255 q255
            cases e255
            have qi255 : (0 < l1.length) = True := eq_true (by omega)
            (try rw [show ((0 : Int)).toNat = 0 from rfl] at hx255_0)
            (try rw [Addr.add_zero'] at hx255_0)
            replace p255 := eq_true p255; replace q255 := eq_true q255
            have p256 : 0 ≤ ((rd l1 0) : Int) := od
            have q256 : (rd l1 0) < (l0.length : Int) := od
            obtain ⟨ad256, A256_0, c256_0, e256, hx256_0, hl256_0, hi256_0⟩ := at_L4 HR0.out (rd l1 0) p256 q256
            cases e256
            have HR256_0 := Aside0.mk hi256_0; have HC256_0 := Aside0.mk hl256_0; clear hi256_0 hl256_0; replace p256 := eq_true p256; replace q256 := eq_true q256
            have p257 : 0 ≤ (x7_1 : Int) := od
            have q257 : x7_1 < ((rd_L4 l0 (rd l1 0)).length : Int) := od
            obtain ⟨ad257, e257, hx257_0⟩ := Kd.at_int HR256_0.out x7_1 p257 q257
            cases e257
            replace p257 := eq_true p257; replace q257 := eq_true q257
            go_wp2
            go_roundg k1
            case measure => have := HK1.out; omega
            case rel => exact ⟨(wrap64 (x7_1 + 1)), sm, H', ⟨lo HK1⟩, by repeat (first | exact Drawn0.refl _ | apply Drawn0.step)⟩
          ·rw [if_neg c11] at H
           exact absurd H (by simp)
         ·rw [if_neg c10] at H
          exact absurd H (by simp)
        ·rw [if_neg c9] at H
         exact absurd H (by simp)
       ·rw [if_neg c8] at H
        exact absurd H (by simp)
      ·rw [if_neg c7] at H
       exact absurd H (by simp)
     ·rw [if_neg c6] at H
      have c6b0 : ((Go.bits .and .i64 x7_1 a2) == x7_1) = false := beq_eq_false_iff_ne.mpr c6
      have c6b1 : ((Go.bits .and .i64 x7_1 a2) != x7_1) = true := bne_iff_ne.mpr c6
      have H' := Aside0.mk H; clear H
      go_wp2
      go_roundg k1
      case measure => have := HK1.out; omega
      case rel => exact ⟨(wrap64 (x7_1 + 1)), sm, H', ⟨lo HK1⟩, by repeat (first | exact Drawn0.refl _ | apply Drawn0.step)⟩
    ·rw [if_neg c5] at H
     have c5b0 : decide (x7_1 ≤ a2) = false := decide_eq_false c5
     clear c5; obtain rfl := Option.some.inj H
     go_wp2
     go_ret
     exact ⟨sm, by repeat (first | exact Drawn0.refl _ | apply Drawn0.step)⟩
end Go.Proofs.YtekjlpldooihhaaDoor.PT
