/- Printed by a program (prx.py). -/
import Derived.Test.YtekjlpldooihhaaDoorRw
import Derived.Test.YtekjlpldooihhaaDoorSv
namespace Go.Proofs.YtekjlpldooihhaaDoor.PT
open Go.Proofs.YtekjlpldooihhaaDoorSh
open Go.Proofs.YtekjlpldooihhaaDoor.PA (S48 S50 S60 at_L2 at_L4 at_T48 at_T50 at_T60 errW errW_none errW_some k48 k48_mk k48_mkM k48_open k48_openM k50 k50_mk k50_mkM k50_open k50_openM k60 k60_mk k60_mkM k60_open k60_openM rd_L2 rd_L4 rd_T48 rd_T50 rd_T60 z48 z50 z60)
open Go.Proofs.YtekjlpldooihhaaDoorP Go.Proofs.YtekjlpldooihhaaDoorA Go.Proofs.YtekjlpldooihhaaDoorK
open Go.RowKit Go.Proofs.YtekjlpldooihhaaDoorW.PrintWords Go.Proofs.YtekjlpldooihhaaDoorW.PrintLast Go.Proofs.YtekjlpldooihhaaDoorW.PrintMore
attribute [local go_sem] max2_int min2_int max_two min_two max_three min_three max_four min_four
set_option linter.unusedVariables false
set_option linter.unusedSimpArgs false
def skewbaldref01_asked.f (k : Nat) (l0_0 : List (S48)) (l0_1 : List (S50)) (a1 : Bool) : Option (Int) := (skewbaldref01_Check.f k l0_0 l0_1).bind fun t120 => (if t120 = 0 then (if a1 = true then (some 0) else (some 11)) else (some t120))
set_option maxHeartbeats 8000000 in
set_option maxRecDepth 100000 in
theorem skewbaldref01_asked.calls (k : Nat) (A0_0 : Option Addr) (c0_0 : Nat) (l0_0 : List (S48)) (A0_1 : Option Addr) (c0_1 : Nat) (l0_1 : List (S50)) (a1 : Bool) (r : Int) (w : World) (hr0_0 : Kd.C k48 w A0_0 l0_0.length l0_0) (hc0_0 : l0_0.length ≤ c0_0) (hr0_1 : Kd.C k50 w A0_1 l0_1.length l0_1) (hc0_1 : l0_1.length ≤ c0_1) (h : skewbaldref01_asked.f k l0_0 l0_1 a1 = some r) :
  Calls Tryd.prog 65 #[.agg #[.slice A0_0 l0_0.length c0_0, .slice A0_1 l0_1.length c0_1], .bool a1] w fun e w' => e = .returned (.int .i64 r) ∧ Below w.heap.size w w' := by
 have hu25 := Tryd.underlying25; have HR0_0 := Aside0.mk hr0_0; have HC0_0 := Aside0.mk hc0_0; clear hr0_0 hc0_0; have HR0_1 := Aside0.mk hr0_1; have HC0_1 := Aside0.mk hc0_1; clear hr0_1 hc0_1; have HB := Aside0.mk (Below.refl w.heap.size w)
 have H : ((skewbaldref01_Check.f k l0_0 l0_1).bind fun t120 => (if t120 = 0 then (if a1 = true then (some 0) else (some 11)) else (some t120))) = some r := h
 clear h; obtain ⟨t120, A3, H⟩ := ob H
 by_cases c4 : t120 = 0
 ·rw [if_pos c4] at H
  have c4b0 : (t120 == 0) = true := beq_iff_eq.mpr c4
  have c4b1 : (t120 != 0) = false := bne_eq_false_iff_eq.mpr c4
  clear c4
  by_cases c5 : a1 = true
  ·subst c5; rw [if_pos rfl] at H; obtain rfl := Option.some.inj H
   go_enter Tryd.func65, Tryd.ntmps65
   go_wp2_with (first | (refine bx 2 #[.slice A0_0 l0_0.length c0_0, .slice A0_1 l0_1.length c0_1] 25 ?_; intro gb119 hg w6 hbox hb; have BK119 := Aside0.mk hbox; have GW119 := gw hg HB; have GE119 := gw hg HB; replace HB := hs HB hb; clear hb hbox hg; obtain ⟨hcz7_0, hcz7_1, hfz7_0, hfz7_1⟩ := b2 (w := w6) BK119) | ((with_reducible refine gate_callee (f := 19) rfl ?_); refine gl (some 7) Tryd.func19 #[.agg #[.slice A0_0 l0_0.length c0_0, .slice A0_1 l0_1.length c0_1]] ?_; (with_reducible refine (skewbaldref01_Check.calls k _ _ l0_0 _ _ l0_1 t120 _ cl HC0_0.out cl HC0_1.out A3.out).mono ?_); rintro e w8 ⟨rfl, hb⟩; refine ⟨_, rfl, ?_⟩; replace BK119 := nb BK119 hb; replace HB := hs HB hb; (try clear hb); (try clear hb2); (try clear hk); (try clear hi)))
   go_ret
   exact ⟨by first | rfl | (simp [errW_none, errW_some] <;> rfl) | (simp [*, errW_none, errW_some] <;> rfl), bl⟩
  ·replace c5 := Bool.eq_false_iff.mpr c5; subst c5
   rw [if_neg (show ¬ (false = true) by decide)] at H
   obtain rfl := Option.some.inj H
   go_enter Tryd.func65, Tryd.ntmps65
   go_wp2_with (first | (refine bx 2 #[.slice A0_0 l0_0.length c0_0, .slice A0_1 l0_1.length c0_1] 25 ?_; intro gb119 hg w9 hbox hb; have BK119 := Aside0.mk hbox; have GW119 := gw hg HB; have GE119 := gw hg HB; replace HB := hs HB hb; clear hb hbox hg; obtain ⟨hcz10_0, hcz10_1, hfz10_0, hfz10_1⟩ := b2 (w := w9) BK119) | ((with_reducible refine gate_callee (f := 19) rfl ?_); refine gl (some 7) Tryd.func19 #[.agg #[.slice A0_0 l0_0.length c0_0, .slice A0_1 l0_1.length c0_1]] ?_; (with_reducible refine (skewbaldref01_Check.calls k _ _ l0_0 _ _ l0_1 t120 _ cl HC0_0.out cl HC0_1.out A3.out).mono ?_); rintro e w11 ⟨rfl, hb⟩; refine ⟨_, rfl, ?_⟩; replace BK119 := nb BK119 hb; replace HB := hs HB hb; (try clear hb); (try clear hb2); (try clear hk); (try clear hi)))
   go_ret
   exact ⟨by first | rfl | (simp [errW_none, errW_some] <;> rfl) | (simp [*, errW_none, errW_some] <;> rfl), bl⟩
 ·rw [if_neg c4] at H
  have c4b0 : (t120 == 0) = false := beq_eq_false_iff_ne.mpr c4
  have c4b1 : (t120 != 0) = true := bne_iff_ne.mpr c4
  obtain rfl := Option.some.inj H
  go_enter Tryd.func65, Tryd.ntmps65
  go_wp2_with (first | (refine bx 2 #[.slice A0_0 l0_0.length c0_0, .slice A0_1 l0_1.length c0_1] 25 ?_; intro gb119 hg w12 hbox hb; have BK119 := Aside0.mk hbox; have GW119 := gw hg HB; have GE119 := gw hg HB; replace HB := hs HB hb; clear hb hbox hg; obtain ⟨hcz13_0, hcz13_1, hfz13_0, hfz13_1⟩ := b2 (w := w12) BK119) | ((with_reducible refine gate_callee (f := 19) rfl ?_); refine gl (some 7) Tryd.func19 #[.agg #[.slice A0_0 l0_0.length c0_0, .slice A0_1 l0_1.length c0_1]] ?_; (with_reducible refine (skewbaldref01_Check.calls k _ _ l0_0 _ _ l0_1 t120 _ cl HC0_0.out cl HC0_1.out A3.out).mono ?_); rintro e w14 ⟨rfl, hb⟩; refine ⟨_, rfl, ?_⟩; replace BK119 := nb BK119 hb; replace HB := hs HB hb; (try clear hb); (try clear hb2); (try clear hk); (try clear hi)))
  go_ret
  exact ⟨by first | rfl | (simp [errW_none, errW_some] <;> rfl) | (simp [*, errW_none, errW_some] <;> rfl), bl⟩
def skewbaldref01_isPlank.f (l0_0 : List (S48)) (l0_1 : List (S50)) (a1 : Int) : Option (Bool) := (skewbaldref00_In.f a1 0 (wrap64 ((l0_0.length : Int) - 1))).bind fun t122 => (some t122)
set_option maxHeartbeats 8000000 in
set_option maxRecDepth 100000 in
theorem skewbaldref01_isPlank.calls (A0_0 : Option Addr) (c0_0 : Nat) (l0_0 : List (S48)) (A0_1 : Option Addr) (c0_1 : Nat) (l0_1 : List (S50)) (a1 : Int) (r : Bool) (w : World) (hr0_0 : Kd.C k48 w A0_0 l0_0.length l0_0) (hc0_0 : l0_0.length ≤ c0_0) (hr0_1 : Kd.C k50 w A0_1 l0_1.length l0_1) (hc0_1 : l0_1.length ≤ c0_1) (h : skewbaldref01_isPlank.f l0_0 l0_1 a1 = some r) :
  Calls Tryd.prog 66 #[.agg #[.slice A0_0 l0_0.length c0_0, .slice A0_1 l0_1.length c0_1], .int .i64 a1] w fun e w' => e = .returned (.bool r) ∧ Below w.heap.size w w' := by
 have hu25 := Tryd.underlying25; have HR0_0 := Aside0.mk hr0_0; have HC0_0 := Aside0.mk hc0_0; clear hr0_0 hc0_0; have HR0_1 := Aside0.mk hr0_1; have HC0_1 := Aside0.mk hc0_1; clear hr0_1 hc0_1; have HB := Aside0.mk (Below.refl w.heap.size w)
 have H : ((skewbaldref00_In.f a1 0 (wrap64 ((l0_0.length : Int) - 1))).bind fun t122 => (some t122)) = some r := h
 clear h; obtain ⟨t122, A3, H⟩ := ob H; obtain rfl := Option.some.inj H
 go_enter Tryd.func66, Tryd.ntmps66
 go_wp2_with (first | (refine bx 2 #[.slice A0_0 l0_0.length c0_0, .slice A0_1 l0_1.length c0_1] 25 ?_; intro gb121 hg w4 hbox hb; have BK121 := Aside0.mk hbox; have GW121 := gw hg HB; have GE121 := gw hg HB; replace HB := hs HB hb; clear hb hbox hg; obtain ⟨hcz5_0, hcz5_1, hfz5_0, hfz5_1⟩ := b2 (w := w4) BK121) | ((with_reducible refine gate_callee (f := 38) rfl ?_); refine gl (some 10) Tryd.func38 #[.int .i64 a1, .int .i64 0, .int .i64 (wrap64 ((l0_0.length : Int) - 1))] ?_; (with_reducible refine (skewbaldref00_In.calls a1 0 (wrap64 ((l0_0.length : Int) - 1)) t122 _ A3.out).mono ?_); rintro e w' ⟨rfl, ⟨nd, rfl⟩⟩; refine ⟨_, rfl, ?_⟩))
 go_ret
 exact ⟨by first | rfl | (simp [errW_none, errW_some] <;> rfl) | (simp [*, errW_none, errW_some] <;> rfl), bl⟩
def skewbaldref01_lies.f (l0_0 : List (S48)) (l0_1 : List (S50)) (a1 : Int) (a2 : Int) (a3 : Int) : Option (Bool) := if 0 ≤ a1 then (if a1 < (l0_0.length : Int) then (if 0 ≤ a2 then (if a2 < (l0_1.length : Int) then ((skewbaldref00_In.f a3 0 (wrap64 (((rd_T48 l0_0 a1).f0) - ((rd_T50 l0_1 a2).f0)))).bind fun t128 => (some t128)) else (none)) else (none)) else (none)) else (none)
set_option maxHeartbeats 8000000 in
set_option maxRecDepth 100000 in
theorem skewbaldref01_lies.calls (A0_0 : Option Addr) (c0_0 : Nat) (l0_0 : List (S48)) (A0_1 : Option Addr) (c0_1 : Nat) (l0_1 : List (S50)) (a1 : Int) (a2 : Int) (a3 : Int) (r : Bool) (w : World) (hr0_0 : Kd.C k48 w A0_0 l0_0.length l0_0) (hc0_0 : l0_0.length ≤ c0_0) (hr0_1 : Kd.C k50 w A0_1 l0_1.length l0_1) (hc0_1 : l0_1.length ≤ c0_1) (h : skewbaldref01_lies.f l0_0 l0_1 a1 a2 a3 = some r) :
  Calls Tryd.prog 68 #[.agg #[.slice A0_0 l0_0.length c0_0, .slice A0_1 l0_1.length c0_1], .int .i64 a1, .int .i64 a2, .int .i64 a3] w fun e w' => e = .returned (.bool r) ∧ Below w.heap.size w w' := by
 have hu25 := Tryd.underlying25; have HR0_0 := Aside0.mk hr0_0; have HC0_0 := Aside0.mk hc0_0; clear hr0_0 hc0_0; have HR0_1 := Aside0.mk hr0_1; have HC0_1 := Aside0.mk hc0_1; clear hr0_1 hc0_1; have HB := Aside0.mk (Below.refl w.heap.size w)
 have H : (if 0 ≤ a1 then (if a1 < (l0_0.length : Int) then (if 0 ≤ a2 then (if a2 < (l0_1.length : Int) then ((skewbaldref00_In.f a3 0 (wrap64 (((rd_T48 l0_0 a1).f0) - ((rd_T50 l0_1 a2).f0)))).bind fun t128 => (some t128)) else (none)) else (none)) else (none)) else (none)) = some r := h
 clear h
 by_cases c5 : 0 ≤ a1
 ·rw [if_pos c5] at H; have c5b0 := decide_eq_true c5; clear c5
  by_cases c6 : a1 < (l0_0.length : Int)
  ·rw [if_pos c6] at H; have c6b0 := decide_eq_true c6; clear c6
   by_cases c7 : 0 ≤ a2
   ·rw [if_pos c7] at H; have c7b0 := decide_eq_true c7; clear c7
    by_cases c8 : a2 < (l0_1.length : Int)
    ·rw [if_pos c8] at H; have c8b0 := decide_eq_true c8; clear c8; obtain ⟨t128, A9, H⟩ := ob H; obtain rfl := Option.some.inj H
     go_enter Tryd.func68, Tryd.ntmps68
     go_wp2_with (first | (refine bx 4 #[.slice A0_0 l0_0.length c0_0, .slice A0_1 l0_1.length c0_1] 25 ?_; intro gb125 hg w10 hbox hb; have BK125 := Aside0.mk hbox; have GW125 := gw hg HB; have GE125 := gw hg HB; replace HB := hs HB hb; clear hb hbox hg; obtain ⟨hcz11_0, hcz11_1, hfz11_0, hfz11_1⟩ := b2 (w := w10) BK125; have p126 : 0 ≤ (a1 : Int) := od; have q126 : a1 < (l0_0.length : Int) := od; obtain ⟨ad126, A126_1, c126_1, e126, hx126_0, hx126_1, hl126_1, hi126_1⟩ := at_T48 HR0_0.out a1 p126 q126; cases e126; replace hx126_0 := cm HB hx126_0; replace hx126_1 := cm HB hx126_1; have HR126_1 := Aside0.mk hi126_1; have HC126_1 := Aside0.mk hl126_1; clear hi126_1 hl126_1; replace p126 := eq_true p126; replace q126 := eq_true q126; have p127 : 0 ≤ (a2 : Int) := od; have q127 : a2 < (l0_1.length : Int) := od; obtain ⟨ad127, A127_1, c127_1, e127, hx127_0, hx127_1, hx127_2, hl127_1, hi127_1⟩ := at_T50 HR0_1.out a2 p127 q127; cases e127; replace hx127_0 := cm HB hx127_0; replace hx127_1 := cm HB hx127_1; replace hx127_2 := cm HB hx127_2; have HR127_1 := Aside0.mk hi127_1; have HC127_1 := Aside0.mk hl127_1; clear hi127_1 hl127_1; replace p127 := eq_true p127; replace q127 := eq_true q127) | (go_at_call 38; (with_reducible refine (skewbaldref00_In.calls a3 0 (wrap64 (((rd_T48 l0_0 a1).f0) - ((rd_T50 l0_1 a2).f0))) t128 _ A9.out).mono ?_); rintro e w' ⟨rfl, ⟨nd, rfl⟩⟩; (try first | exact ⟨rfl, _, World.drewN_drewN _ _ _⟩ | exact ⟨rfl, _, Eq.trans (World.drewN_drewN _ _ _) (congrArg (World.drewN _) (Nat.add_assoc _ _ _))⟩)))
     repeat (go_quiet (first | (refine bx 4 #[.slice A0_0 l0_0.length c0_0, .slice A0_1 l0_1.length c0_1] 25 ?_; intro gb125 hg w10 hbox hb; have BK125 := Aside0.mk hbox; have GW125 := gw hg HB; have GE125 := gw hg HB; replace HB := hs HB hb; clear hb hbox hg; obtain ⟨hcz11_0, hcz11_1, hfz11_0, hfz11_1⟩ := b2 (w := w10) BK125; have p126 : 0 ≤ (a1 : Int) := od; have q126 : a1 < (l0_0.length : Int) := od; obtain ⟨ad126, A126_1, c126_1, e126, hx126_0, hx126_1, hl126_1, hi126_1⟩ := at_T48 HR0_0.out a1 p126 q126; cases e126; replace hx126_0 := cm HB hx126_0; replace hx126_1 := cm HB hx126_1; have HR126_1 := Aside0.mk hi126_1; have HC126_1 := Aside0.mk hl126_1; clear hi126_1 hl126_1; replace p126 := eq_true p126; replace q126 := eq_true q126; have p127 : 0 ≤ (a2 : Int) := od; have q127 : a2 < (l0_1.length : Int) := od; obtain ⟨ad127, A127_1, c127_1, e127, hx127_0, hx127_1, hx127_2, hl127_1, hi127_1⟩ := at_T50 HR0_1.out a2 p127 q127; cases e127; replace hx127_0 := cm HB hx127_0; replace hx127_1 := cm HB hx127_1; replace hx127_2 := cm HB hx127_2; have HR127_1 := Aside0.mk hi127_1; have HC127_1 := Aside0.mk hl127_1; clear hi127_1 hl127_1; replace p127 := eq_true p127; replace q127 := eq_true q127) | (go_at_call 38; (with_reducible refine (skewbaldref00_In.calls a3 0 (wrap64 (((rd_T48 l0_0 a1).f0) - ((rd_T50 l0_1 a2).f0))) t128 _ A9.out).mono ?_); rintro e w' ⟨rfl, ⟨nd, rfl⟩⟩; (try first | exact ⟨rfl, _, World.drewN_drewN _ _ _⟩ | exact ⟨rfl, _, Eq.trans (World.drewN_drewN _ _ _) (congrArg (World.drewN _) (Nat.add_assoc _ _ _))⟩))); try go_wp2_with (first | (refine bx 4 #[.slice A0_0 l0_0.length c0_0, .slice A0_1 l0_1.length c0_1] 25 ?_; intro gb125 hg w10 hbox hb; have BK125 := Aside0.mk hbox; have GW125 := gw hg HB; have GE125 := gw hg HB; replace HB := hs HB hb; clear hb hbox hg; obtain ⟨hcz11_0, hcz11_1, hfz11_0, hfz11_1⟩ := b2 (w := w10) BK125; have p126 : 0 ≤ (a1 : Int) := od; have q126 : a1 < (l0_0.length : Int) := od; obtain ⟨ad126, A126_1, c126_1, e126, hx126_0, hx126_1, hl126_1, hi126_1⟩ := at_T48 HR0_0.out a1 p126 q126; cases e126; replace hx126_0 := cm HB hx126_0; replace hx126_1 := cm HB hx126_1; have HR126_1 := Aside0.mk hi126_1; have HC126_1 := Aside0.mk hl126_1; clear hi126_1 hl126_1; replace p126 := eq_true p126; replace q126 := eq_true q126; have p127 : 0 ≤ (a2 : Int) := od; have q127 : a2 < (l0_1.length : Int) := od; obtain ⟨ad127, A127_1, c127_1, e127, hx127_0, hx127_1, hx127_2, hl127_1, hi127_1⟩ := at_T50 HR0_1.out a2 p127 q127; cases e127; replace hx127_0 := cm HB hx127_0; replace hx127_1 := cm HB hx127_1; replace hx127_2 := cm HB hx127_2; have HR127_1 := Aside0.mk hi127_1; have HC127_1 := Aside0.mk hl127_1; clear hi127_1 hl127_1; replace p127 := eq_true p127; replace q127 := eq_true q127) | (go_at_call 38; (with_reducible refine (skewbaldref00_In.calls a3 0 (wrap64 (((rd_T48 l0_0 a1).f0) - ((rd_T50 l0_1 a2).f0))) t128 _ A9.out).mono ?_); rintro e w' ⟨rfl, ⟨nd, rfl⟩⟩; (try first | exact ⟨rfl, _, World.drewN_drewN _ _ _⟩ | exact ⟨rfl, _, Eq.trans (World.drewN_drewN _ _ _) (congrArg (World.drewN _) (Nat.add_assoc _ _ _))⟩))))
     go_ret
     exact ⟨by first | rfl | (simp [errW_none, errW_some] <;> rfl) | (simp [*, errW_none, errW_some] <;> rfl), bl⟩
    ·rw [if_neg c8] at H
     exact absurd H (by simp)
   ·rw [if_neg c7] at H
    exact absurd H (by simp)
  ·rw [if_neg c6] at H
   exact absurd H (by simp)
 ·rw [if_neg c5] at H
  exact absurd H (by simp)
def skewbaldref01_joints.l0 : Nat → Int → Bool → List Int → Int → Int → List Int → Bool → Option (List Int)
 | 0, _, _, _, _, _, _, _ => none
 | k + 1, x1, x2, x7, x8, x130000, x130001, x130002 => if x8 < (x130001.length : Int) then (if 0 ≤ x8 then (if x2 = true then (if x7.length < 17592186044416 then (skewbaldref01_joints.l0 k x1 x2 (x7 ++ [wrap64 (x1 + (wrap64 ((wrap64 (x130000 - 1)) - (rd x130001 x8))))]) (wrap64 (x8 + 1)) x130000 x130001 x130002) else (none)) else (if x7.length < 17592186044416 then (skewbaldref01_joints.l0 k x1 x2 (x7 ++ [wrap64 (x1 + (rd x130001 x8))]) (wrap64 (x8 + 1)) x130000 x130001 x130002) else (none))) else (none)) else (some x7)
def skewbaldref01_joints.f (k : Nat) (a0_0 : Int) (l0_1 : List Int) (a0_2 : Bool) (a1 : Int) (a2 : Bool) : Option (List Int) := skewbaldref01_joints.l0 k a1 a2 (([] : List Int)) 0 a0_0 l0_1 a0_2
set_option maxHeartbeats 8000000 in
set_option maxRecDepth 100000 in
theorem skewbaldref01_joints.calls (k : Nat) (a0_0 : Int) (A0_1 : Option Addr) (c0_1 : Nat) (l0_1 : List Int) (a0_2 : Bool) (a1 : Int) (a2 : Bool) (r : List Int) (w : World) (hr0_1 : Kd.C (Kd.int .i64) w A0_1 l0_1.length l0_1) (hc0_1 : l0_1.length ≤ c0_1) (h : skewbaldref01_joints.f k a0_0 l0_1 a0_2 a1 a2 = some r) :
  Calls Tryd.prog 99 #[.agg #[.int .i64 a0_0, .slice A0_1 l0_1.length c0_1, .bool a0_2], .int .i64 a1, .bool a2] w fun e w' => ∃ v0_ : Value, e = .returned (v0_) ∧ Kd.R (Kd.int .i64) 3 w' w.heap.size (fun _ => True) v0_ r ∧ Below w.heap.size w w' := by
 have hu50 := Tryd.underlying50; have HR0_1 := Aside0.mk hr0_1; have HC0_1 := Aside0.mk hc0_1; clear hr0_1 hc0_1; have HB := Aside0.mk (Below.refl w.heap.size w)
 have H : (skewbaldref01_joints.l0 k a1 a2 (([] : List Int)) 0 a0_0 l0_1 a0_2) = some r := h
 clear h
 obtain ⟨y130, hy130⟩ : ∃ y_ : List Int, y_ = (([] : List Int)) := ⟨_, rfl⟩
 replace H : (skewbaldref01_joints.l0 k a1 a2 y130 0 a0_0 l0_1 a0_2) = some r := tr H hy130
 have Ny130 := Aside0.mk hy130; clear hy130; have H' := Aside0.mk H; clear H
 go_enter Tryd.func99, Tryd.ntmps99
 go_wp2_with (first | (refine bx 3 #[.int .i64 a0_0, .slice A0_1 l0_1.length c0_1, .bool a0_2] 50 ?_; intro gb129 hg w4 hbox hb; have BK129 := Aside0.mk hbox; have GW129 := gw hg HB; have GE129 := gw hg HB; replace HB := hs HB hb; clear hb hbox hg) | ((with_reducible refine gate_dst (N := 10) rfl ?_); refine Kd.R_lit (Kd.int .i64) _ 3 ?hg (N := 10) ?hd (xs := ([] : List Int)) (inner := []) (ok := fun _ => True) (okp := fun _ => True) ?hr ?hp (fun _ hk => hk) trivial (Below.refl _ _) (Nat.le_refl _) (by simp) ?_; (case hd => rfl); (case hg => rfl); (case hr => first | (go_simp; done) | (go_simp; rfl)); (case hp => exact (Reps.none _ _)); intro v131 w5 ho6 hb hg_ hnew_; clear hg_ hnew_; (first | rw [← Ny130.out] at ho6 | (simp only [Int.reduceToNat] at ho6; rw [← Ny130.out] at ho6)); have HO132 := Aside0.mk (Kd.R_lower ho6 (below_size bl)); replace BK129 := nb BK129 hb; replace HB := hs HB hb; clear hb ho6))
 go_loopg [7, 8] k (fun kq v7 v8 w' => ∃ (x7_1 : List Int) (x8_1 : Int), v8 = .int .i64 x8_1 ∧ Aside0 (skewbaldref01_joints.l0 kq a1 a2 x7_1 x8_1 a0_0 l0_1 a0_2 = some r) ∧ Aside0 (kq ≤ k) ∧ Aside0 (Kd.R (Kd.int .i64) 3 w' w.heap.size (fun _ => True) v7 x7_1) ∧ Aside0 (w'.heap[gb129]? = some (.cells #[.int .i64 a0_0, (.slice A0_1 l0_1.length c0_1), .bool a0_2] 50 (0, 0))) ∧ Aside0 (Below w.heap.size w w'))
 case atStart => exact ⟨(y130), (0), sm, H', ⟨Nat.le_refl _⟩, ⟨bR HO132⟩, ⟨bk⟩, ⟨bl⟩⟩
 case round =>
  clear H'; (try clear p2); obtain ⟨x7_1, x8_1, rfl, HA, HK1, HO_7, BK129, HB⟩ := hrel
  cases gk with
  | zero => exact absurd HA.out (by simp [skewbaldref01_joints.l0])
  | succ k1 =>
   have H := HA.out; clear HA
   simp only [skewbaldref01_joints.l0] at H
   by_cases c7 : x8_1 < (l0_1.length : Int)
   ·rw [if_pos c7] at H; have c7b0 := decide_eq_true c7; clear c7
    by_cases c8 : 0 ≤ x8_1
    ·rw [if_pos c8] at H; have c8b0 := decide_eq_true c8; clear c8
     by_cases c9 : a2 = true
     ·subst c9; rw [if_pos rfl] at H
      by_cases c10 : x7_1.length < 17592186044416
      ·rw [if_pos c10] at H; have LMc10 := Aside0.mk c10; clear c10
       obtain ⟨y134, hy134⟩ : ∃ y_ : List Int, y_ = (x7_1 ++ [wrap64 (a1 + (wrap64 ((wrap64 (a0_0 - 1)) - (rd l0_1 x8_1))))]) := ⟨_, rfl⟩
       replace H : (skewbaldref01_joints.l0 k1 a1 true y134 (wrap64 (x8_1 + 1)) a0_0 l0_1 a0_2) = some r := tr H hy134
       have Ny134 := Aside0.mk hy134; clear hy134; have H' := Aside0.mk H; clear H; obtain ⟨hcz11_0, hcz11_1, hcz11_2, hfz11_0, hfz11_1, hfz11_2⟩ := b3 (w := wr) BK129
       have p133 : 0 ≤ (x8_1 : Int) := od
       have q133 : x8_1 < (l0_1.length : Int) := od
       obtain ⟨ad133, e133, hx133_0⟩ := Kd.at_int HR0_1.out x8_1 p133 q133
       cases e133
       replace hx133_0 := cm HB hx133_0; replace p133 := eq_true p133; replace q133 := eq_true q133
       go_wp2_with (first | ((with_reducible refine gate_builtin (b := .append) (xs := #[.tmp 29, .tmp 33]) rfl ?_); at_builtin; refine Kd.R_append (Kd.int .i64) (w0 := w) w.heap.size rfl (.tmp 29) (.tmp 33) 31 3 (.int .i64 0) 8 rfl Tryd.underlying31 info3 rfl (by decide) (by omega) u7 x7_1 (wrap64 (a1 + (wrap64 ((wrap64 (a0_0 - 1)) - (rd l0_1 x8_1))))) [.int .i64 (wrap64 (a1 + (wrap64 ((wrap64 (a0_0 - 1)) - (rd l0_1 x8_1)))))] (fun _ => True) (fun _ => False) rfl rfl ?aP (fun _ hk => hk.elim) ?aF ?aO ?aB ?aS ?aL ?_; (case aP => exact rfl); (case aB => exact bl); (case aF => exact (fun _ _ => trivial)); (case aO => exact (bR HO_7)); (case aS => exact (below_size bl)); (case aL => have := LMc10.out; omega); intro v135 w12 ho hb hg hat; rw [← Ny134.out] at ho; replace BK129 := Aside0.mk (blk_grown (g := gb129) (o := .cells #[.int .i64 a0_0, .slice (some ad133) l0_1.length c0_1, .bool a0_2] 50 (0, 0)) bk hg (Kd.R_ne HO_7.out BK129.out (by decide))); replace HB := Aside0.mk hb; have HO136 := Aside0.mk ho; clear HO_7; clear ho hb hg hat))
       go_roundg k1
       case measure => have := HK1.out; omega
       case rel => exact ⟨(y134), (wrap64 (x8_1 + 1)), sm, H', ⟨lo HK1⟩, ⟨bR HO136⟩, ⟨bk⟩, ⟨bl⟩⟩
      ·rw [if_neg c10] at H
       exact absurd H (by simp)
     ·replace c9 := Bool.eq_false_iff.mpr c9; subst c9
      rw [if_neg (show ¬ (false = true) by decide)] at H
      by_cases c13 : x7_1.length < 17592186044416
      ·rw [if_pos c13] at H; have LMc13 := Aside0.mk c13; clear c13
       obtain ⟨y137, hy137⟩ : ∃ y_ : List Int, y_ = (x7_1 ++ [wrap64 (a1 + (rd l0_1 x8_1))]) := ⟨_, rfl⟩
       replace H : (skewbaldref01_joints.l0 k1 a1 false y137 (wrap64 (x8_1 + 1)) a0_0 l0_1 a0_2) = some r := tr H hy137
       have Ny137 := Aside0.mk hy137; clear hy137; have H' := Aside0.mk H; clear H; obtain ⟨hcz14_0, hcz14_1, hcz14_2, hfz14_0, hfz14_1, hfz14_2⟩ := b3 (w := wr) BK129
       have p133 : 0 ≤ (x8_1 : Int) := od
       have q133 : x8_1 < (l0_1.length : Int) := od
       obtain ⟨ad133, e133, hx133_0⟩ := Kd.at_int HR0_1.out x8_1 p133 q133
       cases e133
       replace hx133_0 := cm HB hx133_0; replace p133 := eq_true p133; replace q133 := eq_true q133
       go_wp2_with (first | ((with_reducible refine gate_builtin (b := .append) (xs := #[.tmp 29, .tmp 33]) rfl ?_); at_builtin; refine Kd.R_append (Kd.int .i64) (w0 := w) w.heap.size rfl (.tmp 29) (.tmp 33) 31 3 (.int .i64 0) 8 rfl Tryd.underlying31 info3 rfl (by decide) (by omega) u7 x7_1 (wrap64 (a1 + (rd l0_1 x8_1))) [.int .i64 (wrap64 (a1 + (rd l0_1 x8_1)))] (fun _ => True) (fun _ => False) rfl rfl ?aP (fun _ hk => hk.elim) ?aF ?aO ?aB ?aS ?aL ?_; (case aP => exact rfl); (case aB => exact bl); (case aF => exact (fun _ _ => trivial)); (case aO => exact (bR HO_7)); (case aS => exact (below_size bl)); (case aL => have := LMc13.out; omega); intro v138 w15 ho hb hg hat; rw [← Ny137.out] at ho; replace BK129 := Aside0.mk (blk_grown (g := gb129) (o := .cells #[.int .i64 a0_0, .slice (some ad133) l0_1.length c0_1, .bool a0_2] 50 (0, 0)) bk hg (Kd.R_ne HO_7.out BK129.out (by decide))); replace HB := Aside0.mk hb; have HO139 := Aside0.mk ho; clear HO_7; clear ho hb hg hat))
       go_roundg k1
       case measure => have := HK1.out; omega
       case rel => exact ⟨(y137), (wrap64 (x8_1 + 1)), sm, H', ⟨lo HK1⟩, ⟨bR HO139⟩, ⟨bk⟩, ⟨bl⟩⟩
      ·rw [if_neg c13] at H
       exact absurd H (by simp)
    ·rw [if_neg c8] at H
     exact absurd H (by simp)
   ·rw [if_neg c7] at H
    have c7b0 : decide (x8_1 < (l0_1.length : Int)) = false := decide_eq_false c7
    clear c7; obtain rfl := Option.some.inj H; obtain ⟨hcz16_0, hcz16_1, hcz16_2, hfz16_0, hfz16_1, hfz16_2⟩ := b3 (w := wr) BK129
    go_wp2
    go_ret
    exact ⟨_, by first | rfl | (simp [errW_none, errW_some] <;> rfl) | (simp [*, errW_none, errW_some] <;> rfl), by (with_reducible repeat (first | apply Kd.R_alloc | apply Kd.R_drewN | apply Kd.R_drew)); exact HO_7.out, bl⟩
def skewbaldref00_Find.l0 : Nat → List Int → Int → Int → Option (Int)
 | 0, _, _, _ => none
 | k + 1, x0, x1, x5 => if x5 < (x0.length : Int) then (if 0 ≤ x5 then (if (rd x0 x5) = x1 then (some x5) else (skewbaldref00_Find.l0 k x0 x1 (wrap64 (x5 + 1)))) else (none)) else (some (-1))
def skewbaldref00_Find.f (k : Nat) (l0 : List Int) (a1 : Int) : Option (Int) := skewbaldref00_Find.l0 k l0 a1 0
set_option maxHeartbeats 8000000 in
set_option maxRecDepth 100000 in
theorem skewbaldref00_Find.calls (k : Nat) (A0 : Option Addr) (c0 : Nat) (l0 : List Int) (a1 : Int) (r : Int) (w : World) (hr0 : Kd.C (Kd.int .i64) w A0 l0.length l0) (hc0 : l0.length ≤ c0) (h : skewbaldref00_Find.f k l0 a1 = some r) :
  Calls Tryd.prog 42 #[.slice A0 l0.length c0, .int .i64 a1] w fun e w' => e = .returned (.int .i64 r) ∧ Drawn0 w w' := by
 have HR0 := Aside0.mk hr0; have HC0 := Aside0.mk hc0; clear hr0 hc0
 have H : (skewbaldref00_Find.l0 k l0 a1 0) = some r := h
 clear h; have H' := Aside0.mk H; clear H
 go_enter Tryd.func42, Tryd.ntmps42
 go_wp2
 go_loopg [5] k (fun kq v5 w' => ∃ (x5_1 : Int), v5 = .int .i64 x5_1 ∧ Aside0 (skewbaldref00_Find.l0 kq l0 a1 x5_1 = some r) ∧ Aside0 (kq ≤ k) ∧ Drawn0 w w')
 case atStart => exact ⟨(0), sm, H', ⟨Nat.le_refl _⟩, by repeat (first | exact Drawn0.refl _ | apply Drawn0.step)⟩
 case round =>
  clear H'; (try clear p2); obtain ⟨x5_1, rfl, HA, HK1, ⟨m1, rfl⟩⟩ := hrel
  cases gk with
  | zero => exact absurd HA.out (by simp [skewbaldref00_Find.l0])
  | succ k1 =>
   have H := HA.out; clear HA
   simp only [skewbaldref00_Find.l0] at H
   by_cases c3 : x5_1 < (l0.length : Int)
   ·rw [if_pos c3] at H; have c3b0 := decide_eq_true c3; clear c3
    by_cases c4 : 0 ≤ x5_1
    ·rw [if_pos c4] at H; have c4b0 := decide_eq_true c4; clear c4
     by_cases c5 : (rd l0 x5_1) = a1
     ·rw [if_pos c5] at H
      have c5b0 : ((rd l0 x5_1) == a1) = true := beq_iff_eq.mpr c5
      have c5b1 : ((rd l0 x5_1) != a1) = false := bne_eq_false_iff_eq.mpr c5
      clear c5; obtain rfl := Option.some.inj H
      have p140 : 0 ≤ (x5_1 : Int) := od
      have q140 : x5_1 < (l0.length : Int) := od
      obtain ⟨ad140, e140, hx140_0⟩ := Kd.at_int HR0.out x5_1 p140 q140
      cases e140
      replace p140 := eq_true p140; replace q140 := eq_true q140
      go_wp2
      go_ret
      exact ⟨sm, by repeat (first | exact Drawn0.refl _ | apply Drawn0.step)⟩
     ·rw [if_neg c5] at H
      have c5b0 : ((rd l0 x5_1) == a1) = false := beq_eq_false_iff_ne.mpr c5
      have c5b1 : ((rd l0 x5_1) != a1) = true := bne_iff_ne.mpr c5
      have H' := Aside0.mk H; clear H
      have p140 : 0 ≤ (x5_1 : Int) := od
      have q140 : x5_1 < (l0.length : Int) := od
      obtain ⟨ad140, e140, hx140_0⟩ := Kd.at_int HR0.out x5_1 p140 q140
      cases e140
      replace p140 := eq_true p140; replace q140 := eq_true q140
      go_wp2
      go_roundg k1
      case measure => have := HK1.out; omega
      case rel => exact ⟨(wrap64 (x5_1 + 1)), sm, H', ⟨lo HK1⟩, by repeat (first | exact Drawn0.refl _ | apply Drawn0.step)⟩
    ·rw [if_neg c4] at H
     exact absurd H (by simp)
   ·rw [if_neg c3] at H
    have c3b0 : decide (x5_1 < (l0.length : Int)) = false := decide_eq_false c3
    clear c3; obtain rfl := Option.some.inj H
    go_wp2
    go_ret
    exact ⟨sm, by repeat (first | exact Drawn0.refl _ | apply Drawn0.step)⟩
mutual
def skewbaldref01_sure.l0 : Nat → List Int → Int → Int → List (S60) → Option (Bool)
 | 0, _, _, _, _ => none
 | k + 1, x1, x5, x142000, x142001 => if x5 < (x142001.length : Int) then (if 0 ≤ x5 then (skewbaldref01_sure.l1 k x1 x5 ((rd_T60 x142001 x5).f0) x142000 x142001) else (none)) else (some true)
def skewbaldref01_sure.l1 : Nat → List Int → Int → Int → Int → List (S60) → Option (Bool)
 | 0, _, _, _, _, _ => none
 | k + 1, x1, x5, x6, x142000, x142001 => if 0 ≤ x5 then (if x5 < (x142001.length : Int) then (if x6 ≤ ((rd_T60 x142001 x5).f1) then ((skewbaldref00_Find.f k x1 x6).bind fun t144 => (if t144 ≥ 0 then (some false) else (skewbaldref01_sure.l1 k x1 x5 (wrap64 (x6 + 1)) x142000 x142001))) else (skewbaldref01_sure.l0 k x1 (wrap64 (x5 + 1)) x142000 x142001)) else (none)) else (none)
end
def skewbaldref01_sure.f (k : Nat) (a0_0 : Int) (l0_1 : List (S60)) (l1 : List Int) : Option (Bool) := skewbaldref01_sure.l0 k l1 0 a0_0 l0_1
set_option maxHeartbeats 8000000 in
set_option maxRecDepth 100000 in
theorem skewbaldref01_sure.calls (k : Nat) (a0_0 : Int) (A0_1 : Option Addr) (c0_1 : Nat) (l0_1 : List (S60)) (A1 : Option Addr) (c1 : Nat) (l1 : List Int) (r : Bool) (w : World) (hr0_1 : Kd.C k60 w A0_1 l0_1.length l0_1) (hc0_1 : l0_1.length ≤ c0_1) (hr1 : Kd.C (Kd.int .i64) w A1 l1.length l1) (hc1 : l1.length ≤ c1) (h : skewbaldref01_sure.f k a0_0 l0_1 l1 = some r) :
  Calls Tryd.prog 100 #[.agg #[.int .i64 a0_0, .slice A0_1 l0_1.length c0_1], .slice A1 l1.length c1] w fun e w' => e = .returned (.bool r) ∧ Below w.heap.size w w' := by
 have hu48 := Tryd.underlying48; have HR0_1 := Aside0.mk hr0_1; have HC0_1 := Aside0.mk hc0_1; clear hr0_1 hc0_1; have HR1 := Aside0.mk hr1; have HC1 := Aside0.mk hc1; clear hr1 hc1; have HB := Aside0.mk (Below.refl w.heap.size w)
 have H : (skewbaldref01_sure.l0 k l1 0 a0_0 l0_1) = some r := h
 clear h; have H' := Aside0.mk H; clear H
 go_enter Tryd.func100, Tryd.ntmps100
 go_wp2_with (first | (refine bx 2 #[.int .i64 a0_0, .slice A0_1 l0_1.length c0_1] 48 ?_; intro gb141 hg w3 hbox hb; have BK141 := Aside0.mk hbox; have GW141 := gw hg HB; have GE141 := gw hg HB; replace HB := hs HB hb; clear hb hbox hg))
 go_loopg [5] k (fun kq v5 w' => ∃ (x5_1 : Int), v5 = .int .i64 x5_1 ∧ Aside0 (skewbaldref01_sure.l0 kq l1 x5_1 a0_0 l0_1 = some r) ∧ Aside0 (kq ≤ k) ∧ Aside0 (w'.heap[gb141]? = some (.cells #[.int .i64 a0_0, (.slice A0_1 l0_1.length c0_1)] 48 (0, 0))) ∧ Aside0 (Below w.heap.size w w'))
 case atStart => exact ⟨(0), sm, H', ⟨Nat.le_refl _⟩, ⟨bk⟩, ⟨bl⟩⟩
 case round =>
  clear H'; (try clear c1); (try clear p2); obtain ⟨x5_1, rfl, HA, HK1, BK141, HB⟩ := hrel
  cases gk with
  | zero => exact absurd HA.out (by simp [skewbaldref01_sure.l0])
  | succ k1 =>
   have H := HA.out; clear HA
   simp only [skewbaldref01_sure.l0] at H
   by_cases c4 : x5_1 < (l0_1.length : Int)
   ·rw [if_pos c4] at H; have c4b0 := decide_eq_true c4; clear c4
    by_cases c5 : 0 ≤ x5_1
    ·rw [if_pos c5] at H; have c5b0 := decide_eq_true c5; clear c5; have H' := Aside0.mk H; clear H; obtain ⟨hcz6_0, hcz6_1, hfz6_0, hfz6_1⟩ := b2 (w := wr) BK141
     have p142 : 0 ≤ (x5_1 : Int) := od
     have q142 : x5_1 < (l0_1.length : Int) := od
     obtain ⟨ad142, e142, hx142_0, hx142_1⟩ := at_T60 HR0_1.out x5_1 p142 q142
     cases e142
     replace hx142_0 := cm HB hx142_0; replace hx142_1 := cm HB hx142_1; replace p142 := eq_true p142; replace q142 := eq_true q142
     go_wp2
     go_loopg [6] k1 (fun kq v6 w' => ∃ (x6_2 : Int), v6 = .int .i64 x6_2 ∧ Aside0 (skewbaldref01_sure.l1 kq l1 x5_1 x6_2 a0_0 l0_1 = some r) ∧ Aside0 (kq ≤ k1) ∧ Aside0 (w'.heap[gb141]? = some (.cells #[.int .i64 a0_0, (.slice (some ad142) l0_1.length c0_1)] 48 (0, 0))) ∧ Aside0 (Below w.heap.size w w'))
     case atStart => exact ⟨((rd_T60 l0_1 x5_1).f0), sm, H', ⟨Nat.le_refl _⟩, ⟨bk⟩, ⟨bl⟩⟩
     case round =>
      clear H'; (try clear c1); (try clear p1); (try clear q1); (try clear hx1); (try clear p2); (try clear c4); (try clear c4b0); (try clear c5); (try clear c5b0); (try clear hcz6_0); (try clear hcz6_1); (try clear hfz6_0); (try clear hfz6_1); (try clear hx142_0); (try clear hx142_1); (try clear p142); (try clear q142); obtain ⟨x6_2, rfl, HA, HK2, BK141, HB⟩ := hrel
      cases gk with
      | zero => exact absurd HA.out (by simp [skewbaldref01_sure.l1])
      | succ k2 =>
       have H := HA.out; clear HA
       simp only [skewbaldref01_sure.l1] at H
       by_cases c7 : 0 ≤ x5_1
       ·rw [if_pos c7] at H; have c7b0 := decide_eq_true c7; clear c7
        by_cases c8 : x5_1 < (l0_1.length : Int)
        ·rw [if_pos c8] at H; have c8b0 := decide_eq_true c8; clear c8
         by_cases c9 : x6_2 ≤ ((rd_T60 l0_1 x5_1).f1)
         ·rw [if_pos c9] at H; have c9b0 := decide_eq_true c9; clear c9; obtain ⟨t144, A10, H⟩ := ob H
          by_cases c11 : t144 ≥ 0
          ·rw [if_pos c11] at H; have c11b0 := decide_eq_true c11; clear c11; obtain rfl := Option.some.inj H; obtain ⟨hcz12_0, hcz12_1, hfz12_0, hfz12_1⟩ := b2 (w := wr) BK141
           have p143 : 0 ≤ (x5_1 : Int) := od
           have q143 : x5_1 < (l0_1.length : Int) := od
           obtain ⟨ad143, e143, hx143_0, hx143_1⟩ := at_T60 HR0_1.out x5_1 p143 q143
           obtain rfl : ad142 = ad143 := (by injection e143)
           replace hx143_0 := cm HB hx143_0; replace hx143_1 := cm HB hx143_1; replace p143 := eq_true p143; replace q143 := eq_true q143
           go_wp2_with (first | ((with_reducible refine gate_callee (f := 42) rfl ?_); refine gl (some 32) Tryd.func42 #[.slice A1 l1.length c1, .int .i64 x6_2] ?_; (with_reducible refine (skewbaldref00_Find.calls k2 _ _ l1 x6_2 t144 _ ?side1 ?side2 A10.out).mono ?_); (case side1 => repeat (first | exact (Kd.C_below HR1.out HB.out) | (with_reducible refine Kd.C_alloc ?_ _) | (with_reducible refine Kd.C_drewN ?_ _) | (with_reducible refine Kd.C_drew ?_))); (case side2 => exact HC1.out); rintro e w' ⟨rfl, ⟨nd, rfl⟩⟩; refine ⟨_, rfl, ?_⟩))
           go_ret
           exact ⟨by first | rfl | (simp [errW_none, errW_some] <;> rfl) | (simp [*, errW_none, errW_some] <;> rfl), bl⟩
          ·rw [if_neg c11] at H
           have c11b0 : decide (0 ≤ t144) = false := decide_eq_false c11
           clear c11; have H' := Aside0.mk H; clear H; obtain ⟨hcz13_0, hcz13_1, hfz13_0, hfz13_1⟩ := b2 (w := wr) BK141
           have p143 : 0 ≤ (x5_1 : Int) := od
           have q143 : x5_1 < (l0_1.length : Int) := od
           obtain ⟨ad143, e143, hx143_0, hx143_1⟩ := at_T60 HR0_1.out x5_1 p143 q143
           obtain rfl : ad142 = ad143 := (by injection e143)
           replace hx143_0 := cm HB hx143_0; replace hx143_1 := cm HB hx143_1; replace p143 := eq_true p143; replace q143 := eq_true q143
           go_wp2_with (first | ((with_reducible refine gate_callee (f := 42) rfl ?_); refine gl (some 32) Tryd.func42 #[.slice A1 l1.length c1, .int .i64 x6_2] ?_; (with_reducible refine (skewbaldref00_Find.calls k2 _ _ l1 x6_2 t144 _ ?side1 ?side2 A10.out).mono ?_); (case side1 => repeat (first | exact (Kd.C_below HR1.out HB.out) | (with_reducible refine Kd.C_alloc ?_ _) | (with_reducible refine Kd.C_drewN ?_ _) | (with_reducible refine Kd.C_drew ?_))); (case side2 => exact HC1.out); rintro e w' ⟨rfl, ⟨nd, rfl⟩⟩; refine ⟨_, rfl, ?_⟩))
           go_roundg k2
           case measure => have := HK1.out; have := HK2.out; omega
           case rel => exact ⟨(wrap64 (x6_2 + 1)), sm, H', ⟨lp HK1 HK2⟩, ⟨bk⟩, ⟨bl⟩⟩
         ·rw [if_neg c9] at H
          have c9b0 : decide (x6_2 ≤ ((rd_T60 l0_1 x5_1).f1)) = false := decide_eq_false c9
          clear c9; have H' := Aside0.mk H; clear H; obtain ⟨hcz14_0, hcz14_1, hfz14_0, hfz14_1⟩ := b2 (w := wr) BK141
          have p143 : 0 ≤ (x5_1 : Int) := od
          have q143 : x5_1 < (l0_1.length : Int) := od
          obtain ⟨ad143, e143, hx143_0, hx143_1⟩ := at_T60 HR0_1.out x5_1 p143 q143
          obtain rfl : ad142 = ad143 := (by injection e143)
          replace hx143_0 := cm HB hx143_0; replace hx143_1 := cm HB hx143_1; replace p143 := eq_true p143; replace q143 := eq_true q143
          go_wp2
          go_roundg k2
          case measure => have := HK1.out; have := HK2.out; omega
          case rel => exact ⟨(wrap64 (x5_1 + 1)), sm, H', ⟨lp HK1 HK2⟩, ⟨bk⟩, ⟨bl⟩⟩
        ·rw [if_neg c8] at H
         exact absurd H (by simp)
       ·rw [if_neg c7] at H
        exact absurd H (by simp)
    ·rw [if_neg c5] at H
     exact absurd H (by simp)
   ·rw [if_neg c4] at H
    have c4b0 : decide (x5_1 < (l0_1.length : Int)) = false := decide_eq_false c4
    clear c4; obtain rfl := Option.some.inj H; obtain ⟨hcz15_0, hcz15_1, hfz15_0, hfz15_1⟩ := b2 (w := wr) BK141
    go_wp2
    go_ret
    exact ⟨by first | rfl | (simp [errW_none, errW_some] <;> rfl) | (simp [*, errW_none, errW_some] <;> rfl), bl⟩
mutual
def skewbaldref01_may.l0 : Nat → List Int → Int → Int → List (S60) → Option (Bool)
 | 0, _, _, _, _ => none
 | k + 1, x1, x5, x146000, x146001 => if x5 < (x146001.length : Int) then (if 0 ≤ x5 then (skewbaldref01_may.l1 k x1 x5 false ((rd_T60 x146001 x5).f0) x146000 x146001) else (none)) else (some true)
def skewbaldref01_may.l1 : Nat → List Int → Int → Bool → Int → Int → List (S60) → Option (Bool)
 | 0, _, _, _, _, _, _ => none
 | k + 1, x1, x5, x6, x7, x146000, x146001 => if 0 ≤ x5 then (if x5 < (x146001.length : Int) then (if x7 ≤ ((rd_T60 x146001 x5).f1) then (if x6 = true then (skewbaldref01_may.l1 k x1 x5 true (wrap64 (x7 + 1)) x146000 x146001) else ((skewbaldref00_Find.f k x1 x7).bind fun t148 => (skewbaldref01_may.l1 k x1 x5 (decide (t148 < 0)) (wrap64 (x7 + 1)) x146000 x146001))) else (if x6 = true then (skewbaldref01_may.l0 k x1 (wrap64 (x5 + 1)) x146000 x146001) else (some false))) else (none)) else (none)
end
def skewbaldref01_may.f (k : Nat) (a0_0 : Int) (l0_1 : List (S60)) (l1 : List Int) : Option (Bool) := skewbaldref01_may.l0 k l1 0 a0_0 l0_1
set_option maxHeartbeats 8000000 in
set_option maxRecDepth 100000 in
theorem skewbaldref01_may.calls (k : Nat) (a0_0 : Int) (A0_1 : Option Addr) (c0_1 : Nat) (l0_1 : List (S60)) (A1 : Option Addr) (c1 : Nat) (l1 : List Int) (r : Bool) (w : World) (hr0_1 : Kd.C k60 w A0_1 l0_1.length l0_1) (hc0_1 : l0_1.length ≤ c0_1) (hr1 : Kd.C (Kd.int .i64) w A1 l1.length l1) (hc1 : l1.length ≤ c1) (h : skewbaldref01_may.f k a0_0 l0_1 l1 = some r) :
  Calls Tryd.prog 101 #[.agg #[.int .i64 a0_0, .slice A0_1 l0_1.length c0_1], .slice A1 l1.length c1] w fun e w' => e = .returned (.bool r) ∧ Below w.heap.size w w' := by
 have hu48 := Tryd.underlying48; have HR0_1 := Aside0.mk hr0_1; have HC0_1 := Aside0.mk hc0_1; clear hr0_1 hc0_1; have HR1 := Aside0.mk hr1; have HC1 := Aside0.mk hc1; clear hr1 hc1; have HB := Aside0.mk (Below.refl w.heap.size w)
 have H : (skewbaldref01_may.l0 k l1 0 a0_0 l0_1) = some r := h
 clear h; have H' := Aside0.mk H; clear H
 go_enter Tryd.func101, Tryd.ntmps101
 go_wp2_with (first | (refine bx 2 #[.int .i64 a0_0, .slice A0_1 l0_1.length c0_1] 48 ?_; intro gb145 hg w3 hbox hb; have BK145 := Aside0.mk hbox; have GW145 := gw hg HB; have GE145 := gw hg HB; replace HB := hs HB hb; clear hb hbox hg))
 go_loopg [5] k (fun kq v5 w' => ∃ (x5_1 : Int), v5 = .int .i64 x5_1 ∧ Aside0 (skewbaldref01_may.l0 kq l1 x5_1 a0_0 l0_1 = some r) ∧ Aside0 (kq ≤ k) ∧ Aside0 (w'.heap[gb145]? = some (.cells #[.int .i64 a0_0, (.slice A0_1 l0_1.length c0_1)] 48 (0, 0))) ∧ Aside0 (Below w.heap.size w w'))
 case atStart => exact ⟨(0), sm, H', ⟨Nat.le_refl _⟩, ⟨bk⟩, ⟨bl⟩⟩
 case round =>
  clear H'; (try clear c1); (try clear p2); obtain ⟨x5_1, rfl, HA, HK1, BK145, HB⟩ := hrel
  cases gk with
  | zero => exact absurd HA.out (by simp [skewbaldref01_may.l0])
  | succ k1 =>
   have H := HA.out; clear HA
   simp only [skewbaldref01_may.l0] at H
   by_cases c4 : x5_1 < (l0_1.length : Int)
   ·rw [if_pos c4] at H; have c4b0 := decide_eq_true c4; clear c4
    by_cases c5 : 0 ≤ x5_1
    ·rw [if_pos c5] at H; have c5b0 := decide_eq_true c5; clear c5; have H' := Aside0.mk H; clear H; obtain ⟨hcz6_0, hcz6_1, hfz6_0, hfz6_1⟩ := b2 (w := wr) BK145
     have p146 : 0 ≤ (x5_1 : Int) := od
     have q146 : x5_1 < (l0_1.length : Int) := od
     obtain ⟨ad146, e146, hx146_0, hx146_1⟩ := at_T60 HR0_1.out x5_1 p146 q146
     cases e146
     replace hx146_0 := cm HB hx146_0; replace hx146_1 := cm HB hx146_1; replace p146 := eq_true p146; replace q146 := eq_true q146
     go_wp2
     go_loopg [6, 7] k1 (fun kq v6 v7 w' => ∃ (x6_2 : Bool) (x7_2 : Int), v6 = .bool x6_2 ∧ v7 = .int .i64 x7_2 ∧ Aside0 (skewbaldref01_may.l1 kq l1 x5_1 x6_2 x7_2 a0_0 l0_1 = some r) ∧ Aside0 (kq ≤ k1) ∧ Aside0 (w'.heap[gb145]? = some (.cells #[.int .i64 a0_0, (.slice (some ad146) l0_1.length c0_1)] 48 (0, 0))) ∧ Aside0 (Below w.heap.size w w'))
     case atStart => exact ⟨(false), ((rd_T60 l0_1 x5_1).f0), sm, sm, H', ⟨Nat.le_refl _⟩, ⟨bk⟩, ⟨bl⟩⟩
     case round =>
      clear H'; (try clear c1); (try clear p1); (try clear q1); (try clear hx1); (try clear p2); (try clear c4); (try clear c4b0); (try clear c5); (try clear c5b0); (try clear hcz6_0); (try clear hcz6_1); (try clear hfz6_0); (try clear hfz6_1); (try clear hx146_0); (try clear hx146_1); (try clear p146); (try clear q146); obtain ⟨x6_2, x7_2, rfl, rfl, HA, HK2, BK145, HB⟩ := hrel
      cases gk with
      | zero => exact absurd HA.out (by simp [skewbaldref01_may.l1])
      | succ k2 =>
       have H := HA.out; clear HA
       simp only [skewbaldref01_may.l1] at H
       by_cases c7 : 0 ≤ x5_1
       ·rw [if_pos c7] at H; have c7b0 := decide_eq_true c7; clear c7
        by_cases c8 : x5_1 < (l0_1.length : Int)
        ·rw [if_pos c8] at H; have c8b0 := decide_eq_true c8; clear c8
         by_cases c9 : x7_2 ≤ ((rd_T60 l0_1 x5_1).f1)
         ·rw [if_pos c9] at H; have c9b0 := decide_eq_true c9; clear c9
          by_cases c10 : x6_2 = true
          ·subst c10; rw [if_pos rfl] at H; have H' := Aside0.mk H; clear H; obtain ⟨hcz11_0, hcz11_1, hfz11_0, hfz11_1⟩ := b2 (w := wr) BK145
           have p147 : 0 ≤ (x5_1 : Int) := od
           have q147 : x5_1 < (l0_1.length : Int) := od
           obtain ⟨ad147, e147, hx147_0, hx147_1⟩ := at_T60 HR0_1.out x5_1 p147 q147
           obtain rfl : ad146 = ad147 := (by injection e147)
           replace hx147_0 := cm HB hx147_0; replace hx147_1 := cm HB hx147_1; replace p147 := eq_true p147; replace q147 := eq_true q147
           go_wp2
           go_roundg k2
           case measure => have := HK1.out; have := HK2.out; omega
           case rel => exact ⟨(true), (wrap64 (x7_2 + 1)), sm, sm, H', ⟨lp HK1 HK2⟩, ⟨bk⟩, ⟨bl⟩⟩
          ·replace c10 := Bool.eq_false_iff.mpr c10; subst c10
           rw [if_neg (show ¬ (false = true) by decide)] at H
           obtain ⟨t148, A12, H⟩ := ob H; have H' := Aside0.mk H; clear H; obtain ⟨hcz13_0, hcz13_1, hfz13_0, hfz13_1⟩ := b2 (w := wr) BK145
           have p147 : 0 ≤ (x5_1 : Int) := od
           have q147 : x5_1 < (l0_1.length : Int) := od
           obtain ⟨ad147, e147, hx147_0, hx147_1⟩ := at_T60 HR0_1.out x5_1 p147 q147
           obtain rfl : ad146 = ad147 := (by injection e147)
           replace hx147_0 := cm HB hx147_0; replace hx147_1 := cm HB hx147_1; replace p147 := eq_true p147; replace q147 := eq_true q147
           go_wp2_with (first | (go_at_call 42; (with_reducible refine (skewbaldref00_Find.calls k2 _ _ l1 x7_2 t148 _ ?side1 ?side2 A12.out).mono ?_); (case side1 => repeat (first | exact (Kd.C_below HR1.out HB.out) | (with_reducible refine Kd.C_alloc ?_ _) | (with_reducible refine Kd.C_drewN ?_ _) | (with_reducible refine Kd.C_drew ?_))); (case side2 => exact HC1.out); rintro e w' ⟨rfl, ⟨nd, rfl⟩⟩))
           go_roundg k2
           case measure => have := HK1.out; have := HK2.out; omega
           case rel => exact ⟨(decide (t148 < 0)), (wrap64 (x7_2 + 1)), sm, sm, H', ⟨lp HK1 HK2⟩, ⟨bk⟩, ⟨bl⟩⟩
         ·rw [if_neg c9] at H
          have c9b0 : decide (x7_2 ≤ ((rd_T60 l0_1 x5_1).f1)) = false := decide_eq_false c9
          clear c9
          by_cases c14 : x6_2 = true
          ·subst c14; rw [if_pos rfl] at H; have H' := Aside0.mk H; clear H; obtain ⟨hcz15_0, hcz15_1, hfz15_0, hfz15_1⟩ := b2 (w := wr) BK145
           have p147 : 0 ≤ (x5_1 : Int) := od
           have q147 : x5_1 < (l0_1.length : Int) := od
           obtain ⟨ad147, e147, hx147_0, hx147_1⟩ := at_T60 HR0_1.out x5_1 p147 q147
           obtain rfl : ad146 = ad147 := (by injection e147)
           replace hx147_0 := cm HB hx147_0; replace hx147_1 := cm HB hx147_1; replace p147 := eq_true p147; replace q147 := eq_true q147
           go_wp2
           go_roundg k2
           case measure => have := HK1.out; have := HK2.out; omega
           case rel => exact ⟨(wrap64 (x5_1 + 1)), sm, H', ⟨lp HK1 HK2⟩, ⟨bk⟩, ⟨bl⟩⟩
          ·replace c14 := Bool.eq_false_iff.mpr c14; subst c14
           rw [if_neg (show ¬ (false = true) by decide)] at H
           obtain rfl := Option.some.inj H; obtain ⟨hcz16_0, hcz16_1, hfz16_0, hfz16_1⟩ := b2 (w := wr) BK145
           have p147 : 0 ≤ (x5_1 : Int) := od
           have q147 : x5_1 < (l0_1.length : Int) := od
           obtain ⟨ad147, e147, hx147_0, hx147_1⟩ := at_T60 HR0_1.out x5_1 p147 q147
           obtain rfl : ad146 = ad147 := (by injection e147)
           replace hx147_0 := cm HB hx147_0; replace hx147_1 := cm HB hx147_1; replace p147 := eq_true p147; replace q147 := eq_true q147
           go_wp2
           go_ret
           exact ⟨by first | rfl | (simp [errW_none, errW_some] <;> rfl) | (simp [*, errW_none, errW_some] <;> rfl), bl⟩
        ·rw [if_neg c8] at H
         exact absurd H (by simp)
       ·rw [if_neg c7] at H
        exact absurd H (by simp)
    ·rw [if_neg c5] at H
     exact absurd H (by simp)
   ·rw [if_neg c4] at H
    have c4b0 : decide (x5_1 < (l0_1.length : Int)) = false := decide_eq_false c4
    clear c4; obtain rfl := Option.some.inj H; obtain ⟨hcz17_0, hcz17_1, hfz17_0, hfz17_1⟩ := b2 (w := wr) BK145
    go_wp2
    go_ret
    exact ⟨by first | rfl | (simp [errW_none, errW_some] <;> rfl) | (simp [*, errW_none, errW_some] <;> rfl), bl⟩
def skewbaldref01_can.j0 : Nat → List Int → List Int → Bool → Int → List (S60) → Int → List Int → Bool → Option (Int)
 | 0, _, _, _, _, _, _, _, _ => none
 | k + 1, x11, x12, x40, x153000, x153001, x154000, x154001, x154002 => if x40 = true then (some 2) else ((skewbaldref01_may.f k x153000 x153001 x11).bind fun t162 => (if t162 = true then (some 1) else (if x154002 = true then ((skewbaldref01_may.f k x153000 x153001 x12).bind fun t163 => (if t163 = true then (some 1) else (some 0))) else (some 0))))
def skewbaldref01_can.f (k : Nat) (l0_0 : List (S48)) (l0_1 : List (S50)) (a1 : Int) (a2 : Int) (a3 : Int) : Option (Int) := if 0 ≤ a1 then (if a1 < (l0_0.length : Int) then (if 0 ≤ a2 then (if a2 < (l0_1.length : Int) then ((skewbaldref01_joints.f k ((rd_T50 l0_1 a2).f0) ((rd_T50 l0_1 a2).f1) ((rd_T50 l0_1 a2).f2) a3 false).bind fun t154 => ((skewbaldref01_joints.f k ((rd_T50 l0_1 a2).f0) ((rd_T50 l0_1 a2).f1) ((rd_T50 l0_1 a2).f2) a3 true).bind fun t157 => ((skewbaldref01_sure.f k ((rd_T48 l0_0 a1).f0) ((rd_T48 l0_0 a1).f1) t154).bind fun t160 => (if t160 = true then (skewbaldref01_can.j0 k t154 t157 true ((rd_T48 l0_0 a1).f0) ((rd_T48 l0_0 a1).f1) ((rd_T50 l0_1 a2).f0) ((rd_T50 l0_1 a2).f1) ((rd_T50 l0_1 a2).f2)) else (if (rd_T50 l0_1 a2).f2 = true then ((skewbaldref01_sure.f k ((rd_T48 l0_0 a1).f0) ((rd_T48 l0_0 a1).f1) t157).bind fun t161 => (skewbaldref01_can.j0 k t154 t157 t161 ((rd_T48 l0_0 a1).f0) ((rd_T48 l0_0 a1).f1) ((rd_T50 l0_1 a2).f0) ((rd_T50 l0_1 a2).f1) ((rd_T50 l0_1 a2).f2))) else (skewbaldref01_can.j0 k t154 t157 false ((rd_T48 l0_0 a1).f0) ((rd_T48 l0_0 a1).f1) ((rd_T50 l0_1 a2).f0) ((rd_T50 l0_1 a2).f1) ((rd_T50 l0_1 a2).f2))))))) else (none)) else (none)) else (none)) else (none)
def skewbaldref01_can.T1 : Bool × List (List Nat × List Nat) := (true, [([], []), ([0], [0]), ([], []), ([1, 2], [1, 2]), ([3], [3]), ([], []), ([5], [5]), ([], []), ([6, 7], [6, 7]), ([8], [8]), ([], []), ([], []), ([10, 4, 0, 1, 2, 3, 4, 10, 11], [4, 10]), ([11, 9, 12, 0, 1, 2, 3, 4, 5, 6, 7, 8, 9, 10, 11, 12], [9, 11])])
def skewbaldref01_can.B1 : List Nat := [0, 1, 0, 7, 15, 0, 32, 0, 224, 480, 0, 0, 3103, 8191]
theorem skewbaldref01_can.tab1 : rtab .any (opsOf Tryd.f69 1) = skewbaldref01_can.T1 := by kernel_rfl
theorem skewbaldref01_can.bits1 : waitsOk skewbaldref01_can.T1.2 skewbaldref01_can.B1 = true := by kernel_rfl
def skewbaldref01_can.T2 : Bool × List (List Nat × List Nat) := (true, [([], []), ([], []), ([0, 1], [0, 1]), ([], []), ([], []), ([3, 4, 2], [3, 4]), ([2, 5, 0, 1, 2], [2]), ([5, 6, 0, 1, 2, 3, 4, 5, 6], [5])])
def skewbaldref01_can.B2 : List Nat := [0, 0, 3, 0, 0, 31, 63, 127]
theorem skewbaldref01_can.tab2 : rtab .any (opsOf Tryd.f69 2) = skewbaldref01_can.T2 := by kernel_rfl
theorem skewbaldref01_can.bits2 : waitsOk skewbaldref01_can.T2.2 skewbaldref01_can.B2 = true := by kernel_rfl
set_option maxHeartbeats 8000000 in
set_option maxRecDepth 100000 in
theorem skewbaldref01_can.calls (k : Nat) (A0_0 : Option Addr) (c0_0 : Nat) (l0_0 : List (S48)) (A0_1 : Option Addr) (c0_1 : Nat) (l0_1 : List (S50)) (a1 : Int) (a2 : Int) (a3 : Int) (r : Int) (w : World) (hr0_0 : Kd.C k48 w A0_0 l0_0.length l0_0) (hc0_0 : l0_0.length ≤ c0_0) (hr0_1 : Kd.C k50 w A0_1 l0_1.length l0_1) (hc0_1 : l0_1.length ≤ c0_1) (h : skewbaldref01_can.f k l0_0 l0_1 a1 a2 a3 = some r) :
  Calls Tryd.prog 69 #[.agg #[.slice A0_0 l0_0.length c0_0, .slice A0_1 l0_1.length c0_1], .int .i64 a1, .int .i64 a2, .int .i64 a3] w fun e w' => e = .returned (.int .i64 r) ∧ Below w.heap.size w w' := by
 have hu25 := Tryd.underlying25; have hu48 := Tryd.underlying48; have hu50 := Tryd.underlying50; have HR0_0 := Aside0.mk hr0_0; have HC0_0 := Aside0.mk hc0_0; clear hr0_0 hc0_0; have HR0_1 := Aside0.mk hr0_1; have HC0_1 := Aside0.mk hc0_1; clear hr0_1 hc0_1; have HB := Aside0.mk (Below.refl w.heap.size w)
 have H : (if 0 ≤ a1 then (if a1 < (l0_0.length : Int) then (if 0 ≤ a2 then (if a2 < (l0_1.length : Int) then ((skewbaldref01_joints.f k ((rd_T50 l0_1 a2).f0) ((rd_T50 l0_1 a2).f1) ((rd_T50 l0_1 a2).f2) a3 false).bind fun t154 => ((skewbaldref01_joints.f k ((rd_T50 l0_1 a2).f0) ((rd_T50 l0_1 a2).f1) ((rd_T50 l0_1 a2).f2) a3 true).bind fun t157 => ((skewbaldref01_sure.f k ((rd_T48 l0_0 a1).f0) ((rd_T48 l0_0 a1).f1) t154).bind fun t160 => (if t160 = true then (skewbaldref01_can.j0 k t154 t157 true ((rd_T48 l0_0 a1).f0) ((rd_T48 l0_0 a1).f1) ((rd_T50 l0_1 a2).f0) ((rd_T50 l0_1 a2).f1) ((rd_T50 l0_1 a2).f2)) else (if (rd_T50 l0_1 a2).f2 = true then ((skewbaldref01_sure.f k ((rd_T48 l0_0 a1).f0) ((rd_T48 l0_0 a1).f1) t157).bind fun t161 => (skewbaldref01_can.j0 k t154 t157 t161 ((rd_T48 l0_0 a1).f0) ((rd_T48 l0_0 a1).f1) ((rd_T50 l0_1 a2).f0) ((rd_T50 l0_1 a2).f1) ((rd_T50 l0_1 a2).f2))) else (skewbaldref01_can.j0 k t154 t157 false ((rd_T48 l0_0 a1).f0) ((rd_T48 l0_0 a1).f1) ((rd_T50 l0_1 a2).f0) ((rd_T50 l0_1 a2).f1) ((rd_T50 l0_1 a2).f2))))))) else (none)) else (none)) else (none)) else (none)) = some r := h
 clear h
 by_cases c5 : 0 ≤ a1
 ·rw [if_pos c5] at H; have c5b0 := decide_eq_true c5; clear c5
  by_cases c6 : a1 < (l0_0.length : Int)
  ·rw [if_pos c6] at H; have c6b0 := decide_eq_true c6; clear c6
   by_cases c7 : 0 ≤ a2
   ·rw [if_pos c7] at H; have c7b0 := decide_eq_true c7; clear c7
    by_cases c8 : a2 < (l0_1.length : Int)
    ·rw [if_pos c8] at H; have c8b0 := decide_eq_true c8; clear c8; obtain ⟨t154, A9, H⟩ := ob H; obtain ⟨t157, A10, H⟩ := ob H; have HC11 := Aside0.mk H; clear H
     go_enter Tryd.func69, Tryd.ntmps69
     try go_wp2_with (first | (refine bx 4 #[.slice A0_0 l0_0.length c0_0, .slice A0_1 l0_1.length c0_1] 25 ?_; intro gb149 hg w12 hbox hb; have BK149 := Aside0.mk hbox; have GW149 := gw hg HB; have GE149 := gw hg HB; replace HB := hs HB hb; clear hb hbox hg))
     replace BK149 := Aside0.mk (blk_drew BK149.out); replace HB := Aside0.mk (below_drew1 HB.out)
     have p150 : 0 ≤ (a1 : Int) := od
     have q150 : a1 < (l0_0.length : Int) := od
     obtain ⟨ad150, A150_1, c150_1, e150, hx150_0, hx150_1, hl150_1, hi150_1⟩ := at_T48 HR0_0.out a1 p150 q150; have hw150_1 := hx150_1; have hw150_0 := hx150_0
     cases e150
     replace hx150_0 := cm HB hx150_0; replace hx150_1 := cm HB hx150_1; have HR150_1 := Aside0.mk hi150_1; have HC150_1 := Aside0.mk hl150_1; clear hi150_1 hl150_1; replace p150 := eq_true p150; replace q150 := eq_true q150
     have p151 : 0 ≤ (a2 : Int) := od
     have q151 : a2 < (l0_1.length : Int) := od
     obtain ⟨ad151, A151_1, c151_1, e151, hx151_0, hx151_1, hx151_2, hl151_1, hi151_1⟩ := at_T50 HR0_1.out a2 p151 q151; have hw151_2 := hx151_2; have hw151_1 := hx151_1; have hw151_0 := hx151_0
     cases e151
     replace hx151_0 := cm HB hx151_0; replace hx151_1 := cm HB hx151_1; replace hx151_2 := cm HB hx151_2; have HR151_1 := Aside0.mk hi151_1; have HC151_1 := Aside0.mk hl151_1; clear hi151_1 hl151_1; replace p151 := eq_true p151; replace q151 := eq_true q151
     refine start_ (n := 14) (S := fun w' => w'.cell? ⟨gb149, 0, none⟩ = some (.slice (some ad150) l0_0.length c0_0) ∧ w'.cell? ⟨gb149, 1, none⟩ = some (.slice (some ad151) l0_1.length c0_1) ∧ w'.cell? (ad150.add ((a1).toNat * 2)) = some (.int .i64 ((rd_T48 l0_0 a1).f0)) ∧ w'.cell? ⟨(ad150.add ((a1).toNat * 2)).block, (ad150.add ((a1).toNat * 2)).off + 1, none⟩ = some (.slice A150_1 ((rd_T48 l0_0 a1).f1).length c150_1) ∧ w'.cell? (ad151.add ((a2).toNat * 3)) = some (.int .i64 ((rd_T50 l0_1 a2).f0)) ∧ w'.cell? ⟨(ad151.add ((a2).toNat * 3)).block, (ad151.add ((a2).toNat * 3)).off + 1, none⟩ = some (.slice A151_1 ((rd_T50 l0_1 a2).f1).length c151_1) ∧ w'.cell? ⟨(ad151.add ((a2).toNat * 3)).block, (ad151.add ((a2).toNat * 3)).off + 2, none⟩ = some (.bool ((rd_T50 l0_1 a2).f2))) (ds := []) #[false, false, false, false, false, false, false, false, false, false, false, false, false, false] (by kernel_rfl) rfl rfl ⟨bq BK149 0, bq BK149 1, (cm HB hw150_0 :), (cm HB hw150_1 :), (cm HB hw151_0 :), (cm HB hw151_1 :), (cm HB hw151_2 :)⟩ (fun hHeld => ?_); refine with_tabW skewbaldref01_can.tab1 skewbaldref01_can.bits1 (fun HT_ HW_ => ?_)
     generalize w12.drew = w13 at BK149 HB HR150_1 HR151_1 hx150_0 hx150_1 hx151_0 hx151_1 hx151_2 hHeld ⊢
     refine pu_ (i := 0) (N := some 13) (qa_ 14 1) ?_
     refine pu_ (i := 2) (N := some 15) (qa_ 14 5) ?_
     refine pu_ (i := 5) (N := some 18) (qa_ 14 37) ?_
     refine pu_ (i := 7) (N := some 20) (qa_ 14 165) ?_
     refine tk_ (i := 1) (N := some 14) (qa_ 14 167) hHeld ?_
     refine pu_ (i := 3) (N := some 16) (qa_ 14 175) ?_
     refine tk_ (i := 4) (N := some 17) (qa_ 14 191) hHeld ?_
     refine tk_ (i := 6) (N := some 19) (qa_ 14 255) hHeld ?_
     refine pu_ (i := 8) (N := some 21) (qa_ 14 511) ?_
     refine tk_ (i := 9) (N := some 22) (qa_ 14 1023) hHeld ?_
     refine join_ (σ := Nat × Nat) 2 #[true, true, true, true, true, true, true, true, true, true, true, true, false, false] (fun s_ => [(9, .pointer (some ⟨s_.1, 0, none⟩)), (10, .pointer (some ⟨s_.2, 0, none⟩))]) (fun s_ w' => (w'.cell? ⟨gb149, 0, none⟩ = some (.slice (some ad150) l0_0.length c0_0) ∧ w'.cell? ⟨gb149, 1, none⟩ = some (.slice (some ad151) l0_1.length c0_1) ∧ w'.cell? (ad150.add ((a1).toNat * 2)) = some (.int .i64 ((rd_T48 l0_0 a1).f0)) ∧ w'.cell? ⟨(ad150.add ((a1).toNat * 2)).block, (ad150.add ((a1).toNat * 2)).off + 1, none⟩ = some (.slice A150_1 ((rd_T48 l0_0 a1).f1).length c150_1) ∧ w'.cell? (ad151.add ((a2).toNat * 3)) = some (.int .i64 ((rd_T50 l0_1 a2).f0)) ∧ w'.cell? ⟨(ad151.add ((a2).toNat * 3)).block, (ad151.add ((a2).toNat * 3)).off + 1, none⟩ = some (.slice A151_1 ((rd_T50 l0_1 a2).f1).length c151_1) ∧ w'.cell? ⟨(ad151.add ((a2).toNat * 3)).block, (ad151.add ((a2).toNat * 3)).off + 2, none⟩ = some (.bool ((rd_T50 l0_1 a2).f2))) ∧ (w'.heap[gb149]? = some (.cells #[.slice (some ad150) l0_0.length c0_0, .slice (some ad151) l0_1.length c0_1] 25 (0, 0))) ∧ (w'.heap[s_.1]? = some (.cells #[.int .i64 0, .slice none 0 0] 48 (0, 0))) ∧ (w'.heap[s_.2]? = some (.cells #[.int .i64 0, .slice none 0 0, .bool false] 50 (0, 0))) ∧ (w.heap.size ≤ s_.1) ∧ (w.heap.size ≤ s_.1) ∧ (gb149 ≠ s_.1) ∧ (s_.1 ≠ gb149) ∧ (s_.2 ≠ s_.1) ∧ (s_.1 ≠ s_.2) ∧ (w.heap.size ≤ s_.2) ∧ (w.heap.size ≤ s_.2) ∧ (gb149 ≠ s_.2) ∧ (s_.2 ≠ gb149) ∧ (Below w.heap.size w w')) ?_ ?_
     rotate_left
     ·intro hCont
      refine two_ (i := 10) (j := 11) (Ni := some 9) (Nj := some 10) #[true, true, true, true, true, true, true, true, true, true, true, false, false, false] #[true, true, true, true, true, true, true, true, true, true, false, true, false, false] rfl rfl rfl rfl (two_of HT_.out (by kernel_rfl)) (by decide) (by decide) (fun K hK => ?_) (fun K hK => ?_)
      ·skip
       refine box_step ?hg (N := 9) ?hd (cs := #[.int .i64 0, .slice none 0 0]) (t := 48) ?hr ?_; (case hd => rfl); (case hg => rfl); (case hr => first | (go_simp; done) | (go_simp; rfl))
       intro gb152 hg w14 hbox hb
       have BK152 := Aside0.mk hbox; have GW152 := gw hg HB; have GE152 := gw hg HB; replace HB := hs HB hb; have NB149_152 := nl hg BK149; have NB152_149 := ng hg BK149; replace BK149 := nb BK149 hb; clear hb hbox hg
       refine hK.out _ _ ⟨bq BK149 0, bq BK149 1, (cm HB hw150_0 :), (cm HB hw150_1 :), (cm HB hw151_0 :), (cm HB hw151_1 :), (cm HB hw151_2 :)⟩ (fun hHeld => ?_)
       clear hK K
       refine nm_ (some 9) ?_
       refine on_ (i := 11) (N := some 10) (qa_ 14 4095) (fun K hK => ?_)
       refine box_step ?hg (N := 10) ?hd (cs := #[.int .i64 0, .slice none 0 0, .bool false]) (t := 50) ?hr ?_; (case hd => rfl); (case hg => rfl); (case hr => first | (go_simp; done) | (go_simp; rfl))
       intro gb153 hg w15 hbox hb
       have BK153 := Aside0.mk hbox; have GW153 := gw hg HB; have GE153 := gw hg HB; replace HB := hs HB hb; have NB149_153 := nl hg BK149; have NB153_149 := ng hg BK149; replace BK149 := nb BK149 hb; have NB152_153 := nl hg BK152; have NB153_152 := ng hg BK152; replace BK152 := nb BK152 hb; clear hb hbox hg
       refine hK.out _ _ ⟨bq BK149 0, bq BK149 1, (cm HB hw150_0 :), (cm HB hw150_1 :), (cm HB hw151_0 :), (cm HB hw151_1 :), (cm HB hw151_2 :)⟩ (fun hHeld => ?_)
       clear hK K
       refine nm_ (some 10) ?_
       exact norm_ (by simp only [putAll, Act.put, List.setIfInBounds_toArray, List.set_cons_zero, List.set_cons_succ]) (hCont (gb152, gb153) _ ⟨hHeld, bk, bk, bk, GW152.out, GE152.out, NB149_152.out, NB152_149.out, NB153_152.out, NB152_153.out, GW153.out, GE153.out, NB149_153.out, NB153_149.out, bl⟩)
      ·skip
       refine box_step ?hg (N := 10) ?hd (cs := #[.int .i64 0, .slice none 0 0, .bool false]) (t := 50) ?hr ?_; (case hd => rfl); (case hg => rfl); (case hr => first | (go_simp; done) | (go_simp; rfl))
       intro gb153 hg w14 hbox hb
       have BK153 := Aside0.mk hbox; have GW153 := gw hg HB; have GE153 := gw hg HB; replace HB := hs HB hb; have NB149_153 := nl hg BK149; have NB153_149 := ng hg BK149; replace BK149 := nb BK149 hb; clear hb hbox hg
       refine hK.out _ _ ⟨bq BK149 0, bq BK149 1, (cm HB hw150_0 :), (cm HB hw150_1 :), (cm HB hw151_0 :), (cm HB hw151_1 :), (cm HB hw151_2 :)⟩ (fun hHeld => ?_)
       clear hK K
       refine nm_ (some 10) ?_
       refine on_ (i := 10) (N := some 9) (qa_ 14 4095) (fun K hK => ?_)
       refine box_step ?hg (N := 9) ?hd (cs := #[.int .i64 0, .slice none 0 0]) (t := 48) ?hr ?_; (case hd => rfl); (case hg => rfl); (case hr => first | (go_simp; done) | (go_simp; rfl))
       intro gb152 hg w15 hbox hb
       have BK152 := Aside0.mk hbox; have GW152 := gw hg HB; have GE152 := gw hg HB; replace HB := hs HB hb; have NB149_152 := nl hg BK149; have NB152_149 := ng hg BK149; replace BK149 := nb BK149 hb; have NB153_152 := nl hg BK153; have NB152_153 := ng hg BK153; replace BK153 := nb BK153 hb; clear hb hbox hg
       refine hK.out _ _ ⟨bq BK149 0, bq BK149 1, (cm HB hw150_0 :), (cm HB hw150_1 :), (cm HB hw151_0 :), (cm HB hw151_1 :), (cm HB hw151_2 :)⟩ (fun hHeld => ?_)
       clear hK K
       refine nm_ (some 9) ?_
       exact norm_ (by simp only [putAll, Act.put, List.setIfInBounds_toArray, List.set_cons_zero, List.set_cons_succ]) (hCont (gb152, gb153) _ ⟨hHeld, bk, bk, bk, GW152.out, GE152.out, NB149_152.out, NB152_149.out, NB153_152.out, NB152_153.out, GW153.out, GE153.out, NB149_153.out, NB153_149.out, bl⟩)
     rintro ⟨gb152, gb153⟩ w16 ⟨hS_, h0_, h1_, h2_, h3_, h4_, h5_, h6_, h7_, h8_, h9_, h10_, h11_, h12_, h13_⟩
     have n0_ : Aside0 (w16.heap[gb149]? = some (.cells #[.slice (some ad150) l0_0.length c0_0, .slice (some ad151) l0_1.length c0_1] 25 (0, 0))) := ⟨h0_⟩
     have n1_ : Aside0 (w16.heap[gb152]? = some (.cells #[.int .i64 0, .slice none 0 0] 48 (0, 0))) := ⟨h1_⟩
     have n2_ : Aside0 (w16.heap[gb153]? = some (.cells #[.int .i64 0, .slice none 0 0, .bool false] 50 (0, 0))) := ⟨h2_⟩
     have n3_ : Aside0 (w.heap.size ≤ gb152) := ⟨h3_⟩
     have n4_ : Aside0 (w.heap.size ≤ gb152) := ⟨h4_⟩
     have n5_ : Aside0 (gb149 ≠ gb152) := ⟨h5_⟩
     have n6_ : Aside0 (gb152 ≠ gb149) := ⟨h6_⟩
     have n7_ : Aside0 (gb153 ≠ gb152) := ⟨h7_⟩
     have n8_ : Aside0 (gb152 ≠ gb153) := ⟨h8_⟩
     have n9_ : Aside0 (w.heap.size ≤ gb153) := ⟨h9_⟩
     have n10_ : Aside0 (w.heap.size ≤ gb153) := ⟨h10_⟩
     have n11_ : Aside0 (gb149 ≠ gb153) := ⟨h11_⟩
     have n12_ : Aside0 (gb153 ≠ gb149) := ⟨h12_⟩
     have n13_ : Aside0 (Below w.heap.size w w16) := ⟨h13_⟩
     clear BK149; clear HB; clear h0_ h1_ h2_ h3_ h4_ h5_ h6_ h7_ h8_ h9_ h10_ h11_ h12_ h13_; have BK149 := n0_; have BK152 := n1_; have BK153 := n2_; have GW152 := n3_; have GE152 := n4_; have NB149_152 := n5_; have NB152_149 := n6_; have NB153_152 := n7_; have NB152_153 := n8_; have GW153 := n9_; have GE153 := n10_; have NB149_153 := n11_; have NB153_149 := n12_; have HB := n13_; clear n0_ n1_ n2_ n3_ n4_ n5_ n6_ n7_ n8_ n9_ n10_ n11_ n12_ n13_
     have hHeld : w16.cell? ⟨gb149, 0, none⟩ = some (.slice (some ad150) l0_0.length c0_0) ∧ w16.cell? ⟨gb149, 1, none⟩ = some (.slice (some ad151) l0_1.length c0_1) ∧ w16.cell? (ad150.add ((a1).toNat * 2)) = some (.int .i64 ((rd_T48 l0_0 a1).f0)) ∧ w16.cell? ⟨(ad150.add ((a1).toNat * 2)).block, (ad150.add ((a1).toNat * 2)).off + 1, none⟩ = some (.slice A150_1 ((rd_T48 l0_0 a1).f1).length c150_1) ∧ w16.cell? (ad151.add ((a2).toNat * 3)) = some (.int .i64 ((rd_T50 l0_1 a2).f0)) ∧ w16.cell? ⟨(ad151.add ((a2).toNat * 3)).block, (ad151.add ((a2).toNat * 3)).off + 1, none⟩ = some (.slice A151_1 ((rd_T50 l0_1 a2).f1).length c151_1) ∧ w16.cell? ⟨(ad151.add ((a2).toNat * 3)).block, (ad151.add ((a2).toNat * 3)).off + 2, none⟩ = some (.bool ((rd_T50 l0_1 a2).f2)) := hS_
     refine norm_ (a' := ?_) ?_ ?_
     rotate_left
     ·simp only [putAll, Act.put, List.setIfInBounds_toArray, List.set_cons_zero, List.set_cons_succ]
      rfl
     refine on_ (i := 12) (N := none) (qa_ 14 8191) (fun K hK => ?_)
     have hs17 : w16.cell? ⟨gb152, 0, none⟩ = some (.int .i64 0) := (blk_cell BK152.out 0).trans rfl
     have hfs17 := blk_frozen BK152.out 0; have hns17_0 := NB149_152.out; have hns17_2 := NB153_152.out; have hms17_0 := NB152_149.out; have hms17_2 := NB152_153.out
     have hs18 : w16.cell? ⟨gb152, 1, none⟩ = some (.slice none 0 0) := (blk_cell BK152.out 1).trans rfl
     have hfs18 := blk_frozen BK152.out 1; have hns18_0 := NB149_152.out; have hns18_2 := NB153_152.out; have hms18_0 := NB152_149.out; have hms18_2 := NB152_153.out
     refine skip_ (w1 := ?_) (by rfl) rfl ?_ ?_
     rotate_left
     ·go_simp
      rfl
     refine hK.out _ _ ⟨(cx NB149_152.out (cx NB149_152.out hHeld.1)), (cx NB149_152.out (cx NB149_152.out hHeld.2.1)), (cx (fb hw150_0 GW152) (cx (fb hw150_0 GW152) hHeld.2.2.1)), (cx (fb hw150_1 GW152) (cx (fb hw150_1 GW152) hHeld.2.2.2.1)), (cx (fb hw151_0 GW152) (cx (fb hw151_0 GW152) hHeld.2.2.2.2.1)), (cx (fb hw151_1 GW152) (cx (fb hw151_1 GW152) hHeld.2.2.2.2.2.1)), (cx (fb hw151_2 GW152) (cx (fb hw151_2 GW152) hHeld.2.2.2.2.2.2))⟩ (fun hHeld => ?_)
     clear hK K
     refine on_ (i := 13) (N := none) (qa_ 14 16383) (fun K hK => ?_)
     have hs19 : w16.cell? ⟨gb153, 0, none⟩ = some (.int .i64 0) := (blk_cell BK153.out 0).trans rfl
     have hfs19 := blk_frozen BK153.out 0; have hns19_0 := NB149_153.out; have hns19_1 := NB152_153.out; have hms19_0 := NB153_149.out; have hms19_1 := NB153_152.out
     have hs20 : w16.cell? ⟨gb153, 1, none⟩ = some (.slice none 0 0) := (blk_cell BK153.out 1).trans rfl
     have hfs20 := blk_frozen BK153.out 1; have hns20_0 := NB149_153.out; have hns20_1 := NB152_153.out; have hms20_0 := NB153_149.out; have hms20_1 := NB153_152.out
     have hs21 : w16.cell? ⟨gb153, 2, none⟩ = some (.bool false) := (blk_cell BK153.out 2).trans rfl
     have hfs21 := blk_frozen BK153.out 2; have hns21_0 := NB149_153.out; have hns21_1 := NB152_153.out; have hms21_0 := NB153_149.out; have hms21_1 := NB153_152.out
     refine skip_ (w1 := ?_) (by rfl) rfl ?_ ?_
     rotate_left
     ·go_simp
      rfl
     refine hK.out _ _ ⟨(cx NB149_153.out (cx NB149_153.out (cx NB149_153.out hHeld.1))), (cx NB149_153.out (cx NB149_153.out (cx NB149_153.out hHeld.2.1))), (cx (fb hw150_0 GW153) (cx (fb hw150_0 GW153) (cx (fb hw150_0 GW153) hHeld.2.2.1))), (cx (fb hw150_1 GW153) (cx (fb hw150_1 GW153) (cx (fb hw150_1 GW153) hHeld.2.2.2.1))), (cx (fb hw151_0 GW153) (cx (fb hw151_0 GW153) (cx (fb hw151_0 GW153) hHeld.2.2.2.2.1))), (cx (fb hw151_1 GW153) (cx (fb hw151_1 GW153) (cx (fb hw151_1 GW153) hHeld.2.2.2.2.2.1))), (cx (fb hw151_2 GW153) (cx (fb hw151_2 GW153) (cx (fb hw151_2 GW153) hHeld.2.2.2.2.2.2)))⟩ (fun hHeld => ?_)
     clear hK K
     refine done_ (done_of HT_.out (by kernel_rfl)) ?_
     try go_wp2
     have n0_ : Aside0 ((((((w16.setCell ⟨gb152, 0, none⟩ (.int .i64 ((rd_T48 l0_0 a1).f0))).setCell ⟨gb152, 1, none⟩ (.slice A150_1 ((rd_T48 l0_0 a1).f1).length c150_1)).setCell ⟨gb153, 0, none⟩ (.int .i64 ((rd_T50 l0_1 a2).f0))).setCell ⟨gb153, 1, none⟩ (.slice A151_1 ((rd_T50 l0_1 a2).f1).length c151_1)).setCell ⟨gb153, 2, none⟩ (.bool ((rd_T50 l0_1 a2).f2))).heap[gb149]? = some (.cells #[.slice (some ad150) l0_0.length c0_0, .slice (some ad151) l0_1.length c0_1] 25 (0, 0))) := ⟨by (with_reducible repeat (first | refine blk_drewN ?_ _ | refine blk_drew ?_ | refine blk_alloc ?_ _)); refine blk_far ?_ NB149_153.out _; (with_reducible repeat (first | refine blk_drewN ?_ _ | refine blk_drew ?_ | refine blk_alloc ?_ _)); refine blk_far ?_ NB149_153.out _; (with_reducible repeat (first | refine blk_drewN ?_ _ | refine blk_drew ?_ | refine blk_alloc ?_ _)); refine blk_far ?_ NB149_153.out _; (with_reducible repeat (first | refine blk_drewN ?_ _ | refine blk_drew ?_ | refine blk_alloc ?_ _)); refine blk_far ?_ NB149_152.out _; (with_reducible repeat (first | refine blk_drewN ?_ _ | refine blk_drew ?_ | refine blk_alloc ?_ _)); refine blk_far ?_ NB149_152.out _; (with_reducible repeat (first | refine blk_drewN ?_ _ | refine blk_drew ?_ | refine blk_alloc ?_ _)); exact BK149.out⟩
     have n1_ : Aside0 ((((((w16.setCell ⟨gb152, 0, none⟩ (.int .i64 ((rd_T48 l0_0 a1).f0))).setCell ⟨gb152, 1, none⟩ (.slice A150_1 ((rd_T48 l0_0 a1).f1).length c150_1)).setCell ⟨gb153, 0, none⟩ (.int .i64 ((rd_T50 l0_1 a2).f0))).setCell ⟨gb153, 1, none⟩ (.slice A151_1 ((rd_T50 l0_1 a2).f1).length c151_1)).setCell ⟨gb153, 2, none⟩ (.bool ((rd_T50 l0_1 a2).f2))).heap[gb152]? = some (.cells #[.int .i64 ((rd_T48 l0_0 a1).f0), .slice A150_1 ((rd_T48 l0_0 a1).f1).length c150_1] 48 (0, 0))) := ⟨by (with_reducible repeat (first | refine blk_drewN ?_ _ | refine blk_drew ?_ | refine blk_alloc ?_ _)); refine blk_far ?_ NB152_153.out _; (with_reducible repeat (first | refine blk_drewN ?_ _ | refine blk_drew ?_ | refine blk_alloc ?_ _)); refine blk_far ?_ NB152_153.out _; (with_reducible repeat (first | refine blk_drewN ?_ _ | refine blk_drew ?_ | refine blk_alloc ?_ _)); refine blk_far ?_ NB152_153.out _; (with_reducible repeat (first | refine blk_drewN ?_ _ | refine blk_drew ?_ | refine blk_alloc ?_ _)); refine blk_put (cs := #[.int .i64 ((rd_T48 l0_0 a1).f0), .slice none 0 0]) ?_ 1 _ rfl; (with_reducible repeat (first | refine blk_drewN ?_ _ | refine blk_drew ?_ | refine blk_alloc ?_ _)); refine blk_put (cs := #[.int .i64 0, .slice none 0 0]) ?_ 0 _ rfl; (with_reducible repeat (first | refine blk_drewN ?_ _ | refine blk_drew ?_ | refine blk_alloc ?_ _)); exact BK152.out⟩
     have n2_ : Aside0 ((((((w16.setCell ⟨gb152, 0, none⟩ (.int .i64 ((rd_T48 l0_0 a1).f0))).setCell ⟨gb152, 1, none⟩ (.slice A150_1 ((rd_T48 l0_0 a1).f1).length c150_1)).setCell ⟨gb153, 0, none⟩ (.int .i64 ((rd_T50 l0_1 a2).f0))).setCell ⟨gb153, 1, none⟩ (.slice A151_1 ((rd_T50 l0_1 a2).f1).length c151_1)).setCell ⟨gb153, 2, none⟩ (.bool ((rd_T50 l0_1 a2).f2))).heap[gb153]? = some (.cells #[.int .i64 ((rd_T50 l0_1 a2).f0), .slice A151_1 ((rd_T50 l0_1 a2).f1).length c151_1, .bool ((rd_T50 l0_1 a2).f2)] 50 (0, 0))) := ⟨by (with_reducible repeat (first | refine blk_drewN ?_ _ | refine blk_drew ?_ | refine blk_alloc ?_ _)); refine blk_put (cs := #[.int .i64 ((rd_T50 l0_1 a2).f0), .slice A151_1 ((rd_T50 l0_1 a2).f1).length c151_1, .bool false]) ?_ 2 _ rfl; (with_reducible repeat (first | refine blk_drewN ?_ _ | refine blk_drew ?_ | refine blk_alloc ?_ _)); refine blk_put (cs := #[.int .i64 ((rd_T50 l0_1 a2).f0), .slice none 0 0, .bool false]) ?_ 1 _ rfl; (with_reducible repeat (first | refine blk_drewN ?_ _ | refine blk_drew ?_ | refine blk_alloc ?_ _)); refine blk_put (cs := #[.int .i64 0, .slice none 0 0, .bool false]) ?_ 0 _ rfl; (with_reducible repeat (first | refine blk_drewN ?_ _ | refine blk_drew ?_ | refine blk_alloc ?_ _)); refine blk_far ?_ NB153_152.out _; (with_reducible repeat (first | refine blk_drewN ?_ _ | refine blk_drew ?_ | refine blk_alloc ?_ _)); refine blk_far ?_ NB153_152.out _; (with_reducible repeat (first | refine blk_drewN ?_ _ | refine blk_drew ?_ | refine blk_alloc ?_ _)); exact BK153.out⟩
     have n3_ : Aside0 (Below w.heap.size w (((((w16.setCell ⟨gb152, 0, none⟩ (.int .i64 ((rd_T48 l0_0 a1).f0))).setCell ⟨gb152, 1, none⟩ (.slice A150_1 ((rd_T48 l0_0 a1).f1).length c150_1)).setCell ⟨gb153, 0, none⟩ (.int .i64 ((rd_T50 l0_1 a2).f0))).setCell ⟨gb153, 1, none⟩ (.slice A151_1 ((rd_T50 l0_1 a2).f1).length c151_1)).setCell ⟨gb153, 2, none⟩ (.bool ((rd_T50 l0_1 a2).f2)))) := ⟨bl⟩
     (try clear BK149); (try clear BK152); (try clear BK153); (try clear HB)
     generalize (((((w16.setCell ⟨gb152, 0, none⟩ (.int .i64 ((rd_T48 l0_0 a1).f0))).setCell ⟨gb152, 1, none⟩ (.slice A150_1 ((rd_T48 l0_0 a1).f1).length c150_1)).setCell ⟨gb153, 0, none⟩ (.int .i64 ((rd_T50 l0_1 a2).f0))).setCell ⟨gb153, 1, none⟩ (.slice A151_1 ((rd_T50 l0_1 a2).f1).length c151_1)).setCell ⟨gb153, 2, none⟩ (.bool ((rd_T50 l0_1 a2).f2))) = w22 at n0_ n1_ n2_ n3_ ⊢
     have BK149 := n0_; have BK152 := n1_; have BK153 := n2_; have HB := n3_; clear n0_ n1_ n2_ n3_; replace BK149 := Aside0.mk (blk_drew BK149.out); replace BK152 := Aside0.mk (blk_drew BK152.out); replace BK153 := Aside0.mk (blk_drew BK153.out); replace HB := Aside0.mk (below_drew1 HB.out)
     refine start_ (n := 8) (S := fun w' => w'.cell? ⟨gb153, 0, none⟩ = some (.int .i64 ((rd_T50 l0_1 a2).f0)) ∧ w'.cell? ⟨gb153, 1, none⟩ = some (.slice A151_1 ((rd_T50 l0_1 a2).f1).length c151_1) ∧ w'.cell? ⟨gb153, 2, none⟩ = some (.bool ((rd_T50 l0_1 a2).f2))) (ds := []) #[false, false, false, false, false, false, false, false] (by kernel_rfl) rfl rfl ⟨bq BK153 0, bq BK153 1, bq BK153 2⟩ (fun hHeld => ?_); refine with_tabW skewbaldref01_can.tab2 skewbaldref01_can.bits2 (fun HT_ HW_ => ?_)
     generalize w22.drew = w23 at BK149 BK152 BK153 HB hHeld ⊢
     refine pu_ (i := 1) (N := some 24) (qa_ 8 2) ?_
     refine pu_ (i := 4) (N := some 27) (qa_ 8 18) ?_
     refine tk_ (i := 0) (N := some 23) (qa_ 8 19) hHeld ?_
     refine tk_ (i := 3) (N := some 26) (qa_ 8 27) hHeld ?_
     refine on_ (i := 2) (N := some 25) (qa_ 8 31) (fun K hK => ?_)
     refine goes_ Tryd.func99 (by kernel_rfl) rfl #[.agg #[.int .i64 ((rd_T50 l0_1 a2).f0), .slice A151_1 ((rd_T50 l0_1 a2).f1).length c151_1, .bool ((rd_T50 l0_1 a2).f2)], .int .i64 a3, .bool false] (by rfl) rfl rfl (by (try simp only [List.map_toArray, List.map_cons, List.map_nil]); first | done | rfl | (simp only [List.length_drop, List.length_take]; rfl)) ?_
     with_reducible refine (skewbaldref01_joints.calls k ((rd_T50 l0_1 a2).f0) _ _ ((rd_T50 l0_1 a2).f1) ((rd_T50 l0_1 a2).f2) a3 false t154 _ ?side1 ?side2 A9.out).mono ?_
     (case side1 => exact cl)
     (case side2 => exact HC151_1.out)
     rintro e w24 ⟨v155, rfl, ho0, hb⟩
     refine ⟨_, rfl, ?_⟩
     have HO156 := Aside0.mk (Kd.R_lower ho0 (below_size bl)); replace BK149 := nb BK149 hb; replace BK152 := nb BK152 hb; replace BK153 := nb BK153 hb; replace HB := hs HB hb; (try clear hb); (try clear hb2); (try clear hk); (try clear hi); (try clear ho0)
     refine hK.out _ _ ⟨bq BK153 0, bq BK153 1, bq BK153 2⟩ (fun hHeld => ?_)
     clear hK K
     refine nm_ (some 25) ?_
     refine on_ (i := 5) (N := some 28) (qa_ 8 63) (fun K hK => ?_)
     refine goes_ Tryd.func99 (by kernel_rfl) rfl #[.agg #[.int .i64 ((rd_T50 l0_1 a2).f0), .slice A151_1 ((rd_T50 l0_1 a2).f1).length c151_1, .bool ((rd_T50 l0_1 a2).f2)], .int .i64 a3, .bool true] (by rfl) rfl rfl (by (try simp only [List.map_toArray, List.map_cons, List.map_nil]); first | done | rfl | (simp only [List.length_drop, List.length_take]; rfl)) ?_
     with_reducible refine (skewbaldref01_joints.calls k ((rd_T50 l0_1 a2).f0) _ _ ((rd_T50 l0_1 a2).f1) ((rd_T50 l0_1 a2).f2) a3 true t157 _ ?side1 ?side2 A10.out).mono ?_
     (case side1 => exact cl)
     (case side2 => exact HC151_1.out)
     rintro e w25 ⟨v158, rfl, ho0, hb⟩
     refine ⟨_, rfl, ?_⟩
     have HO159 := Aside0.mk (Kd.R_lower (Kd.R_new' ho0 (Kd.R_lt (bR HO156))) (below_size bl)); replace HO156 := Aside0.mk (Kd.R_elder' (bR HO156) (Kd.R_base ho0) hb); replace BK149 := nb BK149 hb; replace BK152 := nb BK152 hb; replace BK153 := nb BK153 hb; replace HB := hs HB hb; (try clear hb); (try clear hb2); (try clear hk); (try clear hi); (try clear ho0)
     refine hK.out _ _ ⟨bq BK153 0, bq BK153 1, bq BK153 2⟩ (fun hHeld => ?_)
     clear hK K
     refine nm_ (some 28) ?_
     refine pu_ (i := 6) (N := some 11) (qa_ 8 127) ?_
     refine pu_ (i := 7) (N := some 12) (qa_ 8 255) ?_
     refine done_ (done_of HT_.out (by kernel_rfl)) ?_
     go_upto_region 3 with (fail)
     go_cut [40] (fun v40 wc => ∃ (kq : Nat) (x40_10 : Bool), v40 = .bool x40_10 ∧ Aside0 (skewbaldref01_can.j0 kq t154 t157 x40_10 ((rd_T48 l0_0 a1).f0) ((rd_T48 l0_0 a1).f1) ((rd_T50 l0_1 a2).f0) ((rd_T50 l0_1 a2).f1) ((rd_T50 l0_1 a2).f2) = some r) ∧ Aside0 (kq ≤ k) ∧ Aside0 (Kd.R (Kd.int .i64) 3 wc w.heap.size (fun k_ => some k_ ≠ (v158 : Value).ownBlock) v155 t154) ∧ Aside0 (Kd.R (Kd.int .i64) 3 wc w.heap.size (fun k_ => some k_ ≠ (v155 : Value).ownBlock) v158 t157) ∧ Aside0 (wc.heap[gb149]? = some (.cells #[(.slice (some ad150) l0_0.length c0_0), (.slice (some ad151) l0_1.length c0_1)] 25 (0, 0))) ∧ Aside0 (wc.heap[gb152]? = some (.cells #[.int .i64 ((rd_T48 l0_0 a1).f0), (.slice A150_1 ((rd_T48 l0_0 a1).f1).length c150_1)] 48 (0, 0))) ∧ Aside0 (wc.heap[gb153]? = some (.cells #[.int .i64 ((rd_T50 l0_1 a2).f0), (.slice A151_1 ((rd_T50 l0_1 a2).f1).length c151_1), .bool ((rd_T50 l0_1 a2).f2)] 50 (0, 0))) ∧ Aside0 (Below w.heap.size w wc))
     case first =>
      have H := HC11.out; clear HC11; obtain ⟨t160, A26, H⟩ := ob H
      by_cases c27 : t160 = true
      ·subst c27; rw [if_pos rfl] at H; have H' := Aside0.mk H; clear H; have hnb28 := NB152_149.out; have hnc28 := NB149_152.out; have hnb29 := NB152_153.out; have hnc29 := NB153_152.out; obtain ⟨hcz30_0, hcz30_1, hfz30_0, hfz30_1⟩ := b2 (w := w25) BK152; obtain ⟨Ao31, co31, eo31⟩ := Kd.R_slice HO156.out; subst eo31
       go_wp2_with (first | ((with_reducible refine gate_callee (f := 100) rfl ?_); refine gl (some 31) Tryd.func100 #[.agg #[.int .i64 ((rd_T48 l0_0 a1).f0), .slice A150_1 ((rd_T48 l0_0 a1).f1).length c150_1], .slice Ao31 t154.length co31] ?_; (with_reducible refine (skewbaldref01_sure.calls k ((rd_T48 l0_0 a1).f0) _ _ ((rd_T48 l0_0 a1).f1) _ _ t154 true _ ?side1 ?side2 ?side3 ?side4 A26.out).mono ?_); (case side1 => exact cl); (case side2 => exact HC150_1.out); (case side3 => repeat (first | exact (Kd.R_reads' HO156.out).2.2 | (with_reducible refine Kd.C_alloc ?_ _) | (with_reducible refine Kd.C_drewN ?_ _) | (with_reducible refine Kd.C_drew ?_))); (case side4 => exact (Kd.R_reads' HO156.out).2.1); rintro e w32 ⟨rfl, hb⟩; refine ⟨_, rfl, ?_⟩; replace HO156 := Aside0.mk (Kd.R_below (bR HO156) hb); replace HO159 := Aside0.mk (Kd.R_below (bR HO159) hb); replace BK149 := nb BK149 hb; replace BK152 := nb BK152 hb; replace BK153 := nb BK153 hb; replace HB := hs HB hb; (try clear hb); (try clear hb2); (try clear hk); (try clear hi)))
       go_meet
       case rel => exact ⟨_, (true), sm, H', ⟨by first | omega | exact Nat.le_refl _⟩, ⟨by (with_reducible repeat (first | apply Kd.R_alloc | apply Kd.R_drewN | apply Kd.R_drew)); exact Kd.R_mono HO156.out (fun _ hk => hk.2)⟩, ⟨by (with_reducible repeat (first | apply Kd.R_alloc | apply Kd.R_drewN | apply Kd.R_drew)); exact Kd.R_mono HO159.out (fun _ hk => hk.2)⟩, ⟨bk⟩, ⟨bk⟩, ⟨bk⟩, ⟨bl⟩⟩
      ·replace c27 := Bool.eq_false_iff.mpr c27; subst c27
       rw [if_neg (show ¬ (false = true) by decide)] at H
       obtain ⟨bq33, hbq33⟩ : ∃ b_ : Bool, b_ = ((rd_T50 l0_1 a2).f2) := ⟨_, rfl⟩
       replace H : (if bq33 = true then ((skewbaldref01_sure.f k ((rd_T48 l0_0 a1).f0) ((rd_T48 l0_0 a1).f1) t157).bind fun t161 => (skewbaldref01_can.j0 k t154 t157 t161 ((rd_T48 l0_0 a1).f0) ((rd_T48 l0_0 a1).f1) ((rd_T50 l0_1 a2).f0) ((rd_T50 l0_1 a2).f1) bq33)) else (skewbaldref01_can.j0 k t154 t157 false ((rd_T48 l0_0 a1).f0) ((rd_T48 l0_0 a1).f1) ((rd_T50 l0_1 a2).f0) ((rd_T50 l0_1 a2).f1) bq33)) = some r := by rw [← hbq33] at H; exact H
       have Nbq33 := Aside0.mk hbq33; clear hbq33
       (try rw [← Nbq33.out])
       by_cases c34 : bq33 = true
       ·subst c34; rw [if_pos rfl] at H; obtain ⟨t161, A35, H⟩ := ob H; have H' := Aside0.mk H; clear H; have hnb36 := NB152_149.out; have hnc36 := NB149_152.out; have hnb37 := NB152_153.out; have hnc37 := NB153_152.out; obtain ⟨hcz38_0, hcz38_1, hfz38_0, hfz38_1⟩ := b2 (w := w25) BK152; obtain ⟨Ao39, co39, eo39⟩ := Kd.R_slice HO156.out; subst eo39
        go_wp2_with (first | ((with_reducible refine gate_callee (f := 100) rfl ?_); refine gl (some 31) Tryd.func100 #[.agg #[.int .i64 ((rd_T48 l0_0 a1).f0), .slice A150_1 ((rd_T48 l0_0 a1).f1).length c150_1], .slice Ao39 t154.length co39] ?_; (with_reducible refine (skewbaldref01_sure.calls k ((rd_T48 l0_0 a1).f0) _ _ ((rd_T48 l0_0 a1).f1) _ _ t154 false _ ?side1 ?side2 ?side3 ?side4 A26.out).mono ?_); (case side1 => exact cl); (case side2 => exact HC150_1.out); (case side3 => repeat (first | exact (Kd.R_reads' HO156.out).2.2 | (with_reducible refine Kd.C_alloc ?_ _) | (with_reducible refine Kd.C_drewN ?_ _) | (with_reducible refine Kd.C_drew ?_))); (case side4 => exact (Kd.R_reads' HO156.out).2.1); rintro e w40 ⟨rfl, hb⟩; refine ⟨_, rfl, ?_⟩; replace HO156 := Aside0.mk (Kd.R_below (bR HO156) hb); replace HO159 := Aside0.mk (Kd.R_below (bR HO159) hb); replace BK149 := nb BK149 hb; replace BK152 := nb BK152 hb; replace BK153 := nb BK153 hb; replace HB := hs HB hb; (try clear hb); (try clear hb2); (try clear hk); (try clear hi); have hnb41 := NB153_149.out; have hnc41 := NB149_153.out; have hcz42_0 : w40.cell? ⟨gb153, 0, none⟩ = some (.int .i64 ((rd_T50 l0_1 a2).f0)) := (blk_cell BK153.out 0).trans rfl; have hcz42_1 : w40.cell? ⟨gb153, 1, none⟩ = some (.slice A151_1 ((rd_T50 l0_1 a2).f1).length c151_1) := (blk_cell BK153.out 1).trans rfl; have hcz42_2 : w40.cell? ⟨gb153, 2, none⟩ = some (.bool true) := (blk_cell BK153.out 2).trans (by rw [← Nbq33.out]; rfl); have hfz42_0 := blk_frozen BK153.out 0; have hfz42_1 := blk_frozen BK153.out 1; have hfz42_2 := blk_frozen BK153.out 2; obtain ⟨hcz43_0, hcz43_1, hfz43_0, hfz43_1⟩ := b2 (w := w40) BK152; obtain ⟨Ao44, co44, eo44⟩ := Kd.R_slice HO159.out; subst eo44) | (go_at_call 100; (with_reducible refine (skewbaldref01_sure.calls k ((rd_T48 l0_0 a1).f0) _ _ ((rd_T48 l0_0 a1).f1) _ _ t157 t161 _ ?side1 ?side2 ?side3 ?side4 A35.out).mono ?_); (case side1 => exact cl); (case side2 => exact HC150_1.out); (case side3 => repeat (first | exact (Kd.R_reads' HO159.out).2.2 | (with_reducible refine Kd.C_alloc ?_ _) | (with_reducible refine Kd.C_drewN ?_ _) | (with_reducible refine Kd.C_drew ?_))); (case side4 => exact (Kd.R_reads' HO159.out).2.1); rintro e w45 ⟨rfl, hb⟩; replace HO156 := Aside0.mk (Kd.R_below (bR HO156) hb); replace HO159 := Aside0.mk (Kd.R_below (bR HO159) hb); replace BK149 := nb BK149 hb; replace BK152 := nb BK152 hb; replace BK153 := nb BK153 hb; replace HB := hs HB hb; (try clear hb); (try clear hb2); (try clear hk); (try clear hi)))
        go_meet
        case rel => exact ⟨_, (t161), sm, (by rw [← Nbq33.out]; exact H'), ⟨by first | omega | exact Nat.le_refl _⟩, ⟨by (with_reducible repeat (first | apply Kd.R_alloc | apply Kd.R_drewN | apply Kd.R_drew)); exact Kd.R_mono HO156.out (fun _ hk => hk.2)⟩, ⟨by (with_reducible repeat (first | apply Kd.R_alloc | apply Kd.R_drewN | apply Kd.R_drew)); exact Kd.R_mono HO159.out (fun _ hk => hk.2)⟩, ⟨bk⟩, ⟨bk⟩, ⟨bk⟩, ⟨bl⟩⟩
       ·replace c34 := Bool.eq_false_iff.mpr c34; subst c34
        rw [if_neg (show ¬ (false = true) by decide)] at H
        have H' := Aside0.mk H; clear H; have hnb46 := NB152_149.out; have hnc46 := NB149_152.out; have hnb47 := NB152_153.out; have hnc47 := NB153_152.out; obtain ⟨hcz48_0, hcz48_1, hfz48_0, hfz48_1⟩ := b2 (w := w25) BK152; obtain ⟨Ao49, co49, eo49⟩ := Kd.R_slice HO156.out; subst eo49
        go_wp2_with (first | ((with_reducible refine gate_callee (f := 100) rfl ?_); refine gl (some 31) Tryd.func100 #[.agg #[.int .i64 ((rd_T48 l0_0 a1).f0), .slice A150_1 ((rd_T48 l0_0 a1).f1).length c150_1], .slice Ao49 t154.length co49] ?_; (with_reducible refine (skewbaldref01_sure.calls k ((rd_T48 l0_0 a1).f0) _ _ ((rd_T48 l0_0 a1).f1) _ _ t154 false _ ?side1 ?side2 ?side3 ?side4 A26.out).mono ?_); (case side1 => exact cl); (case side2 => exact HC150_1.out); (case side3 => repeat (first | exact (Kd.R_reads' HO156.out).2.2 | (with_reducible refine Kd.C_alloc ?_ _) | (with_reducible refine Kd.C_drewN ?_ _) | (with_reducible refine Kd.C_drew ?_))); (case side4 => exact (Kd.R_reads' HO156.out).2.1); rintro e w50 ⟨rfl, hb⟩; refine ⟨_, rfl, ?_⟩; replace HO156 := Aside0.mk (Kd.R_below (bR HO156) hb); replace HO159 := Aside0.mk (Kd.R_below (bR HO159) hb); replace BK149 := nb BK149 hb; replace BK152 := nb BK152 hb; replace BK153 := nb BK153 hb; replace HB := hs HB hb; (try clear hb); (try clear hb2); (try clear hk); (try clear hi); have hnb51 := NB153_149.out; have hnc51 := NB149_153.out; have hcz52_0 : w50.cell? ⟨gb153, 0, none⟩ = some (.int .i64 ((rd_T50 l0_1 a2).f0)) := (blk_cell BK153.out 0).trans rfl; have hcz52_1 : w50.cell? ⟨gb153, 1, none⟩ = some (.slice A151_1 ((rd_T50 l0_1 a2).f1).length c151_1) := (blk_cell BK153.out 1).trans rfl; have hcz52_2 : w50.cell? ⟨gb153, 2, none⟩ = some (.bool false) := (blk_cell BK153.out 2).trans (by rw [← Nbq33.out]; rfl); have hfz52_0 := blk_frozen BK153.out 0; have hfz52_1 := blk_frozen BK153.out 1; have hfz52_2 := blk_frozen BK153.out 2))
        go_meet
        case rel => exact ⟨_, (false), sm, (by rw [← Nbq33.out]; exact H'), ⟨by first | omega | exact Nat.le_refl _⟩, ⟨by (with_reducible repeat (first | apply Kd.R_alloc | apply Kd.R_drewN | apply Kd.R_drew)); exact Kd.R_mono HO156.out (fun _ hk => hk.2)⟩, ⟨by (with_reducible repeat (first | apply Kd.R_alloc | apply Kd.R_drewN | apply Kd.R_drew)); exact Kd.R_mono HO159.out (fun _ hk => hk.2)⟩, ⟨bk⟩, ⟨bk⟩, ⟨bk⟩, ⟨bl⟩⟩
     case rest =>
      clear HC11; (try clear c1); (try clear p1); (try clear q1); (try clear hx1); (try clear c2); (try clear p2); (try clear c3); (try clear q3); (try clear c4); (try clear c5); (try clear c6); (try clear c6b0); (try clear c7); (try clear c7b0); (try clear c8); (try clear c8b0); (try clear c9); (try clear c10); (try clear c15); (try clear p15); (try clear q15); (try clear hx15); (try clear c27); (try clear c28); (try clear c29); (try clear q33); (try clear c34); (try clear c36); (try clear c37); (try clear c41); (try clear c46); (try clear c47); (try clear c51); (try clear hcz30_0); (try clear hcz30_1); (try clear hcz38_0); (try clear hcz38_1); (try clear hcz42_0); (try clear hcz42_1); (try clear hcz42_2); (try clear hcz43_0); (try clear hcz43_1); (try clear hcz48_0); (try clear hcz48_1); (try clear hcz52_0); (try clear hcz52_1); (try clear hcz52_2); (try clear hfz30_0); (try clear hfz30_1); (try clear hfz38_0); (try clear hfz38_1); (try clear hfz42_0); (try clear hfz42_1); (try clear hfz42_2); (try clear hfz43_0); (try clear hfz43_1); (try clear hfz48_0); (try clear hfz48_1); (try clear hfz52_0); (try clear hfz52_1); (try clear hfz52_2); (try clear hx150_0); (try clear hx150_1); (try clear hx151_0); (try clear hx151_1); (try clear hx151_2); (try clear p150); (try clear p151); (try clear q150); (try clear q151)
      obtain ⟨kq, x40_10, rfl, HA, HJ10, HO_11, HO_12, BK149, BK152, BK153, HB⟩ := hcut
      cases kq with
      | zero => exact absurd HA.out (by simp [skewbaldref01_can.j0])
      | succ kj10 =>
       have H := HA.out; clear HA
       simp only [skewbaldref01_can.j0] at H
       by_cases c53 : x40_10 = true
       ·subst c53; rw [if_pos rfl] at H; obtain rfl := Option.some.inj H
        go_wp2
        go_ret
        exact ⟨by first | rfl | (simp [errW_none, errW_some] <;> rfl) | (simp [*, errW_none, errW_some] <;> rfl), bl⟩
       ·replace c53 := Bool.eq_false_iff.mpr c53; subst c53
        rw [if_neg (show ¬ (false = true) by decide)] at H
        obtain ⟨t162, A54, H⟩ := ob H
        by_cases c55 : t162 = true
        ·subst c55; rw [if_pos rfl] at H; obtain rfl := Option.some.inj H; have hnb56 := NB152_149.out; have hnc56 := NB149_152.out; have hnb57 := NB152_153.out; have hnc57 := NB153_152.out; obtain ⟨hcz58_0, hcz58_1, hfz58_0, hfz58_1⟩ := b2 (w := wc) BK152; obtain ⟨Ao59, co59, eo59⟩ := Kd.R_slice HO_11.out; subst eo59
         go_wp2_with (first | ((with_reducible refine gate_callee (f := 101) rfl ?_); refine gl (some 43) Tryd.func101 #[.agg #[.int .i64 ((rd_T48 l0_0 a1).f0), .slice A150_1 ((rd_T48 l0_0 a1).f1).length c150_1], .slice Ao59 t154.length co59] ?_; (with_reducible refine (skewbaldref01_may.calls kj10 ((rd_T48 l0_0 a1).f0) _ _ ((rd_T48 l0_0 a1).f1) _ _ t154 true _ ?side1 ?side2 ?side3 ?side4 A54.out).mono ?_); (case side1 => exact cl); (case side2 => exact HC150_1.out); (case side3 => repeat (first | exact (Kd.R_reads' HO_11.out).2.2 | (with_reducible refine Kd.C_alloc ?_ _) | (with_reducible refine Kd.C_drewN ?_ _) | (with_reducible refine Kd.C_drew ?_))); (case side4 => exact (Kd.R_reads' HO_11.out).2.1); rintro e w60 ⟨rfl, hb⟩; refine ⟨_, rfl, ?_⟩; replace HO_11 := Aside0.mk (Kd.R_below (bR HO_11) hb); replace HO_12 := Aside0.mk (Kd.R_below (bR HO_12) hb); replace BK149 := nb BK149 hb; replace BK152 := nb BK152 hb; replace BK153 := nb BK153 hb; replace HB := hs HB hb; (try clear hb); (try clear hb2); (try clear hk); (try clear hi)))
         go_ret
         exact ⟨by first | rfl | (simp [errW_none, errW_some] <;> rfl) | (simp [*, errW_none, errW_some] <;> rfl), bl⟩
        ·replace c55 := Bool.eq_false_iff.mpr c55; subst c55
         rw [if_neg (show ¬ (false = true) by decide)] at H
         by_cases c61 : ((rd_T50 l0_1 a2).f2) = true
         ·rw [if_pos c61] at H
          have c61b0 : ((rd_T50 l0_1 a2).f2) = true := c61
          clear c61; obtain ⟨t163, A62, H⟩ := ob H
          by_cases c63 : t163 = true
          ·subst c63; rw [if_pos rfl] at H; obtain rfl := Option.some.inj H; have hnb64 := NB152_149.out; have hnc64 := NB149_152.out; have hnb65 := NB152_153.out; have hnc65 := NB153_152.out; obtain ⟨hcz66_0, hcz66_1, hfz66_0, hfz66_1⟩ := b2 (w := wc) BK152; obtain ⟨Ao67, co67, eo67⟩ := Kd.R_slice HO_11.out; subst eo67
           go_wp2_with (first | ((with_reducible refine gate_callee (f := 101) rfl ?_); refine gl (some 43) Tryd.func101 #[.agg #[.int .i64 ((rd_T48 l0_0 a1).f0), .slice A150_1 ((rd_T48 l0_0 a1).f1).length c150_1], .slice Ao67 t154.length co67] ?_; (with_reducible refine (skewbaldref01_may.calls kj10 ((rd_T48 l0_0 a1).f0) _ _ ((rd_T48 l0_0 a1).f1) _ _ t154 false _ ?side1 ?side2 ?side3 ?side4 A54.out).mono ?_); (case side1 => exact cl); (case side2 => exact HC150_1.out); (case side3 => repeat (first | exact (Kd.R_reads' HO_11.out).2.2 | (with_reducible refine Kd.C_alloc ?_ _) | (with_reducible refine Kd.C_drewN ?_ _) | (with_reducible refine Kd.C_drew ?_))); (case side4 => exact (Kd.R_reads' HO_11.out).2.1); rintro e w68 ⟨rfl, hb⟩; refine ⟨_, rfl, ?_⟩; replace HO_11 := Aside0.mk (Kd.R_below (bR HO_11) hb); replace HO_12 := Aside0.mk (Kd.R_below (bR HO_12) hb); replace BK149 := nb BK149 hb; replace BK152 := nb BK152 hb; replace BK153 := nb BK153 hb; replace HB := hs HB hb; (try clear hb); (try clear hb2); (try clear hk); (try clear hi); have hnb69 := NB153_149.out; have hnc69 := NB149_153.out; obtain ⟨hcz70_0, hcz70_1, hcz70_2, hfz70_0, hfz70_1, hfz70_2⟩ := b3 (w := w68) BK153; obtain ⟨hcz71_0, hcz71_1, hfz71_0, hfz71_1⟩ := b2 (w := w68) BK152; obtain ⟨Ao72, co72, eo72⟩ := Kd.R_slice HO_12.out; subst eo72) | (go_at_call 101; (with_reducible refine (skewbaldref01_may.calls kj10 ((rd_T48 l0_0 a1).f0) _ _ ((rd_T48 l0_0 a1).f1) _ _ t157 true _ ?side1 ?side2 ?side3 ?side4 A62.out).mono ?_); (case side1 => exact cl); (case side2 => exact HC150_1.out); (case side3 => repeat (first | exact (Kd.R_reads' HO_12.out).2.2 | (with_reducible refine Kd.C_alloc ?_ _) | (with_reducible refine Kd.C_drewN ?_ _) | (with_reducible refine Kd.C_drew ?_))); (case side4 => exact (Kd.R_reads' HO_12.out).2.1); rintro e w73 ⟨rfl, hb⟩; replace HO_11 := Aside0.mk (Kd.R_below (bR HO_11) hb); replace HO_12 := Aside0.mk (Kd.R_below (bR HO_12) hb); replace BK149 := nb BK149 hb; replace BK152 := nb BK152 hb; replace BK153 := nb BK153 hb; replace HB := hs HB hb; (try clear hb); (try clear hb2); (try clear hk); (try clear hi)))
           go_ret
           exact ⟨by first | rfl | (simp [errW_none, errW_some] <;> rfl) | (simp [*, errW_none, errW_some] <;> rfl), bl⟩
          ·replace c63 := Bool.eq_false_iff.mpr c63; subst c63
           rw [if_neg (show ¬ (false = true) by decide)] at H
           obtain rfl := Option.some.inj H; have hnb74 := NB152_149.out; have hnc74 := NB149_152.out; have hnb75 := NB152_153.out; have hnc75 := NB153_152.out; obtain ⟨hcz76_0, hcz76_1, hfz76_0, hfz76_1⟩ := b2 (w := wc) BK152; obtain ⟨Ao77, co77, eo77⟩ := Kd.R_slice HO_11.out; subst eo77
           go_wp2_with (first | ((with_reducible refine gate_callee (f := 101) rfl ?_); refine gl (some 43) Tryd.func101 #[.agg #[.int .i64 ((rd_T48 l0_0 a1).f0), .slice A150_1 ((rd_T48 l0_0 a1).f1).length c150_1], .slice Ao77 t154.length co77] ?_; (with_reducible refine (skewbaldref01_may.calls kj10 ((rd_T48 l0_0 a1).f0) _ _ ((rd_T48 l0_0 a1).f1) _ _ t154 false _ ?side1 ?side2 ?side3 ?side4 A54.out).mono ?_); (case side1 => exact cl); (case side2 => exact HC150_1.out); (case side3 => repeat (first | exact (Kd.R_reads' HO_11.out).2.2 | (with_reducible refine Kd.C_alloc ?_ _) | (with_reducible refine Kd.C_drewN ?_ _) | (with_reducible refine Kd.C_drew ?_))); (case side4 => exact (Kd.R_reads' HO_11.out).2.1); rintro e w78 ⟨rfl, hb⟩; refine ⟨_, rfl, ?_⟩; replace HO_11 := Aside0.mk (Kd.R_below (bR HO_11) hb); replace HO_12 := Aside0.mk (Kd.R_below (bR HO_12) hb); replace BK149 := nb BK149 hb; replace BK152 := nb BK152 hb; replace BK153 := nb BK153 hb; replace HB := hs HB hb; (try clear hb); (try clear hb2); (try clear hk); (try clear hi); have hnb79 := NB153_149.out; have hnc79 := NB149_153.out; obtain ⟨hcz80_0, hcz80_1, hcz80_2, hfz80_0, hfz80_1, hfz80_2⟩ := b3 (w := w78) BK153; obtain ⟨hcz81_0, hcz81_1, hfz81_0, hfz81_1⟩ := b2 (w := w78) BK152; obtain ⟨Ao82, co82, eo82⟩ := Kd.R_slice HO_12.out; subst eo82) | (go_at_call 101; (with_reducible refine (skewbaldref01_may.calls kj10 ((rd_T48 l0_0 a1).f0) _ _ ((rd_T48 l0_0 a1).f1) _ _ t157 false _ ?side1 ?side2 ?side3 ?side4 A62.out).mono ?_); (case side1 => exact cl); (case side2 => exact HC150_1.out); (case side3 => repeat (first | exact (Kd.R_reads' HO_12.out).2.2 | (with_reducible refine Kd.C_alloc ?_ _) | (with_reducible refine Kd.C_drewN ?_ _) | (with_reducible refine Kd.C_drew ?_))); (case side4 => exact (Kd.R_reads' HO_12.out).2.1); rintro e w83 ⟨rfl, hb⟩; replace HO_11 := Aside0.mk (Kd.R_below (bR HO_11) hb); replace HO_12 := Aside0.mk (Kd.R_below (bR HO_12) hb); replace BK149 := nb BK149 hb; replace BK152 := nb BK152 hb; replace BK153 := nb BK153 hb; replace HB := hs HB hb; (try clear hb); (try clear hb2); (try clear hk); (try clear hi)))
           go_ret
           exact ⟨by first | rfl | (simp [errW_none, errW_some] <;> rfl) | (simp [*, errW_none, errW_some] <;> rfl), bl⟩
         ·rw [if_neg c61] at H
          have c61b0 : ((rd_T50 l0_1 a2).f2) = false := by simpa using c61
          clear c61; obtain rfl := Option.some.inj H; have hnb84 := NB152_149.out; have hnc84 := NB149_152.out; have hnb85 := NB152_153.out; have hnc85 := NB153_152.out; obtain ⟨hcz86_0, hcz86_1, hfz86_0, hfz86_1⟩ := b2 (w := wc) BK152; obtain ⟨Ao87, co87, eo87⟩ := Kd.R_slice HO_11.out; subst eo87
          go_wp2_with (first | ((with_reducible refine gate_callee (f := 101) rfl ?_); refine gl (some 43) Tryd.func101 #[.agg #[.int .i64 ((rd_T48 l0_0 a1).f0), .slice A150_1 ((rd_T48 l0_0 a1).f1).length c150_1], .slice Ao87 t154.length co87] ?_; (with_reducible refine (skewbaldref01_may.calls kj10 ((rd_T48 l0_0 a1).f0) _ _ ((rd_T48 l0_0 a1).f1) _ _ t154 false _ ?side1 ?side2 ?side3 ?side4 A54.out).mono ?_); (case side1 => exact cl); (case side2 => exact HC150_1.out); (case side3 => repeat (first | exact (Kd.R_reads' HO_11.out).2.2 | (with_reducible refine Kd.C_alloc ?_ _) | (with_reducible refine Kd.C_drewN ?_ _) | (with_reducible refine Kd.C_drew ?_))); (case side4 => exact (Kd.R_reads' HO_11.out).2.1); rintro e w88 ⟨rfl, hb⟩; refine ⟨_, rfl, ?_⟩; replace HO_11 := Aside0.mk (Kd.R_below (bR HO_11) hb); replace HO_12 := Aside0.mk (Kd.R_below (bR HO_12) hb); replace BK149 := nb BK149 hb; replace BK152 := nb BK152 hb; replace BK153 := nb BK153 hb; replace HB := hs HB hb; (try clear hb); (try clear hb2); (try clear hk); (try clear hi); have hnb89 := NB153_149.out; have hnc89 := NB149_153.out; obtain ⟨hcz90_0, hcz90_1, hcz90_2, hfz90_0, hfz90_1, hfz90_2⟩ := b3 (w := w88) BK153))
          go_ret
          exact ⟨by first | rfl | (simp [errW_none, errW_some] <;> rfl) | (simp [*, errW_none, errW_some] <;> rfl), bl⟩
    ·rw [if_neg c8] at H
     exact absurd H (by simp)
   ·rw [if_neg c7] at H
    exact absurd H (by simp)
  ·rw [if_neg c6] at H
   exact absurd H (by simp)
 ·rw [if_neg c5] at H
  exact absurd H (by simp)
def skewbaldref01_spots.l0 : Nat → Int → Int → List Int → Int → List (S48) → List (S50) → Option (List Int)
 | 0, _, _, _, _, _, _ => none
 | k + 1, x1, x2, x7, x8, x175000, x175001 => (skewbaldref01_lies.f x175000 x175001 x1 x2 x8).bind fun t178 => (if t178 = true then ((skewbaldref01_can.f k x175000 x175001 x1 x2 x8).bind fun t179 => (if t179 = 2 then (if x7.length < 17592186044416 then (skewbaldref01_spots.l0 k x1 x2 (x7 ++ [x8]) (wrap64 (x8 + 1)) x175000 x175001) else (none)) else (skewbaldref01_spots.l0 k x1 x2 x7 (wrap64 (x8 + 1)) x175000 x175001))) else (some x7))
def skewbaldref01_spots.f (k : Nat) (l0_0 : List (S48)) (l0_1 : List (S50)) (a1 : Int) (a2 : Int) : Option (List Int) := skewbaldref01_spots.l0 k a1 a2 (([] : List Int)) 0 l0_0 l0_1
set_option maxHeartbeats 8000000 in
set_option maxRecDepth 100000 in
theorem skewbaldref01_spots.calls (k : Nat) (A0_0 : Option Addr) (c0_0 : Nat) (l0_0 : List (S48)) (A0_1 : Option Addr) (c0_1 : Nat) (l0_1 : List (S50)) (a1 : Int) (a2 : Int) (r : List Int) (w : World) (hr0_0 : Kd.C k48 w A0_0 l0_0.length l0_0) (hc0_0 : l0_0.length ≤ c0_0) (hr0_1 : Kd.C k50 w A0_1 l0_1.length l0_1) (hc0_1 : l0_1.length ≤ c0_1) (h : skewbaldref01_spots.f k l0_0 l0_1 a1 a2 = some r) :
  Calls Tryd.prog 75 #[.agg #[.slice A0_0 l0_0.length c0_0, .slice A0_1 l0_1.length c0_1], .int .i64 a1, .int .i64 a2] w fun e w' => ∃ v0_ : Value, e = .returned (v0_) ∧ Kd.R (Kd.int .i64) 3 w' w.heap.size (fun _ => True) v0_ r ∧ Below w.heap.size w w' := by
 have hu25 := Tryd.underlying25; have HR0_0 := Aside0.mk hr0_0; have HC0_0 := Aside0.mk hc0_0; clear hr0_0 hc0_0; have HR0_1 := Aside0.mk hr0_1; have HC0_1 := Aside0.mk hc0_1; clear hr0_1 hc0_1; have HB := Aside0.mk (Below.refl w.heap.size w)
 have H : (skewbaldref01_spots.l0 k a1 a2 (([] : List Int)) 0 l0_0 l0_1) = some r := h
 clear h
 obtain ⟨y175, hy175⟩ : ∃ y_ : List Int, y_ = (([] : List Int)) := ⟨_, rfl⟩
 replace H : (skewbaldref01_spots.l0 k a1 a2 y175 0 l0_0 l0_1) = some r := tr H hy175
 have Ny175 := Aside0.mk hy175; clear hy175; have H' := Aside0.mk H; clear H
 go_enter Tryd.func75, Tryd.ntmps75
 go_wp2_with (first | (refine bx 3 #[.slice A0_0 l0_0.length c0_0, .slice A0_1 l0_1.length c0_1] 25 ?_; intro gb174 hg w4 hbox hb; have BK174 := Aside0.mk hbox; have GW174 := gw hg HB; have GE174 := gw hg HB; replace HB := hs HB hb; clear hb hbox hg) | ((with_reducible refine gate_dst (N := 9) rfl ?_); refine Kd.R_lit (Kd.int .i64) _ 3 ?hg (N := 9) ?hd (xs := ([] : List Int)) (inner := []) (ok := fun _ => True) (okp := fun _ => True) ?hr ?hp (fun _ hk => hk) trivial (Below.refl _ _) (Nat.le_refl _) (by simp) ?_; (case hd => rfl); (case hg => rfl); (case hr => first | (go_simp; done) | (go_simp; rfl)); (case hp => exact (Reps.none _ _)); intro v176 w5 ho6 hb hg_ hnew_; clear hg_ hnew_; (first | rw [← Ny175.out] at ho6 | (simp only [Int.reduceToNat] at ho6; rw [← Ny175.out] at ho6)); have HO177 := Aside0.mk (Kd.R_lower ho6 (below_size bl)); replace BK174 := nb BK174 hb; replace HB := hs HB hb; clear hb ho6))
 go_loopg [7, 8] k (fun kq v7 v8 w' => ∃ (x7_1 : List Int) (x8_1 : Int), v8 = .int .i64 x8_1 ∧ Aside0 (skewbaldref01_spots.l0 kq a1 a2 x7_1 x8_1 l0_0 l0_1 = some r) ∧ Aside0 (kq ≤ k) ∧ Aside0 (Kd.R (Kd.int .i64) 3 w' w.heap.size (fun _ => True) v7 x7_1) ∧ Aside0 (w'.heap[gb174]? = some (.cells #[(.slice A0_0 l0_0.length c0_0), (.slice A0_1 l0_1.length c0_1)] 25 (0, 0))) ∧ Aside0 (Below w.heap.size w w'))
 case atStart => exact ⟨(y175), (0), sm, H', ⟨Nat.le_refl _⟩, ⟨bR HO177⟩, ⟨bk⟩, ⟨bl⟩⟩
 case round =>
  clear H'; (try clear p2); obtain ⟨x7_1, x8_1, rfl, HA, HK1, HO_7, BK174, HB⟩ := hrel
  cases gk with
  | zero => exact absurd HA.out (by simp [skewbaldref01_spots.l0])
  | succ k1 =>
   have H := HA.out; clear HA
   simp only [skewbaldref01_spots.l0] at H
   obtain ⟨t178, A7, H⟩ := ob H
   by_cases c8 : t178 = true
   ·subst c8; rw [if_pos rfl] at H; obtain ⟨t179, A9, H⟩ := ob H
    by_cases c10 : t179 = 2
    ·rw [if_pos c10] at H
     have c10b0 : (t179 == 2) = true := beq_iff_eq.mpr c10
     have c10b1 : (t179 != 2) = false := bne_eq_false_iff_eq.mpr c10
     clear c10
     by_cases c11 : x7_1.length < 17592186044416
     ·rw [if_pos c11] at H; have LMc11 := Aside0.mk c11; clear c11
      obtain ⟨y180, hy180⟩ : ∃ y_ : List Int, y_ = (x7_1 ++ [x8_1]) := ⟨_, rfl⟩
      replace H : (skewbaldref01_spots.l0 k1 a1 a2 y180 (wrap64 (x8_1 + 1)) l0_0 l0_1) = some r := tr H hy180
      have Ny180 := Aside0.mk hy180; clear hy180; have H' := Aside0.mk H; clear H; obtain ⟨hcz12_0, hcz12_1, hfz12_0, hfz12_1⟩ := b2 (w := wr) BK174
      go_wp2_with (first | ((with_reducible refine gate_callee (f := 68) rfl ?_); refine gl (some 14) Tryd.func68 #[.agg #[.slice A0_0 l0_0.length c0_0, .slice A0_1 l0_1.length c0_1], .int .i64 a1, .int .i64 a2, .int .i64 x8_1] ?_; (with_reducible refine (skewbaldref01_lies.calls _ _ l0_0 _ _ l0_1 a1 a2 x8_1 true _ cl HC0_0.out cl HC0_1.out A7.out).mono ?_); rintro e w13 ⟨rfl, hb⟩; refine ⟨_, rfl, ?_⟩; replace HO_7 := Aside0.mk (Kd.R_below (bR HO_7) hb); replace BK174 := nb BK174 hb; replace HB := hs HB hb; (try clear hb); (try clear hb2); (try clear hk); (try clear hi); obtain ⟨hcz14_0, hcz14_1, hfz14_0, hfz14_1⟩ := b2 (w := w13) BK174) | ((with_reducible refine gate_callee (f := 69) rfl ?_); refine gl (some 21) Tryd.func69 #[.agg #[.slice A0_0 l0_0.length c0_0, .slice A0_1 l0_1.length c0_1], .int .i64 a1, .int .i64 a2, .int .i64 x8_1] ?_; (with_reducible refine (skewbaldref01_can.calls k1 _ _ l0_0 _ _ l0_1 a1 a2 x8_1 t179 _ cl HC0_0.out cl HC0_1.out A9.out).mono ?_); rintro e w15 ⟨rfl, hb⟩; refine ⟨_, rfl, ?_⟩; replace HO_7 := Aside0.mk (Kd.R_below (bR HO_7) hb); replace BK174 := nb BK174 hb; replace HB := hs HB hb; (try clear hb); (try clear hb2); (try clear hk); (try clear hi)) | ((with_reducible refine gate_builtin (b := .append) (xs := #[.tmp 23, .tmp 25]) rfl ?_); at_builtin; refine Kd.R_append (Kd.int .i64) (w0 := w) w.heap.size rfl (.tmp 23) (.tmp 25) 31 3 (.int .i64 0) 8 rfl Tryd.underlying31 info3 rfl (by decide) (by omega) u7 x7_1 x8_1 [.int .i64 x8_1] (fun _ => True) (fun _ => False) rfl rfl ?aP (fun _ hk => hk.elim) ?aF ?aO ?aB ?aS ?aL ?_; (case aP => exact rfl); (case aB => exact bl); (case aF => exact (fun _ _ => trivial)); (case aO => exact (bR HO_7)); (case aS => exact (below_size bl)); (case aL => have := LMc11.out; omega); intro v181 w16 ho hb hg hat; rw [← Ny180.out] at ho; replace BK174 := Aside0.mk (blk_grown (g := gb174) (o := .cells #[.slice A0_0 l0_0.length c0_0, .slice A0_1 l0_1.length c0_1] 25 (0, 0)) bk hg (Kd.R_ne HO_7.out BK174.out (by decide))); replace HB := Aside0.mk hb; have HO182 := Aside0.mk ho; clear HO_7; clear ho hb hg hat))
      go_roundg k1
      case measure => have := HK1.out; omega
      case rel => exact ⟨(y180), (wrap64 (x8_1 + 1)), sm, H', ⟨lo HK1⟩, ⟨bR HO182⟩, ⟨bk⟩, ⟨bl⟩⟩
     ·rw [if_neg c11] at H
      exact absurd H (by simp)
    ·rw [if_neg c10] at H
     have c10b0 : (t179 == 2) = false := beq_eq_false_iff_ne.mpr c10
     have c10b1 : (t179 != 2) = true := bne_iff_ne.mpr c10
     have H' := Aside0.mk H; clear H; obtain ⟨hcz17_0, hcz17_1, hfz17_0, hfz17_1⟩ := b2 (w := wr) BK174
     go_wp2_with (first | ((with_reducible refine gate_callee (f := 68) rfl ?_); refine gl (some 14) Tryd.func68 #[.agg #[.slice A0_0 l0_0.length c0_0, .slice A0_1 l0_1.length c0_1], .int .i64 a1, .int .i64 a2, .int .i64 x8_1] ?_; (with_reducible refine (skewbaldref01_lies.calls _ _ l0_0 _ _ l0_1 a1 a2 x8_1 true _ cl HC0_0.out cl HC0_1.out A7.out).mono ?_); rintro e w18 ⟨rfl, hb⟩; refine ⟨_, rfl, ?_⟩; replace HO_7 := Aside0.mk (Kd.R_below (bR HO_7) hb); replace BK174 := nb BK174 hb; replace HB := hs HB hb; (try clear hb); (try clear hb2); (try clear hk); (try clear hi); obtain ⟨hcz19_0, hcz19_1, hfz19_0, hfz19_1⟩ := b2 (w := w18) BK174) | ((with_reducible refine gate_callee (f := 69) rfl ?_); refine gl (some 21) Tryd.func69 #[.agg #[.slice A0_0 l0_0.length c0_0, .slice A0_1 l0_1.length c0_1], .int .i64 a1, .int .i64 a2, .int .i64 x8_1] ?_; (with_reducible refine (skewbaldref01_can.calls k1 _ _ l0_0 _ _ l0_1 a1 a2 x8_1 t179 _ cl HC0_0.out cl HC0_1.out A9.out).mono ?_); rintro e w20 ⟨rfl, hb⟩; refine ⟨_, rfl, ?_⟩; replace HO_7 := Aside0.mk (Kd.R_below (bR HO_7) hb); replace BK174 := nb BK174 hb; replace HB := hs HB hb; (try clear hb); (try clear hb2); (try clear hk); (try clear hi)))
     go_roundg k1
     case measure => have := HK1.out; omega
     case rel => exact ⟨(x7_1), (wrap64 (x8_1 + 1)), sm, H', ⟨lo HK1⟩, ⟨bR HO_7⟩, ⟨bk⟩, ⟨bl⟩⟩
   ·replace c8 := Bool.eq_false_iff.mpr c8; subst c8
    rw [if_neg (show ¬ (false = true) by decide)] at H
    obtain rfl := Option.some.inj H; obtain ⟨hcz21_0, hcz21_1, hfz21_0, hfz21_1⟩ := b2 (w := wr) BK174
    go_wp2_with (first | ((with_reducible refine gate_callee (f := 68) rfl ?_); refine gl (some 14) Tryd.func68 #[.agg #[.slice A0_0 l0_0.length c0_0, .slice A0_1 l0_1.length c0_1], .int .i64 a1, .int .i64 a2, .int .i64 x8_1] ?_; (with_reducible refine (skewbaldref01_lies.calls _ _ l0_0 _ _ l0_1 a1 a2 x8_1 false _ cl HC0_0.out cl HC0_1.out A7.out).mono ?_); rintro e w22 ⟨rfl, hb⟩; refine ⟨_, rfl, ?_⟩; replace HO_7 := Aside0.mk (Kd.R_below (bR HO_7) hb); replace BK174 := nb BK174 hb; replace HB := hs HB hb; (try clear hb); (try clear hb2); (try clear hk); (try clear hi)))
    go_ret
    exact ⟨_, by first | rfl | (simp [errW_none, errW_some] <;> rfl) | (simp [*, errW_none, errW_some] <;> rfl), by (with_reducible repeat (first | apply Kd.R_alloc | apply Kd.R_drewN | apply Kd.R_drew)); exact HO_7.out, bl⟩
def skewbaldref01_Spots.T1 : Bool × List (List Nat × List Nat) := (true, [([], []), ([], []), ([], []), ([1, 2], [1, 2]), ([3, 3], [3]), ([4], [4]), ([4], [4]), ([5, 6, 4, 4], [4, 5, 6]), ([4, 7], [4, 7]), ([0, 8, 7], [0, 8]), ([9, 9, 0, 1, 2, 3, 4, 5, 6, 7, 8, 9], [9])])
def skewbaldref01_Spots.B1 : List Nat := [0, 0, 0, 6, 14, 30, 30, 126, 254, 511, 1023]
theorem skewbaldref01_Spots.tab1 : rtab .any (opsOf Tryd.f21 1) = skewbaldref01_Spots.T1 := by kernel_rfl
theorem skewbaldref01_Spots.bits1 : waitsOk skewbaldref01_Spots.T1.2 skewbaldref01_Spots.B1 = true := by kernel_rfl
def skewbaldref00_Of.f (a0 : Int) (a1 : Int) : Option (Bool) := if 0 ≤ a1 then (some ((Go.bits .and .i64 (shr .i64 a0 a1) 1) == 1)) else (none)
set_option maxHeartbeats 8000000 in
set_option maxRecDepth 100000 in
theorem skewbaldref00_Of.calls (a0 : Int) (a1 : Int) (r : Bool) (w : World) (h : skewbaldref00_Of.f a0 a1 = some r) :
  Calls Tryd.prog 95 #[.int .i64 a0, .int .i64 a1] w fun e w' => e = .returned (.bool r) ∧ Drawn0 w w' := by
 have H : (if 0 ≤ a1 then (some ((Go.bits .and .i64 (shr .i64 a0 a1) 1) == 1)) else (none)) = some r := h
 clear h
 by_cases c3 : 0 ≤ a1
 ·rw [if_pos c3] at H; have c3b0 := eq_true c3; have c3b1 := decide_eq_true c3; clear c3
  obtain ⟨ji4, hji4⟩ : ∃ j_ : Int, (shr .i64 a0 a1) = j_ := ⟨_, rfl⟩
  replace H : (some ((Go.bits .and .i64 (ji4) 1) == 1)) = some r := by first | (rw [hji4] at H; exact H) | (simp only [hji4] at H ⊢; exact H)
  have hji4_ : (a0 / 2 ^ min a1.toNat 64) = ji4 := hji4
  have hji4z : a1 ≤ 64 → (a0 / 2 ^ a1.toNat) = ji4 := shr_small hji4
  obtain rfl := Option.some.inj H
  go_enter Tryd.func95, Tryd.ntmps95
  go_wp2
  go_ret
  exact ⟨by first | rfl | (simp; done) | (simp only [← hji4] <;> (first | rfl | simp)) | (simp [*]; done), by repeat (first | exact Drawn0.refl _ | apply Drawn0.step)⟩
 ·rw [if_neg c3] at H
  exact absurd H (by simp)
def skewbaldref00_List.l0 : Nat → Int → Int → List Int → Int → Option (List Int)
 | 0, _, _, _, _ => none
 | k + 1, x0, x1, x5, x6 => if x6 < x1 then ((skewbaldref00_Of.f x0 x6).bind fun t217 => (if t217 = true then (if x5.length < 17592186044416 then (skewbaldref00_List.l0 k x0 x1 (x5 ++ [x6]) (wrap64 (x6 + 1))) else (none)) else (skewbaldref00_List.l0 k x0 x1 x5 (wrap64 (x6 + 1))))) else (some x5)
def skewbaldref00_List.f (k : Nat) (a0 : Int) (a1 : Int) : Option (List Int) := skewbaldref00_List.l0 k a0 a1 (([] : List Int)) 0
set_option maxHeartbeats 8000000 in
set_option maxRecDepth 100000 in
theorem skewbaldref00_List.calls (k : Nat) (a0 : Int) (a1 : Int) (r : List Int) (w : World) (h : skewbaldref00_List.f k a0 a1 = some r) :
  Calls Tryd.prog 40 #[.int .i64 a0, .int .i64 a1] w fun e w' => ∃ v0_ : Value, e = .returned (v0_) ∧ Kd.R (Kd.int .i64) 3 w' w.heap.size (fun _ => True) v0_ r ∧ Below w.heap.size w w' := by
 have HB := Aside0.mk (Below.refl w.heap.size w)
 have H : (skewbaldref00_List.l0 k a0 a1 (([] : List Int)) 0) = some r := h
 clear h
 obtain ⟨y214, hy214⟩ : ∃ y_ : List Int, y_ = (([] : List Int)) := ⟨_, rfl⟩
 replace H : (skewbaldref00_List.l0 k a0 a1 y214 0) = some r := tr H hy214
 have Ny214 := Aside0.mk hy214; clear hy214; have H' := Aside0.mk H; clear H
 go_enter Tryd.func40, Tryd.ntmps40
 go_wp2_with (first | ((with_reducible refine gate_dst (N := 7) rfl ?_); refine Kd.R_lit (Kd.int .i64) _ 3 ?hg (N := 7) ?hd (xs := ([] : List Int)) (inner := []) (ok := fun _ => True) (okp := fun _ => True) ?hr ?hp (fun _ hk => hk) trivial (Below.refl _ _) (Nat.le_refl _) (by simp) ?_; (case hd => rfl); (case hg => rfl); (case hr => first | (go_simp; done) | (go_simp; rfl)); (case hp => exact (Reps.none _ _)); intro v215 w3 ho4 hb hg_ hnew_; clear hg_ hnew_; (first | rw [← Ny214.out] at ho4 | (simp only [Int.reduceToNat] at ho4; rw [← Ny214.out] at ho4)); have HO216 := Aside0.mk (Kd.R_lower ho4 (below_size bl)); replace HB := hs HB hb; clear hb ho4))
 go_loopg [5, 6] k (fun kq v5 v6 w' => ∃ (x5_1 : List Int) (x6_1 : Int), v6 = .int .i64 x6_1 ∧ Aside0 (skewbaldref00_List.l0 kq a0 a1 x5_1 x6_1 = some r) ∧ Aside0 (kq ≤ k) ∧ Aside0 (Kd.R (Kd.int .i64) 3 w' w.heap.size (fun _ => True) v5 x5_1) ∧ Aside0 (Below w.heap.size w w'))
 case atStart => exact ⟨(y214), (0), sm, H', ⟨Nat.le_refl _⟩, ⟨bR HO216⟩, ⟨bl⟩⟩
 case round =>
  clear H'; (try clear p2); (try clear c4); obtain ⟨x5_1, x6_1, rfl, HA, HK1, HO_5, HB⟩ := hrel
  cases gk with
  | zero => exact absurd HA.out (by simp [skewbaldref00_List.l0])
  | succ k1 =>
   have H := HA.out; clear HA
   simp only [skewbaldref00_List.l0] at H
   by_cases c5 : x6_1 < a1
   ·rw [if_pos c5] at H; have c5b0 := decide_eq_true c5; clear c5; obtain ⟨t217, A6, H⟩ := ob H
    by_cases c7 : t217 = true
    ·subst c7; rw [if_pos rfl] at H
     by_cases c8 : x5_1.length < 17592186044416
     ·rw [if_pos c8] at H; have LMc8 := Aside0.mk c8; clear c8
      obtain ⟨y218, hy218⟩ : ∃ y_ : List Int, y_ = (x5_1 ++ [x6_1]) := ⟨_, rfl⟩
      replace H : (skewbaldref00_List.l0 k1 a0 a1 y218 (wrap64 (x6_1 + 1))) = some r := tr H hy218
      have Ny218 := Aside0.mk hy218; clear hy218; have H' := Aside0.mk H; clear H
      go_wp2_with (first | ((with_reducible refine gate_callee (f := 95) rfl ?_); refine gl (some 15) Tryd.func95 #[.int .i64 a0, .int .i64 x6_1] ?_; (with_reducible refine (skewbaldref00_Of.calls a0 x6_1 true _ A6.out).mono ?_); rintro e w' ⟨rfl, ⟨nd, rfl⟩⟩; refine ⟨_, rfl, ?_⟩) | ((with_reducible refine gate_builtin (b := .append) (xs := #[.tmp 16, .tmp 18]) rfl ?_); at_builtin; refine Kd.R_append (Kd.int .i64) (w0 := w) w.heap.size rfl (.tmp 16) (.tmp 18) 31 3 (.int .i64 0) 8 rfl Tryd.underlying31 info3 rfl (by decide) (by omega) u5 x5_1 x6_1 [.int .i64 x6_1] (fun _ => True) (fun _ => False) rfl rfl ?aP (fun _ hk => hk.elim) ?aF ?aO ?aB ?aS ?aL ?_; (case aP => exact rfl); (case aB => exact bl); (case aF => exact (fun _ _ => trivial)); (case aO => exact (bR HO_5)); (case aS => exact (below_size bl)); (case aL => have := LMc8.out; omega); intro v219 w9 ho hb hg hat; rw [← Ny218.out] at ho; replace HB := Aside0.mk hb; have HO220 := Aside0.mk ho; clear HO_5; clear ho hb hg hat))
      go_roundg k1
      case measure => have := HK1.out; omega
      case rel => exact ⟨(y218), (wrap64 (x6_1 + 1)), sm, H', ⟨lo HK1⟩, ⟨bR HO220⟩, ⟨bl⟩⟩
     ·rw [if_neg c8] at H
      exact absurd H (by simp)
    ·replace c7 := Bool.eq_false_iff.mpr c7; subst c7
     rw [if_neg (show ¬ (false = true) by decide)] at H
     have H' := Aside0.mk H; clear H
     go_wp2_with (first | ((with_reducible refine gate_callee (f := 95) rfl ?_); refine gl (some 15) Tryd.func95 #[.int .i64 a0, .int .i64 x6_1] ?_; (with_reducible refine (skewbaldref00_Of.calls a0 x6_1 false _ A6.out).mono ?_); rintro e w' ⟨rfl, ⟨nd, rfl⟩⟩; refine ⟨_, rfl, ?_⟩))
     go_roundg k1
     case measure => have := HK1.out; omega
     case rel => exact ⟨(x5_1), (wrap64 (x6_1 + 1)), sm, H', ⟨lo HK1⟩, ⟨bR HO_5⟩, ⟨bl⟩⟩
   ·rw [if_neg c5] at H
    have c5b0 : decide (x6_1 < a1) = false := decide_eq_false c5
    clear c5; obtain rfl := Option.some.inj H
    go_wp2
    go_ret
    exact ⟨_, by first | rfl | (simp [errW_none, errW_some] <;> rfl) | (simp [*, errW_none, errW_some] <;> rfl), by (with_reducible repeat (first | apply Kd.R_alloc | apply Kd.R_drewN | apply Kd.R_drew)); exact HO_5.out, bl⟩
mutual
def skewbaldref00_Less.l0 : Nat → List Int → List Int → Int → Option (Bool)
 | 0, _, _, _ => none
 | k + 1, x0, x1, x5 => if x5 < (x0.length : Int) then (skewbaldref00_Less.j1 k x0 x1 x5 (decide (x5 < (x1.length : Int)))) else (skewbaldref00_Less.j1 k x0 x1 x5 false)
def skewbaldref00_Less.j1 : Nat → List Int → List Int → Int → Bool → Option (Bool)
 | 0, _, _, _, _ => none
 | k + 1, x0, x1, x5, x15 => if x15 = true then (if 0 ≤ x5 then (if x5 < (x0.length : Int) then (if x5 < (x1.length : Int) then (if (rd x0 x5) = (rd x1 x5) then (skewbaldref00_Less.l0 k x0 x1 (wrap64 (x5 + 1))) else (some (decide ((rd x0 x5) < (rd x1 x5))))) else (none)) else (none)) else (none)) else (some (decide ((x0.length : Int) < (x1.length : Int))))
end
def skewbaldref00_Less.f (k : Nat) (l0 : List Int) (l1 : List Int) : Option (Bool) := skewbaldref00_Less.l0 k l0 l1 0
set_option maxHeartbeats 8000000 in
set_option maxRecDepth 100000 in
theorem skewbaldref00_Less.calls (k : Nat) (A0 : Option Addr) (c0 : Nat) (l0 : List Int) (A1 : Option Addr) (c1 : Nat) (l1 : List Int) (r : Bool) (w : World) (hr0 : Kd.C (Kd.int .i64) w A0 l0.length l0) (hc0 : l0.length ≤ c0) (hr1 : Kd.C (Kd.int .i64) w A1 l1.length l1) (hc1 : l1.length ≤ c1) (h : skewbaldref00_Less.f k l0 l1 = some r) :
  Calls Tryd.prog 44 #[.slice A0 l0.length c0, .slice A1 l1.length c1] w fun e w' => e = .returned (.bool r) ∧ Drawn0 w w' := by
 have HR0 := Aside0.mk hr0; have HC0 := Aside0.mk hc0; clear hr0 hc0; have HR1 := Aside0.mk hr1; have HC1 := Aside0.mk hc1; clear hr1 hc1
 have H : (skewbaldref00_Less.l0 k l0 l1 0) = some r := h
 clear h; have H' := Aside0.mk H; clear H
 go_enter Tryd.func44, Tryd.ntmps44
 go_wp2
 repeat (go_quiet (fail); try go_wp2)
 go_loopg [5] k (fun kq v5 w' => ∃ (x5_1 : Int), v5 = .int .i64 x5_1 ∧ Aside0 (skewbaldref00_Less.l0 kq l0 l1 x5_1 = some r) ∧ Aside0 (kq ≤ k) ∧ Drawn0 w w')
 case atStart => exact ⟨(0), sm, H', ⟨Nat.le_refl _⟩, by repeat (first | exact Drawn0.refl _ | apply Drawn0.step)⟩
 case round =>
  clear H'; (try clear c1); (try clear p2); obtain ⟨x5_1, rfl, HA, HK1, ⟨m1, rfl⟩⟩ := hrel
  cases gk with
  | zero => exact absurd HA.out (by simp [skewbaldref00_Less.l0])
  | succ k1 =>
   have H := HA.out; clear HA
   simp only [skewbaldref00_Less.l0] at H
   have HC3 := Aside0.mk H; clear H
   go_upto_region 2 with (fail)
   repeat (go_quiet (fail); go_upto_region 2 with (fail))
   go_cut [15] (fun v15 wc => ∃ (kq : Nat) (x15_2 : Bool), v15 = .bool x15_2 ∧ Aside0 (skewbaldref00_Less.j1 kq l0 l1 x5_1 x15_2 = some r) ∧ Aside0 (kq ≤ k1) ∧ Drawn0 w wc)
   case first =>
    have H := HC3.out; clear HC3
    by_cases c4 : x5_1 < (l0.length : Int)
    ·rw [if_pos c4] at H; have c4b0 := decide_eq_true c4; clear c4
     (first | rw [c4b0] | (simp only [i64_w, i32_w]; rw [c4b0]) | skip)
     have H' := Aside0.mk H; clear H
     go_wp2
     repeat (go_quiet (fail); try go_wp2)
     go_meet
     case rel => exact ⟨_, (decide (x5_1 < (l1.length : Int))), sm, H', ⟨lo HK1⟩, by repeat (first | exact Drawn0.refl _ | apply Drawn0.step)⟩
    ·rw [if_neg c4] at H
     have c4b0 : decide (x5_1 < (l0.length : Int)) = false := decide_eq_false c4
     clear c4
     (first | rw [c4b0] | (simp only [i64_w, i32_w]; rw [c4b0]) | skip)
     have H' := Aside0.mk H; clear H
     go_wp2
     repeat (go_quiet (fail); try go_wp2)
     go_meet
     case rel => exact ⟨_, (false), sm, H', ⟨lo HK1⟩, by repeat (first | exact Drawn0.refl _ | apply Drawn0.step)⟩
   case rest =>
    clear HC3; (try clear c1); (try clear p2); (try clear c4); (try clear c4b0); obtain ⟨kq, x15_2, rfl, HA, HJ2, ⟨mc2, rfl⟩⟩ := hcut
    cases kq with
    | zero => exact absurd HA.out (by simp [skewbaldref00_Less.j1])
    | succ kj2 =>
     have H := HA.out; clear HA
     simp only [skewbaldref00_Less.j1] at H
     by_cases c5 : x15_2 = true
     ·subst c5; rw [if_pos rfl] at H
      by_cases c6 : 0 ≤ x5_1
      ·rw [if_pos c6] at H; have c6b0 := decide_eq_true c6; clear c6
       by_cases c7 : x5_1 < (l0.length : Int)
       ·rw [if_pos c7] at H; have c7b0 := decide_eq_true c7; clear c7
        by_cases c8 : x5_1 < (l1.length : Int)
        ·rw [if_pos c8] at H; have c8b0 := decide_eq_true c8; clear c8
         by_cases c9 : (rd l0 x5_1) = (rd l1 x5_1)
         ·rw [if_pos c9] at H
          have c9b0 : ((rd l0 x5_1) == (rd l1 x5_1)) = true := beq_iff_eq.mpr c9
          have c9b1 : ((rd l0 x5_1) != (rd l1 x5_1)) = false := bne_eq_false_iff_eq.mpr c9
          clear c9; have H' := Aside0.mk H; clear H
          have p221 : 0 ≤ (x5_1 : Int) := od
          have q221 : x5_1 < (l0.length : Int) := od
          obtain ⟨ad221, e221, hx221_0⟩ := Kd.at_int HR0.out x5_1 p221 q221
          cases e221
          replace p221 := eq_true p221; replace q221 := eq_true q221
          have p222 : 0 ≤ (x5_1 : Int) := od
          have q222 : x5_1 < (l1.length : Int) := od
          obtain ⟨ad222, e222, hx222_0⟩ := Kd.at_int HR1.out x5_1 p222 q222
          cases e222
          replace p222 := eq_true p222; replace q222 := eq_true q222
          go_wp2
          repeat (go_quiet (fail); try go_wp2)
          go_roundg kj2
          case measure => have := HK1.out; have := HJ2.out; omega
          case rel => exact ⟨(wrap64 (x5_1 + 1)), sm, H', ⟨lp HK1 HJ2⟩, by repeat (first | exact Drawn0.refl _ | apply Drawn0.step)⟩
         ·rw [if_neg c9] at H
          have c9b0 : ((rd l0 x5_1) == (rd l1 x5_1)) = false := beq_eq_false_iff_ne.mpr c9
          have c9b1 : ((rd l0 x5_1) != (rd l1 x5_1)) = true := bne_iff_ne.mpr c9
          obtain rfl := Option.some.inj H
          have p221 : 0 ≤ (x5_1 : Int) := od
          have q221 : x5_1 < (l0.length : Int) := od
          obtain ⟨ad221, e221, hx221_0⟩ := Kd.at_int HR0.out x5_1 p221 q221
          cases e221
          replace p221 := eq_true p221; replace q221 := eq_true q221
          have p222 : 0 ≤ (x5_1 : Int) := od
          have q222 : x5_1 < (l1.length : Int) := od
          obtain ⟨ad222, e222, hx222_0⟩ := Kd.at_int HR1.out x5_1 p222 q222
          cases e222
          replace p222 := eq_true p222; replace q222 := eq_true q222
          have p223 : 0 ≤ (x5_1 : Int) := od
          have q223 : x5_1 < (l0.length : Int) := od
          obtain ⟨ad223, e223, hx223_0⟩ := Kd.at_int HR0.out x5_1 p223 q223
          obtain rfl : ad221 = ad223 := (by injection e223)
          replace p223 := eq_true p223; replace q223 := eq_true q223
          have p224 : 0 ≤ (x5_1 : Int) := od
          have q224 : x5_1 < (l1.length : Int) := od
          obtain ⟨ad224, e224, hx224_0⟩ := Kd.at_int HR1.out x5_1 p224 q224
          obtain rfl : ad222 = ad224 := (by injection e224)
          replace p224 := eq_true p224; replace q224 := eq_true q224
          go_wp2
          repeat (go_quiet (fail); try go_wp2)
          go_ret
          exact ⟨sm, by repeat (first | exact Drawn0.refl _ | apply Drawn0.step)⟩
        ·rw [if_neg c8] at H
         exact absurd H (by simp)
       ·rw [if_neg c7] at H
        exact absurd H (by simp)
      ·rw [if_neg c6] at H
       exact absurd H (by simp)
     ·replace c5 := Bool.eq_false_iff.mpr c5; subst c5
      rw [if_neg (show ¬ (false = true) by decide)] at H
      obtain rfl := Option.some.inj H
      go_wp2
      repeat (go_quiet (fail); try go_wp2)
      go_ret
      exact ⟨sm, by repeat (first | exact Drawn0.refl _ | apply Drawn0.step)⟩
def skewbaldref00_Shorter.f (k : Nat) (l0 : List Int) (l1 : List Int) : Option (Bool) := if (l0.length : Int) = (l1.length : Int) then ((skewbaldref00_Less.f k l0 l1).bind fun t225 => (some t225)) else (some (decide ((l0.length : Int) < (l1.length : Int))))
end Go.Proofs.YtekjlpldooihhaaDoor.PT
