/- Package plank, plain laws: the reference's table of ends. -/
import Derived.Test.YtekjlpldooihhaaDoorWWords
import Derived.Test.YtekjlpldooihhaaDoorProg
import Derived.Below
import Derived.Deep.Draws
import Derived.Deep.AppendLies
import Derived.Maps.AppendAt
import Derived.OwnWalk
import Derived.Laws.BytesArg
import Derived.Laws.MakeOwn
import Derived.Laws.OwnMore
import Derived.Deep.OwnRows
import Derived.Tactics
import Derived.Lib.ConvBytes
import Derived.Laws.Slices
import Derived.WalkKit
import Derived.KernelRfl
import Derived.RowKit3
import Derived.Deep.LoopGhost
import Derived.Deep.QuietTactic
import Derived.BigQuiet
import Derived.WideLaws
import Derived.Deep.DeepCutAuto
import Derived.Deep.CutBlock
import Derived.Deep.RegionHeld3
import Derived.Laws.Rows
import Derived.Lib.AppendStr
import Derived.ArgAppend
import Derived.Laws.IdiomCopy
import Derived.OrdersHeld
import Derived.Laws.BitsLemmas
import Derived.RowKit
import Derived.Test.YtekjlpldooihhaaDoorPr
import Derived.Test.YtekjlpldooihhaaDoorPAx0
import Derived.Test.YtekjlpldooihhaaDoorSv
import Derived.Test.YtekjlpldooihhaaDoorPj
import Derived.Test.YtekjlpldooihhaaDoorPc
namespace Go.Proofs.YtekjlpldooihhaaDoor.PT
open Go.Proofs.YtekjlpldooihhaaDoorSh
open Go.Proofs.YtekjlpldooihhaaDoor.PA (S48 S50 S60 at_L2 at_L4 at_T48 at_T50 at_T60 errW errW_none errW_some k48 k48_mk k48_mkM k48_open k48_openM k50 k50_mk k50_mkM k50_open k50_openM k60 k60_mk k60_mkM k60_open k60_openM rd_L2 rd_L4 rd_T48 rd_T50 rd_T60 z48 z50 z60)
open Go.Proofs.YtekjlpldooihhaaDoorP Go.Proofs.YtekjlpldooihhaaDoorK
open Go.RowKit Go.Proofs.YtekjlpldooihhaaDoorW.PrintWords Go.Proofs.YtekjlpldooihhaaDoorW.PrintLast Go.Proofs.YtekjlpldooihhaaDoorW.PrintMore
attribute [local go_sem] max2_int min2_int max_two min_two max_three min_three max_four min_four
set_option linter.unusedVariables false
set_option linter.unusedSimpArgs false
def skewbaldref00_Round.f (a0 : Int) (a1 : Int) : Option (Int) := if a1 < 1 then (some 0) else (if a1 = 0 then (none) else (if (Int.tmod a0 a1) < 0 then (some (wrap64 ((Int.tmod a0 a1) + a1))) else (some (Int.tmod a0 a1))))
set_option maxHeartbeats 8000000 in
set_option maxRecDepth 100000 in
theorem skewbaldref00_Round.calls (a0 : Int) (a1 : Int) (r : Int) (w : World) (h : skewbaldref00_Round.f a0 a1 = some r) :
  Calls Tryd.prog 35 #[.int .i64 a0, .int .i64 a1] w fun e w' => e = .returned (.int .i64 r) ∧ Drawn0 w w' := by
 have H : (if a1 < 1 then (some 0) else (if a1 = 0 then (none) else (if (Int.tmod a0 a1) < 0 then (some (wrap64 ((Int.tmod a0 a1) + a1))) else (some (Int.tmod a0 a1))))) = some r := h
 clear h
 by_cases c3 : a1 < 1
 ·rw [if_pos c3] at H; have c3b0 := decide_eq_true c3; clear c3; obtain rfl := Option.some.inj H
  go_enter Tryd.func35, Tryd.ntmps35
  go_wp2
  go_ret
  exact ⟨sm, by repeat (first | exact Drawn0.refl _ | apply Drawn0.step)⟩
 ·rw [if_neg c3] at H
  have c3b0 : decide (a1 < 1) = false := decide_eq_false c3
  clear c3
  by_cases c4 : a1 = 0
  ·rw [if_pos c4] at H
   exact absurd H (by simp)
  ·rw [if_neg c4] at H
   have c4b0 : (a1 == 0) = false := beq_eq_false_iff_ne.mpr c4
   have c4b1 : (a1 != 0) = true := bne_iff_ne.mpr c4
   by_cases c5 : (Int.tmod a0 a1) < 0
   ·rw [if_pos c5] at H; have c5b0 := decide_eq_true c5; clear c5; obtain rfl := Option.some.inj H
    go_enter Tryd.func35, Tryd.ntmps35
    go_wp2
    go_ret
    exact ⟨sm, by repeat (first | exact Drawn0.refl _ | apply Drawn0.step)⟩
   ·rw [if_neg c5] at H
    have c5b0 : decide ((Int.tmod a0 a1) < 0) = false := decide_eq_false c5
    clear c5; obtain rfl := Option.some.inj H
    go_enter Tryd.func35, Tryd.ntmps35
    go_wp2
    go_ret
    exact ⟨sm, by repeat (first | exact Drawn0.refl _ | apply Drawn0.step)⟩
def skewbaldref00_Take.f (l0 : List Int) (a1 : Int) : Option (Int) := if (l0.length : Int) = 0 then (some 0) else ((skewbaldref00_Round.f a1 (l0.length : Int)).bind fun t351 => (if 0 ≤ t351 then (if t351 < (l0.length : Int) then (some (rd l0 t351)) else (none)) else (none)))
def skewbaldref00_Any.f (a0_0 : Int) (a0_1 : Int) (a1 : Int) : Option (Int) := (skewbaldref00_Round.f a1 (wrap64 ((wrap64 (a0_1 - a0_0)) + 1))).bind fun t354 => (some (wrap64 (a0_0 + t354)))
def skewbaldlaw01_truly.l0 : Nat → List Int → List Int → Int → Int → List (S60) → Option (List Int)
 | 0, _, _, _, _, _ => none
 | k + 1, x1, x5, x6, x356000, x356001 => if x6 < (x356001.length : Int) then (if 0 ≤ x6 then ((skewbaldref00_Take.f x1 x6).bind fun t360 => ((skewbaldref00_Any.f ((rd_T60 x356001 x6).f0) ((rd_T60 x356001 x6).f1) t360).bind fun t361 => (if x5.length < 17592186044416 then (skewbaldlaw01_truly.l0 k x1 (x5 ++ [t361]) (wrap64 (x6 + 1)) x356000 x356001) else (none)))) else (none)) else (some x5)
def skewbaldlaw01_truly.f (k : Nat) (a0_0 : Int) (l0_1 : List (S60)) (l1 : List Int) : Option (List Int) := skewbaldlaw01_truly.l0 k l1 (([] : List Int)) 0 a0_0 l0_1
def skewbaldlaw01_clear.l0 : Nat → Int → Bool → List Int → Int → Int → List Int → Bool → Option (Bool)
 | 0, _, _, _, _, _, _, _ => none
 | k + 1, x1, x2, x3, x9, x366000, x366001, x366002 => if x9 < (x366001.length : Int) then (if 0 ≤ x9 then (if x2 = true then ((skewbaldref00_Find.f k x3 (wrap64 ((wrap64 ((wrap64 (x1 + x366000)) - 1)) - (rd x366001 x9)))).bind fun t368 => (if t368 ≥ 0 then (some false) else (skewbaldlaw01_clear.l0 k x1 x2 x3 (wrap64 (x9 + 1)) x366000 x366001 x366002))) else ((skewbaldref00_Find.f k x3 (wrap64 (x1 + (rd x366001 x9)))).bind fun t369 => (if t369 ≥ 0 then (some false) else (skewbaldlaw01_clear.l0 k x1 x2 x3 (wrap64 (x9 + 1)) x366000 x366001 x366002)))) else (none)) else (some true)
def skewbaldlaw01_clear.f (k : Nat) (a0_0 : Int) (l0_1 : List Int) (a0_2 : Bool) (a1 : Int) (a2 : Bool) (l3 : List Int) : Option (Bool) := skewbaldlaw01_clear.l0 k a1 a2 l3 0 a0_0 l0_1 a0_2
set_option maxHeartbeats 8000000 in
set_option maxRecDepth 100000 in
theorem skewbaldlaw01_clear.calls (k : Nat) (a0_0 : Int) (A0_1 : Option Addr) (c0_1 : Nat) (l0_1 : List Int) (a0_2 : Bool) (a1 : Int) (a2 : Bool) (A3 : Option Addr) (c3 : Nat) (l3 : List Int) (r : Bool) (w : World) (hr0_1 : Kd.C (Kd.int .i64) w A0_1 l0_1.length l0_1) (hc0_1 : l0_1.length ≤ c0_1) (hr3 : Kd.C (Kd.int .i64) w A3 l3.length l3) (hc3 : l3.length ≤ c3) (h : skewbaldlaw01_clear.f k a0_0 l0_1 a0_2 a1 a2 l3 = some r) :
  Calls Tryd.prog 37 #[.agg #[.int .i64 a0_0, .slice A0_1 l0_1.length c0_1, .bool a0_2], .int .i64 a1, .bool a2, .slice A3 l3.length c3] w fun e w' => e = .returned (.bool r) ∧ Below w.heap.size w w' := by
 have hu50 := Tryd.underlying50; have HR0_1 := Aside0.mk hr0_1; have HC0_1 := Aside0.mk hc0_1; clear hr0_1 hc0_1; have HR3 := Aside0.mk hr3; have HC3 := Aside0.mk hc3; clear hr3 hc3; have HB := Aside0.mk (Below.refl w.heap.size w)
 have H : (skewbaldlaw01_clear.l0 k a1 a2 l3 0 a0_0 l0_1 a0_2) = some r := h
 clear h; have H' := Aside0.mk H; clear H
 go_enter Tryd.func37, Tryd.ntmps37
 go_wp2_with (first | (refine bx 4 #[.int .i64 a0_0, .slice A0_1 l0_1.length c0_1, .bool a0_2] 50 ?_; intro gb365 hg w5 hbox hb; have BK365 := Aside0.mk hbox; have GW365 := gw hg HB; have GE365 := gw hg HB; replace HB := hs HB hb; clear hb hbox hg))
 repeat (go_quiet (first | (refine bx 4 #[.int .i64 a0_0, .slice A0_1 l0_1.length c0_1, .bool a0_2] 50 ?_; intro gb365 hg w5 hbox hb; have BK365 := Aside0.mk hbox; have GW365 := gw hg HB; have GE365 := gw hg HB; replace HB := hs HB hb; clear hb hbox hg)); try go_wp2_with (first | (refine bx 4 #[.int .i64 a0_0, .slice A0_1 l0_1.length c0_1, .bool a0_2] 50 ?_; intro gb365 hg w5 hbox hb; have BK365 := Aside0.mk hbox; have GW365 := gw hg HB; have GE365 := gw hg HB; replace HB := hs HB hb; clear hb hbox hg)))
 go_loopg [9] k (fun kq v9 w' => ∃ (x9_1 : Int), v9 = .int .i64 x9_1 ∧ Aside0 (skewbaldlaw01_clear.l0 kq a1 a2 l3 x9_1 a0_0 l0_1 a0_2 = some r) ∧ Aside0 (kq ≤ k) ∧ Aside0 (w'.heap[gb365]? = some (.cells #[.int .i64 a0_0, (.slice A0_1 l0_1.length c0_1), .bool a0_2] 50 (0, 0))) ∧ Aside0 (Below w.heap.size w w'))
 case atStart => exact ⟨(0), sm, H', ⟨Nat.le_refl _⟩, ⟨bk⟩, ⟨bl⟩⟩
 case round =>
  clear H'; (try clear p2); (try clear c3); obtain ⟨x9_1, rfl, HA, HK1, BK365, HB⟩ := hrel
  cases gk with
  | zero => exact absurd HA.out (by simp [skewbaldlaw01_clear.l0])
  | succ k1 =>
   have H := HA.out; clear HA
   simp only [skewbaldlaw01_clear.l0] at H
   by_cases c6 : x9_1 < (l0_1.length : Int)
   ·rw [if_pos c6] at H; have c6b0 := decide_eq_true c6; clear c6
    by_cases c7 : 0 ≤ x9_1
    ·rw [if_pos c7] at H; have c7b0 := decide_eq_true c7; clear c7
     by_cases c8 : a2 = true
     ·subst c8; rw [if_pos rfl] at H; obtain ⟨t368, A9, H⟩ := ob H
      by_cases c10 : t368 ≥ 0
      ·rw [if_pos c10] at H; have c10b0 := decide_eq_true c10; clear c10; obtain rfl := Option.some.inj H; obtain ⟨hcz11_0, hcz11_1, hcz11_2, hfz11_0, hfz11_1, hfz11_2⟩ := b3 (w := wr) BK365
       have p366 : 0 ≤ (x9_1 : Int) := od
       have q366 : x9_1 < (l0_1.length : Int) := od
       obtain ⟨ad366, e366, hx366_0⟩ := Kd.at_int HR0_1.out x9_1 p366 q366
       cases e366
       replace hx366_0 := cm HB hx366_0; replace p366 := eq_true p366; replace q366 := eq_true q366
       have p367 : 0 ≤ (x9_1 : Int) := od
       have q367 : x9_1 < (l0_1.length : Int) := od
       obtain ⟨ad367, e367, hx367_0⟩ := Kd.at_int HR0_1.out x9_1 p367 q367
       obtain rfl : ad366 = ad367 := (by injection e367)
       replace hx367_0 := cm HB hx367_0; replace p367 := eq_true p367; replace q367 := eq_true q367
       go_wp2_with (first | (go_at_call 42; (with_reducible refine (skewbaldref00_Find.calls k1 _ _ l3 (wrap64 ((wrap64 ((wrap64 (a1 + a0_0)) - 1)) - (rd l0_1 x9_1))) t368 _ ?side1 ?side2 A9.out).mono ?_); (case side1 => repeat (first | exact (Kd.C_below HR3.out HB.out) | (with_reducible refine Kd.C_alloc ?_ _) | (with_reducible refine Kd.C_drewN ?_ _) | (with_reducible refine Kd.C_drew ?_))); (case side2 => exact HC3.out); rintro e w' ⟨rfl, ⟨nd, rfl⟩⟩; (try first | exact ⟨rfl, _, World.drewN_drewN _ _ _⟩ | exact ⟨rfl, _, Eq.trans (World.drewN_drewN _ _ _) (congrArg (World.drewN _) (Nat.add_assoc _ _ _))⟩)))
       repeat (go_quiet (first | (go_at_call 42; (with_reducible refine (skewbaldref00_Find.calls k1 _ _ l3 (wrap64 ((wrap64 ((wrap64 (a1 + a0_0)) - 1)) - (rd l0_1 x9_1))) t368 _ ?side1 ?side2 A9.out).mono ?_); (case side1 => repeat (first | exact (Kd.C_below HR3.out HB.out) | (with_reducible refine Kd.C_alloc ?_ _) | (with_reducible refine Kd.C_drewN ?_ _) | (with_reducible refine Kd.C_drew ?_))); (case side2 => exact HC3.out); rintro e w' ⟨rfl, ⟨nd, rfl⟩⟩; (try first | exact ⟨rfl, _, World.drewN_drewN _ _ _⟩ | exact ⟨rfl, _, Eq.trans (World.drewN_drewN _ _ _) (congrArg (World.drewN _) (Nat.add_assoc _ _ _))⟩))); try go_wp2_with (first | (go_at_call 42; (with_reducible refine (skewbaldref00_Find.calls k1 _ _ l3 (wrap64 ((wrap64 ((wrap64 (a1 + a0_0)) - 1)) - (rd l0_1 x9_1))) t368 _ ?side1 ?side2 A9.out).mono ?_); (case side1 => repeat (first | exact (Kd.C_below HR3.out HB.out) | (with_reducible refine Kd.C_alloc ?_ _) | (with_reducible refine Kd.C_drewN ?_ _) | (with_reducible refine Kd.C_drew ?_))); (case side2 => exact HC3.out); rintro e w' ⟨rfl, ⟨nd, rfl⟩⟩; (try first | exact ⟨rfl, _, World.drewN_drewN _ _ _⟩ | exact ⟨rfl, _, Eq.trans (World.drewN_drewN _ _ _) (congrArg (World.drewN _) (Nat.add_assoc _ _ _))⟩))))
       go_ret
       exact ⟨by first | rfl | (simp [errW_none, errW_some] <;> rfl) | (simp [*, errW_none, errW_some] <;> rfl), bl⟩
      ·rw [if_neg c10] at H
       have c10b0 : decide (0 ≤ t368) = false := decide_eq_false c10
       clear c10; have H' := Aside0.mk H; clear H; obtain ⟨hcz12_0, hcz12_1, hcz12_2, hfz12_0, hfz12_1, hfz12_2⟩ := b3 (w := wr) BK365
       have p366 : 0 ≤ (x9_1 : Int) := od
       have q366 : x9_1 < (l0_1.length : Int) := od
       obtain ⟨ad366, e366, hx366_0⟩ := Kd.at_int HR0_1.out x9_1 p366 q366
       cases e366
       replace hx366_0 := cm HB hx366_0; replace p366 := eq_true p366; replace q366 := eq_true q366
       have p367 : 0 ≤ (x9_1 : Int) := od
       have q367 : x9_1 < (l0_1.length : Int) := od
       obtain ⟨ad367, e367, hx367_0⟩ := Kd.at_int HR0_1.out x9_1 p367 q367
       obtain rfl : ad366 = ad367 := (by injection e367)
       replace hx367_0 := cm HB hx367_0; replace p367 := eq_true p367; replace q367 := eq_true q367
       go_wp2_with (first | (go_at_call 42; (with_reducible refine (skewbaldref00_Find.calls k1 _ _ l3 (wrap64 ((wrap64 ((wrap64 (a1 + a0_0)) - 1)) - (rd l0_1 x9_1))) t368 _ ?side1 ?side2 A9.out).mono ?_); (case side1 => repeat (first | exact (Kd.C_below HR3.out HB.out) | (with_reducible refine Kd.C_alloc ?_ _) | (with_reducible refine Kd.C_drewN ?_ _) | (with_reducible refine Kd.C_drew ?_))); (case side2 => exact HC3.out); rintro e w' ⟨rfl, ⟨nd, rfl⟩⟩; (try first | exact ⟨rfl, _, World.drewN_drewN _ _ _⟩ | exact ⟨rfl, _, Eq.trans (World.drewN_drewN _ _ _) (congrArg (World.drewN _) (Nat.add_assoc _ _ _))⟩)))
       repeat (go_quiet (first | (go_at_call 42; (with_reducible refine (skewbaldref00_Find.calls k1 _ _ l3 (wrap64 ((wrap64 ((wrap64 (a1 + a0_0)) - 1)) - (rd l0_1 x9_1))) t368 _ ?side1 ?side2 A9.out).mono ?_); (case side1 => repeat (first | exact (Kd.C_below HR3.out HB.out) | (with_reducible refine Kd.C_alloc ?_ _) | (with_reducible refine Kd.C_drewN ?_ _) | (with_reducible refine Kd.C_drew ?_))); (case side2 => exact HC3.out); rintro e w' ⟨rfl, ⟨nd, rfl⟩⟩; (try first | exact ⟨rfl, _, World.drewN_drewN _ _ _⟩ | exact ⟨rfl, _, Eq.trans (World.drewN_drewN _ _ _) (congrArg (World.drewN _) (Nat.add_assoc _ _ _))⟩))); try go_wp2_with (first | (go_at_call 42; (with_reducible refine (skewbaldref00_Find.calls k1 _ _ l3 (wrap64 ((wrap64 ((wrap64 (a1 + a0_0)) - 1)) - (rd l0_1 x9_1))) t368 _ ?side1 ?side2 A9.out).mono ?_); (case side1 => repeat (first | exact (Kd.C_below HR3.out HB.out) | (with_reducible refine Kd.C_alloc ?_ _) | (with_reducible refine Kd.C_drewN ?_ _) | (with_reducible refine Kd.C_drew ?_))); (case side2 => exact HC3.out); rintro e w' ⟨rfl, ⟨nd, rfl⟩⟩; (try first | exact ⟨rfl, _, World.drewN_drewN _ _ _⟩ | exact ⟨rfl, _, Eq.trans (World.drewN_drewN _ _ _) (congrArg (World.drewN _) (Nat.add_assoc _ _ _))⟩))))
       go_roundg k1
       case measure => have := HK1.out; omega
       case rel => exact ⟨(wrap64 (x9_1 + 1)), sm, H', ⟨lo HK1⟩, ⟨bk⟩, ⟨bl⟩⟩
     ·replace c8 := Bool.eq_false_iff.mpr c8; subst c8
      rw [if_neg (show ¬ (false = true) by decide)] at H
      obtain ⟨t369, A13, H⟩ := ob H
      by_cases c14 : t369 ≥ 0
      ·rw [if_pos c14] at H; have c14b0 := decide_eq_true c14; clear c14; obtain rfl := Option.some.inj H; obtain ⟨hcz15_0, hcz15_1, hcz15_2, hfz15_0, hfz15_1, hfz15_2⟩ := b3 (w := wr) BK365
       have p366 : 0 ≤ (x9_1 : Int) := od
       have q366 : x9_1 < (l0_1.length : Int) := od
       obtain ⟨ad366, e366, hx366_0⟩ := Kd.at_int HR0_1.out x9_1 p366 q366
       cases e366
       replace hx366_0 := cm HB hx366_0; replace p366 := eq_true p366; replace q366 := eq_true q366
       go_wp2_with (first | (go_at_call 42; (with_reducible refine (skewbaldref00_Find.calls k1 _ _ l3 (wrap64 (a1 + (rd l0_1 x9_1))) t369 _ ?side1 ?side2 A13.out).mono ?_); (case side1 => repeat (first | exact (Kd.C_below HR3.out HB.out) | (with_reducible refine Kd.C_alloc ?_ _) | (with_reducible refine Kd.C_drewN ?_ _) | (with_reducible refine Kd.C_drew ?_))); (case side2 => exact HC3.out); rintro e w' ⟨rfl, ⟨nd, rfl⟩⟩; (try first | exact ⟨rfl, _, World.drewN_drewN _ _ _⟩ | exact ⟨rfl, _, Eq.trans (World.drewN_drewN _ _ _) (congrArg (World.drewN _) (Nat.add_assoc _ _ _))⟩)))
       repeat (go_quiet (first | (go_at_call 42; (with_reducible refine (skewbaldref00_Find.calls k1 _ _ l3 (wrap64 (a1 + (rd l0_1 x9_1))) t369 _ ?side1 ?side2 A13.out).mono ?_); (case side1 => repeat (first | exact (Kd.C_below HR3.out HB.out) | (with_reducible refine Kd.C_alloc ?_ _) | (with_reducible refine Kd.C_drewN ?_ _) | (with_reducible refine Kd.C_drew ?_))); (case side2 => exact HC3.out); rintro e w' ⟨rfl, ⟨nd, rfl⟩⟩; (try first | exact ⟨rfl, _, World.drewN_drewN _ _ _⟩ | exact ⟨rfl, _, Eq.trans (World.drewN_drewN _ _ _) (congrArg (World.drewN _) (Nat.add_assoc _ _ _))⟩))); try go_wp2_with (first | (go_at_call 42; (with_reducible refine (skewbaldref00_Find.calls k1 _ _ l3 (wrap64 (a1 + (rd l0_1 x9_1))) t369 _ ?side1 ?side2 A13.out).mono ?_); (case side1 => repeat (first | exact (Kd.C_below HR3.out HB.out) | (with_reducible refine Kd.C_alloc ?_ _) | (with_reducible refine Kd.C_drewN ?_ _) | (with_reducible refine Kd.C_drew ?_))); (case side2 => exact HC3.out); rintro e w' ⟨rfl, ⟨nd, rfl⟩⟩; (try first | exact ⟨rfl, _, World.drewN_drewN _ _ _⟩ | exact ⟨rfl, _, Eq.trans (World.drewN_drewN _ _ _) (congrArg (World.drewN _) (Nat.add_assoc _ _ _))⟩))))
       go_ret
       exact ⟨by first | rfl | (simp [errW_none, errW_some] <;> rfl) | (simp [*, errW_none, errW_some] <;> rfl), bl⟩
      ·rw [if_neg c14] at H
       have c14b0 : decide (0 ≤ t369) = false := decide_eq_false c14
       clear c14; have H' := Aside0.mk H; clear H; obtain ⟨hcz16_0, hcz16_1, hcz16_2, hfz16_0, hfz16_1, hfz16_2⟩ := b3 (w := wr) BK365
       have p366 : 0 ≤ (x9_1 : Int) := od
       have q366 : x9_1 < (l0_1.length : Int) := od
       obtain ⟨ad366, e366, hx366_0⟩ := Kd.at_int HR0_1.out x9_1 p366 q366
       cases e366
       replace hx366_0 := cm HB hx366_0; replace p366 := eq_true p366; replace q366 := eq_true q366
       go_wp2_with (first | (go_at_call 42; (with_reducible refine (skewbaldref00_Find.calls k1 _ _ l3 (wrap64 (a1 + (rd l0_1 x9_1))) t369 _ ?side1 ?side2 A13.out).mono ?_); (case side1 => repeat (first | exact (Kd.C_below HR3.out HB.out) | (with_reducible refine Kd.C_alloc ?_ _) | (with_reducible refine Kd.C_drewN ?_ _) | (with_reducible refine Kd.C_drew ?_))); (case side2 => exact HC3.out); rintro e w' ⟨rfl, ⟨nd, rfl⟩⟩; (try first | exact ⟨rfl, _, World.drewN_drewN _ _ _⟩ | exact ⟨rfl, _, Eq.trans (World.drewN_drewN _ _ _) (congrArg (World.drewN _) (Nat.add_assoc _ _ _))⟩)))
       repeat (go_quiet (first | (go_at_call 42; (with_reducible refine (skewbaldref00_Find.calls k1 _ _ l3 (wrap64 (a1 + (rd l0_1 x9_1))) t369 _ ?side1 ?side2 A13.out).mono ?_); (case side1 => repeat (first | exact (Kd.C_below HR3.out HB.out) | (with_reducible refine Kd.C_alloc ?_ _) | (with_reducible refine Kd.C_drewN ?_ _) | (with_reducible refine Kd.C_drew ?_))); (case side2 => exact HC3.out); rintro e w' ⟨rfl, ⟨nd, rfl⟩⟩; (try first | exact ⟨rfl, _, World.drewN_drewN _ _ _⟩ | exact ⟨rfl, _, Eq.trans (World.drewN_drewN _ _ _) (congrArg (World.drewN _) (Nat.add_assoc _ _ _))⟩))); try go_wp2_with (first | (go_at_call 42; (with_reducible refine (skewbaldref00_Find.calls k1 _ _ l3 (wrap64 (a1 + (rd l0_1 x9_1))) t369 _ ?side1 ?side2 A13.out).mono ?_); (case side1 => repeat (first | exact (Kd.C_below HR3.out HB.out) | (with_reducible refine Kd.C_alloc ?_ _) | (with_reducible refine Kd.C_drewN ?_ _) | (with_reducible refine Kd.C_drew ?_))); (case side2 => exact HC3.out); rintro e w' ⟨rfl, ⟨nd, rfl⟩⟩; (try first | exact ⟨rfl, _, World.drewN_drewN _ _ _⟩ | exact ⟨rfl, _, Eq.trans (World.drewN_drewN _ _ _) (congrArg (World.drewN _) (Nat.add_assoc _ _ _))⟩))))
       go_roundg k1
       case measure => have := HK1.out; omega
       case rel => exact ⟨(wrap64 (x9_1 + 1)), sm, H', ⟨lo HK1⟩, ⟨bk⟩, ⟨bl⟩⟩
    ·rw [if_neg c7] at H
     exact absurd H (by simp)
   ·rw [if_neg c6] at H
    have c6b0 : decide (x9_1 < (l0_1.length : Int)) = false := decide_eq_false c6
    clear c6; obtain rfl := Option.some.inj H; obtain ⟨hcz17_0, hcz17_1, hcz17_2, hfz17_0, hfz17_1, hfz17_2⟩ := b3 (w := wr) BK365
    go_wp2
    repeat (go_quiet (fail); try go_wp2)
    go_ret
    exact ⟨by first | rfl | (simp [errW_none, errW_some] <;> rfl) | (simp [*, errW_none, errW_some] <;> rfl), bl⟩
def skewbaldref00_Of.f (a0 : Int) (a1 : Int) : Option (Bool) := if 0 ≤ a1 then (some ((Go.bits .and .i64 (shr .i64 a0 a1) 1) == 1)) else (none)
def skewbaldref00_List.l0 : Nat → Int → Int → List Int → Int → Option (List Int)
 | 0, _, _, _, _ => none
 | k + 1, x0, x1, x5, x6 => if x6 < x1 then ((skewbaldref00_Of.f x0 x6).bind fun t217 => (if t217 = true then (if x5.length < 17592186044416 then (skewbaldref00_List.l0 k x0 x1 (x5 ++ [x6]) (wrap64 (x6 + 1))) else (none)) else (skewbaldref00_List.l0 k x0 x1 x5 (wrap64 (x6 + 1))))) else (some x5)
def skewbaldref00_List.f (k : Nat) (a0 : Int) (a1 : Int) : Option (List Int) := skewbaldref00_List.l0 k a0 a1 (([] : List Int)) 0
mutual
def skewbaldref00_Less.l0 : Nat → List Int → List Int → Int → Option (Bool)
 | 0, _, _, _ => none
 | k + 1, x0, x1, x5 => if x5 < (x0.length : Int) then (skewbaldref00_Less.j1 k x0 x1 x5 (decide (x5 < (x1.length : Int)))) else (skewbaldref00_Less.j1 k x0 x1 x5 false)
def skewbaldref00_Less.j1 : Nat → List Int → List Int → Int → Bool → Option (Bool)
 | 0, _, _, _, _ => none
 | k + 1, x0, x1, x5, x15 => if x15 = true then (if 0 ≤ x5 then (if x5 < (x0.length : Int) then (if x5 < (x1.length : Int) then (if (rd x0 x5) = (rd x1 x5) then (skewbaldref00_Less.l0 k x0 x1 (wrap64 (x5 + 1))) else (some (decide ((rd x0 x5) < (rd x1 x5))))) else (none)) else (none)) else (none)) else (some (decide ((x0.length : Int) < (x1.length : Int))))
end
def skewbaldref00_Less.f (k : Nat) (l0 : List Int) (l1 : List Int) : Option (Bool) := skewbaldref00_Less.l0 k l0 l1 0
def skewbaldref00_Shorter.f (k : Nat) (l0 : List Int) (l1 : List Int) : Option (Bool) := if (l0.length : Int) = (l1.length : Int) then ((skewbaldref00_Less.f k l0 l1).bind fun t225 => (some t225)) else (some (decide ((l0.length : Int) < (l1.length : Int))))
mutual
def skewbaldlaw01_laid.l0 : Nat → List Int → List Int → List Int → List Bool → Int → List (S48) → List (S50) → Option (Bool)
 | 0, _, _, _, _, _, _, _ => none
 | k + 1, x2, x3, x4, x11, x12, x371000, x371001 => if x12 < (x2.length : Int) then (if 0 ≤ x12 then (if 0 ≤ (rd x2 x12) then (if (rd x2 x12) < (x371001.length : Int) then (if x12 < (x3.length : Int) then ((skewbaldref00_In.f (rd x3 x12) 0 (wrap64 ((x11.length : Int) - ((rd_T50 x371001 (rd x2 x12)).f0)))).bind fun t379 => (if t379 = true then ((skewbaldlaw01_clear.f k ((rd_T50 x371001 (rd x2 x12)).f0) ((rd_T50 x371001 (rd x2 x12)).f1) ((rd_T50 x371001 (rd x2 x12)).f2) (rd x3 x12) false x4).bind fun t381 => (if t381 = true then (skewbaldlaw01_laid.j1 k x2 x3 x4 x11 x12 false x371000 x371001 ((rd_T50 x371001 (rd x2 x12)).f0) ((rd_T50 x371001 (rd x2 x12)).f1) ((rd_T50 x371001 (rd x2 x12)).f2)) else (if (rd_T50 x371001 (rd x2 x12)).f2 = true then ((skewbaldlaw01_clear.f k ((rd_T50 x371001 (rd x2 x12)).f0) ((rd_T50 x371001 (rd x2 x12)).f1) ((rd_T50 x371001 (rd x2 x12)).f2) (rd x3 x12) true x4).bind fun t383 => (skewbaldlaw01_laid.j1 k x2 x3 x4 x11 x12 (!t383) x371000 x371001 ((rd_T50 x371001 (rd x2 x12)).f0) ((rd_T50 x371001 (rd x2 x12)).f1) ((rd_T50 x371001 (rd x2 x12)).f2))) else (skewbaldlaw01_laid.j1 k x2 x3 x4 x11 x12 (!false) x371000 x371001 ((rd_T50 x371001 (rd x2 x12)).f0) ((rd_T50 x371001 (rd x2 x12)).f1) ((rd_T50 x371001 (rd x2 x12)).f2))))) else (skewbaldlaw01_laid.j1 k x2 x3 x4 x11 x12 true x371000 x371001 ((rd_T50 x371001 (rd x2 x12)).f0) ((rd_T50 x371001 (rd x2 x12)).f1) ((rd_T50 x371001 (rd x2 x12)).f2)))) else (none)) else (none)) else (none)) else (none)) else (some true)
def skewbaldlaw01_laid.j1 : Nat → List Int → List Int → List Int → List Bool → Int → Bool → List (S48) → List (S50) → Int → List Int → Bool → Option (Bool)
 | 0, _, _, _, _, _, _, _, _, _, _, _ => none
 | k + 1, x2, x3, x4, x11, x12, x75, x371000, x371001, x378000, x378001, x378002 => if x75 = true then (some false) else (skewbaldlaw01_laid.l1 k x2 x3 x4 x11 x12 0 x371000 x371001 x378000 x378001 x378002)
def skewbaldlaw01_laid.l1 : Nat → List Int → List Int → List Int → List Bool → Int → Int → List (S48) → List (S50) → Int → List Int → Bool → Option (Bool)
 | 0, _, _, _, _, _, _, _, _, _, _, _ => none
 | k + 1, x2, x3, x4, x11, x12, x14, x371000, x371001, x378000, x378001, x378002 => if x14 < x378000 then (if 0 ≤ x12 then (if x12 < (x3.length : Int) then (if 0 ≤ (wrap64 ((rd x3 x12) + x14)) then (if (wrap64 ((rd x3 x12) + x14)) < (x11.length : Int) then (if rdOf false x11 (wrap64 ((rd x3 x12) + x14)) = true then (some false) else (skewbaldlaw01_laid.l1 k x2 x3 x4 (x11.set ((wrap64 ((rd x3 x12) + x14)) : Int).toNat true) x12 (wrap64 (x14 + 1)) x371000 x371001 x378000 x378001 x378002)) else (none)) else (none)) else (none)) else (none)) else (skewbaldlaw01_laid.l0 k x2 x3 x4 x11 (wrap64 (x12 + 1)) x371000 x371001)
end
def skewbaldlaw01_laid.f (k : Nat) (l0_0 : List (S48)) (l0_1 : List (S50)) (a1 : Int) (l2 : List Int) (l3 : List Int) (l4 : List Int) : Option (Bool) := if (l3.length : Int) = (l2.length : Int) then (if 0 ≤ a1 then (if a1 < (l0_0.length : Int) then (if 0 ≤ ((rd_T48 l0_0 a1).f0) then (if ((rd_T48 l0_0 a1).f0 : Int).toNat ≤ 281474976710656 then (skewbaldlaw01_laid.l0 k l2 l3 l4 (List.replicate ((rd_T48 l0_0 a1).f0 : Int).toNat false) 0 l0_0 l0_1) else (none)) else (none)) else (none)) else (none)) else (some false)
mutual
def skewbaldlaw01_PlankTrue.j0 : Nat → Int → Int → List Int → List (S48) → List (S50) → Int → Int → Int → Int → Int → List (S60) → Option (Bool)
 | 0, _, _, _, _, _, _, _, _, _, _, _ => none
 | k + 1, x7, x8, x11, x389000, x389001, x390000, x390001, x390002, x390003, x397000, x397001 => (plank_Spots.f x389000 x389001 x7 x8).bind fun bt409 => (if bt409.2 = 0 then ((skewbaldref00_Grows.f k bt409.1 x397000).bind fun t413 => (skewbaldlaw01_PlankTrue.j1 k x7 x11 (!t413) x389000 x389001 x390000 x390001 x390002 x390003)) else (skewbaldlaw01_PlankTrue.j1 k x7 x11 true x389000 x389001 x390000 x390001 x390002 x390003))
def skewbaldlaw01_PlankTrue.j1 : Nat → Int → List Int → Bool → List (S48) → List (S50) → Int → Int → Int → Int → Option (Bool)
 | 0, _, _, _, _, _, _, _, _, _ => none
 | k + 1, x7, x11, x123, x389000, x389001, x390000, x390001, x390002, x390003 => if x123 = true then (some false) else ((skewbaldref00_Round.f x390003 (shl .i64 1 (x389001.length : Int))).bind fun t414 => ((skewbaldref00_List.f k t414 (x389001.length : Int)).bind fun t415 => ((plank_Lay.f x389000 x389001 x7 t415).bind fun bt418 => (if bt418.2 = 0 then ((skewbaldlaw01_laid.f k x389000 x389001 x7 t415 bt418.1 x11).bind fun t422 => (if t422 = true then ((skewbaldlaw01_sawn.f).bind fun t423 => (some t423)) else (some false))) else (if bt418.2 = 4 then (if (bt418.1.length : Int) = 0 then ((skewbaldlaw01_sawn.f).bind fun t424 => (some t424)) else (some false)) else (some false))))))
end
def skewbaldlaw01_PlankTrue.f (k : Nat) (l0_0 : List (S48)) (l0_1 : List (S50)) (l1 : List Int) (a2_0 : Int) (a2_1 : Int) (a2_2 : Int) (a2_3 : Int) : Option (Bool) := (skewbaldlaw01_sound.f k l0_0 l0_1).bind fun t390 => (if t390 = true then ((skewbaldref00_Round.f a2_0 (l0_0.length : Int)).bind fun t392 => ((skewbaldref00_Round.f a2_1 (l0_1.length : Int)).bind fun t393 => (if 0 ≤ t392 then (if t392 < (l0_0.length : Int) then (if 0 ≤ t393 then (if t393 < (l0_1.length : Int) then ((skewbaldlaw01_truly.f k ((rd_T48 l0_0 t392).f0) ((rd_T48 l0_0 t392).f1) l1).bind fun t398 => ((skewbaldref00_Round.f a2_2 (wrap64 ((wrap64 (((rd_T48 l0_0 t392).f0) - ((rd_T50 l0_1 t393).f0))) + 1))).bind fun t401 => (if ((rd_T48 l0_0 t392).f0) ≥ ((rd_T50 l0_1 t393).f0) then ((plank_Can.f l0_0 l0_1 t392 t393 t401).bind fun bt402 => ((skewbaldlaw01_clear.f k ((rd_T50 l0_1 t393).f0) ((rd_T50 l0_1 t393).f1) ((rd_T50 l0_1 t393).f2) t401 false t398).bind fun t404 => (if t404 = true then (if bt402.2 = 0 then ((skewbaldref00_In.f bt402.1 0 2).bind fun t405 => (if t405 = true then (if bt402.1 = 2 then (if bt402.1 = 0 then (some false) else (skewbaldlaw01_PlankTrue.j0 k t392 t393 t398 l0_0 l0_1 a2_0 a2_1 a2_2 a2_3 ((rd_T48 l0_0 t392).f0) ((rd_T48 l0_0 t392).f1))) else (if bt402.1 = 0 then (some false) else (skewbaldlaw01_PlankTrue.j0 k t392 t393 t398 l0_0 l0_1 a2_0 a2_1 a2_2 a2_3 ((rd_T48 l0_0 t392).f0) ((rd_T48 l0_0 t392).f1)))) else (some false))) else (some false)) else (if (rd_T50 l0_1 t393).f2 = true then ((skewbaldlaw01_clear.f k ((rd_T50 l0_1 t393).f0) ((rd_T50 l0_1 t393).f1) ((rd_T50 l0_1 t393).f2) t401 true t398).bind fun t406 => (if bt402.2 = 0 then ((skewbaldref00_In.f bt402.1 0 2).bind fun t407 => (if t407 = true then (if bt402.1 = 2 then (if t406 = true then (if bt402.1 = 0 then (some false) else (skewbaldlaw01_PlankTrue.j0 k t392 t393 t398 l0_0 l0_1 a2_0 a2_1 a2_2 a2_3 ((rd_T48 l0_0 t392).f0) ((rd_T48 l0_0 t392).f1))) else (some false)) else (if bt402.1 = 0 then (if t406 = true then (some false) else (skewbaldlaw01_PlankTrue.j0 k t392 t393 t398 l0_0 l0_1 a2_0 a2_1 a2_2 a2_3 ((rd_T48 l0_0 t392).f0) ((rd_T48 l0_0 t392).f1))) else (skewbaldlaw01_PlankTrue.j0 k t392 t393 t398 l0_0 l0_1 a2_0 a2_1 a2_2 a2_3 ((rd_T48 l0_0 t392).f0) ((rd_T48 l0_0 t392).f1)))) else (some false))) else (some false))) else (if bt402.2 = 0 then ((skewbaldref00_In.f bt402.1 0 2).bind fun t408 => (if t408 = true then (if bt402.1 = 2 then (some false) else (if bt402.1 = 0 then (skewbaldlaw01_PlankTrue.j0 k t392 t393 t398 l0_0 l0_1 a2_0 a2_1 a2_2 a2_3 ((rd_T48 l0_0 t392).f0) ((rd_T48 l0_0 t392).f1)) else (skewbaldlaw01_PlankTrue.j0 k t392 t393 t398 l0_0 l0_1 a2_0 a2_1 a2_2 a2_3 ((rd_T48 l0_0 t392).f0) ((rd_T48 l0_0 t392).f1)))) else (some false))) else (some false)))))) else (skewbaldlaw01_PlankTrue.j0 k t392 t393 t398 l0_0 l0_1 a2_0 a2_1 a2_2 a2_3 ((rd_T48 l0_0 t392).f0) ((rd_T48 l0_0 t392).f1))))) else (none)) else (none)) else (none)) else (none)))) else ((skewbaldlaw01_sawn.f).bind fun t391 => (some t391)))
def skewbaldref00_Cut.l0 : Nat → List Int → Int → List Int → Int → Option (List Int)
 | 0, _, _, _, _ => none
 | k + 1, x0, x1, x5, x6 => if x6 < (x0.length : Int) then (if x6 = x1 then (skewbaldref00_Cut.l0 k x0 x1 x5 (wrap64 (x6 + 1))) else (if 0 ≤ x6 then (if x5.length < 17592186044416 then (skewbaldref00_Cut.l0 k x0 x1 (x5 ++ [rd x0 x6]) (wrap64 (x6 + 1))) else (none)) else (none))) else (some x5)
def skewbaldref00_Cut.f (k : Nat) (l0 : List Int) (a1 : Int) : Option (List Int) := skewbaldref00_Cut.l0 k l0 a1 (([] : List Int)) 0
theorem skewbaldref00_Cut.mono_l : ∀ k, (∀ y0 y1 y2 y3, LeO (skewbaldref00_Cut.l0 k y0 y1 y2 y3) (skewbaldref00_Cut.l0 (k + 1) y0 y1 y2 y3))
 | 0 => fun _ _ _ _ r h => by simp [skewbaldref00_Cut.l0] at h
 | k + 1 => by
  have ih0 := skewbaldref00_Cut.mono_l k
  ·intro y0 y1 y2 y3
   unfold skewbaldref00_Cut.l0
   repeat' first
   | (with_reducible exact ih0 _ _ _ _)
   | (with_reducible exact LeO.refl _)
   | (with_reducible exact LeO.none _)
   | (with_reducible refine LeO.ite ?_ ?_)
   | (with_reducible refine LeO.bind ?_ (fun _ => ?_))
   | exact ih0 _ _ _ _
   | exact LeO.none _
   | refine LeO.ite ?_ ?_
   | refine LeO.bind ?_ (fun _ => ?_)
theorem skewbaldref00_Cut.mono : ∀ a0 a1 k, LeO (skewbaldref00_Cut.f k a0 a1) (skewbaldref00_Cut.f (k + 1) a0 a1) := by
 intro a0 a1 k
 have ih0 := skewbaldref00_Cut.mono_l k
 unfold skewbaldref00_Cut.f
 repeat' first
   | (with_reducible exact ih0 _ _ _ _)
   | (with_reducible exact LeO.refl _)
   | (with_reducible exact LeO.none _)
   | (with_reducible refine LeO.ite ?_ ?_)
   | (with_reducible refine LeO.bind ?_ (fun _ => ?_))
   | exact ih0 _ _ _ _
   | exact LeO.none _
   | refine LeO.ite ?_ ?_
   | refine LeO.bind ?_ (fun _ => ?_)
mutual
def skewbaldlaw01_PlankLay.l0 : Nat → List Int → Int → List Int → List Int → Int → List Int → Int → List (S48) → List (S50) → Int → Int → Int → Option (Bool)
 | 0, _, _, _, _, _, _, _, _, _, _, _, _ => none
 | k + 1, x2, x7, x8, x9, x10, x11, x12, x477000, x477001, x478000, x478001, x478002 => if x12 < (x8.length : Int) then (if 0 ≤ x12 then ((plank_Spots.f x477000 x477001 x7 (rd x8 x12)).bind fun bt493 => (if bt493.2 = 0 then ((skewbaldref00_Take.f x2 x12).bind fun t497 => ((skewbaldref00_Take.f bt493.1 t497).bind fun t498 => (if x11.length < 17592186044416 then (if (bt493.1.length : Int) = 0 then (if x10 = 4 then (if (x9.length : Int) = 0 then ((skewbaldlaw01_sawn.f).bind fun t502 => (some t502)) else (some false)) else (some false)) else (skewbaldlaw01_PlankLay.l0 k x2 x7 x8 x9 x10 (x11 ++ [t498]) (wrap64 (x12 + 1)) x477000 x477001 x478000 x478001 x478002)) else (none)))) else (some false))) else (none)) else ((skewbaldlaw01_laid.f k x477000 x477001 x7 x8 x11 ([] : List Int)).bind fun t503 => (if x10 = 0 then (if t503 = true then ((skewbaldref00_Less.f k x11 x9).bind fun t505 => (skewbaldlaw01_PlankLay.j1 k x7 x8 x9 t505 x477000 x477001 x478000 x478001 x478002)) else (skewbaldlaw01_PlankLay.j1 k x7 x8 x9 false x477000 x477001 x478000 x478001 x478002)) else (if x10 = 4 then (if (x9.length : Int) = 0 then (if t503 = true then (some false) else ((skewbaldlaw01_sawn.f).bind fun t504 => (some t504))) else (some false)) else (some false))))
def skewbaldlaw01_PlankLay.j1 : Nat → Int → List Int → List Int → Bool → List (S48) → List (S50) → Int → Int → Int → Option (Bool)
 | 0, _, _, _, _, _, _, _, _, _ => none
 | k + 1, x7, x8, x9, x112, x477000, x477001, x478000, x478001, x478002 => if x112 = true then (some false) else (if (x8.length : Int) = 0 then (if (x9.length : Int) = 0 then ((skewbaldlaw01_sawn.f).bind fun t506 => (some t506)) else (some false)) else ((skewbaldref00_Round.f x478002 (x8.length : Int)).bind fun t507 => ((skewbaldref00_Cut.f k x8 t507).bind fun t508 => ((plank_Lay.f x477000 x477001 x7 t508).bind fun bt511 => (if bt511.2 = 0 then ((skewbaldlaw01_sawn.f).bind fun t515 => (some t515)) else (some false))))))
end
def skewbaldlaw01_PlankLay.f (k : Nat) (l0_0 : List (S48)) (l0_1 : List (S50)) (a1_0 : Int) (a1_1 : Int) (a1_2 : Int) (l2 : List Int) : Option (Bool) := (skewbaldlaw01_sound.f k l0_0 l0_1).bind fun t478 => (if t478 = true then ((skewbaldref00_Round.f a1_0 (l0_0.length : Int)).bind fun t480 => ((skewbaldref00_Round.f a1_1 (shl .i64 1 (l0_1.length : Int))).bind fun t481 => ((skewbaldref00_List.f k t481 (l0_1.length : Int)).bind fun t482 => ((plank_Lay.f l0_0 l0_1 t480 t482).bind fun bt485 => (skewbaldlaw01_PlankLay.l0 k l2 t480 t482 bt485.1 bt485.2 (([] : List Int)) 0 l0_0 l0_1 a1_0 a1_1 a1_2))))) else ((skewbaldlaw01_sawn.f).bind fun t479 => (some t479)))
def skewbaldlaw01_PlankLay.T10 : Bool × List (List Nat × List Nat) := (true, [([], []), ([], []), ([], []), ([], []), ([2, 3], [2, 3]), ([4], [4]), ([0, 1, 5], [0, 1, 5]), ([6], [6]), ([7], [7]), ([7], [7]), ([8, 6, 0, 1, 2, 3, 4, 5, 6, 7, 8], [8]), ([9, 10, 0, 1, 2, 3, 4, 5, 6, 7, 8, 9, 10], [9])])
def skewbaldlaw01_PlankLay.B10 : List Nat := [0, 0, 0, 0, 12, 28, 63, 127, 255, 255, 511, 2047]
theorem skewbaldlaw01_PlankLay.tab10 : rtab .any (opsOf Tryd.f8 10) = skewbaldlaw01_PlankLay.T10 := by kernel_rfl
theorem skewbaldlaw01_PlankLay.bits10 : waitsOk skewbaldlaw01_PlankLay.T10.2 skewbaldlaw01_PlankLay.B10 = true := by kernel_rfl
mutual
def skewbaldlaw01_only.l0 : Nat → Int → Int → Int → List (S48) → List (S50) → List (S48) → Option ((List (S48)) × (List (S50)))
 | 0, _, _, _, _, _, _ => none
 | k + 1, x1, x2, x8, x517000, x517001, x519000 => if x8 < (x517000.length : Int) then ((skewbaldref00_Of.f x1 x8).bind fun t519 => (if t519 = true then (if 0 ≤ x8 then (if x519000.length < 4398046511104 then (skewbaldlaw01_only.l0 k x1 x2 (wrap64 (x8 + 1)) x517000 x517001 (x519000 ++ [(⟨(rd_T48 x517000 x8).f0, (rd_T48 x517000 x8).f1⟩ : S48)])) else (none)) else (none)) else (skewbaldlaw01_only.l0 k x1 x2 (wrap64 (x8 + 1)) x517000 x517001 x519000))) else (skewbaldlaw01_only.l1 k x2 0 x517000 x517001 x519000 ([] : List (S50)))
def skewbaldlaw01_only.l1 : Nat → Int → Int → List (S48) → List (S50) → List (S48) → List (S50) → Option ((List (S48)) × (List (S50)))
 | 0, _, _, _, _, _, _ => none
 | k + 1, x2, x9, x517000, x517001, x519000, x519001 => if x9 < (x517001.length : Int) then ((skewbaldref00_Of.f x2 x9).bind fun t524 => (if t524 = true then (if 0 ≤ x9 then (if x519001.length < 3518437208883 then (skewbaldlaw01_only.l1 k x2 (wrap64 (x9 + 1)) x517000 x517001 x519000 (x519001 ++ [(⟨(rd_T50 x517001 x9).f0, (rd_T50 x517001 x9).f1, (rd_T50 x517001 x9).f2⟩ : S50)])) else (none)) else (none)) else (skewbaldlaw01_only.l1 k x2 (wrap64 (x9 + 1)) x517000 x517001 x519000 x519001))) else (some (x519000, x519001))
end
def skewbaldlaw01_only.f (k : Nat) (l0_0 : List (S48)) (l0_1 : List (S50)) (a1 : Int) (a2 : Int) : Option ((List (S48)) × (List (S50))) := skewbaldlaw01_only.l0 k a1 a2 0 l0_0 l0_1 ([] : List (S48))
def skewbaldlaw01_enough.j0 : Nat → Int → Int → Bool → List (S48) → List (S50) → Option (Bool × Bool)
 | 0, _, _, _, _, _ => none
 | k + 1, x1, x2, x15, x530000, x530001 => if x15 = true then (some ((x2 == 0), true)) else ((skewbaldlaw01_only.f k x530000 x530001 x1 x2).bind fun bt530 => ((plank_Fewest.f bt530.1 bt530.2).bind fun bt536 => (if bt536.2 = 0 then (some ((bt536.2 == 0), true)) else (some ((bt536.2 == 0), (bt536.2 == 4))))))
def skewbaldlaw01_enough.f (k : Nat) (l0_0 : List (S48)) (l0_1 : List (S50)) (a1 : Int) (a2 : Int) : Option (Bool × Bool) := if a2 = 0 then (skewbaldlaw01_enough.j0 k a1 a2 true l0_0 l0_1) else (skewbaldlaw01_enough.j0 k a1 a2 (a1 == 0) l0_0 l0_1)
mutual
def skewbaldlaw01_shared.l0 : Nat → List Int → Int → Int → List (S48) → List (S50) → Option (Bool)
 | 0, _, _, _, _, _ => none
 | k + 1, x1, x2, x7, x541000, x541001 => if x7 ≥ 0 then (if (Go.bits .and .i64 x7 x2) = x7 then (if 0 < (x1.length : Int) then ((skewbaldref00_List.f k x7 (x541001.length : Int)).bind fun t542 => ((plank_Lay.f x541000 x541001 (rd x1 0) t542).bind fun bt545 => (if bt545.2 = 0 then (if 1 ≤ (x1.length : Int) then ((skewbaldlaw01_shared.f k x541000 x541001 (x1.drop 1) (wrap64 (x2 - x7))).bind fun t550 => (if t550 = true then (some true) else (skewbaldlaw01_shared.l0 k x1 x2 (wrap64 (x7 - 1)) x541000 x541001))) else (none)) else (skewbaldlaw01_shared.l0 k x1 x2 (wrap64 (x7 - 1)) x541000 x541001)))) else (none)) else (skewbaldlaw01_shared.l0 k x1 x2 (wrap64 (x7 - 1)) x541000 x541001)) else (some false)
def skewbaldlaw01_shared.f : Nat → List (S48) → List (S50) → List Int → Int → Option (Bool)
 | 0, _, _, _, _ => none
 | k + 1, l0_0, l0_1, l1, a2 => if (l1.length : Int) = 0 then (some (a2 == 0)) else (skewbaldlaw01_shared.l0 k l1 a2 a2 l0_0 l0_1)
end
def skewbaldlaw01_PlankFewest.j0 : Nat → List Int → Int → Bool → List (S48) → List (S50) → Option (Bool)
 | 0, _, _, _, _, _ => none
 | k + 1, x5, x7, x92, x552000, x552001 => if x92 = true then (some false) else ((skewbaldlaw01_shared.f k x552000 x552001 x5 x7).bind fun t567 => (if t567 = true then ((skewbaldlaw01_sawn.f).bind fun t568 => (some t568)) else (some false)))
def skewbaldlaw01_PlankFewest.f (k : Nat) (l0_0 : List (S48)) (l0_1 : List (S50)) (a1 : Int) : Option (Bool) := (plank_Fewest.f l0_0 l0_1).bind fun bt552 => ((skewbaldlaw01_sound.f k l0_0 l0_1).bind fun t556 => (if t556 = true then ((skewbaldref00_Round.f a1 (shl .i64 1 (l0_0.length : Int))).bind fun t558 => ((skewbaldlaw01_enough.f k l0_0 l0_1 t558 (wrap64 ((shl .i64 1 (l0_1.length : Int)) - 1))).bind fun bt559 => (if bt552.2 = 0 then (if bt559.2 = true then ((skewbaldref00_Grows.f k bt552.1 (l0_0.length : Int)).bind fun t562 => (if t562 = true then (if (bt552.1.length : Int) = 0 then (skewbaldlaw01_PlankFewest.j0 k bt552.1 (wrap64 ((shl .i64 1 (l0_1.length : Int)) - 1)) true l0_0 l0_1) else (if bt559.1 = true then ((skewbaldref00_List.f k t558 (l0_0.length : Int)).bind fun t563 => ((skewbaldref00_Shorter.f k t563 bt552.1).bind fun t566 => (skewbaldlaw01_PlankFewest.j0 k bt552.1 (wrap64 ((shl .i64 1 (l0_1.length : Int)) - 1)) t566 l0_0 l0_1))) else (skewbaldlaw01_PlankFewest.j0 k bt552.1 (wrap64 ((shl .i64 1 (l0_1.length : Int)) - 1)) false l0_0 l0_1))) else (skewbaldlaw01_PlankFewest.j0 k bt552.1 (wrap64 ((shl .i64 1 (l0_1.length : Int)) - 1)) true l0_0 l0_1))) else (skewbaldlaw01_PlankFewest.j0 k bt552.1 (wrap64 ((shl .i64 1 (l0_1.length : Int)) - 1)) true l0_0 l0_1)) else (if bt552.2 = 4 then (if (bt552.1.length : Int) = 0 then (if bt559.2 = true then (if bt559.1 = true then (some false) else ((skewbaldlaw01_sawn.f).bind fun t561 => (some t561))) else (some false)) else (some false)) else (some false))))) else (if bt552.2 = 10 then (if (bt552.1.length : Int) = 0 then ((skewbaldlaw01_sawn.f).bind fun t557 => (some t557)) else (some false)) else (some false))))
def skewbaldref01_ends.T10 : Bool × List (List Nat × List Nat) := (true, [([], []), ([], []), ([], []), ([2], [2]), ([1, 3], [1, 3]), ([0, 4], [0, 4]), ([5], [5]), ([], []), ([], []), ([], []), ([7, 8, 9], [7, 8, 9]), ([6, 10, 0, 1, 2, 3, 4, 5, 6], [6]), ([10, 11, 0, 1, 2, 3, 4, 5, 6, 7, 8, 9, 10, 11], [10])])
def skewbaldref01_ends.B10 : List Nat := [0, 0, 0, 4, 14, 31, 63, 0, 0, 0, 896, 2047, 4095]
theorem skewbaldref01_ends.tab10 : rtab .any (opsOf Tryd.f77 10) = skewbaldref01_ends.T10 := by kernel_rfl
theorem skewbaldref01_ends.bits10 : waitsOk skewbaldref01_ends.T10.2 skewbaldref01_ends.B10 = true := by kernel_rfl
def skewbaldref00_Equal.l0 : Nat → List Int → List Int → Bool → Int → Option (Bool)
 | 0, _, _, _, _ => none
 | k + 1, x0, x1, x5, x6 => if x5 = true then (if x6 < (x0.length : Int) then (if 0 ≤ x6 then (if x6 < (x1.length : Int) then (skewbaldref00_Equal.l0 k x0 x1 ((rd x0 x6) == (rd x1 x6)) (wrap64 (x6 + 1))) else (none)) else (none)) else (some x5)) else (some x5)
def skewbaldref00_Equal.f (k : Nat) (l0 : List Int) (l1 : List Int) : Option (Bool) := skewbaldref00_Equal.l0 k l0 l1 ((l0.length : Int) == (l1.length : Int)) 0
set_option maxHeartbeats 8000000 in
set_option maxRecDepth 100000 in
theorem skewbaldref00_Equal.calls (k : Nat) (A0 : Option Addr) (c0 : Nat) (l0 : List Int) (A1 : Option Addr) (c1 : Nat) (l1 : List Int) (r : Bool) (w : World) (hr0 : Kd.C (Kd.int .i64) w A0 l0.length l0) (hc0 : l0.length ≤ c0) (hr1 : Kd.C (Kd.int .i64) w A1 l1.length l1) (hc1 : l1.length ≤ c1) (h : skewbaldref00_Equal.f k l0 l1 = some r) :
  Calls Tryd.prog 22 #[.slice A0 l0.length c0, .slice A1 l1.length c1] w fun e w' => e = .returned (.bool r) ∧ Drawn0 w w' := by
 have HR0 := Aside0.mk hr0; have HC0 := Aside0.mk hc0; clear hr0 hc0; have HR1 := Aside0.mk hr1; have HC1 := Aside0.mk hc1; clear hr1 hc1
 have H : (skewbaldref00_Equal.l0 k l0 l1 ((l0.length : Int) == (l1.length : Int)) 0) = some r := h
 clear h; have H' := Aside0.mk H; clear H
 go_enter Tryd.func22, Tryd.ntmps22
 go_wp2
 repeat (go_quiet (fail); try go_wp2)
 go_loopg [5, 6] k (fun kq v5 v6 w' => ∃ (x5_1 : Bool) (x6_1 : Int), v5 = .bool x5_1 ∧ v6 = .int .i64 x6_1 ∧ Aside0 (skewbaldref00_Equal.l0 kq l0 l1 x5_1 x6_1 = some r) ∧ Aside0 (kq ≤ k) ∧ Drawn0 w w')
 case atStart => exact ⟨(((l0.length : Int) == (l1.length : Int))), (0), sm, sm, H', ⟨Nat.le_refl _⟩, by repeat (first | exact Drawn0.refl _ | apply Drawn0.step)⟩
 case round =>
  clear H'; (try clear c1); (try clear c2); (try clear p2); obtain ⟨x5_1, x6_1, rfl, rfl, HA, HK1, ⟨m1, rfl⟩⟩ := hrel
  cases gk with
  | zero => exact absurd HA.out (by simp [skewbaldref00_Equal.l0])
  | succ k1 =>
   have H := HA.out; clear HA
   simp only [skewbaldref00_Equal.l0] at H
   by_cases c3 : x5_1 = true
   ·subst c3; rw [if_pos rfl] at H
    by_cases c4 : x6_1 < (l0.length : Int)
    ·rw [if_pos c4] at H; have c4b0 := decide_eq_true c4; clear c4
     by_cases c5 : 0 ≤ x6_1
     ·rw [if_pos c5] at H; have c5b0 := decide_eq_true c5; clear c5
      by_cases c6 : x6_1 < (l1.length : Int)
      ·rw [if_pos c6] at H; have c6b0 := decide_eq_true c6; clear c6; have H' := Aside0.mk H; clear H
       have p194 : 0 ≤ (x6_1 : Int) := od
       have q194 : x6_1 < (l0.length : Int) := od
       obtain ⟨ad194, e194, hx194_0⟩ := Kd.at_int HR0.out x6_1 p194 q194
       cases e194
       replace p194 := eq_true p194; replace q194 := eq_true q194
       have p195 : 0 ≤ (x6_1 : Int) := od
       have q195 : x6_1 < (l1.length : Int) := od
       obtain ⟨ad195, e195, hx195_0⟩ := Kd.at_int HR1.out x6_1 p195 q195
       cases e195
       replace p195 := eq_true p195; replace q195 := eq_true q195
       go_wp2
       repeat (go_quiet (fail); try go_wp2)
       go_roundg k1
       case measure => have := HK1.out; omega
       case rel => exact ⟨(((rd l0 x6_1) == (rd l1 x6_1))), (wrap64 (x6_1 + 1)), sm, sm, H', ⟨lo HK1⟩, by repeat (first | exact Drawn0.refl _ | apply Drawn0.step)⟩
      ·rw [if_neg c6] at H
       exact absurd H (by simp)
     ·rw [if_neg c5] at H
      exact absurd H (by simp)
    ·rw [if_neg c4] at H
     have c4b0 : decide (x6_1 < (l0.length : Int)) = false := decide_eq_false c4
     clear c4; obtain rfl := Option.some.inj H
     go_wp2
     repeat (go_quiet (fail); try go_wp2)
     go_ret
     exact ⟨sm, by repeat (first | exact Drawn0.refl _ | apply Drawn0.step)⟩
   ·replace c3 := Bool.eq_false_iff.mpr c3; subst c3
    rw [if_neg (show ¬ (false = true) by decide)] at H
    obtain rfl := Option.some.inj H
    go_wp2
    repeat (go_quiet (fail); try go_wp2)
    go_ret
    exact ⟨sm, by repeat (first | exact Drawn0.refl _ | apply Drawn0.step)⟩
end Go.Proofs.YtekjlpldooihhaaDoor.PT
namespace Go.Proofs.YtekjlpldooihhaaDoorP
open Go.Proofs.YtekjlpldooihhaaDoorSh
open Go.RowKit Go.Proofs.YtekjlpldooihhaaDoorW.PrintWords Go.Proofs.YtekjlpldooihhaaDoorH Go.Proofs.YtekjlpldooihhaaDoorEv Go.Proofs.YtekjlpldooihhaaDoor.PA
set_option linter.unusedVariables false
set_option linter.unusedSimpArgs false
def lenQ (Q : List S50) (p : Nat) : Nat := (Q.getD p z50).f0.toNat
def Apart (Q : List S50) (pos : Nat → Nat) (p q : Nat) : Prop := pos p + lenQ Q p ≤ pos q ∨ pos q + lenQ Q q ≤ pos p
theorem Apart.symm {Q : List S50} {pos : Nat → Nat} {p q : Nat} (h : Apart Q pos p q) : Apart Q pos q p := Or.symm h
def Good (y : S48) (Q : List S50) : List Nat → (Nat → Bool) → List Nat → Prop
  | [], _, [] => True
  | p :: ps, taken, a :: us => spotB y (Q.getD p z50) a = true ∧ freeB taken a (lenQ Q p) = true ∧ Good y Q ps (markB taken a (lenQ Q p)) us
  | _, _, _ => False
def lexLe : List Nat → List Nat → Prop
  | [], _ => True
  | _ :: _, [] => False
  | a :: us, b :: bs => a < b ∨ (a = b ∧ lexLe us bs)
theorem spot_lt {y : S48} {x : S50} {a : Nat} (h : spotB y x a = true) : (a : Int) + x.f0 ≤ y.f0 ∧ canN y x a = 2 := by
  unfold spotB liesB at h
  simp only [Bool.and_eq_true, decide_eq_true_eq, beq_iff_eq] at h
  exact ⟨by omega, h.2⟩
theorem mem_spots {y : S48} {x : S50} (h1 : 1 ≤ x.f0) {a : Nat} : a ∈ spotsL y x ↔ spotB y x a = true := by
  unfold spotsL
  rw [List.mem_filter, List.mem_range]
  constructor
  · exact fun h => h.2
  · intro h
    have := (spot_lt h).1
    exact ⟨by omega, h⟩
theorem spots_sorted (y : S48) (x : S50) : (spotsL y x).Pairwise (· < ·) := List.pairwise_lt_range.filter _
theorem laidFrom_none {y : S48} {Q : List S50} : ∀ (ps : List Nat) (hL : ∀ p ∈ ps, 1 ≤ (Q.getD p z50).f0) (taken : Nat → Bool) (out : List Nat), laidFrom y Q ps taken out = none → ∀ bs, ¬ Good y Q ps taken bs
  | [], _, _, _, h, _, _ => by simp [laidFrom] at h
  | p :: ps, hL, taken, out, h, [], hg => hg
  | p :: ps, hL, taken, out, h, b :: bs, hg => by
    obtain ⟨g1, g2, g3⟩ := hg
    unfold laidFrom at h
    rw [List.findSome?_eq_none_iff] at h
    have h' := h b ((mem_spots (hL p (by simp))).2 g1)
    unfold lenQ at g2 g3
    rw [if_pos g2] at h'
    exact laidFrom_none ps (fun q hq => hL q (by simp [hq])) _ _ h' bs g3
theorem laidFrom_some {y : S48} {Q : List S50} : ∀ (ps : List Nat) (hL : ∀ p ∈ ps, 1 ≤ (Q.getD p z50).f0) (taken : Nat → Bool) (out o : List Nat), laidFrom y Q ps taken out = some o → ∃ us, o = out ++ us ∧ Good y Q ps taken us ∧ ∀ bs, Good y Q ps taken bs → lexLe us bs
  | [], _, taken, out, o, h => by
    simp only [laidFrom, Option.some.injEq] at h
    exact ⟨[], by simp [h], trivial, fun _ _ => trivial⟩
  | p :: ps, hL, taken, out, o, h => by
    have hL' : ∀ q ∈ ps, 1 ≤ (Q.getD q z50).f0 := fun q hq => hL q (by simp [hq])
    unfold laidFrom at h
    obtain ⟨l1, a, l2, e, hf, hn⟩ := List.findSome?_eq_some_iff.1 h
    have hs := (mem_spots (y := y) (hL p (by simp))).1 (by rw [e]; simp : a ∈ _)
    by_cases hfr : freeB taken a (Q.getD p z50).f0.toNat = true
    · rw [if_pos hfr] at hf
      obtain ⟨us, e1, e2, e3⟩ := laidFrom_some ps hL' _ _ _ hf
      refine ⟨a :: us, by rw [e1]; simp, ⟨hs, hfr, e2⟩, fun bs hb => ?_⟩
      match bs, hb with
      | b :: bs, hb =>
        obtain ⟨g1, g2, g3⟩ := hb
        have hm := (mem_spots (hL p (by simp))).2 g1
        rw [e] at hm
        simp only [List.mem_append, List.mem_cons] at hm
        rcases hm with hm | rfl | hm
        · have h' := hn b hm
          unfold lenQ at g2 g3
          rw [if_pos g2] at h'
          exact absurd g3 (laidFrom_none ps hL' _ _ h' bs)
        · exact .inr ⟨rfl, e3 bs g3⟩
        · have hp := spots_sorted y (Q.getD p z50)
          rw [e, List.pairwise_append] at hp
          exact .inl ((List.pairwise_cons.1 hp.2.1).1 b hm)
    · rw [if_neg hfr] at hf
      simp at hf
theorem free_iff {taken : Nat → Bool} {a L : Nat} : freeB taken a L = true ↔ ∀ j, a ≤ j → j < a + L → taken j = false := by
  unfold freeB
  rw [Bool.not_eq_true', List.any_eq_false]
  simp only [List.mem_range'_1, Bool.not_eq_true]
  exact ⟨fun h j h1 h2 => h j ⟨h1, h2⟩, fun h j hj => h j hj.1 hj.2⟩
theorem free_none (a L : Nat) : freeB (fun _ => false) a L = true := free_iff.2 fun _ _ _ => rfl
theorem free_mark {taken : Nat → Bool} {a L b M : Nat} (hL : 1 ≤ L) (hM : 1 ≤ M) : freeB (markB taken a L) b M = true ↔ freeB taken b M = true ∧ (a + L ≤ b ∨ b + M ≤ a) := by
  rw [free_iff, free_iff]
  unfold markB
  simp only [Bool.or_eq_false_iff, Bool.and_eq_false_iff, decide_eq_false_iff_not]
  constructor
  · intro h
    refine ⟨fun j h1 h2 => (h j h1 h2).1, ?_⟩
    by_cases hab : a ≤ b
    · have := (h b (Nat.le_refl _) (by omega)).2; omega
    · by_cases hba : a < b + M
      · have := (h a (by omega) hba).2; omega
      · omega
  · rintro ⟨h1, h2⟩ j h3 h4
    exact ⟨h1 j h3 h4, by omega⟩
theorem good_pos {y : S48} {Q : List S50} (pos : Nat → Nat) : ∀ (ps : List Nat) (hL : ∀ p ∈ ps, 1 ≤ lenQ Q p) (taken : Nat → Bool),
    Good y Q ps taken (ps.map pos) ↔ (∀ p ∈ ps, spotB y (Q.getD p z50) (pos p) = true ∧ freeB taken (pos p) (lenQ Q p) = true) ∧ ps.Pairwise (Apart Q pos)
  | [], _, taken => by simp [Good]
  | p :: ps, hL, taken => by
    have h1 := hL p (by simp)
    have ih := good_pos (y := y) pos ps (fun q hq => hL q (by simp [hq])) (markB taken (pos p) (lenQ Q p))
    show (_ ∧ _ ∧ Good y Q ps _ (ps.map pos)) ↔ _
    rw [ih, List.pairwise_cons]
    constructor
    · rintro ⟨a, b, c, d⟩
      refine ⟨fun q hq => ?_, fun q hq => ?_, d⟩
      · rcases List.mem_cons.1 hq with rfl | hq
        · exact ⟨a, b⟩
        · exact ⟨(c q hq).1, ((free_mark h1 (hL q (by simp [hq]))).1 (c q hq).2).1⟩
      · exact ((free_mark h1 (hL q (by simp [hq]))).1 (c q hq).2).2
    · rintro ⟨a, b, c⟩
      exact ⟨(a p (by simp)).1, (a p (by simp)).2, fun q hq => ⟨(a q (by simp [hq])).1, (free_mark h1 (hL q (by simp [hq]))).2 ⟨(a q (by simp [hq])).2, b q hq⟩⟩, c⟩
theorem good_length {y : S48} {Q : List S50} : ∀ (ps : List Nat) (taken : Nat → Bool) (us : List Nat), Good y Q ps taken us → us.length = ps.length
  | [], _, [], _ => rfl
  | [], _, _ :: _, h => h.elim
  | _ :: _, _, [], h => h.elim
  | p :: ps, taken, a :: us, h => by simp [good_length ps _ us h.2.2]
def posOf (ps us : List Nat) (p : Nat) : Nat := us.getD (ps.idxOf p) 0
theorem map_posOf {ps us : List Nat} (hn : ps.Nodup) (hl : us.length = ps.length) : ps.map (posOf ps us) = us := by
  apply List.ext_getElem
  · simp [hl]
  · intro i h1 h2
    rw [List.getElem_map]
    have hi : i < ps.length := by simpa using h1
    unfold posOf
    rw [List.Nodup.idxOf_getElem hn i hi]
    simp [h2]
def LiesOn (y : S48) (Q : List S50) (S : Nat → Prop) (pos : Nat → Nat) : Prop := (∀ p, S p → spotB y (Q.getD p z50) (pos p) = true) ∧ ∀ p q, S p → S q → p ≠ q → Apart Q pos p q
theorem pairwise_apart {Q : List S50} {pos : Nat → Nat} {ps : List Nat} (hn : ps.Nodup) : ps.Pairwise (Apart Q pos) ↔ ∀ p q, p ∈ ps → q ∈ ps → p ≠ q → Apart Q pos p q := by
  constructor
  · intro h p q hp hq hne
    exact List.Pairwise.forall_of_forall_of_flip (R := fun a b => a ≠ b → Apart Q pos a b) (fun a _ e => absurd rfl e) (h.imp (S := fun a b => a ≠ b → Apart Q pos a b) fun h _ => h) (h.imp (S := flip fun a b => a ≠ b → Apart Q pos a b) fun h _ => h.symm) hp hq hne
  · intro h
    exact List.Pairwise.imp_of_mem (fun ha hb hne => h _ _ ha hb hne) hn
theorem good_lies {y : S48} {Q : List S50} {ps : List Nat} (hn : ps.Nodup) (hL : ∀ p ∈ ps, 1 ≤ lenQ Q p) {pos : Nat → Nat} : Good y Q ps (fun _ => false) (ps.map pos) ↔ LiesOn y Q (· ∈ ps) pos := by
  rw [good_pos pos ps hL, pairwise_apart hn]
  unfold LiesOn
  constructor
  · exact fun h => ⟨fun p hp => (h.1 p hp).1, h.2⟩
  · exact fun h => ⟨fun p hp => ⟨h.1 p hp, free_none _ _⟩, h.2⟩
theorem laid_some {y : S48} {Q : List S50} {ps : List Nat} (hn : ps.Nodup) (hL : ∀ p ∈ ps, 1 ≤ (Q.getD p z50).f0) {o : List Nat} (h : laidB y Q ps = some o) :
    o.length = ps.length ∧ LiesOn y Q (· ∈ ps) (posOf ps o) ∧ ∀ pos, LiesOn y Q (· ∈ ps) pos → lexLe o (ps.map pos) := by
  have hL' : ∀ p ∈ ps, 1 ≤ lenQ Q p := fun p hp => by have := hL p hp; unfold lenQ; omega
  obtain ⟨us, e, hg, hm⟩ := laidFrom_some ps hL _ _ _ h; rw [List.nil_append] at e; subst e; have hl := good_length _ _ _ hg
  refine ⟨hl, ?_, fun pos hp => hm _ ((good_lies hn hL').2 hp)⟩
  rw [← good_lies hn hL', map_posOf hn hl]
  exact hg
theorem laid_iff {y : S48} {Q : List S50} {ps : List Nat} (hn : ps.Nodup) (hL : ∀ p ∈ ps, 1 ≤ (Q.getD p z50).f0) : (laidB y Q ps).isSome = true ↔ ∃ pos, LiesOn y Q (· ∈ ps) pos := by
  have hL' : ∀ p ∈ ps, 1 ≤ lenQ Q p := fun p hp => by have := hL p hp; unfold lenQ; omega
  constructor
  · intro h
    obtain ⟨o, ho⟩ := Option.isSome_iff_exists.1 h
    exact ⟨_, (laid_some hn hL ho).2.1⟩
  · rintro ⟨pos, hp⟩
    cases h : laidB y Q ps with
    | some o => rfl
    | none => exact absurd ((good_lies hn hL').2 hp) (laidFrom_none ps hL _ _ h _)
theorem ints_inj {a b : List Nat} (h : ints a = ints b) : a = b := by
  unfold ints at h
  exact (List.map_inj_right (fun x y e => Int.ofNat.inj e)).1 h
theorem setL_nodup (s : Nat) : (setL s).Nodup := List.nodup_range.filter _
theorem mem_setL {s p : Nat} : p ∈ setL s ↔ p < 5 ∧ bitB s p = true := by unfold setL; rw [List.mem_filter, List.mem_range]
def numB (f : Nat → Bool) : Nat := (f 0).toNat + 2 * (f 1).toNat + 4 * (f 2).toNat + 8 * (f 3).toNat + 16 * (f 4).toNat
theorem numB_lt (f : Nat → Bool) : numB f < 32 := by
  unfold numB
  have := Bool.toNat_le (f 0); have := Bool.toNat_le (f 1); have := Bool.toNat_le (f 2); have := Bool.toNat_le (f 3); have := Bool.toNat_le (f 4)
  omega
theorem bit_numB (f : Nat → Bool) {q : Nat} (hq : q < 5) : bitB (numB f) q = f q := by
  unfold numB
  obtain rfl | rfl | rfl | rfl | rfl : q = 0 ∨ q = 1 ∨ q = 2 ∨ q = 3 ∨ q = 4 := by omega
  all_goals (cases f 0 <;> cases f 1 <;> cases f 2 <;> cases f 3 <;> cases f 4 <;> rfl)
theorem num_bits : ∀ s, s < 32 → numB (bitB s) = s := by decide
theorem eq_of_bits {s t : Nat} (hs : s < 32) (ht : t < 32) (h : ∀ q, q < 5 → bitB s q = bitB t q) : s = t := by
  rw [← num_bits s hs, ← num_bits t ht]
  unfold numB
  rw [h 0 (by omega), h 1 (by omega), h 2 (by omega), h 3 (by omega), h 4 (by omega)]
theorem bits_sub : ∀ s, s < 32 → ∀ t, t < 32 → (t &&& s == t) = true → ∀ q, q < 5 → bitB (s - t) q = (bitB s q && !bitB t q) ∧ (bitB t q = true → bitB s q = true) := by decide
theorem sub_of_bits : ∀ s, s < 32 → ∀ t, t < 32 → (∀ q, q < 5 → bitB t q = true → bitB s q = true) → (t &&& s == t) = true ∧ t ≤ s := by decide
theorem set_empty {s : Nat} (hs : s < 32) : setL s = [] ↔ s = 0 := by
  constructor
  · intro h
    refine eq_of_bits hs (by omega) (fun q hq => ?_)
    have : ¬ (q ∈ setL s) := by rw [h]; simp
    rw [mem_setL] at this
    have e : bitB s q = false := by simpa [hq] using this
    rw [e]
    unfold bitB; simp
  · rintro rfl; decide
def Cuts (P : List S48) (Q : List S50) (l : List Nat) (S : Nat → Prop) (a pos : Nat → Nat) : Prop :=
  (∀ p, S p → a p ∈ l ∧ spotB (P.getD (a p) z48) (Q.getD p z50) (pos p) = true) ∧ ∀ p q, S p → S q → p ≠ q → a p = a q → Apart Q pos p q
theorem cut_iff {P : List S48} {Q : List S50} (hq : ∀ p, p < Q.length → 1 ≤ (Q.getD p z50).f0) : ∀ (l : List Nat) (hl : l.Nodup) (s : Nat) (hs : s < 32) (hb : ∀ p ∈ setL s, p < Q.length),
    cutB P Q l s = true ↔ ∃ a pos, Cuts P Q l (· ∈ setL s) a pos
  | [], _, s, hs, hb => by
    unfold cutB
    rw [beq_iff_eq, ← set_empty hs]
    constructor
    · intro h
      exact ⟨fun _ => 0, fun _ => 0, fun p hp => by rw [h] at hp; simp at hp, fun p q hp => by rw [h] at hp; simp at hp⟩
    · rintro ⟨a, pos, h1, _⟩
      cases e : setL s with
      | nil => rfl
      | cons p t => exact absurd (h1 p (by rw [e]; simp)).1 (by simp)
  | i :: l, hl, s, hs, hb => by
    have hl' := (List.nodup_cons.1 hl)
    unfold cutB
    rw [Bool.or_eq_true, beq_iff_eq, List.any_eq_true]
    constructor
    · rintro (rfl | ⟨t, ht, h⟩)
      · have e := (set_empty (by omega : 0 < 32)).2 rfl
        exact ⟨fun _ => 0, fun _ => 0, fun p hp => by rw [e] at hp; simp at hp, fun p q hp => by rw [e] at hp; simp at hp⟩
      · rw [List.mem_range] at ht
        rw [Bool.and_eq_true, Bool.and_eq_true] at h; obtain ⟨h1, h2, h3⟩ := h
        have hbits := bits_sub s hs t (by omega) h1
        have hbt : ∀ p ∈ setL t, p ∈ setL s := fun p hp => by
          rw [mem_setL] at hp ⊢
          exact ⟨hp.1, (hbits p hp.1).2 hp.2⟩
        have hbd : ∀ p, p ∈ setL (s - t) ↔ p ∈ setL s ∧ ¬ p ∈ setL t := fun p => by
          rw [mem_setL, mem_setL, mem_setL]
          constructor
          · rintro ⟨a, b⟩
            rw [(hbits p a).1, Bool.and_eq_true, Bool.not_eq_true'] at b
            exact ⟨⟨a, b.1⟩, fun h => by rw [b.2] at h; exact absurd h.2 (by simp)⟩
          · rintro ⟨⟨a, b⟩, c⟩
            refine ⟨a, ?_⟩
            rw [(hbits p a).1, b]
            cases e : bitB t p with
            | false => rfl
            | true => exact absurd ⟨a, e⟩ c
        obtain ⟨pos1, g1, g2⟩ := (laid_iff (setL_nodup t) (fun p hp => hq p (hb p (hbt p hp)))).1 h2
        obtain ⟨a2, pos2, g3, g4⟩ := (cut_iff hq l hl'.2 (s - t) (by omega) (fun p hp => hb p ((hbd p).1 hp).1)).1 h3
        classical
        refine ⟨fun p => if p ∈ setL t then i else a2 p, fun p => if p ∈ setL t then pos1 p else pos2 p, fun p hp => ?_, fun p q hp hq hne he => ?_⟩
        · by_cases hpt : p ∈ setL t
          · simp only [if_pos hpt]
            exact ⟨by simp, g1 p hpt⟩
          · simp only [if_neg hpt]
            have := g3 p ((hbd p).2 ⟨hp, hpt⟩)
            exact ⟨by simp [this.1], this.2⟩
        · unfold Apart
          by_cases hpt : p ∈ setL t <;> by_cases hqt : q ∈ setL t
          · simp only [hpt, hqt, if_true]
            exact g2 p q hpt hqt hne
          · simp only [hpt, hqt, if_true, if_false] at he
            exact absurd (he ▸ (g3 q ((hbd q).2 ⟨hq, hqt⟩)).1) hl'.1
          · simp only [hpt, hqt, if_true, if_false] at he
            exact absurd (he ▸ (g3 p ((hbd p).2 ⟨hp, hpt⟩)).1) hl'.1
          · simp only [hpt, hqt, if_false] at he ⊢
            exact g4 p q ((hbd p).2 ⟨hp, hpt⟩) ((hbd q).2 ⟨hq, hqt⟩) hne he
    · rintro ⟨a, pos, h1, h2⟩
      right
      let t := numB fun p => bitB s p && decide (a p = i)
      have ht : t < 32 := numB_lt _
      have hbit : ∀ q, q < 5 → bitB t q = (bitB s q && decide (a q = i)) := fun q hq => bit_numB (fun p => bitB s p && decide (a p = i)) hq
      obtain ⟨e1, e2⟩ := sub_of_bits s hs t ht (fun q hq h => by rw [hbit q hq, Bool.and_eq_true] at h; exact h.1)
      have hbits := bits_sub s hs t ht e1
      have hmt : ∀ p, p ∈ setL t ↔ p ∈ setL s ∧ a p = i := fun p => by
        rw [mem_setL, mem_setL]
        constructor
        · rintro ⟨c, d⟩; rw [hbit p c, Bool.and_eq_true, decide_eq_true_eq] at d; exact ⟨⟨c, d.1⟩, d.2⟩
        · rintro ⟨⟨c, d⟩, e⟩; exact ⟨c, by rw [hbit p c, d, e]; simp⟩
      have hbd : ∀ p, p ∈ setL (s - t) → p ∈ setL s ∧ ¬ a p = i := fun p hp => by
        rw [mem_setL] at hp; obtain ⟨c, d⟩ := hp; rw [(hbits p c).1, hbit p c, Bool.and_eq_true] at d
        refine ⟨mem_setL.2 ⟨c, d.1⟩, fun e => ?_⟩
        rw [d.1] at d
        simp [e] at d
      refine ⟨t, by rw [List.mem_range]; omega, ?_⟩
      rw [Bool.and_eq_true, Bool.and_eq_true]
      refine ⟨e1, ?_, ?_⟩
      · refine (laid_iff (setL_nodup t) (fun p hp => hq p (hb p ((hmt p).1 hp).1))).2 ⟨pos, fun p hp => ?_, fun p q hp hq hne => ?_⟩
        · obtain ⟨c, d⟩ := (hmt p).1 hp
          have := (h1 p c).2
          rwa [d] at this
        · exact h2 p q ((hmt p).1 hp).1 ((hmt q).1 hq).1 hne (((hmt p).1 hp).2.trans ((hmt q).1 hq).2.symm)
      · refine (cut_iff hq l hl'.2 (s - t) (by omega) (fun p hp => hb p (hbd p hp).1)).2 ⟨a, pos, fun p hp => ?_, fun p q hp hq hne he => h2 p q (hbd p hp).1 (hbd q hq).1 hne he⟩
        obtain ⟨c, d⟩ := hbd p hp
        have := h1 p c
        exact ⟨by simpa [d] using this.1, this.2⟩
theorem cmp_self : ∀ l : List Int, cmpL l l = 0
  | [] => rfl
  | a :: l => by simp [cmpL, cmp_self l]
theorem cmp_zero : ∀ l m : List Int, cmpL l m = 0 → l = m
  | [], [], _ => rfl
  | [], _ :: _, h => by simp [cmpL] at h
  | _ :: _, [], h => by simp [cmpL] at h
  | a :: l, b :: m, h => by
    unfold cmpL at h
    split at h
    · simp at h
    · split at h
      · simp at h
      · obtain rfl : a = b := by omega
        rw [cmp_zero l m h]
theorem cmp_neg : ∀ l m : List Int, cmpL m l = - cmpL l m
  | [], [] => rfl
  | [], _ :: _ => rfl
  | _ :: _, [] => rfl
  | a :: l, b :: m => by
    unfold cmpL
    rw [cmp_neg l m]
    split <;> split <;> (try omega) <;> simp_all <;> omega
theorem cmp_trans : ∀ l m n : List Int, cmpL l m < 0 → cmpL m n < 0 → cmpL l n < 0
  | [], [], n, h, _ => by simp [cmpL] at h
  | [], _ :: _, [], _, h => by simp [cmpL] at h
  | [], _ :: _, _ :: _, _, _ => by simp [cmpL]
  | _ :: _, [], n, h, _ => by simp [cmpL] at h
  | _ :: _, _ :: _, [], _, h => by simp [cmpL] at h
  | a :: l, b :: m, c :: n, h1, h2 => by
    unfold cmpL at h1 h2 ⊢
    rcases Int.lt_trichotomy a b with x | rfl | x
    · rcases Int.lt_trichotomy b c with y | rfl | y
      · rw [if_pos (by omega)]; omega
      · rw [if_pos (by omega)]; omega
      · rw [if_neg (by omega), if_pos y] at h2; omega
    · rcases Int.lt_trichotomy a c with y | rfl | y
      · rw [if_pos y]; omega
      · rw [if_neg (by omega), if_neg (by omega)] at h1 h2 ⊢
        exact cmp_trans l m n h1 h2
      · rw [if_neg (by omega), if_pos y] at h2; omega
    · rw [if_neg (by omega), if_pos x] at h1; omega
structure Strict (bt : List Int → List Int → Bool) : Prop where
  irr : ∀ l, bt l l = false
  trans : ∀ a b c, bt a b = true → bt b c = true → bt a c = true
  tot : ∀ a b, a = b ∨ bt a b = true ∨ bt b a = true
theorem strict_few : Strict betterL := by
  refine ⟨fun l => ?_, fun a b c h1 h2 => ?_, fun a b => ?_⟩
  · unfold betterL; rw [cmp_self]; simp
  · unfold betterL at *
    simp only [Bool.or_eq_true, Bool.and_eq_true, decide_eq_true_eq, beq_iff_eq] at *
    rcases h1 with h1 | ⟨h1, h3⟩ <;> rcases h2 with h2 | ⟨h2, h4⟩
    · left; omega
    · left; omega
    · left; omega
    · right; exact ⟨by omega, cmp_trans a b c h3 h4⟩
  · unfold betterL
    simp only [Bool.or_eq_true, Bool.and_eq_true, decide_eq_true_eq, beq_iff_eq]
    have h1 := cmp_zero a b; have h2 := cmp_neg a b
    by_cases h : cmpL a b = 0
    · exact .inl (h1 h)
    · rcases Nat.lt_trichotomy a.length b.length with h3 | h3 | h3
      · exact .inr (.inl (.inl h3))
      · by_cases h4 : cmpL a b < 0
        · exact .inr (.inl (.inr ⟨h3, h4⟩))
        · exact .inr (.inr (.inr ⟨h3.symm, by omega⟩))
      · exact .inr (.inr (.inl h3))
def BestOf (bt : List Int → List Int → Bool) (is : Nat → Bool) (n : Nat) (l : List Nat) : Prop :=
  (∃ s, s < n ∧ l = setL s ∧ is s = true) ∧ ∀ s, s < n → is s = true → setL s = l ∨ bt (ints l) (ints (setL s)) = true
theorem bestTo_spec {bt : List Int → List Int → Bool} (hS : Strict bt) (is : Nat → Bool) : ∀ n, (bestTo bt is n = (false, []) ∧ ∀ s, s < n → is s = false) ∨ ∃ l, bestTo bt is n = (true, l) ∧ BestOf bt is n l
  | 0 => .inl ⟨rfl, fun s h => absurd h (by omega)⟩
  | n + 1 => by
    show (bestStep bt is n (bestTo bt is n) = _ ∧ _) ∨ ∃ l, bestStep bt is n (bestTo bt is n) = _ ∧ _
    rcases bestTo_spec hS is n with ⟨e, h⟩ | ⟨l, e, ⟨s0, h1, rfl, h2⟩, h3⟩
    · rw [e]
      unfold bestStep
      cases hn : is n with
      | false =>
        left
        refine ⟨by simp, fun s hs => ?_⟩
        rcases Nat.lt_or_ge s n with h' | h'
        · exact h s h'
        · obtain rfl : s = n := by omega
          exact hn
      | true =>
        right
        refine ⟨setL n, by simp, ⟨n, by omega, rfl, hn⟩, fun s hs his => ?_⟩
        rcases Nat.lt_or_ge s n with h' | h'
        · rw [h s h'] at his; exact absurd his (by simp)
        · obtain rfl : s = n := by omega
          exact .inl rfl
    · rw [e]
      right
      unfold bestStep
      cases hn : is n with
      | false =>
        refine ⟨setL s0, by simp, ⟨s0, by omega, rfl, h2⟩, fun s hs his => ?_⟩
        rcases Nat.lt_or_ge s n with h' | h'
        · exact h3 s h' his
        · obtain rfl : s = n := by omega
          rw [hn] at his; exact absurd his (by simp)
      | true =>
        cases hb : bt (ints (setL n)) (ints (setL s0)) with
        | true =>
          refine ⟨setL n, by simp, ⟨n, by omega, rfl, hn⟩, fun s hs his => ?_⟩
          rcases Nat.lt_or_ge s n with h' | h'
          · rcases h3 s h' his with h4 | h4
            · rw [h4]; exact .inr hb
            · exact .inr (hS.trans _ _ _ hb h4)
          · obtain rfl : s = n := by omega
            exact .inl rfl
        | false =>
          refine ⟨setL s0, by simp, ⟨s0, by omega, rfl, h2⟩, fun s hs his => ?_⟩
          rcases Nat.lt_or_ge s n with h' | h'
          · exact h3 s h' his
          · obtain rfl : s = n := by omega
            rcases hS.tot (ints (setL s0)) (ints (setL s)) with h4 | h4 | h4
            · exact .inl (ints_inj h4).symm
            · exact .inr h4
            · rw [hb] at h4; exact absurd h4 (by simp)
theorem cut_zero (P : List S48) (Q : List S50) (l : List Nat) : cutB P Q l 0 = true := by cases l <;> simp [cutB]
theorem fewest_spec (P : List S48) (Q : List S50) : (fewestZ P Q = (false, []) ∧ ∀ s, s < 2 ^ P.length → cutB P Q (setL s) (2 ^ Q.length - 1) = false) ∨ ∃ l, fewestZ P Q = (true, l) ∧ BestOf betterL (fun s => cutB P Q (setL s) (2 ^ Q.length - 1)) (2 ^ P.length) l :=
  bestTo_spec strict_few _ _
theorem greatest_of {f : Nat → Nat} : ∀ (l : List Nat), l ≠ [] → ∃ p ∈ l, ∀ q ∈ l, f q ≤ f p
  | [], h => absurd rfl h
  | [a], _ => ⟨a, by simp, by simp⟩
  | a :: b :: l, _ => by
    obtain ⟨p, hp, h⟩ := greatest_of (f := f) (b :: l) (by simp)
    by_cases hab : f p ≤ f a
    · exact ⟨a, by simp, fun q hq => by
        rcases List.mem_cons.1 hq with rfl | hq
        · exact Nat.le_refl _
        · exact Nat.le_trans (h q hq) hab⟩
    · exact ⟨p, by simp [hp], fun q hq => by
        rcases List.mem_cons.1 hq with rfl | hq
        · omega
        · exact h q hq⟩
theorem bits_one : ∀ s, s < 32 → ∀ p, p < 5 → bitB s p = true → 2 ^ p ≤ s ∧ (2 ^ p &&& s == 2 ^ p) = true ∧ ∀ q, q < 5 → bitB (s - 2 ^ p) q = (bitB s q && !decide (q = p)) := by decide
theorem mem_less {s p : Nat} (hs : s < 32) (hp : p ∈ setL s) (q : Nat) : q ∈ setL (s - 2 ^ p) ↔ q ∈ setL s ∧ q ≠ p := by
  obtain ⟨h5, hb⟩ := mem_setL.1 hp; have h := (bits_one s hs p h5 hb).2.2
  rw [mem_setL, mem_setL]
  constructor
  · rintro ⟨a, b⟩
    rw [h q a, Bool.and_eq_true, Bool.not_eq_true', decide_eq_false_iff_not] at b
    exact ⟨⟨a, b.1⟩, b.2⟩
  · rintro ⟨⟨a, b⟩, c⟩
    exact ⟨a, by rw [h q a, b]; simp [c]⟩
def EndAt (y : S48) (Q : List S50) (s : Nat) (e : Int) : Prop :=
  (e = 99 ∧ ∀ pos, ¬ LiesOn y Q (· ∈ setL s) pos) ∨
  (e < 99 ∧ 0 ≤ e ∧ (∃ pos, LiesOn y Q (· ∈ setL s) pos ∧ ∀ p, p ∈ setL s → (pos p + lenQ Q p : Nat) ≤ e) ∧ ∀ pos, LiesOn y Q (· ∈ setL s) pos → ∀ M : Int, 0 ≤ M → (∀ p, p ∈ setL s → (pos p + lenQ Q p : Nat) ≤ M) → e ≤ M)
theorem EndAt.zero (y : S48) (Q : List S50) : EndAt y Q 0 0 := by
  have e := (set_empty (by omega : 0 < 32)).2 rfl
  refine .inr ⟨by omega, by omega, ⟨fun _ => 0, ⟨fun p hp => ?_, fun p q hp => ?_⟩, fun p hp => ?_⟩, fun _ _ M h _ => h⟩
  all_goals (rw [e] at hp; simp at hp)
theorem EndAt.step {y : S48} {Q : List S50} {s : Nat} (hs : s < 32) (h0 : s ≠ 0) (hy : y.f0 ≤ 16) (hL : ∀ p ∈ setL s, 1 ≤ (Q.getD p z50).f0) {E : Nat → Int} (hE : ∀ p ∈ setL s, EndAt y Q (s - 2 ^ p) (E p)) {e : Int} (h3 : e ≤ 99)
    (h1 : e = 99 ∨ ∃ p ∈ setL s, ∃ a ∈ spotsL y (Q.getD p z50), E p ≤ (a : Int) ∧ e = (a : Int) + (Q.getD p z50).f0)
    (h2 : ∀ p ∈ setL s, ∀ a ∈ spotsL y (Q.getD p z50), E p ≤ (a : Int) → e ≤ (a : Int) + (Q.getD p z50).f0) : EndAt y Q s e := by
  have hlen : ∀ p ∈ setL s, ((lenQ Q p : Nat) : Int) = (Q.getD p z50).f0 := fun p hp => by have := hL p hp; unfold lenQ; omega
  have key : ∀ pos, LiesOn y Q (· ∈ setL s) pos → ∃ p ∈ setL s, e ≤ (pos p + lenQ Q p : Nat) ∧ (pos p + lenQ Q p : Nat) ≤ (16 : Int) := by
    intro pos hl
    obtain ⟨p, hp, hm⟩ := greatest_of (f := pos) (setL s) (fun h => h0 ((set_empty hs).1 h))
    have hsp := hl.1 p hp; have hsl := (spot_lt hsp).1; have hlp := hlen p hp
    have hrest : ∀ q, q ∈ setL (s - 2 ^ p) → pos q + lenQ Q q ≤ pos p := fun q hq => by
      obtain ⟨hqs, hne⟩ := (mem_less hs hp q).1 hq
      rcases hl.2 q p hqs hp hne with h | h
      · exact h
      · have := hm q hqs
        have := hlen p hp
        have := hL p hp
        omega
    have hlr : LiesOn y Q (· ∈ setL (s - 2 ^ p)) pos := ⟨fun q hq => hl.1 q ((mem_less hs hp q).1 hq).1, fun q r hq hr hne => hl.2 q r ((mem_less hs hp q).1 hq).1 ((mem_less hs hp r).1 hr).1 hne⟩
    have hep : E p ≤ (pos p : Int) := by
      rcases hE p hp with ⟨_, hno⟩ | ⟨_, _, _, hmin⟩
      · exact absurd hlr (hno pos)
      · exact hmin pos hlr (pos p) (by omega) (fun q hq => by have := hrest q hq; omega)
    have := h2 p hp (pos p) ((mem_spots (hL p hp)).2 hsp) hep
    exact ⟨p, hp, by omega, by omega⟩
  rcases h1 with rfl | ⟨p, hp, a, ha, hle, rfl⟩
  · refine .inl ⟨rfl, fun pos hl => ?_⟩
    obtain ⟨p, _, h, h'⟩ := key pos hl
    omega
  · have hsp := (mem_spots (hL p hp)).1 ha
    have hsl := (spot_lt hsp).1; have hlp := hlen p hp; have hl1 := hL p hp
    refine .inr ⟨by omega, by omega, ?_, fun pos hl M _ hM => ?_⟩
    · rcases hE p hp with ⟨e99, _⟩ | ⟨_, _, ⟨pos, hl, hends⟩, _⟩
      · omega
      · refine ⟨fun q => if q = p then a else pos q, ⟨fun q hq => ?_, fun q r hq hr hne => ?_⟩, fun q hq => ?_⟩
        · by_cases h : q = p
          · subst h; simpa using hsp
          · simp only [h, if_false]; exact hl.1 q ((mem_less hs hp q).2 ⟨hq, h⟩)
        · unfold Apart
          by_cases h : q = p
          · subst h
            have hr' := (mem_less hs hp r).2 ⟨hr, fun e => hne e.symm⟩
            simp only [if_true, if_neg (fun e => hne e.symm : ¬ r = q)]
            have := hends r hr'
            right; omega
          · by_cases h' : r = p
            · subst h'
              have hq' := (mem_less hs hp q).2 ⟨hq, h⟩
              simp only [if_true, if_neg h]
              have := hends q hq'
              left; omega
            · simp only [h, h', if_false]
              exact hl.2 q r ((mem_less hs hp q).2 ⟨hq, h⟩) ((mem_less hs hp r).2 ⟨hr, h'⟩) hne
        · by_cases h : q = p
          · subst h; simp only [if_true]; omega
          · simp only [h, if_false]
            have := hends q ((mem_less hs hp q).2 ⟨hq, h⟩)
            omega
    · obtain ⟨q, hq, h, _⟩ := key pos hl
      have := hM q hq
      omega
theorem EndAt.laid {y : S48} {Q : List S50} {s : Nat} {e : Int} (hL : ∀ p ∈ setL s, 1 ≤ (Q.getD p z50).f0) (h : EndAt y Q s e) : decide (e < 99) = (laidB y Q (setL s)).isSome ∧ (e = 99 ↔ laidB y Q (setL s) = none) := by
  have hi := laid_iff (y := y) (setL_nodup s) hL
  rcases h with ⟨rfl, h⟩ | ⟨h1, _, ⟨pos, h2, _⟩, _⟩
  · have hn : laidB y Q (setL s) = none := by
      cases hc : laidB y Q (setL s) with
      | none => rfl
      | some o => rw [hc] at hi; obtain ⟨pos, hp⟩ := hi.1 rfl; exact absurd hp (h pos)
    rw [hn]; simp
  · have hs := hi.2 ⟨pos, h2⟩
    rw [hs]
    refine ⟨by simpa using h1, ⟨fun e => by omega, fun e => by rw [e] at hs; simp at hs⟩⟩
theorem cuts_weaker {P P' : List S48} {Q Q' : List S50} {l l' : List Nat} {S S' : Nat → Prop} {a pos : Nat → Nat} (h : Cuts P Q l S a pos) (hl : ∀ i, i ∈ l → i ∈ l') (hS : ∀ p, S' p → S p)
    (hsp : ∀ i p n, i ∈ l → S' p → spotB (P.getD i z48) (Q.getD p z50) n = true → spotB (P'.getD i z48) (Q'.getD p z50) n = true) (hlen : ∀ p, S' p → lenQ Q' p = lenQ Q p) : Cuts P' Q' l' S' a pos :=
  ⟨fun p hp => ⟨hl _ (h.1 p (hS p hp)).1, hsp _ _ _ (h.1 p (hS p hp)).1 hp (h.1 p (hS p hp)).2⟩, fun p q hp hq hne he => by
    have := h.2 p q (hS p hp) (hS q hq) hne he
    unfold Apart at *
    rw [hlen p hp, hlen q hq]
    exact this⟩
theorem full_bits : ∀ n, n ≤ 5 → ∀ q, q < 5 → bitB (2 ^ n - 1) q = decide (q < n) := by decide
theorem mem_full {n : Nat} (hn : n ≤ 5) (q : Nat) : q ∈ setL (2 ^ n - 1) ↔ q < n := by
  rw [mem_setL]
  constructor
  · rintro ⟨a, b⟩; rw [full_bits n hn q a] at b; simpa using b
  · intro h; exact ⟨by omega, by rw [full_bits n hn q (by omega)]; simpa using h⟩
theorem Ok.part1 {P : List S48} {Q : List S50} (h : Ok P Q) (p : Nat) (hp : p < Q.length) : 1 ≤ (Q.getD p z50).f0 := (h.shape _ (by rw [show Q.getD p z50 = Q[p] from by simp [hp]]; exact List.getElem_mem hp)).1
theorem lt32 {n s : Nat} (hn : n ≤ 5) (hs : s < 2 ^ n) : s < 32 := Nat.lt_of_lt_of_le hs (Nat.pow_le_pow_right (by omega : 0 < 2) hn)
theorem Ok.cut {P : List S48} {Q : List S50} (h : Ok P Q) (t : Nat) (s : Nat) (hs : s < 2 ^ Q.length) : cutB P Q (setL t) s = true ↔ ∃ a pos, Cuts P Q (setL t) (· ∈ setL s) a pos :=
  cut_iff h.part1 (setL t) (setL_nodup t) s (lt32 h.q5 hs) (fun p hp => setL_lt hs hp)
theorem setL_le : ∀ n, n ≤ 5 → ∀ s, s < 2 ^ n → (setL s).length ≤ n := by decide
def pick {α : Type} (z : α) (L : List α) (u : Nat) : List α := (setL u).map fun i => L.getD i z
theorem pick_length {α : Type} (z : α) (L : List α) (u : Nat) : (pick z L u).length = (setL u).length := by simp [pick]
theorem pick_getD {α : Type} (z : α) (L : List α) (u : Nat) {i : Nat} (hi : i < (setL u).length) : (pick z L u).getD i z = L.getD ((setL u).getD i 0) z := by simp [pick, hi]
theorem pick_mem {α : Type} {z : α} {L : List α} {u : Nat} (hu : ∀ i ∈ setL u, i < L.length) {x : α} (hx : x ∈ pick z L u) : x ∈ L := by
  unfold pick at hx
  obtain ⟨i, hi, rfl⟩ := List.mem_map.1 hx
  have := hu i hi
  rw [show L.getD i z = L[i] from by simp [this]]
  exact List.getElem_mem _
theorem Ok.pick {P : List S48} {Q : List S50} (h : Ok P Q) {u v : Nat} (hu : u < 2 ^ P.length) (hv : v < 2 ^ Q.length) : Ok (pick z48 P u) (pick z50 Q v) := by
  have h3 := h.p3; have h5 := h.q5
  refine ⟨?_, ?_, fun y hy => h.wood y (pick_mem (fun i hi => setL_lt hu hi) hy), fun x hx => h.shape x (pick_mem (fun i hi => setL_lt hv hi) hx)⟩
  · rw [pick_length]; have := setL_le P.length (by omega) u hu; omega
  · rw [pick_length]; have := setL_le Q.length h5 v hv; omega
theorem getD_mem0 {l : List Nat} {i : Nat} (hi : i < l.length) : l.getD i 0 ∈ l := by rw [show l.getD i 0 = l[i] from by simp [hi]]; exact List.getElem_mem _
theorem idx_lt {l : List Nat} {p : Nat} (hp : p ∈ l) : l.idxOf p < l.length := List.idxOf_lt_length_iff.2 hp
theorem getD_idx {l : List Nat} {p : Nat} (hp : p ∈ l) : l.getD (l.idxOf p) 0 = p := by
  have h := idx_lt hp
  rw [show l.getD (l.idxOf p) 0 = l[l.idxOf p] from by simp [h]]
  exact List.getElem_idxOf h
theorem idx_getD {l : List Nat} (hn : l.Nodup) {i : Nat} (hi : i < l.length) : l.idxOf (l.getD i 0) = i := by
  rw [show l.getD i 0 = l[i] from by simp [hi]]
  exact List.Nodup.idxOf_getElem hn i hi
theorem cut_pick {P : List S48} {Q : List S50} (h : Ok P Q) {u v : Nat} (hu : u < 2 ^ P.length) (hv : v < 2 ^ Q.length) :
    cutB (pick z48 P u) (pick z50 Q v) (setL (2 ^ (pick z48 P u).length - 1)) (2 ^ (pick z50 Q v).length - 1) = cutB P Q (setL u) v := by
  have hok := h.pick hu hv
  have h3 : (setL u).length ≤ 5 := by have := hok.p3; rw [pick_length] at this; omega
  have h5 : (setL v).length ≤ 5 := by have := hok.q5; rwa [pick_length] at this
  have hpow : 0 < 2 ^ (pick z50 Q v).length := Nat.pos_of_ne_zero (by simp)
  rw [Bool.eq_iff_iff, hok.cut _ _ (by omega), h.cut _ _ hv, pick_length, pick_length]
  have hlen : ∀ i, i < (setL v).length → lenQ (pick z50 Q v) i = lenQ Q ((setL v).getD i 0) := fun i hi => by unfold lenQ; rw [pick_getD _ _ _ hi]
  have hun := setL_nodup u; have hvn := setL_nodup v
  constructor
  · rintro ⟨a, pos, h1, h2⟩
    refine ⟨fun p => (setL u).getD (a ((setL v).idxOf p)) 0, fun p => pos ((setL v).idxOf p), fun p hp => ?_, fun p q hp hq hne he => ?_⟩
    · have hi := idx_lt hp
      obtain ⟨h3', h4⟩ := h1 _ ((mem_full h5 _).2 hi); have hj := (mem_full h3 _).1 h3'; rw [pick_getD _ _ _ hj, pick_getD _ _ _ hi, getD_idx hp] at h4
      exact ⟨getD_mem0 hj, h4⟩
    · have hi := idx_lt hp
      have hi' := idx_lt hq; have hj := (mem_full h3 _).1 (h1 _ ((mem_full h5 _).2 hi)).1; have hj' := (mem_full h3 _).1 (h1 _ ((mem_full h5 _).2 hi')).1
      have e : a ((setL v).idxOf p) = a ((setL v).idxOf q) := by
        have := congrArg (setL u).idxOf he
        simp only at this
        rwa [idx_getD hun hj, idx_getD hun hj'] at this
      have hne' : (setL v).idxOf p ≠ (setL v).idxOf q := fun e' => hne (by rw [← getD_idx hp, ← getD_idx hq, e'])
      have := h2 _ _ ((mem_full h5 _).2 hi) ((mem_full h5 _).2 hi') hne' e
      unfold Apart at this ⊢
      rwa [hlen _ hi, hlen _ hi', getD_idx hp, getD_idx hq] at this
  · rintro ⟨a, pos, h1, h2⟩
    refine ⟨fun i => (setL u).idxOf (a ((setL v).getD i 0)), fun i => pos ((setL v).getD i 0), fun i hi => ?_, fun i j hi hj hne he => ?_⟩
    · have hi := (mem_full h5 _).1 hi
      obtain ⟨h3', h4⟩ := h1 _ (getD_mem0 hi); have hk := idx_lt h3'
      refine ⟨(mem_full h3 _).2 hk, ?_⟩
      rw [pick_getD _ _ _ hk, pick_getD _ _ _ hi, getD_idx h3']
      exact h4
    · have hi := (mem_full h5 _).1 hi
      have hj := (mem_full h5 _).1 hj; have hk := (h1 _ (getD_mem0 hi)).1; have hk' := (h1 _ (getD_mem0 hj)).1
      have hne' : (setL v).getD i 0 ≠ (setL v).getD j 0 := fun e => hne (by rw [← idx_getD hvn hi, ← idx_getD hvn hj, e])
      have e : a ((setL v).getD i 0) = a ((setL v).getD j 0) := by
        have := congrArg (fun k => (setL u).getD k 0) he
        simp only at this
        rwa [getD_idx hk, getD_idx hk'] at this
      have := h2 _ _ (getD_mem0 hi) (getD_mem0 hj) hne' e
      unfold Apart at this ⊢
      rwa [hlen _ hi, hlen _ hj]
end Go.Proofs.YtekjlpldooihhaaDoorP
namespace Go.Proofs.YtekjlpldooihhaaDoor.PR
open Go.RowKit Go.Proofs.YtekjlpldooihhaaDoorW.PrintWords Go.Proofs.YtekjlpldooihhaaDoorEv Go.Proofs.YtekjlpldooihhaaDoorP Go.Proofs.YtekjlpldooihhaaDoor.PT Go.Proofs.YtekjlpldooihhaaDoorH
set_option linter.unusedVariables false
set_option linter.unusedSimpArgs false
theorem rd_at (l : List Int) (j : Nat) : rd l (j : Int) = l.getD j 0 := rfl
theorem filter_next_yes {p : Nat → Bool} {k : Nat} (h : p k = true) : (List.range (k + 1)).filter p = (List.range k).filter p ++ [k] := by
  rw [List.range_succ, List.filter_append]; simp [h]
theorem filter_next_no {p : Nat → Bool} {k : Nat} (h : p k = false) : (List.range (k + 1)).filter p = (List.range k).filter p := by
  rw [List.range_succ, List.filter_append]; simp [h]
theorem In_f (a b c : Int) : skewbaldref00_In.f a b c = some (decide (b ≤ a) && decide (a ≤ c)) := by
  unfold skewbaldref00_In.f
  by_cases h : b ≤ a <;> simp [h]
theorem Equal_l0 (x y : List Int) (hxy : x.length = y.length) (hs : x.length < 9223372036854775808) : ∀ (d j : Nat) (b : Bool), j + d = x.length →
    Evt (fun k => skewbaldref00_Equal.l0 k x y b (j : Int)) (b && decide (x.drop j = y.drop j))
  | d, j, false, hj => by
    refine Evt.succ ?_
    simp only [skewbaldref00_Equal.l0]
    exact Evt.neg (by simp) (by simpa using Evt.pure false)
  | 0, j, true, hj => by
    refine Evt.succ ?_
    simp only [skewbaldref00_Equal.l0]
    rw [List.drop_eq_nil_of_le (by omega), List.drop_eq_nil_of_le (by omega)]
    exact Evt.pos (by first | rfl | trivial) (Evt.neg (by omega) (by simpa using Evt.pure true))
  | d + 1, j, true, hj => by
    refine Evt.succ ?_
    simp only [skewbaldref00_Equal.l0]
    have h1 : x.drop j = x[j] :: x.drop (j + 1) := List.drop_eq_getElem_cons (by omega)
    have h2 : y.drop j = y[j] :: y.drop (j + 1) := List.drop_eq_getElem_cons (by omega)
    have g1 : rd x (j : Int) = x[j] := by rw [rd_at]; simp [show j < x.length by omega]
    have g2 : rd y (j : Int) = y[j] := by rw [rd_at]; simp [show j < y.length by omega]
    refine Evt.pos (by first | rfl | trivial) (Evt.pos (by omega) (Evt.pos (by omega) (Evt.pos (by omega) ?_)))
    rw [g1, g2, h1, h2, w64 j (by omega)]
    refine (Equal_l0 x y hxy hs d (j + 1) _ (by omega)).of_eq ?_
    rw [Bool.eq_iff_iff]
    simp only [Bool.and_eq_true, beq_iff_eq, decide_eq_true_eq, List.cons.injEq, Bool.true_and]
theorem Equal_f (x y : List Int) (hs : x.length < 9223372036854775808) : Evt (fun k => skewbaldref00_Equal.f k x y) (decide (x = y)) := by
  unfold skewbaldref00_Equal.f
  by_cases h : x.length = y.length
  · have hb : ((x.length : Int) == (y.length : Int)) = true := by simp [h]
    rw [hb]
    refine (Equal_l0 x y h hs x.length 0 true (by omega)).of_eq ?_
    simp
  · have hb : ((x.length : Int) == (y.length : Int)) = false := by simp; omega
    rw [hb]
    refine Evt.succ ?_
    simp only [skewbaldref00_Equal.l0]
    refine Evt.neg (by simp) ?_
    have : decide (x = y) = false := decide_eq_false (fun e => h (by rw [e]))
    rw [this]
    exact Evt.pure _
theorem Of_f (s i : Nat) (hs : s < 256) (hi : i < 64) : skewbaldref00_Of.f (s : Int) (i : Int) = some (bitB s i) := by
  unfold skewbaldref00_Of.f
  rw [if_pos (by omega)]
  congr 1
  have : shr .i64 (s : Int) (i : Int) = (s : Int) / 2 ^ i := by
    unfold shr
    rw [show min (i : Int).toNat (IntKind.i64).bits = i by simp [IntKind.bits]; omega]
  rw [this]
  exact Go.Proofs.YtekjlpldooihhaaDoorH.bit_at s i hs
def sizesL (s n : Nat) : List Nat := (List.range n).filter (bitB s)
theorem List_l0 (s n : Nat) (hs : s < 256) (hn : n < 64) : ∀ (d j : Nat), j + d = n →
    Evt (fun k => skewbaldref00_List.l0 k (s : Int) (n : Int) (ints ((List.range j).filter (bitB s))) (j : Int)) (ints ((List.range n).filter (bitB s)))
  | 0, j, hj => by
    refine Evt.succ ?_
    simp only [skewbaldref00_List.l0]
    refine Evt.neg (by omega) ?_
    obtain rfl : j = n := by omega
    exact Evt.pure _
  | d + 1, j, hj => by
    refine Evt.succ ?_
    simp only [skewbaldref00_List.l0]
    refine Evt.pos (by omega) ?_
    rw [Of_f s j hs (by omega), w64 j (by omega)]
    simp only [Option.bind_some]
    have ih := List_l0 s n hs hn d (j + 1) (by omega)
    cases hc : bitB s j with
    | true =>
      rw [filter_next_yes hc, ints_append] at ih
      have hl : (ints ((List.range j).filter (bitB s))).length ≤ j := by
        rw [ints_length]
        have := List.length_filter_le (bitB s) (List.range j)
        rwa [List.length_range] at this
      exact Evt.pos rfl (Evt.pos (by omega) ih)
    | false =>
      rw [filter_next_no hc] at ih
      exact Evt.neg (by simp) ih
theorem List_f (s n : Nat) (hs : s < 256) (hn : n < 64) : Evt (fun k => skewbaldref00_List.f k (s : Int) (n : Int)) (ints (sizesL s n)) := by
  unfold skewbaldref00_List.f
  exact List_l0 s n hs hn n 0 (by omega)
theorem tmod_cases (n m : Int) (hm : 0 < m) : (0 ≤ Int.tmod n m ∧ Int.tmod n m = n % m) ∨ (Int.tmod n m < 0 ∧ -m < Int.tmod n m ∧ Int.tmod n m + m = n % m) := by
  have h := Int.mul_tdiv_add_tmod n m
  have h1 : Int.tmod n m < m := Int.tmod_lt_of_pos n hm
  have h2 : -m < Int.tmod n m := Int.lt_tmod_of_pos n hm
  generalize Int.tmod n m = r at *
  generalize Int.tdiv n m = q at *
  subst h
  rw [Int.add_comm, Int.add_mul_emod_self_left]
  by_cases h0 : 0 ≤ r
  · exact .inl ⟨h0, (Int.emod_eq_of_lt h0 h1).symm⟩
  · refine .inr ⟨by omega, h2, ?_⟩
    rw [← Int.add_emod_right, Int.emod_eq_of_lt (by omega) (by omega)]
theorem Round_f (n : Int) (m : Nat) (h1 : 1 ≤ m) (h2 : m < 9223372036854775808) : skewbaldref00_Round.f n (m : Int) = some (n % (m : Int)) := by
  unfold skewbaldref00_Round.f
  rw [if_neg (by omega), if_neg (by omega)]
  rcases tmod_cases n m (by omega) with ⟨a, b⟩ | ⟨a, b, c⟩
  · rw [if_neg (by omega), b]
  · rw [if_pos a, ← c]
    congr 1
    unfold wrap64
    omega
theorem Round_nat (n : Int) (m : Nat) (h1 : 1 ≤ m) (h2 : m < 9223372036854775808) : ∃ t : Nat, t < m ∧ skewbaldref00_Round.f n (m : Int) = some (t : Int) := by
  have h0 := Int.emod_nonneg n (show (m : Int) ≠ 0 by omega)
  have h3 := Int.emod_lt_of_pos n (show (0 : Int) < m by omega)
  refine ⟨(n % (m : Int)).toNat, by omega, ?_⟩
  rw [Round_f n m h1 h2]
  congr 1
  omega
def takeD (l : List Int) (n : Int) : Int := if l = [] then 0 else rd l (n % (l.length : Int))
theorem Take_f (l : List Int) (n : Int) (hl : l.length < 9223372036854775808) : skewbaldref00_Take.f l n = some (takeD l n) := by
  unfold skewbaldref00_Take.f takeD
  cases l with
  | nil => rfl
  | cons a l =>
    rw [if_neg (by simp only [List.length_cons]; omega), if_neg (List.cons_ne_nil a l), Round_f n (a :: l).length (by simp) hl]
    have h0 := Int.emod_nonneg n (show (((a :: l).length : Nat) : Int) ≠ 0 by simp only [List.length_cons]; omega)
    have h3 := Int.emod_lt_of_pos n (show (0 : Int) < (((a :: l).length : Nat) : Int) by simp only [List.length_cons]; omega)
    simp only [Option.bind_some]
    rw [if_pos h0, if_pos h3]
def growsB (b : Int) : Int → List Int → Bool
  | _, [] => true
  | last, x :: xs => (decide (last < x) && decide (x < b)) && growsB b x xs
theorem Grows_l0 (l : List Int) (hl : l.length < 9223372036854775808) (b : Int) : ∀ (d j : Nat) (last : Int), j + d = l.length →
    Evt (fun k => skewbaldref00_Grows.l0 k l b last (j : Int)) (growsB b last (l.drop j))
  | 0, j, last, hj => by
    refine Evt.succ ?_
    simp only [skewbaldref00_Grows.l0]
    rw [List.drop_eq_nil_of_le (by omega)]
    exact Evt.neg (by omega) (Evt.pure _)
  | d + 1, j, last, hj => by
    refine Evt.succ ?_
    simp only [skewbaldref00_Grows.l0]
    have h1 : l.drop j = l[j] :: l.drop (j + 1) := List.drop_eq_getElem_cons (by omega)
    have g1 : rd l (j : Int) = l[j] := by rw [rd_at]; simp [show j < l.length by omega]
    rw [h1, g1, w64 j (by omega)]
    refine Evt.pos (by omega) (Evt.pos (by omega) ?_)
    unfold growsB
    refine Evt.ite (fun h => ?_) (fun h => Evt.ite (fun h2 => ?_) (fun h2 => ?_))
    · rw [show decide (last < l[j]) = false by simp; omega]; exact Evt.pure false
    · rw [show decide (l[j] < b) = false by simp; omega, Bool.and_false]; exact Evt.pure false
    · rw [show decide (last < l[j]) = true by simp; omega, show decide (l[j] < b) = true by simp; omega]
      exact Grows_l0 l hl b d (j + 1) _ (by omega)
theorem Grows_f (l : List Int) (hl : l.length < 9223372036854775808) (b : Int) : Evt (fun k => skewbaldref00_Grows.f k l b) (growsB b (-1) l) := by
  unfold skewbaldref00_Grows.f
  exact Grows_l0 l hl b l.length 0 (-1) (by omega)
def findD (l : List Int) (x : Int) : Int := if x ∈ l then (l.idxOf x : Int) else -1
theorem findD_nonneg (l : List Int) (x : Int) : findD l x ≥ 0 ↔ x ∈ l := by
  unfold findD
  by_cases h : x ∈ l <;> simp [h]
theorem Find_l0 (l : List Int) (hl : l.length < 9223372036854775807) (x : Int) : ∀ (d j : Nat), j + d = l.length →
    Evt (fun k => skewbaldref00_Find.l0 k l x (j : Int)) (if x ∈ l.drop j then ((j + (l.drop j).idxOf x : Nat) : Int) else -1)
  | 0, j, hj => by
    refine Evt.succ ?_
    simp only [skewbaldref00_Find.l0]
    rw [List.drop_eq_nil_of_le (by omega)]
    exact Evt.neg (by omega) (by simpa using Evt.pure (-1 : Int))
  | d + 1, j, hj => by
    refine Evt.succ ?_
    simp only [skewbaldref00_Find.l0]
    have h1 : l.drop j = l[j] :: l.drop (j + 1) := List.drop_eq_getElem_cons (by omega)
    have g1 : rd l (j : Int) = l[j] := by rw [rd_at]; simp [show j < l.length by omega]
    rw [h1, g1, w64 j (by omega)]
    refine Evt.pos (by omega) (Evt.pos (by omega) (Evt.ite (fun h => ?_) (fun h => ?_)))
    · subst h
      rw [if_pos (List.mem_cons_self ..), List.idxOf_cons_self]
      exact Evt.pure _
    · refine (Find_l0 l hl x d (j + 1) (by omega)).of_eq ?_
      rw [show (l[j] :: l.drop (j + 1)).idxOf x = (l.drop (j + 1)).idxOf x + 1 from by rw [List.idxOf_cons, show (l[j] == x) = false from beq_eq_false_iff_ne.2 h]; rfl]
      have : x ∈ l[j] :: l.drop (j + 1) ↔ x ∈ l.drop (j + 1) := by
        rw [List.mem_cons]
        constructor
        · rintro (rfl | h2)
          · exact absurd rfl h
          · exact h2
        · exact .inr
      by_cases hm : x ∈ l.drop (j + 1)
      · rw [if_pos hm, if_pos (this.2 hm)]
        congr 1
        omega
      · rw [if_neg hm, if_neg (fun h3 => hm (this.1 h3))]
theorem Find_f (l : List Int) (hl : l.length < 9223372036854775807) (x : Int) : Evt (fun k => skewbaldref00_Find.f k l x) (findD l x) := by
  unfold skewbaldref00_Find.f
  exact (Find_l0 l hl x l.length 0 (by omega)).of_eq (by unfold findD; simp)
def lessB : List Int → List Int → Bool
  | [], [] => false
  | [], _ :: _ => true
  | _ :: _, [] => false
  | a :: l, b :: m => if a = b then lessB l m else decide (a < b)
theorem lessB_cons (a b : Int) (l m : List Int) : lessB (a :: l) (b :: m) = if a = b then lessB l m else decide (a < b) := rfl
theorem Less_l0 (x y : List Int) (hx : x.length < 9223372036854775807) (hy : y.length < 9223372036854775807) : ∀ (d j : Nat), j + d = x.length → j ≤ y.length →
    Evt (fun k => skewbaldref00_Less.l0 k x y (j : Int)) (lessB (x.drop j) (y.drop j))
  | 0, j, hj, hj2 => by
    refine Evt.succ ?_
    simp only [skewbaldref00_Less.l0]
    refine Evt.neg (by omega) (Evt.succ ?_)
    simp only [skewbaldref00_Less.j1]
    refine Evt.neg (by simp) ?_
    rw [List.drop_eq_nil_of_le (show x.length ≤ j by omega)]
    by_cases e : y.length = j
    · rw [List.drop_eq_nil_of_le (show y.length ≤ j by omega), decide_eq_false (show ¬ (x.length : Int) < (y.length : Int) by omega)]
      exact Evt.pure _
    · rw [List.drop_eq_getElem_cons (show j < y.length by omega), decide_eq_true (show (x.length : Int) < (y.length : Int) by omega)]
      exact Evt.pure _
  | d + 1, j, hj, hj2 => by
    refine Evt.succ ?_
    simp only [skewbaldref00_Less.l0]
    refine Evt.pos (by omega) (Evt.succ ?_)
    simp only [skewbaldref00_Less.j1]
    have h1 : x.drop j = x[j] :: x.drop (j + 1) := List.drop_eq_getElem_cons (by omega)
    by_cases e : y.length = j
    · refine Evt.neg (by rw [decide_eq_false (show ¬ (j : Int) < (y.length : Int) by omega)]; simp) ?_
      rw [h1, List.drop_eq_nil_of_le (show y.length ≤ j by omega), decide_eq_false (show ¬ (x.length : Int) < (y.length : Int) by omega)]
      exact Evt.pure _
    · have h2 : y.drop j = y[j] :: y.drop (j + 1) := List.drop_eq_getElem_cons (by omega)
      have g1 : rd x (j : Int) = x[j] := by rw [rd_at]; simp [show j < x.length by omega]
      have g2 : rd y (j : Int) = y[j] := by rw [rd_at]; simp [show j < y.length by omega]
      refine Evt.pos (by rw [decide_eq_true (show (j : Int) < (y.length : Int) by omega)]) (Evt.pos (by omega) (Evt.pos (by omega) (Evt.pos (by omega) ?_)))
      rw [g1, g2, h1, h2, w64 j (by omega), lessB_cons]
      by_cases h : x[j] = y[j]
      · rw [if_pos h]; exact Evt.pos h (Less_l0 x y hx hy d (j + 1) (by omega) (by omega))
      · rw [if_neg h]; exact Evt.neg h (Evt.pure _)
theorem Less_f (x y : List Int) (hx : x.length < 9223372036854775807) (hy : y.length < 9223372036854775807) : Evt (fun k => skewbaldref00_Less.f k x y) (lessB x y) := by
  unfold skewbaldref00_Less.f
  exact Less_l0 x y hx hy x.length 0 (by omega) (by omega)
def shorterB (l m : List Int) : Bool := if (l.length : Int) = (m.length : Int) then lessB l m else decide ((l.length : Int) < (m.length : Int))
theorem Shorter_f (x y : List Int) (hx : x.length < 9223372036854775807) (hy : y.length < 9223372036854775807) : Evt (fun k => skewbaldref00_Shorter.f k x y) (shorterB x y) := by
  unfold skewbaldref00_Shorter.f shorterB
  by_cases h : (x.length : Int) = (y.length : Int)
  · rw [if_pos h]; exact Evt.pos h (Evt.bind (Less_f x y hx hy) (Evt.pure _))
  · rw [if_neg h]; exact Evt.neg h (Evt.pure _)
end Go.Proofs.YtekjlpldooihhaaDoor.PR
namespace Go.Proofs.YtekjlpldooihhaaDoor.PR
open Go.RowKit Go.Proofs.YtekjlpldooihhaaDoorW.PrintWords Go.Proofs.YtekjlpldooihhaaDoorEv Go.Proofs.YtekjlpldooihhaaDoorP Go.Proofs.YtekjlpldooihhaaDoor.PT Go.Proofs.YtekjlpldooihhaaDoorH
open Go.Proofs.YtekjlpldooihhaaDoor.PA (S48 S50 S60 k48 k50 k60 z48 z50 z60 rd_T48 rd_T50 rd_T60)
set_option linter.unusedVariables false
set_option linter.unusedSimpArgs false
theorem Ordered_f (a b c d : Int) : skewbaldref00_Ordered.f a b c d = some (decide (c ≤ a) && (decide (a ≤ b) && decide (b ≤ d))) := by
  unfold skewbaldref00_Ordered.f
  by_cases h : c ≤ a <;> by_cases h2 : a ≤ b <;> simp [h, h2]
def chk (b : Bool) : Int := if b then 0 else 10
theorem grows_asc (L : Int) : ∀ (last : Int) (l : List Int), growsB L last l = ascB L last l
  | _, [] => rfl
  | last, n :: l => by
    unfold growsB ascB
    rw [grows_asc L n l]
    rw [show decide (last < n) = decide (last + 1 ≤ n) from by rw [decide_eq_decide]; omega, show decide (n < L) = decide (n ≤ L - 1) from by rw [decide_eq_decide]; omega]
theorem rd48 (P : List S48) (i : Nat) : rd_T48 P (i : Int) = P.getD i z48 := rfl
theorem rd50 (Q : List S50) (i : Nat) : rd_T50 Q (i : Int) = Q.getD i z50 := rfl
theorem rd60 (l : List S60) (i : Nat) : rd_T60 l (i : Int) = l.getD i z60 := rfl
theorem getD_el {α : Type} {l : List α} {z : α} {i : Nat} (h : i < l.length) : l.getD i z = l[i] := by simp [h]
theorem Check_l1 {P : List S48} {Q : List S50} {L : Int} {kn : List S60} (hkn : kn.length < 9223372036854775808) {i : Nat} (hi : i < 9223372036854775807) (r : Bool) (hc : ∀ b, Evt (fun k => skewbaldref01_Check.l0 k b ((i + 1 : Nat) : Int) P Q) (chk (b && r))) :
    ∀ (d j : Nat) (ok : Bool), j + d = kn.length → (ok = true → 1 ≤ L ∧ L ≤ 16) → Evt (fun k => skewbaldref01_Check.l1 k ok (i : Int) (j : Int) P Q L kn) (chk ((ok && (kn.drop j).all (knotB L)) && r))
  | d, j, false, hj, _ => by
    refine Evt.succ ?_
    simp only [skewbaldref01_Check.l1]
    refine Evt.neg (by simp) ?_
    rw [w64 i hi]
    simpa using hc false
  | 0, j, true, hj, _ => by
    refine Evt.succ ?_
    simp only [skewbaldref01_Check.l1]
    refine Evt.pos (by trivial) (Evt.neg (by omega) ?_)
    rw [w64 i hi, List.drop_eq_nil_of_le (by omega)]
    simpa using hc true
  | d + 1, j, true, hj, hL => by
    obtain ⟨h1, h16⟩ := hL rfl
    refine Evt.succ ?_
    simp only [skewbaldref01_Check.l1]
    refine Evt.pos (by trivial) (Evt.pos (by omega) (Evt.pos (by omega) ?_))
    have hd : kn.drop j = kn[j] :: kn.drop (j + 1) := List.drop_eq_getElem_cons (by omega)
    rw [rd60, getD_el (by omega : j < kn.length), w64 j (by omega), hd, List.all_cons]
    generalize kn[j] = s
    rw [Ordered_f, show wrap64 (L - 1) = L - 1 by unfold wrap64; omega]
    simp only [Option.bind_some]
    have ih := fun b => Check_l1 (L := L) hkn hi r hc d (j + 1) b (by omega)
    refine Evt.ite (fun h => ?_) (fun h => ?_)
    · simp only [Bool.and_eq_true, decide_eq_true_eq] at h
      have e : knotB L s = decide (wrap64 (s.f1 - s.f0) ≤ 6) := by
        unfold knotB
        rw [show wrap64 (s.f1 - s.f0) = s.f1 - s.f0 by unfold wrap64; omega, decide_eq_true (show 0 ≤ s.f0 from h.1), decide_eq_true (show s.f0 ≤ s.f1 from h.2.1), decide_eq_true (show s.f1 < L by omega)]
        simp
      rw [e]
      simpa using ih (decide (wrap64 (s.f1 - s.f0) ≤ 6)) (fun _ => ⟨h1, h16⟩)
    · have e : knotB L s = false := by
        simp only [Bool.and_eq_true, decide_eq_true_eq, not_and] at h
        unfold knotB
        rw [Bool.eq_false_iff]
        intro h2
        simp only [Bool.and_eq_true, decide_eq_true_eq] at h2
        exact h h2.1 h2.2.1 (by omega)
      rw [e]
      simpa using ih false (fun h => by cases h)
theorem Check_l2 {P : List S48} {Q : List S50} (hQ : Q.length < 9223372036854775808) (hq : ∀ x ∈ Q, x.f1.length < 9223372036854775808) : ∀ (d j : Nat) (ok : Bool), j + d = Q.length →
    Evt (fun k => skewbaldref01_Check.l2 k ok (j : Int) P Q) (chk (ok && (Q.drop j).all shapeB))
  | d, j, false, hj => by
    refine Evt.succ ?_
    simp only [skewbaldref01_Check.l2]
    refine Evt.neg (by simp) (Evt.succ ?_)
    simp only [skewbaldref01_Check.j6]
    exact Evt.neg (by simp) (Evt.neg (by simp) (by simpa [chk] using Evt.pure (10 : Int)))
  | 0, j, true, hj => by
    refine Evt.succ ?_
    simp only [skewbaldref01_Check.l2]
    refine Evt.pos (by trivial) (Evt.succ ?_)
    simp only [skewbaldref01_Check.j6]
    rw [List.drop_eq_nil_of_le (by omega), decide_eq_false (show ¬ (j : Int) < (Q.length : Int) by omega)]
    exact Evt.neg (by simp) (Evt.pos (by trivial) (by simpa [chk] using Evt.pure (0 : Int)))
  | d + 1, j, true, hj => by
    refine Evt.succ ?_
    simp only [skewbaldref01_Check.l2]
    refine Evt.pos (by trivial) (Evt.succ ?_)
    simp only [skewbaldref01_Check.j6]
    rw [decide_eq_true (show (j : Int) < (Q.length : Int) by omega)]
    refine Evt.pos (by trivial) (Evt.pos (by omega) (Evt.pos (by omega) ?_))
    have hd : Q.drop j = Q[j] :: Q.drop (j + 1) := List.drop_eq_getElem_cons (by omega)
    have hx := hq Q[j] (List.getElem_mem _)
    rw [rd50, getD_el (by omega : j < Q.length), w64 j (by omega), hd, List.all_cons]
    generalize Q[j] = x at hx
    rw [In_f]
    simp only [Option.bind_some]
    have ih := fun b => Check_l2 (P := P) hQ hq d (j + 1) b (by omega)
    refine Evt.ite (fun h => Evt.ite (fun h3 => ?_) (fun h3 => ?_)) (fun h => ?_)
    · refine Evt.bind (Grows_f x.f1 (by omega) x.f0) ?_
      have e : shapeB x = growsB x.f0 (-1) x.f1 := by
        unfold shapeB
        rw [h, grows_asc, decide_eq_true (show x.f1.length ≤ 3 by omega)]
        simp
      rw [e]
      simpa using ih (growsB x.f0 (-1) x.f1)
    · have e : shapeB x = false := by
        unfold shapeB
        rw [decide_eq_false (show ¬ x.f1.length ≤ 3 by omega)]
        simp
      rw [e]
      simpa using ih false
    · have e : shapeB x = false := by
        unfold shapeB
        rw [show (decide (1 ≤ x.f0) && decide (x.f0 ≤ 12)) = false by simpa using h]
        simp
      rw [e]
      simpa using ih false
theorem Check_l0 {P : List S48} {Q : List S50} (hP : P.length < 9223372036854775808) (hp : ∀ y ∈ P, y.f1.length < 9223372036854775808) (hQ : Q.length < 9223372036854775808) (hq : ∀ x ∈ Q, x.f1.length < 9223372036854775808) : ∀ (d i : Nat) (ok : Bool), i + d = P.length →
    Evt (fun k => skewbaldref01_Check.l0 k ok (i : Int) P Q) (chk (ok && ((P.drop i).all woodB && Q.all shapeB)))
  | d, i, false, hj => by
    refine Evt.succ ?_
    simp only [skewbaldref01_Check.l0]
    refine Evt.neg (by simp) (Evt.succ ?_)
    simp only [skewbaldref01_Check.j2]
    refine Evt.neg (by simp) ?_
    simpa using Check_l2 (P := P) hQ hq Q.length 0 false (by omega)
  | 0, i, true, hj => by
    refine Evt.succ ?_
    simp only [skewbaldref01_Check.l0]
    refine Evt.pos (by trivial) (Evt.succ ?_)
    simp only [skewbaldref01_Check.j2]
    rw [List.drop_eq_nil_of_le (by omega), decide_eq_false (show ¬ (i : Int) < (P.length : Int) by omega)]
    refine Evt.neg (by simp) ?_
    simpa using Check_l2 (P := P) hQ hq Q.length 0 true (by omega)
  | d + 1, i, true, hj => by
    refine Evt.succ ?_
    simp only [skewbaldref01_Check.l0]
    refine Evt.pos (by trivial) (Evt.succ ?_)
    simp only [skewbaldref01_Check.j2]
    rw [decide_eq_true (show (i : Int) < (P.length : Int) by omega)]
    refine Evt.pos (by trivial) (Evt.pos (by omega) (Evt.pos (by omega) ?_))
    have hd : P.drop i = P[i] :: P.drop (i + 1) := List.drop_eq_getElem_cons (by omega)
    have hx := hp P[i] (List.getElem_mem _)
    rw [rd48, getD_el (by omega : i < P.length), hd, List.all_cons]
    generalize P[i] = y at hx
    rw [In_f]
    simp only [Option.bind_some]
    have hc := fun b => Check_l0 hP hp hQ hq d (i + 1) b (by omega)
    have key := fun ok hL => Check_l1 (L := y.f0) hx (show i < 9223372036854775807 by omega) _ hc y.f1.length 0 ok (by omega) hL
    refine Evt.ite (fun h => Evt.succ ?_) (fun h => Evt.succ ?_)
    · simp only [skewbaldref01_Check.j3]
      have h' := h
      simp only [Bool.and_eq_true, decide_eq_true_eq] at h'
      refine (key _ (fun _ => h')).of_eq ?_
      unfold woodB
      rw [h, show decide ((y.f1.length : Int) ≤ 3) = decide (y.f1.length ≤ 3) from by rw [decide_eq_decide]; omega]
      simp [Bool.and_assoc]
    · simp only [skewbaldref01_Check.j3]
      refine (key false (fun h => by cases h)).of_eq ?_
      unfold woodB
      rw [show (decide (1 ≤ y.f0) && decide (y.f0 ≤ 16)) = false by simpa using h]
      simp
theorem Check_f {P : List S48} {Q : List S50} (hP : P.length < 9223372036854775808) (hp : ∀ y ∈ P, y.f1.length < 9223372036854775808) (hQ : Q.length < 9223372036854775808) (hq : ∀ x ∈ Q, x.f1.length < 9223372036854775808) :
    Evt (fun k => skewbaldref01_Check.f k P Q) (checkP P Q) := by
  have e : checkP P Q = chk (validB P Q) := rfl
  rw [e]
  unfold skewbaldref01_Check.f validB
  have key := fun ok => Check_l0 hP hp hQ hq P.length 0 ok (by omega)
  have e1 : (decide ((1 : Int) ≤ (P.length : Int)) && decide ((P.length : Int) ≤ 3)) = (decide (1 ≤ P.length) && decide (P.length ≤ 3)) := by congr 1 <;> (rw [decide_eq_decide]; omega)
  have e2 : (decide ((1 : Int) ≤ (Q.length : Int)) && decide ((Q.length : Int) ≤ 5)) = (decide (1 ≤ Q.length) && decide (Q.length ≤ 5)) := by congr 1 <;> (rw [decide_eq_decide]; omega)
  rw [In_f, In_f, e1, e2]
  simp only [Option.bind_some]
  refine Evt.ite (fun h => Evt.succ ?_) (fun h => Evt.succ ?_)
  · simp only [skewbaldref01_Check.j0]
    refine (key _).of_eq ?_
    rw [h]
    simp
  · simp only [skewbaldref01_Check.j0]
    refine (key false).of_eq ?_
    rw [show (decide (1 ≤ P.length) && decide (P.length ≤ 3)) = false by simpa using h]
    simp
def jL (x : S50) (a : Nat) (t : Bool) : List Int := x.f1.map fun n => (a : Int) + (if t then x.f0 - 1 - n else n)
structure PartOk (x : S50) : Prop where
  one : 1 ≤ x.f0
  big : x.f0 ≤ 12
  few : x.f1.length ≤ 3
  joint : ∀ n ∈ x.f1, 0 ≤ n ∧ n < x.f0
theorem Ok.partOk {P : List S48} {Q : List S50} (h : Ok P Q) {p : Nat} (hp : p < Q.length) : PartOk (Q.getD p z50) := by
  obtain ⟨a, b, c, d⟩ := h.shape (Q.getD p z50) (by rw [show Q.getD p z50 = Q[p] from by simp [hp]]; exact List.getElem_mem hp)
  exact ⟨a, b, c, d⟩
structure PlankOk (y : S48) : Prop where
  one : 1 ≤ y.f0
  big : y.f0 ≤ 16
  few : y.f1.length ≤ 3
  knot : ∀ s ∈ y.f1, 0 ≤ s.f0 ∧ s.f0 ≤ s.f1 ∧ s.f1 < 16
theorem Ok.plankOk {P : List S48} {Q : List S50} (h : Ok P Q) {p : Nat} (hp : p < P.length) : PlankOk (P.getD p z48) := by
  obtain ⟨a, b, c⟩ := h.wood (P.getD p z48) (by rw [show P.getD p z48 = P[p] from by simp [hp]]; exact List.getElem_mem hp)
  exact ⟨a, b, c.few, c.knot⟩
theorem jL_len (x : S50) (a : Nat) (t : Bool) : (jL x a t).length = x.f1.length := by simp [jL]
def hitL (l : List Int) (n : Nat) : Bool := decide ((n : Int) ∈ l)
def kfree (l : List Int) (s : S60) : Bool := (kin s.f0.toNat s.f1.toNat).all fun n => !hitL l n
def kmay (l : List Int) (s : S60) : Bool := (kin s.f0.toNat s.f1.toNat).any fun n => !hitL l n
theorem hit_jset {x : S50} (hx : PartOk x) (a : Nat) (t : Bool) (i : Nat) : hitL (jL x a t) i = jset x a t i := by
  unfold hitL jL jset jsetK
  rw [Bool.eq_iff_iff, decide_eq_true_eq, List.mem_map, List.any_eq_true]
  constructor
  · rintro ⟨n, hn, e⟩
    refine ⟨n, hn, ?_⟩
    rw [decide_eq_true_eq]
    unfold jAt
    omega
  · rintro ⟨n, hn, e⟩
    rw [decide_eq_true_eq] at e
    obtain ⟨h0, h1⟩ := hx.joint n hn
    refine ⟨n, hn, ?_⟩
    unfold jAt at e
    cases t <;> simp at e ⊢ <;> omega
theorem mem_kin {lo hi n : Nat} : n ∈ kin lo hi ↔ lo ≤ n ∧ n ≤ hi := by
  unfold kin; rw [List.mem_range'_1]; omega
theorem sound_sure {y : S48} (hy : PlankOk y) {x : S50} (hx : PartOk x) (a : Nat) (t : Bool) : soundB y x a t kcanB = y.f1.all (kfree (jL x a t)) := by
  unfold soundB
  rw [Bool.eq_iff_iff, Bool.or_eq_true, List.all_eq_true, List.all_eq_true, List.all_eq_true]
  constructor
  · rintro (h | h) s hs
    · unfold kfree
      rw [List.all_eq_true]
      intro n hn
      rw [mem_kin] at hn
      have := hy.knot s hs
      have := h n (by rw [List.mem_range]; omega)
      rw [hit_jset hx, beq_iff_eq.1 this]; rfl
    · have := h s hs
      unfold kcanB at this
      rw [Bool.not_eq_true', List.any_eq_false] at this
      unfold kfree
      rw [List.all_eq_true]
      intro n hn
      rw [hit_jset hx, Bool.not_eq_true']
      simpa using this n hn
  · intro h
    right
    intro s hs
    have := h s hs
    unfold kfree at this
    rw [List.all_eq_true] at this
    unfold kcanB
    rw [Bool.not_eq_true', List.any_eq_false]
    intro n hn
    have := this n hn
    rw [hit_jset hx, Bool.not_eq_true'] at this
    simp [this]
theorem sound_may {y : S48} (hy : PlankOk y) {x : S50} (hx : PartOk x) (a : Nat) (t : Bool) : soundB y x a t kmustB = y.f1.all (kmay (jL x a t)) := by
  unfold soundB
  rw [Bool.eq_iff_iff, Bool.or_eq_true, List.all_eq_true, List.all_eq_true, List.all_eq_true]
  constructor
  · rintro (h | h) s hs
    · unfold kmay
      rw [List.any_eq_true]
      have := hy.knot s hs
      refine ⟨s.f0.toNat, mem_kin.2 ⟨Nat.le_refl _, by omega⟩, ?_⟩
      have := h s.f0.toNat (by rw [List.mem_range]; omega)
      rw [hit_jset hx, beq_iff_eq.1 this]; rfl
    · have := h s hs
      unfold kmustB at this
      rw [Bool.not_eq_true', List.all_eq_false] at this
      obtain ⟨n, hn, h2⟩ := this
      unfold kmay
      rw [List.any_eq_true]
      exact ⟨n, hn, by rw [hit_jset hx]; simpa using h2⟩
  · intro h
    right
    intro s hs
    have := h s hs
    unfold kmay at this
    rw [List.any_eq_true] at this
    obtain ⟨n, hn, h2⟩ := this
    unfold kmustB
    rw [Bool.not_eq_true', List.all_eq_false]
    exact ⟨n, hn, by rw [hit_jset hx] at h2; simpa using h2⟩
end Go.Proofs.YtekjlpldooihhaaDoor.PR
namespace Go.Proofs.YtekjlpldooihhaaDoor.PR
open Go.RowKit Go.Proofs.YtekjlpldooihhaaDoorW.PrintWords Go.Proofs.YtekjlpldooihhaaDoorEv Go.Proofs.YtekjlpldooihhaaDoorP Go.Proofs.YtekjlpldooihhaaDoor.PT Go.Proofs.YtekjlpldooihhaaDoorH Go.Proofs.YtekjlpldooihhaaDoorK
open Go.Proofs.YtekjlpldooihhaaDoor.PA (S48 S50 S60 k48 k50 k60 z48 z50 z60 rd_T48 rd_T50 rd_T60)
set_option linter.unusedVariables false
set_option linter.unusedSimpArgs false
structure Short (P : List S48) (Q : List S50) : Prop where
  p : P.length < 9223372036854775808
  q : Q.length < 9223372036854775808
  kn : ∀ y ∈ P, y.f1.length < 9223372036854775808
  jo : ∀ x ∈ Q, x.f1.length < 9223372036854775808
theorem Short.check {P : List S48} {Q : List S50} (h : Short P Q) : Evt (fun k => skewbaldref01_Check.f k P Q) (checkP P Q) := Check_f h.p h.kn h.q h.jo
theorem range_filter_next (f : Nat → Bool) (j : Nat) : (List.range (j + 1)).filter f = (List.range j).filter f ++ (if f j then [j] else []) := by
  cases h : f j with
  | true => rw [filter_next_yes h]; simp
  | false => rw [filter_next_no h]; simp
theorem sawn_f : Evt (fun _ => skewbaldlaw01_sawn.f) true := Evt.pure true
end Go.Proofs.YtekjlpldooihhaaDoor.PR
namespace Go.Proofs.YtekjlpldooihhaaDoor.PR
open Go.RowKit Go.Proofs.YtekjlpldooihhaaDoorW.PrintWords Go.Proofs.YtekjlpldooihhaaDoorW.PrintMore Go.Proofs.YtekjlpldooihhaaDoorEv Go.Proofs.YtekjlpldooihhaaDoorP Go.Proofs.YtekjlpldooihhaaDoor.PT Go.Proofs.YtekjlpldooihhaaDoorH Go.Proofs.YtekjlpldooihhaaDoorK
open Go.Proofs.YtekjlpldooihhaaDoor.PA (S48 S50 S60 k48 k50 k60 z48 z50 z60 rd_T48 rd_T50 rd_T60)
set_option linter.unusedVariables false
set_option linter.unusedSimpArgs false
theorem shl_pow : ∀ n, n ≤ 6 → shl .i64 1 ((n : Nat) : Int) = ((2 ^ n : Nat) : Int) := by
  intro n hn
  obtain rfl | rfl | rfl | rfl | rfl | rfl | rfl : n = 0 ∨ n = 1 ∨ n = 2 ∨ n = 3 ∨ n = 4 ∨ n = 5 ∨ n = 6 := by omega
  all_goals rfl
theorem getD_set_ne {l : List Int} {s t : Nat} (h : s ≠ t) (v : Int) : (l.set s v).getD t 0 = l.getD t 0 := by simp [List.getElem?_set_ne h]
def Least (S : Int → Prop) (v : Int) : Prop := v ≤ 99 ∧ (v = 99 ∨ S v) ∧ ∀ x, S x → v ≤ x
theorem Least.step {S : Int → Prop} {v : Int} (h : Least S v) (x : Int) : Least (fun y => S y ∨ y = x) (mn v x) := by
  obtain ⟨h1, h2, h3⟩ := h
  unfold mn
  split
  · exact ⟨by omega, .inr (.inr rfl), fun y hy => by rcases hy with hy | rfl; (· have := h3 y hy; omega); (· exact Int.le_refl _)⟩
  · exact ⟨h1, h2.imp_right .inl, fun y hy => by rcases hy with hy | rfl; (· exact h3 y hy); (· omega)⟩
theorem Least.congr {S S' : Int → Prop} {v : Int} (h : Least S v) (e : ∀ x, S x ↔ S' x) : Least S' v := ⟨h.1, h.2.1.imp_right (e v).1, fun x hx => h.2.2 x ((e x).2 hx)⟩
theorem spots_len {y : S48} (hy : PlankOk y) (x : S50) : (spotsL y x).length ≤ 16 := by
  have h2 := List.length_filter_le (spotB y x) (List.range y.f0.toNat)
  rw [List.length_range] at h2
  have := hy.big
  unfold spotsL
  omega
end Go.Proofs.YtekjlpldooihhaaDoor.PR
