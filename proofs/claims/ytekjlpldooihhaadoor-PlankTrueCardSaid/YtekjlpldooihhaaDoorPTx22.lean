/- Package plank, plain laws: laid of the statements; PlankLay. -/
import Derived.Test.YtekjlpldooihhaaDoorSh
import Derived.Test.YtekjlpldooihhaaDoorSv
import Derived.Test.YtekjlpldooihhaaDoorPTx18
import Derived.Test.YtekjlpldooihhaaDoorPTx20
import Derived.Test.YtekjlpldooihhaaDoorPj
import Derived.Test.YtekjlpldooihhaaDoorPr
import Derived.Test.YtekjlpldooihhaaDoorPb
namespace Go.Proofs.YtekjlpldooihhaaDoor.PT
open Go.Proofs.YtekjlpldooihhaaDoorSh
open Go.Proofs.YtekjlpldooihhaaDoor.PA (S48 S50 S60 at_L2 at_L4 at_T48 at_T50 at_T60 errW errW_none errW_some k48 k48_mk k48_mkM k48_open k48_openM k50 k50_mk k50_mkM k50_open k50_openM k60 k60_mk k60_mkM k60_open k60_openM rd_L2 rd_L4 rd_T48 rd_T50 rd_T60 z48 z50 z60)
open Go.Proofs.YtekjlpldooihhaaDoorP Go.Proofs.YtekjlpldooihhaaDoorK
open Go.RowKit Go.Proofs.YtekjlpldooihhaaDoorW.PrintWords Go.Proofs.YtekjlpldooihhaaDoorW.PrintLast Go.Proofs.YtekjlpldooihhaaDoorW.PrintMore
attribute [local go_sem] max2_int min2_int max_two min_two max_three min_three max_four min_four
set_option linter.unusedVariables false
set_option linter.unusedSimpArgs false
mutual
def skewbaldlaw01_PlankLay.l0 : Nat → List Int → Int → List Int → List Int → Int → List Int → Int → List (S48) → List (S50) → Int → Int → Int → Option (Bool)
 | 0, _, _, _, _, _, _, _, _, _, _, _, _ => none
 | k + 1, x2, x7, x8, x9, x10, x11, x12, x477000, x477001, x478000, x478001, x478002 => if x12 < (x8.length : Int) then (if 0 ≤ x12 then ((plank_Spots.f x477000 x477001 x7 (rd x8 x12)).bind fun bt493 => (if bt493.2 = 0 then ((skewbaldref00_Take.f x2 x12).bind fun t497 => ((skewbaldref00_Take.f bt493.1 t497).bind fun t498 => (if x11.length < 17592186044416 then (if (bt493.1.length : Int) = 0 then (if x10 = 4 then (if (x9.length : Int) = 0 then ((skewbaldlaw01_sawn.f).bind fun t502 => (some t502)) else (some false)) else (some false)) else (skewbaldlaw01_PlankLay.l0 k x2 x7 x8 x9 x10 (x11 ++ [t498]) (wrap64 (x12 + 1)) x477000 x477001 x478000 x478001 x478002)) else (none)))) else (some false))) else (none)) else ((skewbaldlaw01_laid.f k x477000 x477001 x7 x8 x11 ([] : List Int)).bind fun t503 => (if x10 = 0 then (if t503 = true then ((skewbaldref00_Less.f k x11 x9).bind fun t505 => (skewbaldlaw01_PlankLay.j1 k x7 x8 x9 t505 x477000 x477001 x478000 x478001 x478002)) else (skewbaldlaw01_PlankLay.j1 k x7 x8 x9 false x477000 x477001 x478000 x478001 x478002)) else (if x10 = 4 then (if (x9.length : Int) = 0 then (if t503 = true then (some false) else ((skewbaldlaw01_sawn.f).bind fun t504 => (some t504))) else (some false)) else (some false))))
def skewbaldlaw01_PlankLay.j1 : Nat → Int → List Int → List Int → Bool → List (S48) → List (S50) → Int → Int → Int → Option (Bool)
 | 0, _, _, _, _, _, _, _, _, _ => none
 | k + 1, x7, x8, x9, x112, x477000, x477001, x478000, x478001, x478002 => if x112 = true then (some false) else (if (x8.length : Int) = 0 then (if (x9.length : Int) = 0 then ((skewbaldlaw01_sawn.f).bind fun t506 => (some t506)) else (some false)) else ((skewbaldref00_Round.f x478002 (x8.length : Int)).bind fun t507 => ((skewbaldref00_Cut.f k x8 t507).bind fun t508 => ((plank_Lay.f x477000 x477001 x7 t508).bind fun bt511 => (if bt511.2 = 0 then ((skewbaldlaw01_sawn.f).bind fun t515 => (some t515)) else (some false))))))
end
def skewbaldlaw01_PlankLay.f (k : Nat) (l0_0 : List (S48)) (l0_1 : List (S50)) (a1_0 : Int) (a1_1 : Int) (a1_2 : Int) (l2 : List Int) : Option (Bool) := (skewbaldlaw01_sound.f k l0_0 l0_1).bind fun t478 => (if t478 = true then ((skewbaldref00_Round.f a1_0 (l0_0.length : Int)).bind fun t480 => ((skewbaldref00_Round.f a1_1 (shl .i64 1 (l0_1.length : Int))).bind fun t481 => ((skewbaldref00_List.f k t481 (l0_1.length : Int)).bind fun t482 => ((plank_Lay.f l0_0 l0_1 t480 t482).bind fun bt485 => (skewbaldlaw01_PlankLay.l0 k l2 t480 t482 bt485.1 bt485.2 (([] : List Int)) 0 l0_0 l0_1 a1_0 a1_1 a1_2))))) else ((skewbaldlaw01_sawn.f).bind fun t479 => (some t479)))
def skewbaldlaw01_PlankLay.T4 : Bool × List (List Nat × List Nat) := (true, [([], []), ([0], [0]), ([], []), ([2], [2]), ([3], [3]), ([4], [4]), ([1, 5], [1, 5]), ([], []), ([7], [7]), ([8], [8]), ([6, 9, 6], [6, 9]), ([10, 10, 0, 1, 2, 3, 4, 5, 6, 7, 8, 9, 10], [10])])
def skewbaldlaw01_PlankLay.B4 : List Nat := [0, 1, 0, 4, 12, 28, 63, 0, 128, 384, 1023, 2047]
theorem skewbaldlaw01_PlankLay.tab4 : rtab .any (opsOf Tryd.f8 4) = skewbaldlaw01_PlankLay.T4 := by kernel_rfl
theorem skewbaldlaw01_PlankLay.bits4 : waitsOk skewbaldlaw01_PlankLay.T4.2 skewbaldlaw01_PlankLay.B4 = true := by kernel_rfl
def skewbaldlaw01_PlankLay.T10 : Bool × List (List Nat × List Nat) := (true, [([], []), ([], []), ([], []), ([], []), ([2, 3], [2, 3]), ([4], [4]), ([0, 1, 5], [0, 1, 5]), ([6], [6]), ([7], [7]), ([7], [7]), ([8, 6, 0, 1, 2, 3, 4, 5, 6, 7, 8], [8]), ([9, 10, 0, 1, 2, 3, 4, 5, 6, 7, 8, 9, 10], [9])])
def skewbaldlaw01_PlankLay.B10 : List Nat := [0, 0, 0, 0, 12, 28, 63, 127, 255, 255, 511, 2047]
theorem skewbaldlaw01_PlankLay.tab10 : rtab .any (opsOf Tryd.f8 10) = skewbaldlaw01_PlankLay.T10 := by kernel_rfl
theorem skewbaldlaw01_PlankLay.bits10 : waitsOk skewbaldlaw01_PlankLay.T10.2 skewbaldlaw01_PlankLay.B10 = true := by kernel_rfl
mutual
def skewbaldlaw01_only.l0 : Nat → Int → Int → Int → List (S48) → List (S50) → List (S48) → Option ((List (S48)) × (List (S50)))
 | 0, _, _, _, _, _, _ => none
 | k + 1, x1, x2, x8, x517000, x517001, x519000 => if x8 < (x517000.length : Int) then ((skewbaldref00_Of.f x1 x8).bind fun t519 => (if t519 = true then (if 0 ≤ x8 then (if x519000.length < 4398046511104 then (skewbaldlaw01_only.l0 k x1 x2 (wrap64 (x8 + 1)) x517000 x517001 (x519000 ++ [(⟨(rd_T48 x517000 x8).f0, (rd_T48 x517000 x8).f1⟩ : S48)])) else (none)) else (none)) else (skewbaldlaw01_only.l0 k x1 x2 (wrap64 (x8 + 1)) x517000 x517001 x519000))) else (skewbaldlaw01_only.l1 k x2 0 x517000 x517001 x519000 ([] : List (S50)))
def skewbaldlaw01_only.l1 : Nat → Int → Int → List (S48) → List (S50) → List (S48) → List (S50) → Option ((List (S48)) × (List (S50)))
 | 0, _, _, _, _, _, _ => none
 | k + 1, x2, x9, x517000, x517001, x519000, x519001 => if x9 < (x517001.length : Int) then ((skewbaldref00_Of.f x2 x9).bind fun t524 => (if t524 = true then (if 0 ≤ x9 then (if x519001.length < 3518437208883 then (skewbaldlaw01_only.l1 k x2 (wrap64 (x9 + 1)) x517000 x517001 x519000 (x519001 ++ [(⟨(rd_T50 x517001 x9).f0, (rd_T50 x517001 x9).f1, (rd_T50 x517001 x9).f2⟩ : S50)])) else (none)) else (none)) else (skewbaldlaw01_only.l1 k x2 (wrap64 (x9 + 1)) x517000 x517001 x519000 x519001))) else (some (x519000, x519001))
end
def skewbaldlaw01_only.f (k : Nat) (l0_0 : List (S48)) (l0_1 : List (S50)) (a1 : Int) (a2 : Int) : Option ((List (S48)) × (List (S50))) := skewbaldlaw01_only.l0 k a1 a2 0 l0_0 l0_1 ([] : List (S48))
def skewbaldlaw01_enough.j0 : Nat → Int → Int → Bool → List (S48) → List (S50) → Option (Bool × Bool)
 | 0, _, _, _, _, _ => none
 | k + 1, x1, x2, x15, x530000, x530001 => if x15 = true then (some ((x2 == 0), true)) else ((skewbaldlaw01_only.f k x530000 x530001 x1 x2).bind fun bt530 => ((plank_Fewest.f bt530.1 bt530.2).bind fun bt536 => (if bt536.2 = 0 then (some ((bt536.2 == 0), true)) else (some ((bt536.2 == 0), (bt536.2 == 4))))))
def skewbaldlaw01_enough.f (k : Nat) (l0_0 : List (S48)) (l0_1 : List (S50)) (a1 : Int) (a2 : Int) : Option (Bool × Bool) := if a2 = 0 then (skewbaldlaw01_enough.j0 k a1 a2 true l0_0 l0_1) else (skewbaldlaw01_enough.j0 k a1 a2 (a1 == 0) l0_0 l0_1)
mutual
def skewbaldlaw01_shared.l0 : Nat → List Int → Int → Int → List (S48) → List (S50) → Option (Bool)
 | 0, _, _, _, _, _ => none
 | k + 1, x1, x2, x7, x541000, x541001 => if x7 ≥ 0 then (if (Go.bits .and .i64 x7 x2) = x7 then (if 0 < (x1.length : Int) then ((skewbaldref00_List.f k x7 (x541001.length : Int)).bind fun t542 => ((plank_Lay.f x541000 x541001 (rd x1 0) t542).bind fun bt545 => (if bt545.2 = 0 then (if 1 ≤ (x1.length : Int) then ((skewbaldlaw01_shared.f k x541000 x541001 (x1.drop 1) (wrap64 (x2 - x7))).bind fun t550 => (if t550 = true then (some true) else (skewbaldlaw01_shared.l0 k x1 x2 (wrap64 (x7 - 1)) x541000 x541001))) else (none)) else (skewbaldlaw01_shared.l0 k x1 x2 (wrap64 (x7 - 1)) x541000 x541001)))) else (none)) else (skewbaldlaw01_shared.l0 k x1 x2 (wrap64 (x7 - 1)) x541000 x541001)) else (some false)
def skewbaldlaw01_shared.f : Nat → List (S48) → List (S50) → List Int → Int → Option (Bool)
 | 0, _, _, _, _ => none
 | k + 1, l0_0, l0_1, l1, a2 => if (l1.length : Int) = 0 then (some (a2 == 0)) else (skewbaldlaw01_shared.l0 k l1 a2 a2 l0_0 l0_1)
end
def skewbaldlaw01_shared.T7 : Bool × List (List Nat × List Nat) := (true, [([], []), ([], []), ([1], [1]), ([2], [2]), ([], []), ([], []), ([5], [5]), ([6], [6]), ([4, 7], [4, 7]), ([0, 3, 8, 8], [0, 3, 8]), ([9], [9]), ([10], [10]), ([10], [10]), ([11, 9, 0, 1, 2, 3, 4, 5, 6, 7, 8, 9, 10, 11], [11]), ([12, 13, 0, 1, 2, 3, 4, 5, 6, 7, 8, 9, 10, 11, 12, 13], [12])])
def skewbaldlaw01_shared.B7 : List Nat := [0, 0, 2, 6, 0, 0, 32, 96, 240, 511, 1023, 2047, 2047, 4095, 16383]
theorem skewbaldlaw01_shared.tab7 : rtab .any (opsOf Tryd.f48 7) = skewbaldlaw01_shared.T7 := by kernel_rfl
theorem skewbaldlaw01_shared.bits7 : waitsOk skewbaldlaw01_shared.T7.2 skewbaldlaw01_shared.B7 = true := by kernel_rfl
def skewbaldlaw01_shared.T8 : Bool × List (List Nat × List Nat) := (true, [([], []), ([0], [0]), ([1], [1]), ([2], [2]), ([2], [2]), ([4, 2], [2, 4]), ([2], [2]), ([2], [2]), ([6, 7, 2], [2, 6, 7]), ([3, 5, 8, 2, 2], [2, 3, 5, 8]), ([2, 9], [2, 9])])
def skewbaldlaw01_shared.B8 : List Nat := [0, 1, 3, 7, 7, 23, 7, 7, 199, 511, 1023]
theorem skewbaldlaw01_shared.tab8 : rtab .any (opsOf Tryd.f48 8) = skewbaldlaw01_shared.T8 := by kernel_rfl
theorem skewbaldlaw01_shared.bits8 : waitsOk skewbaldlaw01_shared.T8.2 skewbaldlaw01_shared.B8 = true := by kernel_rfl
def skewbaldlaw01_PlankFewest.j0 : Nat → List Int → Int → Bool → List (S48) → List (S50) → Option (Bool)
 | 0, _, _, _, _, _ => none
 | k + 1, x5, x7, x92, x552000, x552001 => if x92 = true then (some false) else ((skewbaldlaw01_shared.f k x552000 x552001 x5 x7).bind fun t567 => (if t567 = true then ((skewbaldlaw01_sawn.f).bind fun t568 => (some t568)) else (some false)))
def skewbaldlaw01_PlankFewest.f (k : Nat) (l0_0 : List (S48)) (l0_1 : List (S50)) (a1 : Int) : Option (Bool) := (plank_Fewest.f l0_0 l0_1).bind fun bt552 => ((skewbaldlaw01_sound.f k l0_0 l0_1).bind fun t556 => (if t556 = true then ((skewbaldref00_Round.f a1 (shl .i64 1 (l0_0.length : Int))).bind fun t558 => ((skewbaldlaw01_enough.f k l0_0 l0_1 t558 (wrap64 ((shl .i64 1 (l0_1.length : Int)) - 1))).bind fun bt559 => (if bt552.2 = 0 then (if bt559.2 = true then ((skewbaldref00_Grows.f k bt552.1 (l0_0.length : Int)).bind fun t562 => (if t562 = true then (if (bt552.1.length : Int) = 0 then (skewbaldlaw01_PlankFewest.j0 k bt552.1 (wrap64 ((shl .i64 1 (l0_1.length : Int)) - 1)) true l0_0 l0_1) else (if bt559.1 = true then ((skewbaldref00_List.f k t558 (l0_0.length : Int)).bind fun t563 => ((skewbaldref00_Shorter.f k t563 bt552.1).bind fun t566 => (skewbaldlaw01_PlankFewest.j0 k bt552.1 (wrap64 ((shl .i64 1 (l0_1.length : Int)) - 1)) t566 l0_0 l0_1))) else (skewbaldlaw01_PlankFewest.j0 k bt552.1 (wrap64 ((shl .i64 1 (l0_1.length : Int)) - 1)) false l0_0 l0_1))) else (skewbaldlaw01_PlankFewest.j0 k bt552.1 (wrap64 ((shl .i64 1 (l0_1.length : Int)) - 1)) true l0_0 l0_1))) else (skewbaldlaw01_PlankFewest.j0 k bt552.1 (wrap64 ((shl .i64 1 (l0_1.length : Int)) - 1)) true l0_0 l0_1)) else (if bt552.2 = 4 then (if (bt552.1.length : Int) = 0 then (if bt559.2 = true then (if bt559.1 = true then (some false) else ((skewbaldlaw01_sawn.f).bind fun t561 => (some t561))) else (some false)) else (some false)) else (some false))))) else (if bt552.2 = 10 then (if (bt552.1.length : Int) = 0 then ((skewbaldlaw01_sawn.f).bind fun t557 => (some t557)) else (some false)) else (some false))))
def skewbaldref01_ends.T10 : Bool × List (List Nat × List Nat) := (true, [([], []), ([], []), ([], []), ([2], [2]), ([1, 3], [1, 3]), ([0, 4], [0, 4]), ([5], [5]), ([], []), ([], []), ([], []), ([7, 8, 9], [7, 8, 9]), ([6, 10, 0, 1, 2, 3, 4, 5, 6], [6]), ([10, 11, 0, 1, 2, 3, 4, 5, 6, 7, 8, 9, 10, 11], [10])])
def skewbaldref01_ends.B10 : List Nat := [0, 0, 0, 4, 14, 31, 63, 0, 0, 0, 896, 2047, 4095]
theorem skewbaldref01_ends.tab10 : rtab .any (opsOf Tryd.f77 10) = skewbaldref01_ends.T10 := by kernel_rfl
theorem skewbaldref01_ends.bits10 : waitsOk skewbaldref01_ends.T10.2 skewbaldref01_ends.B10 = true := by kernel_rfl
def skewbaldref01_ends.T15 : Bool × List (List Nat × List Nat) := (true, [([], []), ([], []), ([], []), ([], []), ([2, 3], [2, 3]), ([4], [4]), ([], []), ([], []), ([6, 7], [6, 7]), ([8], [8]), ([], []), ([10], [10]), ([], []), ([11, 12], [11, 12]), ([13], [13]), ([14], [14]), ([9, 15], [9, 15]), ([5, 16], [5, 16]), ([0, 1, 0, 1, 2, 3, 4, 5, 6, 7, 8, 9, 10, 11, 12, 13, 14, 15, 16, 17], [0, 1]), ([18, 17, 0, 1, 2, 3, 4, 5, 6, 7, 8, 9, 10, 11, 12, 13, 14, 15, 16, 17], [17, 18])])
def skewbaldref01_ends.B15 : List Nat := [0, 0, 0, 0, 12, 28, 0, 0, 192, 448, 0, 1024, 0, 7168, 15360, 31744, 65472, 131068, 262143, 524287]
theorem skewbaldref01_ends.tab15 : rtab .any (opsOf Tryd.f77 15) = skewbaldref01_ends.T15 := by kernel_rfl
theorem skewbaldref01_ends.bits15 : waitsOk skewbaldref01_ends.T15.2 skewbaldref01_ends.B15 = true := by kernel_rfl
def skewbaldref01_Fewest.T4 : Bool × List (List Nat × List Nat) := (true, [([], []), ([0], [0]), ([], []), ([2], [2]), ([3], [3]), ([4], [4]), ([5], [5]), ([1, 1, 0, 1], [1]), ([6, 7, 0, 1, 2, 3, 4, 5, 6, 7], [6])])
def skewbaldref01_Fewest.B4 : List Nat := [0, 1, 0, 4, 12, 28, 60, 3, 255]
theorem skewbaldref01_Fewest.tab4 : rtab .any (opsOf Tryd.f29 4) = skewbaldref01_Fewest.T4 := by kernel_rfl
theorem skewbaldref01_Fewest.bits4 : waitsOk skewbaldref01_Fewest.T4.2 skewbaldref01_Fewest.B4 = true := by kernel_rfl
def skewbaldref01_Lacks.T8 : Bool × List (List Nat × List Nat) := (true, [([], []), ([], []), ([1], [1]), ([], []), ([3], [3]), ([4], [4]), ([5], [5]), ([0, 2, 6, 2], [0, 2, 6]), ([7], [7])])
def skewbaldref01_Lacks.B8 : List Nat := [0, 0, 2, 0, 8, 24, 56, 127, 255]
theorem skewbaldref01_Lacks.tab8 : rtab .any (opsOf Tryd.f31 8) = skewbaldref01_Lacks.T8 := by kernel_rfl
theorem skewbaldref01_Lacks.bits8 : waitsOk skewbaldref01_Lacks.T8.2 skewbaldref01_Lacks.B8 = true := by kernel_rfl
def skewbaldref00_Equal.l0 : Nat → List Int → List Int → Bool → Int → Option (Bool)
 | 0, _, _, _, _ => none
 | k + 1, x0, x1, x5, x6 => if x5 = true then (if x6 < (x0.length : Int) then (if 0 ≤ x6 then (if x6 < (x1.length : Int) then (skewbaldref00_Equal.l0 k x0 x1 ((rd x0 x6) == (rd x1 x6)) (wrap64 (x6 + 1))) else (none)) else (none)) else (some x5)) else (some x5)
def skewbaldref00_Equal.f (k : Nat) (l0 : List Int) (l1 : List Int) : Option (Bool) := skewbaldref00_Equal.l0 k l0 l1 ((l0.length : Int) == (l1.length : Int)) 0
set_option maxHeartbeats 8000000 in
set_option maxRecDepth 100000 in
theorem skewbaldref00_Equal.calls (k : Nat) (A0 : Option Addr) (c0 : Nat) (l0 : List Int) (A1 : Option Addr) (c1 : Nat) (l1 : List Int) (r : Bool) (w : World) (hr0 : Kd.C (Kd.int .i64) w A0 l0.length l0) (hc0 : l0.length ≤ c0) (hr1 : Kd.C (Kd.int .i64) w A1 l1.length l1) (hc1 : l1.length ≤ c1) (h : skewbaldref00_Equal.f k l0 l1 = some r) :
  Calls Tryd.prog 22 #[.slice A0 l0.length c0, .slice A1 l1.length c1] w fun e w' => e = .returned (.bool r) ∧ Drawn0 w w' := by
 have HR0 := Aside0.mk hr0; have HC0 := Aside0.mk hc0; clear hr0 hc0; have HR1 := Aside0.mk hr1; have HC1 := Aside0.mk hc1; clear hr1 hc1
 have H : (skewbaldref00_Equal.l0 k l0 l1 ((l0.length : Int) == (l1.length : Int)) 0) = some r := h
 clear h; have H' := Aside0.mk H; clear H
 go_enter Tryd.func22, Tryd.ntmps22
 go_wp2
 repeat (go_quiet (fail); try go_wp2)
 go_loopg [5, 6] k (fun kq v5 v6 w' => ∃ (x5_1 : Bool) (x6_1 : Int), v5 = .bool x5_1 ∧ v6 = .int .i64 x6_1 ∧ Aside0 (skewbaldref00_Equal.l0 kq l0 l1 x5_1 x6_1 = some r) ∧ Aside0 (kq ≤ k) ∧ Drawn0 w w')
 case atStart => exact ⟨(((l0.length : Int) == (l1.length : Int))), (0), sm, sm, H', ⟨Nat.le_refl _⟩, by repeat (first | exact Drawn0.refl _ | apply Drawn0.step)⟩
 case round =>
  clear H'; (try clear c1); (try clear c2); (try clear p2); obtain ⟨x5_1, x6_1, rfl, rfl, HA, HK1, ⟨m1, rfl⟩⟩ := hrel
  cases gk with
  | zero => exact absurd HA.out (by simp [skewbaldref00_Equal.l0])
  | succ k1 =>
   have H := HA.out; clear HA
   simp only [skewbaldref00_Equal.l0] at H
   by_cases c3 : x5_1 = true
   ·subst c3; rw [if_pos rfl] at H
    by_cases c4 : x6_1 < (l0.length : Int)
    ·rw [if_pos c4] at H; have c4b0 := decide_eq_true c4; clear c4
     by_cases c5 : 0 ≤ x6_1
     ·rw [if_pos c5] at H; have c5b0 := decide_eq_true c5; clear c5
      by_cases c6 : x6_1 < (l1.length : Int)
      ·rw [if_pos c6] at H; have c6b0 := decide_eq_true c6; clear c6; have H' := Aside0.mk H; clear H
       have p194 : 0 ≤ (x6_1 : Int) := od
       have q194 : x6_1 < (l0.length : Int) := od
       obtain ⟨ad194, e194, hx194_0⟩ := Kd.at_int HR0.out x6_1 p194 q194
       cases e194
       replace p194 := eq_true p194; replace q194 := eq_true q194
       have p195 : 0 ≤ (x6_1 : Int) := od
       have q195 : x6_1 < (l1.length : Int) := od
       obtain ⟨ad195, e195, hx195_0⟩ := Kd.at_int HR1.out x6_1 p195 q195
       cases e195
       replace p195 := eq_true p195; replace q195 := eq_true q195
       go_wp2
       repeat (go_quiet (fail); try go_wp2)
       go_roundg k1
       case measure => have := HK1.out; omega
       case rel => exact ⟨(((rd l0 x6_1) == (rd l1 x6_1))), (wrap64 (x6_1 + 1)), sm, sm, H', ⟨lo HK1⟩, by repeat (first | exact Drawn0.refl _ | apply Drawn0.step)⟩
      ·rw [if_neg c6] at H
       exact absurd H (by simp)
     ·rw [if_neg c5] at H
      exact absurd H (by simp)
    ·rw [if_neg c4] at H
     have c4b0 : decide (x6_1 < (l0.length : Int)) = false := decide_eq_false c4
     clear c4; obtain rfl := Option.some.inj H
     go_wp2
     repeat (go_quiet (fail); try go_wp2)
     go_ret
     exact ⟨sm, by repeat (first | exact Drawn0.refl _ | apply Drawn0.step)⟩
   ·replace c3 := Bool.eq_false_iff.mpr c3; subst c3
    rw [if_neg (show ¬ (false = true) by decide)] at H
    obtain rfl := Option.some.inj H
    go_wp2
    repeat (go_quiet (fail); try go_wp2)
    go_ret
    exact ⟨sm, by repeat (first | exact Drawn0.refl _ | apply Drawn0.step)⟩
def skewbaldlaw01_PlankSpots.T3 : Bool × List (List Nat × List Nat) := (true, [([], []), ([], []), ([0, 1], [0, 1]), ([2], [2]), ([3], [3]), ([3], [3]), ([4, 5, 3], [3, 4, 5]), ([3, 6], [3, 6]), ([7, 3], [7]), ([8], [8]), ([9, 8, 8], [8, 9]), ([8], [8]), ([11, 10, 8], [8, 11]), ([10, 12, 8], [8, 10, 12]), ([8, 13], [8, 13])])
def skewbaldlaw01_PlankSpots.B3 : List Nat := [0, 0, 3, 7, 15, 15, 63, 127, 255, 511, 1023, 511, 4095, 8191, 16383]
theorem skewbaldlaw01_PlankSpots.tab3 : rtab .any (opsOf Tryd.f3 3) = skewbaldlaw01_PlankSpots.T3 := by kernel_rfl
theorem skewbaldlaw01_PlankSpots.bits3 : waitsOk skewbaldlaw01_PlankSpots.T3.2 skewbaldlaw01_PlankSpots.B3 = true := by kernel_rfl
end Go.Proofs.YtekjlpldooihhaaDoor.PT
namespace Go.Proofs.YtekjlpldooihhaaDoorP
open Go.Proofs.YtekjlpldooihhaaDoorSh
open Go.RowKit Go.Proofs.YtekjlpldooihhaaDoorW.PrintWords Go.Proofs.YtekjlpldooihhaaDoorH Go.Proofs.YtekjlpldooihhaaDoorEv Go.Proofs.YtekjlpldooihhaaDoor.PA
set_option linter.unusedVariables false
set_option linter.unusedSimpArgs false
def lenQ (Q : List S50) (p : Nat) : Nat := (Q.getD p z50).f0.toNat
def Apart (Q : List S50) (pos : Nat → Nat) (p q : Nat) : Prop := pos p + lenQ Q p ≤ pos q ∨ pos q + lenQ Q q ≤ pos p
theorem Apart.symm {Q : List S50} {pos : Nat → Nat} {p q : Nat} (h : Apart Q pos p q) : Apart Q pos q p := Or.symm h
def Good (y : S48) (Q : List S50) : List Nat → (Nat → Bool) → List Nat → Prop
  | [], _, [] => True
  | p :: ps, taken, a :: us => spotB y (Q.getD p z50) a = true ∧ freeB taken a (lenQ Q p) = true ∧ Good y Q ps (markB taken a (lenQ Q p)) us
  | _, _, _ => False
def lexLe : List Nat → List Nat → Prop
  | [], _ => True
  | _ :: _, [] => False
  | a :: us, b :: bs => a < b ∨ (a = b ∧ lexLe us bs)
theorem spot_lt {y : S48} {x : S50} {a : Nat} (h : spotB y x a = true) : (a : Int) + x.f0 ≤ y.f0 ∧ canN y x a = 2 := by
  unfold spotB liesB at h
  simp only [Bool.and_eq_true, decide_eq_true_eq, beq_iff_eq] at h
  exact ⟨by omega, h.2⟩
theorem mem_spots {y : S48} {x : S50} (h1 : 1 ≤ x.f0) {a : Nat} : a ∈ spotsL y x ↔ spotB y x a = true := by
  unfold spotsL
  rw [List.mem_filter, List.mem_range]
  constructor
  · exact fun h => h.2
  · intro h
    have := (spot_lt h).1
    exact ⟨by omega, h⟩
theorem spots_sorted (y : S48) (x : S50) : (spotsL y x).Pairwise (· < ·) := List.pairwise_lt_range.filter _
theorem laidFrom_none {y : S48} {Q : List S50} : ∀ (ps : List Nat) (hL : ∀ p ∈ ps, 1 ≤ (Q.getD p z50).f0) (taken : Nat → Bool) (out : List Nat), laidFrom y Q ps taken out = none → ∀ bs, ¬ Good y Q ps taken bs
  | [], _, _, _, h, _, _ => by simp [laidFrom] at h
  | p :: ps, hL, taken, out, h, [], hg => hg
  | p :: ps, hL, taken, out, h, b :: bs, hg => by
    obtain ⟨g1, g2, g3⟩ := hg
    unfold laidFrom at h
    rw [List.findSome?_eq_none_iff] at h
    have h' := h b ((mem_spots (hL p (by simp))).2 g1)
    unfold lenQ at g2 g3
    rw [if_pos g2] at h'
    exact laidFrom_none ps (fun q hq => hL q (by simp [hq])) _ _ h' bs g3
theorem laidFrom_some {y : S48} {Q : List S50} : ∀ (ps : List Nat) (hL : ∀ p ∈ ps, 1 ≤ (Q.getD p z50).f0) (taken : Nat → Bool) (out o : List Nat), laidFrom y Q ps taken out = some o → ∃ us, o = out ++ us ∧ Good y Q ps taken us ∧ ∀ bs, Good y Q ps taken bs → lexLe us bs
  | [], _, taken, out, o, h => by
    simp only [laidFrom, Option.some.injEq] at h
    exact ⟨[], by simp [h], trivial, fun _ _ => trivial⟩
  | p :: ps, hL, taken, out, o, h => by
    have hL' : ∀ q ∈ ps, 1 ≤ (Q.getD q z50).f0 := fun q hq => hL q (by simp [hq])
    unfold laidFrom at h
    obtain ⟨l1, a, l2, e, hf, hn⟩ := List.findSome?_eq_some_iff.1 h
    have hs := (mem_spots (y := y) (hL p (by simp))).1 (by rw [e]; simp : a ∈ _)
    by_cases hfr : freeB taken a (Q.getD p z50).f0.toNat = true
    · rw [if_pos hfr] at hf
      obtain ⟨us, e1, e2, e3⟩ := laidFrom_some ps hL' _ _ _ hf
      refine ⟨a :: us, by rw [e1]; simp, ⟨hs, hfr, e2⟩, fun bs hb => ?_⟩
      match bs, hb with
      | b :: bs, hb =>
        obtain ⟨g1, g2, g3⟩ := hb
        have hm := (mem_spots (hL p (by simp))).2 g1
        rw [e] at hm
        simp only [List.mem_append, List.mem_cons] at hm
        rcases hm with hm | rfl | hm
        · have h' := hn b hm
          unfold lenQ at g2 g3
          rw [if_pos g2] at h'
          exact absurd g3 (laidFrom_none ps hL' _ _ h' bs)
        · exact .inr ⟨rfl, e3 bs g3⟩
        · have hp := spots_sorted y (Q.getD p z50)
          rw [e, List.pairwise_append] at hp
          exact .inl ((List.pairwise_cons.1 hp.2.1).1 b hm)
    · rw [if_neg hfr] at hf
      simp at hf
theorem free_iff {taken : Nat → Bool} {a L : Nat} : freeB taken a L = true ↔ ∀ j, a ≤ j → j < a + L → taken j = false := by
  unfold freeB
  rw [Bool.not_eq_true', List.any_eq_false]
  simp only [List.mem_range'_1, Bool.not_eq_true]
  exact ⟨fun h j h1 h2 => h j ⟨h1, h2⟩, fun h j hj => h j hj.1 hj.2⟩
theorem free_none (a L : Nat) : freeB (fun _ => false) a L = true := free_iff.2 fun _ _ _ => rfl
theorem free_mark {taken : Nat → Bool} {a L b M : Nat} (hL : 1 ≤ L) (hM : 1 ≤ M) : freeB (markB taken a L) b M = true ↔ freeB taken b M = true ∧ (a + L ≤ b ∨ b + M ≤ a) := by
  rw [free_iff, free_iff]
  unfold markB
  simp only [Bool.or_eq_false_iff, Bool.and_eq_false_iff, decide_eq_false_iff_not]
  constructor
  · intro h
    refine ⟨fun j h1 h2 => (h j h1 h2).1, ?_⟩
    by_cases hab : a ≤ b
    · have := (h b (Nat.le_refl _) (by omega)).2; omega
    · by_cases hba : a < b + M
      · have := (h a (by omega) hba).2; omega
      · omega
  · rintro ⟨h1, h2⟩ j h3 h4
    exact ⟨h1 j h3 h4, by omega⟩
theorem good_pos {y : S48} {Q : List S50} (pos : Nat → Nat) : ∀ (ps : List Nat) (hL : ∀ p ∈ ps, 1 ≤ lenQ Q p) (taken : Nat → Bool),
    Good y Q ps taken (ps.map pos) ↔ (∀ p ∈ ps, spotB y (Q.getD p z50) (pos p) = true ∧ freeB taken (pos p) (lenQ Q p) = true) ∧ ps.Pairwise (Apart Q pos)
  | [], _, taken => by simp [Good]
  | p :: ps, hL, taken => by
    have h1 := hL p (by simp)
    have ih := good_pos (y := y) pos ps (fun q hq => hL q (by simp [hq])) (markB taken (pos p) (lenQ Q p))
    show (_ ∧ _ ∧ Good y Q ps _ (ps.map pos)) ↔ _
    rw [ih, List.pairwise_cons]
    constructor
    · rintro ⟨a, b, c, d⟩
      refine ⟨fun q hq => ?_, fun q hq => ?_, d⟩
      · rcases List.mem_cons.1 hq with rfl | hq
        · exact ⟨a, b⟩
        · exact ⟨(c q hq).1, ((free_mark h1 (hL q (by simp [hq]))).1 (c q hq).2).1⟩
      · exact ((free_mark h1 (hL q (by simp [hq]))).1 (c q hq).2).2
    · rintro ⟨a, b, c⟩
      exact ⟨(a p (by simp)).1, (a p (by simp)).2, fun q hq => ⟨(a q (by simp [hq])).1, (free_mark h1 (hL q (by simp [hq]))).2 ⟨(a q (by simp [hq])).2, b q hq⟩⟩, c⟩
theorem good_length {y : S48} {Q : List S50} : ∀ (ps : List Nat) (taken : Nat → Bool) (us : List Nat), Good y Q ps taken us → us.length = ps.length
  | [], _, [], _ => rfl
  | [], _, _ :: _, h => h.elim
  | _ :: _, _, [], h => h.elim
  | p :: ps, taken, a :: us, h => by simp [good_length ps _ us h.2.2]
def posOf (ps us : List Nat) (p : Nat) : Nat := us.getD (ps.idxOf p) 0
theorem map_posOf {ps us : List Nat} (hn : ps.Nodup) (hl : us.length = ps.length) : ps.map (posOf ps us) = us := by
  apply List.ext_getElem
  · simp [hl]
  · intro i h1 h2
    rw [List.getElem_map]
    have hi : i < ps.length := by simpa using h1
    unfold posOf
    rw [List.Nodup.idxOf_getElem hn i hi]
    simp [h2]
def LiesOn (y : S48) (Q : List S50) (S : Nat → Prop) (pos : Nat → Nat) : Prop := (∀ p, S p → spotB y (Q.getD p z50) (pos p) = true) ∧ ∀ p q, S p → S q → p ≠ q → Apart Q pos p q
theorem pairwise_apart {Q : List S50} {pos : Nat → Nat} {ps : List Nat} (hn : ps.Nodup) : ps.Pairwise (Apart Q pos) ↔ ∀ p q, p ∈ ps → q ∈ ps → p ≠ q → Apart Q pos p q := by
  constructor
  · intro h p q hp hq hne
    exact List.Pairwise.forall_of_forall_of_flip (R := fun a b => a ≠ b → Apart Q pos a b) (fun a _ e => absurd rfl e) (h.imp (S := fun a b => a ≠ b → Apart Q pos a b) fun h _ => h) (h.imp (S := flip fun a b => a ≠ b → Apart Q pos a b) fun h _ => h.symm) hp hq hne
  · intro h
    exact List.Pairwise.imp_of_mem (fun ha hb hne => h _ _ ha hb hne) hn
theorem good_lies {y : S48} {Q : List S50} {ps : List Nat} (hn : ps.Nodup) (hL : ∀ p ∈ ps, 1 ≤ lenQ Q p) {pos : Nat → Nat} : Good y Q ps (fun _ => false) (ps.map pos) ↔ LiesOn y Q (· ∈ ps) pos := by
  rw [good_pos pos ps hL, pairwise_apart hn]
  unfold LiesOn
  constructor
  · exact fun h => ⟨fun p hp => (h.1 p hp).1, h.2⟩
  · exact fun h => ⟨fun p hp => ⟨h.1 p hp, free_none _ _⟩, h.2⟩
theorem laid_some {y : S48} {Q : List S50} {ps : List Nat} (hn : ps.Nodup) (hL : ∀ p ∈ ps, 1 ≤ (Q.getD p z50).f0) {o : List Nat} (h : laidB y Q ps = some o) :
    o.length = ps.length ∧ LiesOn y Q (· ∈ ps) (posOf ps o) ∧ ∀ pos, LiesOn y Q (· ∈ ps) pos → lexLe o (ps.map pos) := by
  have hL' : ∀ p ∈ ps, 1 ≤ lenQ Q p := fun p hp => by have := hL p hp; unfold lenQ; omega
  obtain ⟨us, e, hg, hm⟩ := laidFrom_some ps hL _ _ _ h; rw [List.nil_append] at e; subst e; have hl := good_length _ _ _ hg
  refine ⟨hl, ?_, fun pos hp => hm _ ((good_lies hn hL').2 hp)⟩
  rw [← good_lies hn hL', map_posOf hn hl]
  exact hg
theorem laid_iff {y : S48} {Q : List S50} {ps : List Nat} (hn : ps.Nodup) (hL : ∀ p ∈ ps, 1 ≤ (Q.getD p z50).f0) : (laidB y Q ps).isSome = true ↔ ∃ pos, LiesOn y Q (· ∈ ps) pos := by
  have hL' : ∀ p ∈ ps, 1 ≤ lenQ Q p := fun p hp => by have := hL p hp; unfold lenQ; omega
  constructor
  · intro h
    obtain ⟨o, ho⟩ := Option.isSome_iff_exists.1 h
    exact ⟨_, (laid_some hn hL ho).2.1⟩
  · rintro ⟨pos, hp⟩
    cases h : laidB y Q ps with
    | some o => rfl
    | none => exact absurd ((good_lies hn hL').2 hp) (laidFrom_none ps hL _ _ h _)
theorem ints_inj {a b : List Nat} (h : ints a = ints b) : a = b := by
  unfold ints at h
  exact (List.map_inj_right (fun x y e => Int.ofNat.inj e)).1 h
theorem setL_nodup (s : Nat) : (setL s).Nodup := List.nodup_range.filter _
theorem mem_setL {s p : Nat} : p ∈ setL s ↔ p < 5 ∧ bitB s p = true := by unfold setL; rw [List.mem_filter, List.mem_range]
def numB (f : Nat → Bool) : Nat := (f 0).toNat + 2 * (f 1).toNat + 4 * (f 2).toNat + 8 * (f 3).toNat + 16 * (f 4).toNat
theorem numB_lt (f : Nat → Bool) : numB f < 32 := by
  unfold numB
  have := Bool.toNat_le (f 0); have := Bool.toNat_le (f 1); have := Bool.toNat_le (f 2); have := Bool.toNat_le (f 3); have := Bool.toNat_le (f 4)
  omega
theorem bit_numB (f : Nat → Bool) {q : Nat} (hq : q < 5) : bitB (numB f) q = f q := by
  unfold numB
  obtain rfl | rfl | rfl | rfl | rfl : q = 0 ∨ q = 1 ∨ q = 2 ∨ q = 3 ∨ q = 4 := by omega
  all_goals (cases f 0 <;> cases f 1 <;> cases f 2 <;> cases f 3 <;> cases f 4 <;> rfl)
theorem num_bits : ∀ s, s < 32 → numB (bitB s) = s := by decide
theorem eq_of_bits {s t : Nat} (hs : s < 32) (ht : t < 32) (h : ∀ q, q < 5 → bitB s q = bitB t q) : s = t := by
  rw [← num_bits s hs, ← num_bits t ht]
  unfold numB
  rw [h 0 (by omega), h 1 (by omega), h 2 (by omega), h 3 (by omega), h 4 (by omega)]
theorem bits_sub : ∀ s, s < 32 → ∀ t, t < 32 → (t &&& s == t) = true → ∀ q, q < 5 → bitB (s - t) q = (bitB s q && !bitB t q) ∧ (bitB t q = true → bitB s q = true) := by decide
theorem sub_of_bits : ∀ s, s < 32 → ∀ t, t < 32 → (∀ q, q < 5 → bitB t q = true → bitB s q = true) → (t &&& s == t) = true ∧ t ≤ s := by decide
theorem set_empty {s : Nat} (hs : s < 32) : setL s = [] ↔ s = 0 := by
  constructor
  · intro h
    refine eq_of_bits hs (by omega) (fun q hq => ?_)
    have : ¬ (q ∈ setL s) := by rw [h]; simp
    rw [mem_setL] at this
    have e : bitB s q = false := by simpa [hq] using this
    rw [e]
    unfold bitB; simp
  · rintro rfl; decide
def Cuts (P : List S48) (Q : List S50) (l : List Nat) (S : Nat → Prop) (a pos : Nat → Nat) : Prop :=
  (∀ p, S p → a p ∈ l ∧ spotB (P.getD (a p) z48) (Q.getD p z50) (pos p) = true) ∧ ∀ p q, S p → S q → p ≠ q → a p = a q → Apart Q pos p q
theorem cut_iff {P : List S48} {Q : List S50} (hq : ∀ p, p < Q.length → 1 ≤ (Q.getD p z50).f0) : ∀ (l : List Nat) (hl : l.Nodup) (s : Nat) (hs : s < 32) (hb : ∀ p ∈ setL s, p < Q.length),
    cutB P Q l s = true ↔ ∃ a pos, Cuts P Q l (· ∈ setL s) a pos
  | [], _, s, hs, hb => by
    unfold cutB
    rw [beq_iff_eq, ← set_empty hs]
    constructor
    · intro h
      exact ⟨fun _ => 0, fun _ => 0, fun p hp => by rw [h] at hp; simp at hp, fun p q hp => by rw [h] at hp; simp at hp⟩
    · rintro ⟨a, pos, h1, _⟩
      cases e : setL s with
      | nil => rfl
      | cons p t => exact absurd (h1 p (by rw [e]; simp)).1 (by simp)
  | i :: l, hl, s, hs, hb => by
    have hl' := (List.nodup_cons.1 hl)
    unfold cutB
    rw [Bool.or_eq_true, beq_iff_eq, List.any_eq_true]
    constructor
    · rintro (rfl | ⟨t, ht, h⟩)
      · have e := (set_empty (by omega : 0 < 32)).2 rfl
        exact ⟨fun _ => 0, fun _ => 0, fun p hp => by rw [e] at hp; simp at hp, fun p q hp => by rw [e] at hp; simp at hp⟩
      · rw [List.mem_range] at ht
        rw [Bool.and_eq_true, Bool.and_eq_true] at h; obtain ⟨h1, h2, h3⟩ := h
        have hbits := bits_sub s hs t (by omega) h1
        have hbt : ∀ p ∈ setL t, p ∈ setL s := fun p hp => by
          rw [mem_setL] at hp ⊢
          exact ⟨hp.1, (hbits p hp.1).2 hp.2⟩
        have hbd : ∀ p, p ∈ setL (s - t) ↔ p ∈ setL s ∧ ¬ p ∈ setL t := fun p => by
          rw [mem_setL, mem_setL, mem_setL]
          constructor
          · rintro ⟨a, b⟩
            rw [(hbits p a).1, Bool.and_eq_true, Bool.not_eq_true'] at b
            exact ⟨⟨a, b.1⟩, fun h => by rw [b.2] at h; exact absurd h.2 (by simp)⟩
          · rintro ⟨⟨a, b⟩, c⟩
            refine ⟨a, ?_⟩
            rw [(hbits p a).1, b]
            cases e : bitB t p with
            | false => rfl
            | true => exact absurd ⟨a, e⟩ c
        obtain ⟨pos1, g1, g2⟩ := (laid_iff (setL_nodup t) (fun p hp => hq p (hb p (hbt p hp)))).1 h2
        obtain ⟨a2, pos2, g3, g4⟩ := (cut_iff hq l hl'.2 (s - t) (by omega) (fun p hp => hb p ((hbd p).1 hp).1)).1 h3
        classical
        refine ⟨fun p => if p ∈ setL t then i else a2 p, fun p => if p ∈ setL t then pos1 p else pos2 p, fun p hp => ?_, fun p q hp hq hne he => ?_⟩
        · by_cases hpt : p ∈ setL t
          · simp only [if_pos hpt]
            exact ⟨by simp, g1 p hpt⟩
          · simp only [if_neg hpt]
            have := g3 p ((hbd p).2 ⟨hp, hpt⟩)
            exact ⟨by simp [this.1], this.2⟩
        · unfold Apart
          by_cases hpt : p ∈ setL t <;> by_cases hqt : q ∈ setL t
          · simp only [hpt, hqt, if_true]
            exact g2 p q hpt hqt hne
          · simp only [hpt, hqt, if_true, if_false] at he
            exact absurd (he ▸ (g3 q ((hbd q).2 ⟨hq, hqt⟩)).1) hl'.1
          · simp only [hpt, hqt, if_true, if_false] at he
            exact absurd (he ▸ (g3 p ((hbd p).2 ⟨hp, hpt⟩)).1) hl'.1
          · simp only [hpt, hqt, if_false] at he ⊢
            exact g4 p q ((hbd p).2 ⟨hp, hpt⟩) ((hbd q).2 ⟨hq, hqt⟩) hne he
    · rintro ⟨a, pos, h1, h2⟩
      right
      let t := numB fun p => bitB s p && decide (a p = i)
      have ht : t < 32 := numB_lt _
      have hbit : ∀ q, q < 5 → bitB t q = (bitB s q && decide (a q = i)) := fun q hq => bit_numB (fun p => bitB s p && decide (a p = i)) hq
      obtain ⟨e1, e2⟩ := sub_of_bits s hs t ht (fun q hq h => by rw [hbit q hq, Bool.and_eq_true] at h; exact h.1)
      have hbits := bits_sub s hs t ht e1
      have hmt : ∀ p, p ∈ setL t ↔ p ∈ setL s ∧ a p = i := fun p => by
        rw [mem_setL, mem_setL]
        constructor
        · rintro ⟨c, d⟩; rw [hbit p c, Bool.and_eq_true, decide_eq_true_eq] at d; exact ⟨⟨c, d.1⟩, d.2⟩
        · rintro ⟨⟨c, d⟩, e⟩; exact ⟨c, by rw [hbit p c, d, e]; simp⟩
      have hbd : ∀ p, p ∈ setL (s - t) → p ∈ setL s ∧ ¬ a p = i := fun p hp => by
        rw [mem_setL] at hp; obtain ⟨c, d⟩ := hp; rw [(hbits p c).1, hbit p c, Bool.and_eq_true] at d
        refine ⟨mem_setL.2 ⟨c, d.1⟩, fun e => ?_⟩
        rw [d.1] at d
        simp [e] at d
      refine ⟨t, by rw [List.mem_range]; omega, ?_⟩
      rw [Bool.and_eq_true, Bool.and_eq_true]
      refine ⟨e1, ?_, ?_⟩
      · refine (laid_iff (setL_nodup t) (fun p hp => hq p (hb p ((hmt p).1 hp).1))).2 ⟨pos, fun p hp => ?_, fun p q hp hq hne => ?_⟩
        · obtain ⟨c, d⟩ := (hmt p).1 hp
          have := (h1 p c).2
          rwa [d] at this
        · exact h2 p q ((hmt p).1 hp).1 ((hmt q).1 hq).1 hne (((hmt p).1 hp).2.trans ((hmt q).1 hq).2.symm)
      · refine (cut_iff hq l hl'.2 (s - t) (by omega) (fun p hp => hb p (hbd p hp).1)).2 ⟨a, pos, fun p hp => ?_, fun p q hp hq hne he => h2 p q (hbd p hp).1 (hbd q hq).1 hne he⟩
        obtain ⟨c, d⟩ := hbd p hp
        have := h1 p c
        exact ⟨by simpa [d] using this.1, this.2⟩
theorem cmp_self : ∀ l : List Int, cmpL l l = 0
  | [] => rfl
  | a :: l => by simp [cmpL, cmp_self l]
theorem cmp_zero : ∀ l m : List Int, cmpL l m = 0 → l = m
  | [], [], _ => rfl
  | [], _ :: _, h => by simp [cmpL] at h
  | _ :: _, [], h => by simp [cmpL] at h
  | a :: l, b :: m, h => by
    unfold cmpL at h
    split at h
    · simp at h
    · split at h
      · simp at h
      · obtain rfl : a = b := by omega
        rw [cmp_zero l m h]
theorem cmp_neg : ∀ l m : List Int, cmpL m l = - cmpL l m
  | [], [] => rfl
  | [], _ :: _ => rfl
  | _ :: _, [] => rfl
  | a :: l, b :: m => by
    unfold cmpL
    rw [cmp_neg l m]
    split <;> split <;> (try omega) <;> simp_all <;> omega
theorem cmp_trans : ∀ l m n : List Int, cmpL l m < 0 → cmpL m n < 0 → cmpL l n < 0
  | [], [], n, h, _ => by simp [cmpL] at h
  | [], _ :: _, [], _, h => by simp [cmpL] at h
  | [], _ :: _, _ :: _, _, _ => by simp [cmpL]
  | _ :: _, [], n, h, _ => by simp [cmpL] at h
  | _ :: _, _ :: _, [], _, h => by simp [cmpL] at h
  | a :: l, b :: m, c :: n, h1, h2 => by
    unfold cmpL at h1 h2 ⊢
    rcases Int.lt_trichotomy a b with x | rfl | x
    · rcases Int.lt_trichotomy b c with y | rfl | y
      · rw [if_pos (by omega)]; omega
      · rw [if_pos (by omega)]; omega
      · rw [if_neg (by omega), if_pos y] at h2; omega
    · rcases Int.lt_trichotomy a c with y | rfl | y
      · rw [if_pos y]; omega
      · rw [if_neg (by omega), if_neg (by omega)] at h1 h2 ⊢
        exact cmp_trans l m n h1 h2
      · rw [if_neg (by omega), if_pos y] at h2; omega
    · rw [if_neg (by omega), if_pos x] at h1; omega
structure Strict (bt : List Int → List Int → Bool) : Prop where
  irr : ∀ l, bt l l = false
  trans : ∀ a b c, bt a b = true → bt b c = true → bt a c = true
  tot : ∀ a b, a = b ∨ bt a b = true ∨ bt b a = true
theorem strict_few : Strict betterL := by
  refine ⟨fun l => ?_, fun a b c h1 h2 => ?_, fun a b => ?_⟩
  · unfold betterL; rw [cmp_self]; simp
  · unfold betterL at *
    simp only [Bool.or_eq_true, Bool.and_eq_true, decide_eq_true_eq, beq_iff_eq] at *
    rcases h1 with h1 | ⟨h1, h3⟩ <;> rcases h2 with h2 | ⟨h2, h4⟩
    · left; omega
    · left; omega
    · left; omega
    · right; exact ⟨by omega, cmp_trans a b c h3 h4⟩
  · unfold betterL
    simp only [Bool.or_eq_true, Bool.and_eq_true, decide_eq_true_eq, beq_iff_eq]
    have h1 := cmp_zero a b; have h2 := cmp_neg a b
    by_cases h : cmpL a b = 0
    · exact .inl (h1 h)
    · rcases Nat.lt_trichotomy a.length b.length with h3 | h3 | h3
      · exact .inr (.inl (.inl h3))
      · by_cases h4 : cmpL a b < 0
        · exact .inr (.inl (.inr ⟨h3, h4⟩))
        · exact .inr (.inr (.inr ⟨h3.symm, by omega⟩))
      · exact .inr (.inr (.inl h3))
def BestOf (bt : List Int → List Int → Bool) (is : Nat → Bool) (n : Nat) (l : List Nat) : Prop :=
  (∃ s, s < n ∧ l = setL s ∧ is s = true) ∧ ∀ s, s < n → is s = true → setL s = l ∨ bt (ints l) (ints (setL s)) = true
theorem bestTo_spec {bt : List Int → List Int → Bool} (hS : Strict bt) (is : Nat → Bool) : ∀ n, (bestTo bt is n = (false, []) ∧ ∀ s, s < n → is s = false) ∨ ∃ l, bestTo bt is n = (true, l) ∧ BestOf bt is n l
  | 0 => .inl ⟨rfl, fun s h => absurd h (by omega)⟩
  | n + 1 => by
    show (bestStep bt is n (bestTo bt is n) = _ ∧ _) ∨ ∃ l, bestStep bt is n (bestTo bt is n) = _ ∧ _
    rcases bestTo_spec hS is n with ⟨e, h⟩ | ⟨l, e, ⟨s0, h1, rfl, h2⟩, h3⟩
    · rw [e]
      unfold bestStep
      cases hn : is n with
      | false =>
        left
        refine ⟨by simp, fun s hs => ?_⟩
        rcases Nat.lt_or_ge s n with h' | h'
        · exact h s h'
        · obtain rfl : s = n := by omega
          exact hn
      | true =>
        right
        refine ⟨setL n, by simp, ⟨n, by omega, rfl, hn⟩, fun s hs his => ?_⟩
        rcases Nat.lt_or_ge s n with h' | h'
        · rw [h s h'] at his; exact absurd his (by simp)
        · obtain rfl : s = n := by omega
          exact .inl rfl
    · rw [e]
      right
      unfold bestStep
      cases hn : is n with
      | false =>
        refine ⟨setL s0, by simp, ⟨s0, by omega, rfl, h2⟩, fun s hs his => ?_⟩
        rcases Nat.lt_or_ge s n with h' | h'
        · exact h3 s h' his
        · obtain rfl : s = n := by omega
          rw [hn] at his; exact absurd his (by simp)
      | true =>
        cases hb : bt (ints (setL n)) (ints (setL s0)) with
        | true =>
          refine ⟨setL n, by simp, ⟨n, by omega, rfl, hn⟩, fun s hs his => ?_⟩
          rcases Nat.lt_or_ge s n with h' | h'
          · rcases h3 s h' his with h4 | h4
            · rw [h4]; exact .inr hb
            · exact .inr (hS.trans _ _ _ hb h4)
          · obtain rfl : s = n := by omega
            exact .inl rfl
        | false =>
          refine ⟨setL s0, by simp, ⟨s0, by omega, rfl, h2⟩, fun s hs his => ?_⟩
          rcases Nat.lt_or_ge s n with h' | h'
          · exact h3 s h' his
          · obtain rfl : s = n := by omega
            rcases hS.tot (ints (setL s0)) (ints (setL s)) with h4 | h4 | h4
            · exact .inl (ints_inj h4).symm
            · exact .inr h4
            · rw [hb] at h4; exact absurd h4 (by simp)
theorem cut_zero (P : List S48) (Q : List S50) (l : List Nat) : cutB P Q l 0 = true := by cases l <;> simp [cutB]
theorem fewest_spec (P : List S48) (Q : List S50) : (fewestZ P Q = (false, []) ∧ ∀ s, s < 2 ^ P.length → cutB P Q (setL s) (2 ^ Q.length - 1) = false) ∨ ∃ l, fewestZ P Q = (true, l) ∧ BestOf betterL (fun s => cutB P Q (setL s) (2 ^ Q.length - 1)) (2 ^ P.length) l :=
  bestTo_spec strict_few _ _
theorem greatest_of {f : Nat → Nat} : ∀ (l : List Nat), l ≠ [] → ∃ p ∈ l, ∀ q ∈ l, f q ≤ f p
  | [], h => absurd rfl h
  | [a], _ => ⟨a, by simp, by simp⟩
  | a :: b :: l, _ => by
    obtain ⟨p, hp, h⟩ := greatest_of (f := f) (b :: l) (by simp)
    by_cases hab : f p ≤ f a
    · exact ⟨a, by simp, fun q hq => by
        rcases List.mem_cons.1 hq with rfl | hq
        · exact Nat.le_refl _
        · exact Nat.le_trans (h q hq) hab⟩
    · exact ⟨p, by simp [hp], fun q hq => by
        rcases List.mem_cons.1 hq with rfl | hq
        · omega
        · exact h q hq⟩
theorem bits_one : ∀ s, s < 32 → ∀ p, p < 5 → bitB s p = true → 2 ^ p ≤ s ∧ (2 ^ p &&& s == 2 ^ p) = true ∧ ∀ q, q < 5 → bitB (s - 2 ^ p) q = (bitB s q && !decide (q = p)) := by decide
theorem mem_less {s p : Nat} (hs : s < 32) (hp : p ∈ setL s) (q : Nat) : q ∈ setL (s - 2 ^ p) ↔ q ∈ setL s ∧ q ≠ p := by
  obtain ⟨h5, hb⟩ := mem_setL.1 hp; have h := (bits_one s hs p h5 hb).2.2
  rw [mem_setL, mem_setL]
  constructor
  · rintro ⟨a, b⟩
    rw [h q a, Bool.and_eq_true, Bool.not_eq_true', decide_eq_false_iff_not] at b
    exact ⟨⟨a, b.1⟩, b.2⟩
  · rintro ⟨⟨a, b⟩, c⟩
    exact ⟨a, by rw [h q a, b]; simp [c]⟩
def EndAt (y : S48) (Q : List S50) (s : Nat) (e : Int) : Prop :=
  (e = 99 ∧ ∀ pos, ¬ LiesOn y Q (· ∈ setL s) pos) ∨
  (e < 99 ∧ 0 ≤ e ∧ (∃ pos, LiesOn y Q (· ∈ setL s) pos ∧ ∀ p, p ∈ setL s → (pos p + lenQ Q p : Nat) ≤ e) ∧ ∀ pos, LiesOn y Q (· ∈ setL s) pos → ∀ M : Int, 0 ≤ M → (∀ p, p ∈ setL s → (pos p + lenQ Q p : Nat) ≤ M) → e ≤ M)
theorem EndAt.zero (y : S48) (Q : List S50) : EndAt y Q 0 0 := by
  have e := (set_empty (by omega : 0 < 32)).2 rfl
  refine .inr ⟨by omega, by omega, ⟨fun _ => 0, ⟨fun p hp => ?_, fun p q hp => ?_⟩, fun p hp => ?_⟩, fun _ _ M h _ => h⟩
  all_goals (rw [e] at hp; simp at hp)
theorem EndAt.step {y : S48} {Q : List S50} {s : Nat} (hs : s < 32) (h0 : s ≠ 0) (hy : y.f0 ≤ 16) (hL : ∀ p ∈ setL s, 1 ≤ (Q.getD p z50).f0) {E : Nat → Int} (hE : ∀ p ∈ setL s, EndAt y Q (s - 2 ^ p) (E p)) {e : Int} (h3 : e ≤ 99)
    (h1 : e = 99 ∨ ∃ p ∈ setL s, ∃ a ∈ spotsL y (Q.getD p z50), E p ≤ (a : Int) ∧ e = (a : Int) + (Q.getD p z50).f0)
    (h2 : ∀ p ∈ setL s, ∀ a ∈ spotsL y (Q.getD p z50), E p ≤ (a : Int) → e ≤ (a : Int) + (Q.getD p z50).f0) : EndAt y Q s e := by
  have hlen : ∀ p ∈ setL s, ((lenQ Q p : Nat) : Int) = (Q.getD p z50).f0 := fun p hp => by have := hL p hp; unfold lenQ; omega
  have key : ∀ pos, LiesOn y Q (· ∈ setL s) pos → ∃ p ∈ setL s, e ≤ (pos p + lenQ Q p : Nat) ∧ (pos p + lenQ Q p : Nat) ≤ (16 : Int) := by
    intro pos hl
    obtain ⟨p, hp, hm⟩ := greatest_of (f := pos) (setL s) (fun h => h0 ((set_empty hs).1 h))
    have hsp := hl.1 p hp; have hsl := (spot_lt hsp).1; have hlp := hlen p hp
    have hrest : ∀ q, q ∈ setL (s - 2 ^ p) → pos q + lenQ Q q ≤ pos p := fun q hq => by
      obtain ⟨hqs, hne⟩ := (mem_less hs hp q).1 hq
      rcases hl.2 q p hqs hp hne with h | h
      · exact h
      · have := hm q hqs
        have := hlen p hp
        have := hL p hp
        omega
    have hlr : LiesOn y Q (· ∈ setL (s - 2 ^ p)) pos := ⟨fun q hq => hl.1 q ((mem_less hs hp q).1 hq).1, fun q r hq hr hne => hl.2 q r ((mem_less hs hp q).1 hq).1 ((mem_less hs hp r).1 hr).1 hne⟩
    have hep : E p ≤ (pos p : Int) := by
      rcases hE p hp with ⟨_, hno⟩ | ⟨_, _, _, hmin⟩
      · exact absurd hlr (hno pos)
      · exact hmin pos hlr (pos p) (by omega) (fun q hq => by have := hrest q hq; omega)
    have := h2 p hp (pos p) ((mem_spots (hL p hp)).2 hsp) hep
    exact ⟨p, hp, by omega, by omega⟩
  rcases h1 with rfl | ⟨p, hp, a, ha, hle, rfl⟩
  · refine .inl ⟨rfl, fun pos hl => ?_⟩
    obtain ⟨p, _, h, h'⟩ := key pos hl
    omega
  · have hsp := (mem_spots (hL p hp)).1 ha
    have hsl := (spot_lt hsp).1; have hlp := hlen p hp; have hl1 := hL p hp
    refine .inr ⟨by omega, by omega, ?_, fun pos hl M _ hM => ?_⟩
    · rcases hE p hp with ⟨e99, _⟩ | ⟨_, _, ⟨pos, hl, hends⟩, _⟩
      · omega
      · refine ⟨fun q => if q = p then a else pos q, ⟨fun q hq => ?_, fun q r hq hr hne => ?_⟩, fun q hq => ?_⟩
        · by_cases h : q = p
          · subst h; simpa using hsp
          · simp only [h, if_false]; exact hl.1 q ((mem_less hs hp q).2 ⟨hq, h⟩)
        · unfold Apart
          by_cases h : q = p
          · subst h
            have hr' := (mem_less hs hp r).2 ⟨hr, fun e => hne e.symm⟩
            simp only [if_true, if_neg (fun e => hne e.symm : ¬ r = q)]
            have := hends r hr'
            right; omega
          · by_cases h' : r = p
            · subst h'
              have hq' := (mem_less hs hp q).2 ⟨hq, h⟩
              simp only [if_true, if_neg h]
              have := hends q hq'
              left; omega
            · simp only [h, h', if_false]
              exact hl.2 q r ((mem_less hs hp q).2 ⟨hq, h⟩) ((mem_less hs hp r).2 ⟨hr, h'⟩) hne
        · by_cases h : q = p
          · subst h; simp only [if_true]; omega
          · simp only [h, if_false]
            have := hends q ((mem_less hs hp q).2 ⟨hq, h⟩)
            omega
    · obtain ⟨q, hq, h, _⟩ := key pos hl
      have := hM q hq
      omega
theorem EndAt.laid {y : S48} {Q : List S50} {s : Nat} {e : Int} (hL : ∀ p ∈ setL s, 1 ≤ (Q.getD p z50).f0) (h : EndAt y Q s e) : decide (e < 99) = (laidB y Q (setL s)).isSome ∧ (e = 99 ↔ laidB y Q (setL s) = none) := by
  have hi := laid_iff (y := y) (setL_nodup s) hL
  rcases h with ⟨rfl, h⟩ | ⟨h1, _, ⟨pos, h2, _⟩, _⟩
  · have hn : laidB y Q (setL s) = none := by
      cases hc : laidB y Q (setL s) with
      | none => rfl
      | some o => rw [hc] at hi; obtain ⟨pos, hp⟩ := hi.1 rfl; exact absurd hp (h pos)
    rw [hn]; simp
  · have hs := hi.2 ⟨pos, h2⟩
    rw [hs]
    refine ⟨by simpa using h1, ⟨fun e => by omega, fun e => by rw [e] at hs; simp at hs⟩⟩
theorem cuts_weaker {P P' : List S48} {Q Q' : List S50} {l l' : List Nat} {S S' : Nat → Prop} {a pos : Nat → Nat} (h : Cuts P Q l S a pos) (hl : ∀ i, i ∈ l → i ∈ l') (hS : ∀ p, S' p → S p)
    (hsp : ∀ i p n, i ∈ l → S' p → spotB (P.getD i z48) (Q.getD p z50) n = true → spotB (P'.getD i z48) (Q'.getD p z50) n = true) (hlen : ∀ p, S' p → lenQ Q' p = lenQ Q p) : Cuts P' Q' l' S' a pos :=
  ⟨fun p hp => ⟨hl _ (h.1 p (hS p hp)).1, hsp _ _ _ (h.1 p (hS p hp)).1 hp (h.1 p (hS p hp)).2⟩, fun p q hp hq hne he => by
    have := h.2 p q (hS p hp) (hS q hq) hne he
    unfold Apart at *
    rw [hlen p hp, hlen q hq]
    exact this⟩
theorem full_bits : ∀ n, n ≤ 5 → ∀ q, q < 5 → bitB (2 ^ n - 1) q = decide (q < n) := by decide
theorem mem_full {n : Nat} (hn : n ≤ 5) (q : Nat) : q ∈ setL (2 ^ n - 1) ↔ q < n := by
  rw [mem_setL]
  constructor
  · rintro ⟨a, b⟩; rw [full_bits n hn q a] at b; simpa using b
  · intro h; exact ⟨by omega, by rw [full_bits n hn q (by omega)]; simpa using h⟩
theorem Ok.part1 {P : List S48} {Q : List S50} (h : Ok P Q) (p : Nat) (hp : p < Q.length) : 1 ≤ (Q.getD p z50).f0 := (h.shape _ (by rw [show Q.getD p z50 = Q[p] from by simp [hp]]; exact List.getElem_mem hp)).1
theorem lt32 {n s : Nat} (hn : n ≤ 5) (hs : s < 2 ^ n) : s < 32 := Nat.lt_of_lt_of_le hs (Nat.pow_le_pow_right (by omega : 0 < 2) hn)
theorem Ok.cut {P : List S48} {Q : List S50} (h : Ok P Q) (t : Nat) (s : Nat) (hs : s < 2 ^ Q.length) : cutB P Q (setL t) s = true ↔ ∃ a pos, Cuts P Q (setL t) (· ∈ setL s) a pos :=
  cut_iff h.part1 (setL t) (setL_nodup t) s (lt32 h.q5 hs) (fun p hp => setL_lt hs hp)
theorem setL_le : ∀ n, n ≤ 5 → ∀ s, s < 2 ^ n → (setL s).length ≤ n := by decide
def pick {α : Type} (z : α) (L : List α) (u : Nat) : List α := (setL u).map fun i => L.getD i z
theorem pick_length {α : Type} (z : α) (L : List α) (u : Nat) : (pick z L u).length = (setL u).length := by simp [pick]
theorem pick_getD {α : Type} (z : α) (L : List α) (u : Nat) {i : Nat} (hi : i < (setL u).length) : (pick z L u).getD i z = L.getD ((setL u).getD i 0) z := by simp [pick, hi]
theorem pick_mem {α : Type} {z : α} {L : List α} {u : Nat} (hu : ∀ i ∈ setL u, i < L.length) {x : α} (hx : x ∈ pick z L u) : x ∈ L := by
  unfold pick at hx
  obtain ⟨i, hi, rfl⟩ := List.mem_map.1 hx
  have := hu i hi
  rw [show L.getD i z = L[i] from by simp [this]]
  exact List.getElem_mem _
theorem Ok.pick {P : List S48} {Q : List S50} (h : Ok P Q) {u v : Nat} (hu : u < 2 ^ P.length) (hv : v < 2 ^ Q.length) : Ok (pick z48 P u) (pick z50 Q v) := by
  have h3 := h.p3; have h5 := h.q5
  refine ⟨?_, ?_, fun y hy => h.wood y (pick_mem (fun i hi => setL_lt hu hi) hy), fun x hx => h.shape x (pick_mem (fun i hi => setL_lt hv hi) hx)⟩
  · rw [pick_length]; have := setL_le P.length (by omega) u hu; omega
  · rw [pick_length]; have := setL_le Q.length h5 v hv; omega
theorem getD_mem0 {l : List Nat} {i : Nat} (hi : i < l.length) : l.getD i 0 ∈ l := by rw [show l.getD i 0 = l[i] from by simp [hi]]; exact List.getElem_mem _
theorem idx_lt {l : List Nat} {p : Nat} (hp : p ∈ l) : l.idxOf p < l.length := List.idxOf_lt_length_iff.2 hp
theorem getD_idx {l : List Nat} {p : Nat} (hp : p ∈ l) : l.getD (l.idxOf p) 0 = p := by
  have h := idx_lt hp
  rw [show l.getD (l.idxOf p) 0 = l[l.idxOf p] from by simp [h]]
  exact List.getElem_idxOf h
theorem idx_getD {l : List Nat} (hn : l.Nodup) {i : Nat} (hi : i < l.length) : l.idxOf (l.getD i 0) = i := by
  rw [show l.getD i 0 = l[i] from by simp [hi]]
  exact List.Nodup.idxOf_getElem hn i hi
theorem cut_pick {P : List S48} {Q : List S50} (h : Ok P Q) {u v : Nat} (hu : u < 2 ^ P.length) (hv : v < 2 ^ Q.length) :
    cutB (pick z48 P u) (pick z50 Q v) (setL (2 ^ (pick z48 P u).length - 1)) (2 ^ (pick z50 Q v).length - 1) = cutB P Q (setL u) v := by
  have hok := h.pick hu hv
  have h3 : (setL u).length ≤ 5 := by have := hok.p3; rw [pick_length] at this; omega
  have h5 : (setL v).length ≤ 5 := by have := hok.q5; rwa [pick_length] at this
  have hpow : 0 < 2 ^ (pick z50 Q v).length := Nat.pos_of_ne_zero (by simp)
  rw [Bool.eq_iff_iff, hok.cut _ _ (by omega), h.cut _ _ hv, pick_length, pick_length]
  have hlen : ∀ i, i < (setL v).length → lenQ (pick z50 Q v) i = lenQ Q ((setL v).getD i 0) := fun i hi => by unfold lenQ; rw [pick_getD _ _ _ hi]
  have hun := setL_nodup u; have hvn := setL_nodup v
  constructor
  · rintro ⟨a, pos, h1, h2⟩
    refine ⟨fun p => (setL u).getD (a ((setL v).idxOf p)) 0, fun p => pos ((setL v).idxOf p), fun p hp => ?_, fun p q hp hq hne he => ?_⟩
    · have hi := idx_lt hp
      obtain ⟨h3', h4⟩ := h1 _ ((mem_full h5 _).2 hi); have hj := (mem_full h3 _).1 h3'; rw [pick_getD _ _ _ hj, pick_getD _ _ _ hi, getD_idx hp] at h4
      exact ⟨getD_mem0 hj, h4⟩
    · have hi := idx_lt hp
      have hi' := idx_lt hq; have hj := (mem_full h3 _).1 (h1 _ ((mem_full h5 _).2 hi)).1; have hj' := (mem_full h3 _).1 (h1 _ ((mem_full h5 _).2 hi')).1
      have e : a ((setL v).idxOf p) = a ((setL v).idxOf q) := by
        have := congrArg (setL u).idxOf he
        simp only at this
        rwa [idx_getD hun hj, idx_getD hun hj'] at this
      have hne' : (setL v).idxOf p ≠ (setL v).idxOf q := fun e' => hne (by rw [← getD_idx hp, ← getD_idx hq, e'])
      have := h2 _ _ ((mem_full h5 _).2 hi) ((mem_full h5 _).2 hi') hne' e
      unfold Apart at this ⊢
      rwa [hlen _ hi, hlen _ hi', getD_idx hp, getD_idx hq] at this
  · rintro ⟨a, pos, h1, h2⟩
    refine ⟨fun i => (setL u).idxOf (a ((setL v).getD i 0)), fun i => pos ((setL v).getD i 0), fun i hi => ?_, fun i j hi hj hne he => ?_⟩
    · have hi := (mem_full h5 _).1 hi
      obtain ⟨h3', h4⟩ := h1 _ (getD_mem0 hi); have hk := idx_lt h3'
      refine ⟨(mem_full h3 _).2 hk, ?_⟩
      rw [pick_getD _ _ _ hk, pick_getD _ _ _ hi, getD_idx h3']
      exact h4
    · have hi := (mem_full h5 _).1 hi
      have hj := (mem_full h5 _).1 hj; have hk := (h1 _ (getD_mem0 hi)).1; have hk' := (h1 _ (getD_mem0 hj)).1
      have hne' : (setL v).getD i 0 ≠ (setL v).getD j 0 := fun e => hne (by rw [← idx_getD hvn hi, ← idx_getD hvn hj, e])
      have e : a ((setL v).getD i 0) = a ((setL v).getD j 0) := by
        have := congrArg (fun k => (setL u).getD k 0) he
        simp only at this
        rwa [getD_idx hk, getD_idx hk'] at this
      have := h2 _ _ (getD_mem0 hi) (getD_mem0 hj) hne' e
      unfold Apart at this ⊢
      rwa [hlen _ hi, hlen _ hj]
end Go.Proofs.YtekjlpldooihhaaDoorP
namespace Go.Proofs.YtekjlpldooihhaaDoor.PR
open Go.RowKit Go.Proofs.YtekjlpldooihhaaDoorW.PrintWords Go.Proofs.YtekjlpldooihhaaDoorEv Go.Proofs.YtekjlpldooihhaaDoorP Go.Proofs.YtekjlpldooihhaaDoor.PT Go.Proofs.YtekjlpldooihhaaDoorH
set_option linter.unusedVariables false
set_option linter.unusedSimpArgs false
theorem rd_at (l : List Int) (j : Nat) : rd l (j : Int) = l.getD j 0 := rfl
theorem filter_next_yes {p : Nat → Bool} {k : Nat} (h : p k = true) : (List.range (k + 1)).filter p = (List.range k).filter p ++ [k] := by
  rw [List.range_succ, List.filter_append]; simp [h]
theorem filter_next_no {p : Nat → Bool} {k : Nat} (h : p k = false) : (List.range (k + 1)).filter p = (List.range k).filter p := by
  rw [List.range_succ, List.filter_append]; simp [h]
theorem In_f (a b c : Int) : skewbaldref00_In.f a b c = some (decide (b ≤ a) && decide (a ≤ c)) := by
  unfold skewbaldref00_In.f
  by_cases h : b ≤ a <;> simp [h]
theorem Equal_l0 (x y : List Int) (hxy : x.length = y.length) (hs : x.length < 9223372036854775808) : ∀ (d j : Nat) (b : Bool), j + d = x.length →
    Evt (fun k => skewbaldref00_Equal.l0 k x y b (j : Int)) (b && decide (x.drop j = y.drop j))
  | d, j, false, hj => by
    refine Evt.succ ?_
    simp only [skewbaldref00_Equal.l0]
    exact Evt.neg (by simp) (by simpa using Evt.pure false)
  | 0, j, true, hj => by
    refine Evt.succ ?_
    simp only [skewbaldref00_Equal.l0]
    rw [List.drop_eq_nil_of_le (by omega), List.drop_eq_nil_of_le (by omega)]
    exact Evt.pos (by first | rfl | trivial) (Evt.neg (by omega) (by simpa using Evt.pure true))
  | d + 1, j, true, hj => by
    refine Evt.succ ?_
    simp only [skewbaldref00_Equal.l0]
    have h1 : x.drop j = x[j] :: x.drop (j + 1) := List.drop_eq_getElem_cons (by omega)
    have h2 : y.drop j = y[j] :: y.drop (j + 1) := List.drop_eq_getElem_cons (by omega)
    have g1 : rd x (j : Int) = x[j] := by rw [rd_at]; simp [show j < x.length by omega]
    have g2 : rd y (j : Int) = y[j] := by rw [rd_at]; simp [show j < y.length by omega]
    refine Evt.pos (by first | rfl | trivial) (Evt.pos (by omega) (Evt.pos (by omega) (Evt.pos (by omega) ?_)))
    rw [g1, g2, h1, h2, w64 j (by omega)]
    refine (Equal_l0 x y hxy hs d (j + 1) _ (by omega)).of_eq ?_
    rw [Bool.eq_iff_iff]
    simp only [Bool.and_eq_true, beq_iff_eq, decide_eq_true_eq, List.cons.injEq, Bool.true_and]
theorem Equal_f (x y : List Int) (hs : x.length < 9223372036854775808) : Evt (fun k => skewbaldref00_Equal.f k x y) (decide (x = y)) := by
  unfold skewbaldref00_Equal.f
  by_cases h : x.length = y.length
  · have hb : ((x.length : Int) == (y.length : Int)) = true := by simp [h]
    rw [hb]
    refine (Equal_l0 x y h hs x.length 0 true (by omega)).of_eq ?_
    simp
  · have hb : ((x.length : Int) == (y.length : Int)) = false := by simp; omega
    rw [hb]
    refine Evt.succ ?_
    simp only [skewbaldref00_Equal.l0]
    refine Evt.neg (by simp) ?_
    have : decide (x = y) = false := decide_eq_false (fun e => h (by rw [e]))
    rw [this]
    exact Evt.pure _
theorem Of_f (s i : Nat) (hs : s < 256) (hi : i < 64) : skewbaldref00_Of.f (s : Int) (i : Int) = some (bitB s i) := by
  unfold skewbaldref00_Of.f
  rw [if_pos (by omega)]
  congr 1
  have : shr .i64 (s : Int) (i : Int) = (s : Int) / 2 ^ i := by
    unfold shr
    rw [show min (i : Int).toNat (IntKind.i64).bits = i by simp [IntKind.bits]; omega]
  rw [this]
  exact Go.Proofs.YtekjlpldooihhaaDoorH.bit_at s i hs
def sizesL (s n : Nat) : List Nat := (List.range n).filter (bitB s)
theorem List_l0 (s n : Nat) (hs : s < 256) (hn : n < 64) : ∀ (d j : Nat), j + d = n →
    Evt (fun k => skewbaldref00_List.l0 k (s : Int) (n : Int) (ints ((List.range j).filter (bitB s))) (j : Int)) (ints ((List.range n).filter (bitB s)))
  | 0, j, hj => by
    refine Evt.succ ?_
    simp only [skewbaldref00_List.l0]
    refine Evt.neg (by omega) ?_
    obtain rfl : j = n := by omega
    exact Evt.pure _
  | d + 1, j, hj => by
    refine Evt.succ ?_
    simp only [skewbaldref00_List.l0]
    refine Evt.pos (by omega) ?_
    rw [Of_f s j hs (by omega), w64 j (by omega)]
    simp only [Option.bind_some]
    have ih := List_l0 s n hs hn d (j + 1) (by omega)
    cases hc : bitB s j with
    | true =>
      rw [filter_next_yes hc, ints_append] at ih
      have hl : (ints ((List.range j).filter (bitB s))).length ≤ j := by
        rw [ints_length]
        have := List.length_filter_le (bitB s) (List.range j)
        rwa [List.length_range] at this
      exact Evt.pos rfl (Evt.pos (by omega) ih)
    | false =>
      rw [filter_next_no hc] at ih
      exact Evt.neg (by simp) ih
theorem List_f (s n : Nat) (hs : s < 256) (hn : n < 64) : Evt (fun k => skewbaldref00_List.f k (s : Int) (n : Int)) (ints (sizesL s n)) := by
  unfold skewbaldref00_List.f
  exact List_l0 s n hs hn n 0 (by omega)
theorem tmod_cases (n m : Int) (hm : 0 < m) : (0 ≤ Int.tmod n m ∧ Int.tmod n m = n % m) ∨ (Int.tmod n m < 0 ∧ -m < Int.tmod n m ∧ Int.tmod n m + m = n % m) := by
  have h := Int.mul_tdiv_add_tmod n m
  have h1 : Int.tmod n m < m := Int.tmod_lt_of_pos n hm
  have h2 : -m < Int.tmod n m := Int.lt_tmod_of_pos n hm
  generalize Int.tmod n m = r at *
  generalize Int.tdiv n m = q at *
  subst h
  rw [Int.add_comm, Int.add_mul_emod_self_left]
  by_cases h0 : 0 ≤ r
  · exact .inl ⟨h0, (Int.emod_eq_of_lt h0 h1).symm⟩
  · refine .inr ⟨by omega, h2, ?_⟩
    rw [← Int.add_emod_right, Int.emod_eq_of_lt (by omega) (by omega)]
theorem Round_f (n : Int) (m : Nat) (h1 : 1 ≤ m) (h2 : m < 9223372036854775808) : skewbaldref00_Round.f n (m : Int) = some (n % (m : Int)) := by
  unfold skewbaldref00_Round.f
  rw [if_neg (by omega), if_neg (by omega)]
  rcases tmod_cases n m (by omega) with ⟨a, b⟩ | ⟨a, b, c⟩
  · rw [if_neg (by omega), b]
  · rw [if_pos a, ← c]
    congr 1
    unfold wrap64
    omega
theorem Round_nat (n : Int) (m : Nat) (h1 : 1 ≤ m) (h2 : m < 9223372036854775808) : ∃ t : Nat, t < m ∧ skewbaldref00_Round.f n (m : Int) = some (t : Int) := by
  have h0 := Int.emod_nonneg n (show (m : Int) ≠ 0 by omega)
  have h3 := Int.emod_lt_of_pos n (show (0 : Int) < m by omega)
  refine ⟨(n % (m : Int)).toNat, by omega, ?_⟩
  rw [Round_f n m h1 h2]
  congr 1
  omega
def takeD (l : List Int) (n : Int) : Int := if l = [] then 0 else rd l (n % (l.length : Int))
theorem Take_f (l : List Int) (n : Int) (hl : l.length < 9223372036854775808) : skewbaldref00_Take.f l n = some (takeD l n) := by
  unfold skewbaldref00_Take.f takeD
  cases l with
  | nil => rfl
  | cons a l =>
    rw [if_neg (by simp only [List.length_cons]; omega), if_neg (List.cons_ne_nil a l), Round_f n (a :: l).length (by simp) hl]
    have h0 := Int.emod_nonneg n (show (((a :: l).length : Nat) : Int) ≠ 0 by simp only [List.length_cons]; omega)
    have h3 := Int.emod_lt_of_pos n (show (0 : Int) < (((a :: l).length : Nat) : Int) by simp only [List.length_cons]; omega)
    simp only [Option.bind_some]
    rw [if_pos h0, if_pos h3]
def growsB (b : Int) : Int → List Int → Bool
  | _, [] => true
  | last, x :: xs => (decide (last < x) && decide (x < b)) && growsB b x xs
theorem Grows_l0 (l : List Int) (hl : l.length < 9223372036854775807) (b : Int) : ∀ (d j : Nat) (last : Int), j + d = l.length →
    Evt (fun k => skewbaldref00_Grows.l0 k l b last (j : Int)) (growsB b last (l.drop j))
  | 0, j, last, hj => by
    refine Evt.succ ?_
    simp only [skewbaldref00_Grows.l0]
    rw [List.drop_eq_nil_of_le (by omega)]
    exact Evt.neg (by omega) (Evt.pure _)
  | d + 1, j, last, hj => by
    refine Evt.succ ?_
    simp only [skewbaldref00_Grows.l0]
    have h1 : l.drop j = l[j] :: l.drop (j + 1) := List.drop_eq_getElem_cons (by omega)
    have g1 : rd l (j : Int) = l[j] := by rw [rd_at]; simp [show j < l.length by omega]
    rw [h1, g1, w64 j (by omega)]
    refine Evt.pos (by omega) (Evt.pos (by omega) ?_)
    unfold growsB
    refine Evt.ite (fun h => ?_) (fun h => Evt.ite (fun h2 => ?_) (fun h2 => ?_))
    · rw [show decide (last < l[j]) = false by simp; omega]; exact Evt.pure false
    · rw [show decide (l[j] < b) = false by simp; omega, Bool.and_false]; exact Evt.pure false
    · rw [show decide (last < l[j]) = true by simp; omega, show decide (l[j] < b) = true by simp; omega]
      exact Grows_l0 l hl b d (j + 1) _ (by omega)
theorem Grows_f (l : List Int) (hl : l.length < 9223372036854775807) (b : Int) : Evt (fun k => skewbaldref00_Grows.f k l b) (growsB b (-1) l) := by
  unfold skewbaldref00_Grows.f
  exact Grows_l0 l hl b l.length 0 (-1) (by omega)
def findD (l : List Int) (x : Int) : Int := if x ∈ l then (l.idxOf x : Int) else -1
theorem findD_nonneg (l : List Int) (x : Int) : findD l x ≥ 0 ↔ x ∈ l := by
  unfold findD
  by_cases h : x ∈ l <;> simp [h]
theorem Find_l0 (l : List Int) (hl : l.length < 9223372036854775807) (x : Int) : ∀ (d j : Nat), j + d = l.length →
    Evt (fun k => skewbaldref00_Find.l0 k l x (j : Int)) (if x ∈ l.drop j then ((j + (l.drop j).idxOf x : Nat) : Int) else -1)
  | 0, j, hj => by
    refine Evt.succ ?_
    simp only [skewbaldref00_Find.l0]
    rw [List.drop_eq_nil_of_le (by omega)]
    exact Evt.neg (by omega) (by simpa using Evt.pure (-1 : Int))
  | d + 1, j, hj => by
    refine Evt.succ ?_
    simp only [skewbaldref00_Find.l0]
    have h1 : l.drop j = l[j] :: l.drop (j + 1) := List.drop_eq_getElem_cons (by omega)
    have g1 : rd l (j : Int) = l[j] := by rw [rd_at]; simp [show j < l.length by omega]
    rw [h1, g1, w64 j (by omega)]
    refine Evt.pos (by omega) (Evt.pos (by omega) (Evt.ite (fun h => ?_) (fun h => ?_)))
    · subst h
      rw [if_pos (List.mem_cons_self ..), List.idxOf_cons_self]
      exact Evt.pure _
    · refine (Find_l0 l hl x d (j + 1) (by omega)).of_eq ?_
      rw [show (l[j] :: l.drop (j + 1)).idxOf x = (l.drop (j + 1)).idxOf x + 1 from by rw [List.idxOf_cons, show (l[j] == x) = false from beq_eq_false_iff_ne.2 h]; rfl]
      have : x ∈ l[j] :: l.drop (j + 1) ↔ x ∈ l.drop (j + 1) := by
        rw [List.mem_cons]
        constructor
        · rintro (rfl | h2)
          · exact absurd rfl h
          · exact h2
        · exact .inr
      by_cases hm : x ∈ l.drop (j + 1)
      · rw [if_pos hm, if_pos (this.2 hm)]
        congr 1
        omega
      · rw [if_neg hm, if_neg (fun h3 => hm (this.1 h3))]
theorem Find_f (l : List Int) (hl : l.length < 9223372036854775807) (x : Int) : Evt (fun k => skewbaldref00_Find.f k l x) (findD l x) := by
  unfold skewbaldref00_Find.f
  exact (Find_l0 l hl x l.length 0 (by omega)).of_eq (by unfold findD; simp)
def lessB : List Int → List Int → Bool
  | [], [] => false
  | [], _ :: _ => true
  | _ :: _, [] => false
  | a :: l, b :: m => if a = b then lessB l m else decide (a < b)
theorem lessB_cons (a b : Int) (l m : List Int) : lessB (a :: l) (b :: m) = if a = b then lessB l m else decide (a < b) := rfl
theorem Less_l0 (x y : List Int) (hx : x.length < 9223372036854775807) (hy : y.length < 9223372036854775807) : ∀ (d j : Nat), j + d = x.length → j ≤ y.length →
    Evt (fun k => skewbaldref00_Less.l0 k x y (j : Int)) (lessB (x.drop j) (y.drop j))
  | 0, j, hj, hj2 => by
    refine Evt.succ ?_
    simp only [skewbaldref00_Less.l0]
    refine Evt.neg (by omega) (Evt.succ ?_)
    simp only [skewbaldref00_Less.j1]
    refine Evt.neg (by simp) ?_
    rw [List.drop_eq_nil_of_le (show x.length ≤ j by omega)]
    by_cases e : y.length = j
    · rw [List.drop_eq_nil_of_le (show y.length ≤ j by omega), decide_eq_false (show ¬ (x.length : Int) < (y.length : Int) by omega)]
      exact Evt.pure _
    · rw [List.drop_eq_getElem_cons (show j < y.length by omega), decide_eq_true (show (x.length : Int) < (y.length : Int) by omega)]
      exact Evt.pure _
  | d + 1, j, hj, hj2 => by
    refine Evt.succ ?_
    simp only [skewbaldref00_Less.l0]
    refine Evt.pos (by omega) (Evt.succ ?_)
    simp only [skewbaldref00_Less.j1]
    have h1 : x.drop j = x[j] :: x.drop (j + 1) := List.drop_eq_getElem_cons (by omega)
    by_cases e : y.length = j
    · refine Evt.neg (by rw [decide_eq_false (show ¬ (j : Int) < (y.length : Int) by omega)]; simp) ?_
      rw [h1, List.drop_eq_nil_of_le (show y.length ≤ j by omega), decide_eq_false (show ¬ (x.length : Int) < (y.length : Int) by omega)]
      exact Evt.pure _
    · have h2 : y.drop j = y[j] :: y.drop (j + 1) := List.drop_eq_getElem_cons (by omega)
      have g1 : rd x (j : Int) = x[j] := by rw [rd_at]; simp [show j < x.length by omega]
      have g2 : rd y (j : Int) = y[j] := by rw [rd_at]; simp [show j < y.length by omega]
      refine Evt.pos (by rw [decide_eq_true (show (j : Int) < (y.length : Int) by omega)]) (Evt.pos (by omega) (Evt.pos (by omega) (Evt.pos (by omega) ?_)))
      rw [g1, g2, h1, h2, w64 j (by omega), lessB_cons]
      by_cases h : x[j] = y[j]
      · rw [if_pos h]; exact Evt.pos h (Less_l0 x y hx hy d (j + 1) (by omega) (by omega))
      · rw [if_neg h]; exact Evt.neg h (Evt.pure _)
theorem Less_f (x y : List Int) (hx : x.length < 9223372036854775807) (hy : y.length < 9223372036854775807) : Evt (fun k => skewbaldref00_Less.f k x y) (lessB x y) := by
  unfold skewbaldref00_Less.f
  exact Less_l0 x y hx hy x.length 0 (by omega) (by omega)
def shorterB (l m : List Int) : Bool := if (l.length : Int) = (m.length : Int) then lessB l m else decide ((l.length : Int) < (m.length : Int))
theorem Shorter_f (x y : List Int) (hx : x.length < 9223372036854775807) (hy : y.length < 9223372036854775807) : Evt (fun k => skewbaldref00_Shorter.f k x y) (shorterB x y) := by
  unfold skewbaldref00_Shorter.f shorterB
  by_cases h : (x.length : Int) = (y.length : Int)
  · rw [if_pos h]; exact Evt.pos h (Evt.bind (Less_f x y hx hy) (Evt.pure _))
  · rw [if_neg h]; exact Evt.neg h (Evt.pure _)
end Go.Proofs.YtekjlpldooihhaaDoor.PR
namespace Go.Proofs.YtekjlpldooihhaaDoor.PR
open Go.Proofs.YtekjlpldooihhaaDoorSh
open Go.RowKit Go.Proofs.YtekjlpldooihhaaDoorW.PrintWords Go.Proofs.YtekjlpldooihhaaDoorEv Go.Proofs.YtekjlpldooihhaaDoorP Go.Proofs.YtekjlpldooihhaaDoor.PT Go.Proofs.YtekjlpldooihhaaDoorH
open Go.Proofs.YtekjlpldooihhaaDoor.PA (S48 S50 S60 k48 k50 k60 z48 z50 z60 rd_T48 rd_T50 rd_T60)
set_option linter.unusedVariables false
set_option linter.unusedSimpArgs false
theorem Ordered_f (a b c d : Int) : skewbaldref00_Ordered.f a b c d = some (decide (c ≤ a) && (decide (a ≤ b) && decide (b ≤ d))) := by
  unfold skewbaldref00_Ordered.f
  by_cases h : c ≤ a <;> by_cases h2 : a ≤ b <;> simp [h, h2]
def chk (b : Bool) : Int := if b then 0 else 10
theorem grows_asc (L : Int) : ∀ (last : Int) (l : List Int), growsB L last l = ascB L last l
  | _, [] => rfl
  | last, n :: l => by
    unfold growsB ascB
    rw [grows_asc L n l]
    rw [show decide (last < n) = decide (last + 1 ≤ n) from by rw [decide_eq_decide]; omega, show decide (n < L) = decide (n ≤ L - 1) from by rw [decide_eq_decide]; omega]
theorem rd48 (P : List S48) (i : Nat) : rd_T48 P (i : Int) = P.getD i z48 := rfl
theorem rd50 (Q : List S50) (i : Nat) : rd_T50 Q (i : Int) = Q.getD i z50 := rfl
theorem rd60 (l : List S60) (i : Nat) : rd_T60 l (i : Int) = l.getD i z60 := rfl
theorem getD_el {α : Type} {l : List α} {z : α} {i : Nat} (h : i < l.length) : l.getD i z = l[i] := by simp [h]
theorem Check_l1 {P : List S48} {Q : List S50} {L : Int} {kn : List S60} (hkn : kn.length < 9223372036854775808) {i : Nat} (hi : i < 9223372036854775807) (r : Bool) (hc : ∀ b, Evt (fun k => skewbaldref01_Check.l0 k b ((i + 1 : Nat) : Int) P Q) (chk (b && r))) :
    ∀ (d j : Nat) (ok : Bool), j + d = kn.length → (ok = true → 1 ≤ L ∧ L ≤ 16) → Evt (fun k => skewbaldref01_Check.l1 k ok (i : Int) (j : Int) P Q L kn) (chk ((ok && (kn.drop j).all (knotB L)) && r))
  | d, j, false, hj, _ => by
    refine Evt.succ ?_
    simp only [skewbaldref01_Check.l1]
    refine Evt.neg (by simp) ?_
    rw [w64 i hi]
    simpa using hc false
  | 0, j, true, hj, _ => by
    refine Evt.succ ?_
    simp only [skewbaldref01_Check.l1]
    refine Evt.pos (by trivial) (Evt.neg (by omega) ?_)
    rw [w64 i hi, List.drop_eq_nil_of_le (by omega)]
    simpa using hc true
  | d + 1, j, true, hj, hL => by
    obtain ⟨h1, h16⟩ := hL rfl
    refine Evt.succ ?_
    simp only [skewbaldref01_Check.l1]
    refine Evt.pos (by trivial) (Evt.pos (by omega) (Evt.pos (by omega) ?_))
    have hd : kn.drop j = kn[j] :: kn.drop (j + 1) := List.drop_eq_getElem_cons (by omega)
    rw [rd60, getD_el (by omega : j < kn.length), w64 j (by omega), hd, List.all_cons]
    generalize kn[j] = s
    rw [Ordered_f, show wrap64 (L - 1) = L - 1 by unfold wrap64; omega]
    simp only [Option.bind_some]
    have ih := fun b => Check_l1 (L := L) hkn hi r hc d (j + 1) b (by omega)
    refine Evt.ite (fun h => ?_) (fun h => ?_)
    · simp only [Bool.and_eq_true, decide_eq_true_eq] at h
      have e : knotB L s = decide (wrap64 (s.f1 - s.f0) ≤ 6) := by
        unfold knotB
        rw [show wrap64 (s.f1 - s.f0) = s.f1 - s.f0 by unfold wrap64; omega, decide_eq_true (show 0 ≤ s.f0 from h.1), decide_eq_true (show s.f0 ≤ s.f1 from h.2.1), decide_eq_true (show s.f1 < L by omega)]
        simp
      rw [e]
      simpa using ih (decide (wrap64 (s.f1 - s.f0) ≤ 6)) (fun _ => ⟨h1, h16⟩)
    · have e : knotB L s = false := by
        simp only [Bool.and_eq_true, decide_eq_true_eq, not_and] at h
        unfold knotB
        rw [Bool.eq_false_iff]
        intro h2
        simp only [Bool.and_eq_true, decide_eq_true_eq] at h2
        exact h h2.1 h2.2.1 (by omega)
      rw [e]
      simpa using ih false (fun h => by cases h)
theorem Check_l2 {P : List S48} {Q : List S50} (hQ : Q.length < 9223372036854775808) (hq : ∀ x ∈ Q, x.f1.length < 9223372036854775808) : ∀ (d j : Nat) (ok : Bool), j + d = Q.length →
    Evt (fun k => skewbaldref01_Check.l2 k ok (j : Int) P Q) (chk (ok && (Q.drop j).all shapeB))
  | d, j, false, hj => by
    refine Evt.succ ?_
    simp only [skewbaldref01_Check.l2]
    refine Evt.neg (by simp) (Evt.succ ?_)
    simp only [skewbaldref01_Check.j6]
    exact Evt.neg (by simp) (Evt.neg (by simp) (by simpa [chk] using Evt.pure (10 : Int)))
  | 0, j, true, hj => by
    refine Evt.succ ?_
    simp only [skewbaldref01_Check.l2]
    refine Evt.pos (by trivial) (Evt.succ ?_)
    simp only [skewbaldref01_Check.j6]
    rw [List.drop_eq_nil_of_le (by omega), decide_eq_false (show ¬ (j : Int) < (Q.length : Int) by omega)]
    exact Evt.neg (by simp) (Evt.pos (by trivial) (by simpa [chk] using Evt.pure (0 : Int)))
  | d + 1, j, true, hj => by
    refine Evt.succ ?_
    simp only [skewbaldref01_Check.l2]
    refine Evt.pos (by trivial) (Evt.succ ?_)
    simp only [skewbaldref01_Check.j6]
    rw [decide_eq_true (show (j : Int) < (Q.length : Int) by omega)]
    refine Evt.pos (by trivial) (Evt.pos (by omega) (Evt.pos (by omega) ?_))
    have hd : Q.drop j = Q[j] :: Q.drop (j + 1) := List.drop_eq_getElem_cons (by omega)
    have hx := hq Q[j] (List.getElem_mem _)
    rw [rd50, getD_el (by omega : j < Q.length), w64 j (by omega), hd, List.all_cons]
    generalize Q[j] = x at hx
    rw [In_f]
    simp only [Option.bind_some]
    have ih := fun b => Check_l2 (P := P) hQ hq d (j + 1) b (by omega)
    refine Evt.ite (fun h => Evt.ite (fun h3 => ?_) (fun h3 => ?_)) (fun h => ?_)
    · refine Evt.bind (Grows_f x.f1 (by omega) x.f0) ?_
      have e : shapeB x = growsB x.f0 (-1) x.f1 := by
        unfold shapeB
        rw [h, grows_asc, decide_eq_true (show x.f1.length ≤ 3 by omega)]
        simp
      rw [e]
      simpa using ih (growsB x.f0 (-1) x.f1)
    · have e : shapeB x = false := by
        unfold shapeB
        rw [decide_eq_false (show ¬ x.f1.length ≤ 3 by omega)]
        simp
      rw [e]
      simpa using ih false
    · have e : shapeB x = false := by
        unfold shapeB
        rw [show (decide (1 ≤ x.f0) && decide (x.f0 ≤ 12)) = false by simpa using h]
        simp
      rw [e]
      simpa using ih false
theorem Check_l0 {P : List S48} {Q : List S50} (hP : P.length < 9223372036854775808) (hp : ∀ y ∈ P, y.f1.length < 9223372036854775808) (hQ : Q.length < 9223372036854775808) (hq : ∀ x ∈ Q, x.f1.length < 9223372036854775808) : ∀ (d i : Nat) (ok : Bool), i + d = P.length →
    Evt (fun k => skewbaldref01_Check.l0 k ok (i : Int) P Q) (chk (ok && ((P.drop i).all woodB && Q.all shapeB)))
  | d, i, false, hj => by
    refine Evt.succ ?_
    simp only [skewbaldref01_Check.l0]
    refine Evt.neg (by simp) (Evt.succ ?_)
    simp only [skewbaldref01_Check.j2]
    refine Evt.neg (by simp) ?_
    simpa using Check_l2 (P := P) hQ hq Q.length 0 false (by omega)
  | 0, i, true, hj => by
    refine Evt.succ ?_
    simp only [skewbaldref01_Check.l0]
    refine Evt.pos (by trivial) (Evt.succ ?_)
    simp only [skewbaldref01_Check.j2]
    rw [List.drop_eq_nil_of_le (by omega), decide_eq_false (show ¬ (i : Int) < (P.length : Int) by omega)]
    refine Evt.neg (by simp) ?_
    simpa using Check_l2 (P := P) hQ hq Q.length 0 true (by omega)
  | d + 1, i, true, hj => by
    refine Evt.succ ?_
    simp only [skewbaldref01_Check.l0]
    refine Evt.pos (by trivial) (Evt.succ ?_)
    simp only [skewbaldref01_Check.j2]
    rw [decide_eq_true (show (i : Int) < (P.length : Int) by omega)]
    refine Evt.pos (by trivial) (Evt.pos (by omega) (Evt.pos (by omega) ?_))
    have hd : P.drop i = P[i] :: P.drop (i + 1) := List.drop_eq_getElem_cons (by omega)
    have hx := hp P[i] (List.getElem_mem _)
    rw [rd48, getD_el (by omega : i < P.length), hd, List.all_cons]
    generalize P[i] = y at hx
    rw [In_f]
    simp only [Option.bind_some]
    have hc := fun b => Check_l0 hP hp hQ hq d (i + 1) b (by omega)
    have key := fun ok hL => Check_l1 (L := y.f0) hx (show i < 9223372036854775807 by omega) _ hc y.f1.length 0 ok (by omega) hL
    refine Evt.ite (fun h => Evt.succ ?_) (fun h => Evt.succ ?_)
    · simp only [skewbaldref01_Check.j3]
      have h' := h
      simp only [Bool.and_eq_true, decide_eq_true_eq] at h'
      refine (key _ (fun _ => h')).of_eq ?_
      unfold woodB
      rw [h, show decide ((y.f1.length : Int) ≤ 3) = decide (y.f1.length ≤ 3) from by rw [decide_eq_decide]; omega]
      simp [Bool.and_assoc]
    · simp only [skewbaldref01_Check.j3]
      refine (key false (fun h => by cases h)).of_eq ?_
      unfold woodB
      rw [show (decide (1 ≤ y.f0) && decide (y.f0 ≤ 16)) = false by simpa using h]
      simp
theorem Check_f {P : List S48} {Q : List S50} (hP : P.length < 9223372036854775808) (hp : ∀ y ∈ P, y.f1.length < 9223372036854775808) (hQ : Q.length < 9223372036854775808) (hq : ∀ x ∈ Q, x.f1.length < 9223372036854775808) :
    Evt (fun k => skewbaldref01_Check.f k P Q) (checkP P Q) := by
  have e : checkP P Q = chk (validB P Q) := rfl
  rw [e]
  unfold skewbaldref01_Check.f validB
  have key := fun ok => Check_l0 hP hp hQ hq P.length 0 ok (by omega)
  have e1 : (decide ((1 : Int) ≤ (P.length : Int)) && decide ((P.length : Int) ≤ 3)) = (decide (1 ≤ P.length) && decide (P.length ≤ 3)) := by congr 1 <;> (rw [decide_eq_decide]; omega)
  have e2 : (decide ((1 : Int) ≤ (Q.length : Int)) && decide ((Q.length : Int) ≤ 5)) = (decide (1 ≤ Q.length) && decide (Q.length ≤ 5)) := by congr 1 <;> (rw [decide_eq_decide]; omega)
  rw [In_f, In_f, e1, e2]
  simp only [Option.bind_some]
  refine Evt.ite (fun h => Evt.succ ?_) (fun h => Evt.succ ?_)
  · simp only [skewbaldref01_Check.j0]
    refine (key _).of_eq ?_
    rw [h]
    simp
  · simp only [skewbaldref01_Check.j0]
    refine (key false).of_eq ?_
    rw [show (decide (1 ≤ P.length) && decide (P.length ≤ 3)) = false by simpa using h]
    simp
def jL (x : S50) (a : Nat) (t : Bool) : List Int := x.f1.map fun n => (a : Int) + (if t then x.f0 - 1 - n else n)
structure PartOk (x : S50) : Prop where
  one : 1 ≤ x.f0
  big : x.f0 ≤ 12
  few : x.f1.length ≤ 3
  joint : ∀ n ∈ x.f1, 0 ≤ n ∧ n < x.f0
theorem Ok.partOk {P : List S48} {Q : List S50} (h : Ok P Q) {p : Nat} (hp : p < Q.length) : PartOk (Q.getD p z50) := by
  obtain ⟨a, b, c, d⟩ := h.shape (Q.getD p z50) (by rw [show Q.getD p z50 = Q[p] from by simp [hp]]; exact List.getElem_mem hp)
  exact ⟨a, b, c, d⟩
structure PlankOk (y : S48) : Prop where
  one : 1 ≤ y.f0
  big : y.f0 ≤ 16
  few : y.f1.length ≤ 3
  knot : ∀ s ∈ y.f1, 0 ≤ s.f0 ∧ s.f0 ≤ s.f1 ∧ s.f1 < 16
theorem Ok.plankOk {P : List S48} {Q : List S50} (h : Ok P Q) {p : Nat} (hp : p < P.length) : PlankOk (P.getD p z48) := by
  obtain ⟨a, b, c⟩ := h.wood (P.getD p z48) (by rw [show P.getD p z48 = P[p] from by simp [hp]]; exact List.getElem_mem hp)
  exact ⟨a, b, c.few, c.knot⟩
theorem jL_len (x : S50) (a : Nat) (t : Bool) : (jL x a t).length = x.f1.length := by simp [jL]
def hitL (l : List Int) (n : Nat) : Bool := decide ((n : Int) ∈ l)
def kfree (l : List Int) (s : S60) : Bool := (kin s.f0.toNat s.f1.toNat).all fun n => !hitL l n
def kmay (l : List Int) (s : S60) : Bool := (kin s.f0.toNat s.f1.toNat).any fun n => !hitL l n
theorem hit_jset {x : S50} (hx : PartOk x) (a : Nat) (t : Bool) (i : Nat) : hitL (jL x a t) i = jset x a t i := by
  unfold hitL jL jset jsetK
  rw [Bool.eq_iff_iff, decide_eq_true_eq, List.mem_map, List.any_eq_true]
  constructor
  · rintro ⟨n, hn, e⟩
    refine ⟨n, hn, ?_⟩
    rw [decide_eq_true_eq]
    unfold jAt
    omega
  · rintro ⟨n, hn, e⟩
    rw [decide_eq_true_eq] at e; obtain ⟨h0, h1⟩ := hx.joint n hn
    refine ⟨n, hn, ?_⟩
    unfold jAt at e
    cases t <;> simp at e ⊢ <;> omega
theorem mem_kin {lo hi n : Nat} : n ∈ kin lo hi ↔ lo ≤ n ∧ n ≤ hi := by
  unfold kin; rw [List.mem_range'_1]; omega
theorem sound_sure {y : S48} (hy : PlankOk y) {x : S50} (hx : PartOk x) (a : Nat) (t : Bool) : soundB y x a t kcanB = y.f1.all (kfree (jL x a t)) := by
  unfold soundB
  rw [Bool.eq_iff_iff, Bool.or_eq_true, List.all_eq_true, List.all_eq_true, List.all_eq_true]
  constructor
  · rintro (h | h) s hs
    · unfold kfree
      rw [List.all_eq_true]
      intro n hn
      rw [mem_kin] at hn
      have := hy.knot s hs
      have := h n (by rw [List.mem_range]; omega)
      rw [hit_jset hx, beq_iff_eq.1 this]; rfl
    · have := h s hs
      unfold kcanB at this
      rw [Bool.not_eq_true', List.any_eq_false] at this
      unfold kfree
      rw [List.all_eq_true]
      intro n hn
      rw [hit_jset hx, Bool.not_eq_true']
      simpa using this n hn
  · intro h
    right
    intro s hs
    have := h s hs
    unfold kfree at this
    rw [List.all_eq_true] at this
    unfold kcanB
    rw [Bool.not_eq_true', List.any_eq_false]
    intro n hn
    have := this n hn
    rw [hit_jset hx, Bool.not_eq_true'] at this
    simp [this]
theorem sound_may {y : S48} (hy : PlankOk y) {x : S50} (hx : PartOk x) (a : Nat) (t : Bool) : soundB y x a t kmustB = y.f1.all (kmay (jL x a t)) := by
  unfold soundB
  rw [Bool.eq_iff_iff, Bool.or_eq_true, List.all_eq_true, List.all_eq_true, List.all_eq_true]
  constructor
  · rintro (h | h) s hs
    · unfold kmay
      rw [List.any_eq_true]
      have := hy.knot s hs
      refine ⟨s.f0.toNat, mem_kin.2 ⟨Nat.le_refl _, by omega⟩, ?_⟩
      have := h s.f0.toNat (by rw [List.mem_range]; omega)
      rw [hit_jset hx, beq_iff_eq.1 this]; rfl
    · have := h s hs
      unfold kmustB at this
      rw [Bool.not_eq_true', List.all_eq_false] at this; obtain ⟨n, hn, h2⟩ := this
      unfold kmay
      rw [List.any_eq_true]
      exact ⟨n, hn, by rw [hit_jset hx]; simpa using h2⟩
  · intro h
    right
    intro s hs
    have := h s hs
    unfold kmay at this
    rw [List.any_eq_true] at this; obtain ⟨n, hn, h2⟩ := this
    unfold kmustB
    rw [Bool.not_eq_true', List.all_eq_false]
    exact ⟨n, hn, by rw [hit_jset hx] at h2; simpa using h2⟩
end Go.Proofs.YtekjlpldooihhaaDoor.PR
namespace Go.Proofs.YtekjlpldooihhaaDoor.PR
open Go.Proofs.YtekjlpldooihhaaDoorSh
open Go.RowKit Go.Proofs.YtekjlpldooihhaaDoorW.PrintWords Go.Proofs.YtekjlpldooihhaaDoorEv Go.Proofs.YtekjlpldooihhaaDoorP Go.Proofs.YtekjlpldooihhaaDoor.PT Go.Proofs.YtekjlpldooihhaaDoorH Go.Proofs.YtekjlpldooihhaaDoorK
open Go.Proofs.YtekjlpldooihhaaDoor.PA (S48 S50 S60 k48 k50 k60 z48 z50 z60 rd_T48 rd_T50 rd_T60)
set_option linter.unusedVariables false
set_option linter.unusedSimpArgs false
structure Short (P : List S48) (Q : List S50) : Prop where
  p : P.length < 9223372036854775808
  q : Q.length < 9223372036854775808
  kn : ∀ y ∈ P, y.f1.length < 9223372036854775808
  jo : ∀ x ∈ Q, x.f1.length < 9223372036854775808
theorem Short.check {P : List S48} {Q : List S50} (h : Short P Q) : Evt (fun k => skewbaldref01_Check.f k P Q) (checkP P Q) := Check_f h.p h.kn h.q h.jo
theorem range_filter_next (f : Nat → Bool) (j : Nat) : (List.range (j + 1)).filter f = (List.range j).filter f ++ (if f j then [j] else []) := by
  cases h : f j with
  | true => rw [filter_next_yes h]; simp
  | false => rw [filter_next_no h]; simp
theorem sawn_f : Evt (fun _ => skewbaldlaw01_sawn.f) true := Evt.pure true
end Go.Proofs.YtekjlpldooihhaaDoor.PR
namespace Go.Proofs.YtekjlpldooihhaaDoor.PR
open Go.Proofs.YtekjlpldooihhaaDoorSh
open Go.RowKit Go.Proofs.YtekjlpldooihhaaDoorW.PrintWords Go.Proofs.YtekjlpldooihhaaDoorW.PrintMore Go.Proofs.YtekjlpldooihhaaDoorEv Go.Proofs.YtekjlpldooihhaaDoorP Go.Proofs.YtekjlpldooihhaaDoor.PT Go.Proofs.YtekjlpldooihhaaDoorH Go.Proofs.YtekjlpldooihhaaDoorK
open Go.Proofs.YtekjlpldooihhaaDoor.PA (S48 S50 S60 k48 k50 k60 z48 z50 z60 rd_T48 rd_T50 rd_T60)
set_option linter.unusedVariables false
set_option linter.unusedSimpArgs false
theorem shl_pow : ∀ n, n ≤ 6 → shl .i64 1 ((n : Nat) : Int) = ((2 ^ n : Nat) : Int) := by
  intro n hn
  obtain rfl | rfl | rfl | rfl | rfl | rfl | rfl : n = 0 ∨ n = 1 ∨ n = 2 ∨ n = 3 ∨ n = 4 ∨ n = 5 ∨ n = 6 := by omega
  all_goals rfl
theorem getD_set_ne {l : List Int} {s t : Nat} (h : s ≠ t) (v : Int) : (l.set s v).getD t 0 = l.getD t 0 := by simp [List.getElem?_set_ne h]
def Least (S : Int → Prop) (v : Int) : Prop := v ≤ 99 ∧ (v = 99 ∨ S v) ∧ ∀ x, S x → v ≤ x
theorem Least.step {S : Int → Prop} {v : Int} (h : Least S v) (x : Int) : Least (fun y => S y ∨ y = x) (mn v x) := by
  obtain ⟨h1, h2, h3⟩ := h
  unfold mn
  split
  · exact ⟨by omega, .inr (.inr rfl), fun y hy => by rcases hy with hy | rfl; (· have := h3 y hy; omega); (· exact Int.le_refl _)⟩
  · exact ⟨h1, h2.imp_right .inl, fun y hy => by rcases hy with hy | rfl; (· exact h3 y hy); (· omega)⟩
theorem Least.congr {S S' : Int → Prop} {v : Int} (h : Least S v) (e : ∀ x, S x ↔ S' x) : Least S' v := ⟨h.1, h.2.1.imp_right (e v).1, fun x hx => h.2.2 x ((e x).2 hx)⟩
theorem spots_len {y : S48} (hy : PlankOk y) (x : S50) : (spotsL y x).length ≤ 16 := by
  have h2 := List.length_filter_le (spotB y x) (List.range y.f0.toNat); rw [List.length_range] at h2
  have := hy.big
  unfold spotsL
  omega
end Go.Proofs.YtekjlpldooihhaaDoor.PR
namespace Go.Proofs.YtekjlpldooihhaaDoor.PR
open Go.Proofs.YtekjlpldooihhaaDoorSh
open Go.RowKit Go.Proofs.YtekjlpldooihhaaDoorW.PrintWords Go.Proofs.YtekjlpldooihhaaDoorW.PrintMore Go.Proofs.YtekjlpldooihhaaDoorEv Go.Proofs.YtekjlpldooihhaaDoorP Go.Proofs.YtekjlpldooihhaaDoor.PT Go.Proofs.YtekjlpldooihhaaDoorH Go.Proofs.YtekjlpldooihhaaDoorK
open Go.Proofs.YtekjlpldooihhaaDoor.PA (S48 S50 S60 k48 k50 k60 z48 z50 z60 rd_T48 rd_T50 rd_T60 rd_L4)
set_option linter.unusedVariables false
set_option linter.unusedSimpArgs false
theorem and_nat : ∀ t, t < 32 → ∀ s, s < 32 → Go.bits .and .i64 ((t : Nat) : Int) ((s : Nat) : Int) = ((t &&& s : Nat) : Int) := by decide +kernel
theorem cutB_cons (P : List S48) (Q : List S50) (p : Nat) (l : List Nat) (s : Nat) : cutB P Q (p :: l) s = (List.range (s + 1)).any fun t => (t &&& s == t) && ((laidB (P.getD p z48) Q (setL t)).isSome && cutB P Q l (s - t)) := by
  conv => lhs; unfold cutB
  by_cases h : s = 0
  · subst h
    rw [show ((0 : Nat) == 0) = true from rfl, Bool.true_or]
    symm
    rw [List.any_eq_true]
    refine ⟨0, by simp, ?_⟩
    rw [show setL 0 = [] from by decide, cut_zero]
    rfl
  · rw [show (s == 0) = false from by simpa using h, Bool.false_or]
theorem sizes_setL : ∀ n, n ≤ 5 → ∀ s, s < 2 ^ n → sizesL s n = setL s := by decide +kernel
theorem ListN_f {n s : Nat} (hn : n ≤ 5) (hs : s < 2 ^ n) : Evt (fun k => skewbaldref00_List.f k (s : Int) (n : Int)) (ints (setL s)) := by
  rw [← sizes_setL n hn s hs]
  exact List_f s n (by have := lt32 hn hs; omega) (by omega)
theorem pow_pos (n : Nat) : 0 < 2 ^ n := Nat.pos_of_ne_zero (by simp)
theorem full_num {n : Nat} (hn : n ≤ 5) : wrap64 (shl .i64 1 ((n : Nat) : Int) - 1) = ((2 ^ n - 1 : Nat) : Int) := by
  have := pow_pos n
  have h32 : 2 ^ n ≤ 32 := Nat.pow_le_pow_right (by omega : 0 < 2) hn
  rw [shl_pow n (by omega)]
  unfold wrap64
  omega
theorem less_cmp : ∀ l m : List Int, lessB l m = decide (cmpL l m < 0)
  | [], [] => rfl
  | [], _ :: _ => rfl
  | _ :: _, [] => rfl
  | a :: l, b :: m => by
    rw [lessB_cons]
    unfold cmpL
    rcases Int.lt_trichotomy a b with h | rfl | h
    · rw [if_neg (by omega), if_pos h]; simp [h]
    · rw [if_pos rfl, if_neg (by omega), if_neg (by omega)]; exact less_cmp l m
    · rw [if_neg (by omega), if_neg (by omega), if_pos h]; simp; omega
theorem shorter_better (l m : List Int) : shorterB l m = betterL l m := by
  unfold shorterB betterL
  rw [less_cmp]
  by_cases h : l.length = m.length
  · rw [if_pos (by omega), decide_eq_false (show ¬ l.length < m.length by omega), Bool.false_or, show (l.length == m.length) = true from by simpa using h, Bool.true_and]
  · rw [if_neg (by omega), show (l.length == m.length) = false from by simpa using h, Bool.false_and, Bool.or_false, decide_eq_decide]; omega
theorem setL5 (s : Nat) : (setL s).length ≤ 5 := setL_len s
theorem cut_more {P : List S48} {Q : List S50} (hok : Ok P Q) {t u s : Nat} (h : ∀ i ∈ setL t, i ∈ setL u) (hs : s < 2 ^ Q.length) (hc : cutB P Q (setL t) s = true) : cutB P Q (setL u) s = true := by
  obtain ⟨a, pos, h1⟩ := (hok.cut t s hs).1 hc
  exact (hok.cut u s hs).2 ⟨a, pos, cuts_weaker h1 h (fun p hp => hp) (fun _ _ _ _ _ h => h) (fun _ _ => rfl)⟩
end Go.Proofs.YtekjlpldooihhaaDoor.PR
namespace Go.Proofs.YtekjlpldooihhaaDoor.PR
open Go.Proofs.YtekjlpldooihhaaDoorSh
open Go.RowKit Go.Proofs.YtekjlpldooihhaaDoorW.PrintWords Go.Proofs.YtekjlpldooihhaaDoorW.PrintMore Go.Proofs.YtekjlpldooihhaaDoorEv Go.Proofs.YtekjlpldooihhaaDoorP Go.Proofs.YtekjlpldooihhaaDoor.PT Go.Proofs.YtekjlpldooihhaaDoorH Go.Proofs.YtekjlpldooihhaaDoorK
open Go.Proofs.YtekjlpldooihhaaDoor.PA (S48 S50 S60 k48 k50 k60 z48 z50 z60 rd_T48 rd_T50 rd_T60 rd_L4)
set_option linter.unusedVariables false
set_option linter.unusedSimpArgs false
theorem woodB_told {y : S48} (h : woodB y = true) : 1 ≤ y.f0 ∧ y.f0 ≤ 16 ∧ y.f1.length ≤ 3 ∧ ∀ s ∈ y.f1, knotB y.f0 s = true := by
  unfold woodB at h
  simp only [Bool.and_eq_true, decide_eq_true_eq, List.all_eq_true] at h
  exact ⟨h.1.1, h.1.2, h.2.1, h.2.2⟩
theorem shapeB_told {x : S50} (h : shapeB x = true) : 1 ≤ x.f0 ∧ x.f0 ≤ 12 ∧ x.f1.length ≤ 3 ∧ growsB x.f0 (-1) x.f1 = true := by
  unfold shapeB at h
  simp only [Bool.and_eq_true, decide_eq_true_eq] at h
  exact ⟨h.1.1, h.1.2, h.2.1, by rw [grows_asc]; exact h.2.2⟩
theorem valid_told {P : List S48} {Q : List S50} (h : validB P Q = true) : 1 ≤ P.length ∧ P.length ≤ 3 ∧ 1 ≤ Q.length ∧ Q.length ≤ 5 ∧ (∀ y ∈ P, woodB y = true) ∧ ∀ x ∈ Q, shapeB x = true := by
  unfold validB at h
  simp only [Bool.and_eq_true, decide_eq_true_eq, List.all_eq_true] at h
  exact ⟨h.1.1.1, h.1.1.2, h.1.2.1, h.1.2.2, h.2.1, h.2.2⟩
theorem sound_l2 {P : List S48} {Q : List S50} (hQ : Q.length ≤ 5) (hq : ∀ x ∈ Q, shapeB x = true) : ∀ (d j : Nat), j + d = Q.length → Evt (fun k => skewbaldlaw01_sound.l2 k true (j : Int) P Q) true
  | 0, j, hj => by
    refine Evt.succ ?_
    simp only [skewbaldlaw01_sound.l2]
    refine Evt.pos (by trivial) (Evt.succ ?_)
    simp only [skewbaldlaw01_sound.j6]
    rw [decide_eq_false (show ¬ (j : Int) < (Q.length : Int) by omega)]
    exact Evt.neg (by simp) (Evt.pure _)
  | d + 1, j, hj => by
    refine Evt.succ ?_
    simp only [skewbaldlaw01_sound.l2]
    refine Evt.pos (by trivial) (Evt.succ ?_)
    simp only [skewbaldlaw01_sound.j6]
    rw [decide_eq_true (show (j : Int) < (Q.length : Int) by omega)]
    have hlt : j < Q.length := by omega
    obtain ⟨h1, h12, h3, hg⟩ := shapeB_told (hq Q[j] (List.getElem_mem _))
    rw [rd50, getD_el hlt, w64 j (by omega), In_f]
    simp only [Option.bind_some]
    generalize Q[j] = x at h1 h12 h3 hg ⊢
    refine Evt.pos (by trivial) (Evt.pos (by omega) (Evt.pos (by omega) (Evt.pos (by simp; omega) (Evt.pos (by omega) (Evt.bind (Grows_f x.f1 (by omega) x.f0) ?_)))))
    rw [hg]
    exact sound_l2 hQ hq d (j + 1) (by omega)
theorem sound_l1 {P : List S48} {Q : List S50} {i : Nat} (hi : i < P.length) (hP : P.length ≤ 3) {L : Int} (hL : 1 ≤ L ∧ L ≤ 16) {kn : List S60} (hk : kn.length ≤ 3) (hkn : ∀ s ∈ kn, knotB L s = true) (hc : Evt (fun k => skewbaldlaw01_sound.l0 k true ((i + 1 : Nat) : Int) P Q) true) :
    ∀ (d j : Nat), j + d = kn.length → Evt (fun k => skewbaldlaw01_sound.l1 k true (i : Int) (j : Int) P Q L kn) true
  | 0, j, hj => by
    refine Evt.succ ?_
    simp only [skewbaldlaw01_sound.l1]
    rw [w64 i (by omega)]
    exact Evt.pos (by trivial) (Evt.neg (by omega) hc)
  | d + 1, j, hj => by
    refine Evt.succ ?_
    simp only [skewbaldlaw01_sound.l1]
    have hlt : j < kn.length := by omega
    have hs := hkn kn[j] (List.getElem_mem _)
    unfold knotB at hs
    simp only [Bool.and_eq_true, decide_eq_true_eq] at hs
    rw [rd60, getD_el hlt, w64 j (by omega), Ordered_f, show wrap64 (L - 1) = L - 1 by unfold wrap64; omega]
    simp only [Option.bind_some]
    rw [show (decide (0 ≤ kn[j].f0) && (decide (kn[j].f0 ≤ kn[j].f1) && decide (kn[j].f1 ≤ L - 1))) = true from by simp; omega]
    exact Evt.pos (by trivial) (Evt.pos (by omega) (Evt.pos (by omega) (sound_l1 hi hP hL hk hkn hc d (j + 1) (by omega))))
theorem sound_l0 {P : List S48} {Q : List S50} (hv : validB P Q = true) : ∀ (d i : Nat), i + d = P.length → Evt (fun k => skewbaldlaw01_sound.l0 k true (i : Int) P Q) true
  | 0, i, hi => by
    obtain ⟨_, _, _, h5, _, hq⟩ := valid_told hv
    refine Evt.succ ?_
    simp only [skewbaldlaw01_sound.l0]
    refine Evt.pos (by trivial) (Evt.succ ?_)
    simp only [skewbaldlaw01_sound.j2]
    rw [decide_eq_false (show ¬ (i : Int) < (P.length : Int) by omega)]
    exact Evt.neg (by simp) (sound_l2 h5 hq Q.length 0 (by omega))
  | d + 1, i, hi => by
    obtain ⟨_, h3, _, _, hp, _⟩ := valid_told hv
    have hlt : i < P.length := by omega
    obtain ⟨a, b, c, e⟩ := woodB_told (hp P[i] (List.getElem_mem _))
    refine Evt.succ ?_
    simp only [skewbaldlaw01_sound.l0]
    refine Evt.pos (by trivial) (Evt.succ ?_)
    simp only [skewbaldlaw01_sound.j2]
    rw [decide_eq_true (show (i : Int) < (P.length : Int) by omega), rd48, getD_el hlt, In_f]
    simp only [Option.bind_some]
    refine Evt.pos (by trivial) (Evt.pos (by omega) (Evt.pos (by omega) (Evt.pos (by simp; omega) (Evt.succ ?_))))
    simp only [skewbaldlaw01_sound.j3]
    rw [decide_eq_true (show (P[i].f1.length : Int) ≤ 3 by omega)]
    exact sound_l1 hlt h3 ⟨a, b⟩ c e (sound_l0 hv d (i + 1) (by omega)) P[i].f1.length 0 (by omega)
theorem sound_f {P : List S48} {Q : List S50} : Evt (fun k => skewbaldlaw01_sound.f k P Q) (validB P Q) := by
  unfold skewbaldlaw01_sound.f plank_Check.f
  simp only [Option.bind_some]
  unfold checkP
  cases hv : validB P Q with
  | false =>
    refine Evt.neg (by simp) (Evt.succ ?_)
    simp only [skewbaldlaw01_sound.j0]
    refine Evt.succ ?_
    simp only [skewbaldlaw01_sound.l0]
    refine Evt.neg (by simp) (Evt.succ ?_)
    simp only [skewbaldlaw01_sound.j2]
    refine Evt.neg (by simp) (Evt.succ ?_)
    simp only [skewbaldlaw01_sound.l2]
    refine Evt.neg (by simp) (Evt.succ ?_)
    simp only [skewbaldlaw01_sound.j6]
    exact Evt.neg (by simp) (Evt.pure _)
  | true =>
    obtain ⟨h1, h3, h4, h5, _, _⟩ := valid_told hv
    rw [In_f, In_f]
    simp only [Option.bind_some]
    refine Evt.pos (by simp) (Evt.pos (by simp; omega) (Evt.succ ?_))
    simp only [skewbaldlaw01_sound.j0]
    rw [show (decide ((1 : Int) ≤ (Q.length : Int)) && decide ((Q.length : Int) ≤ 5)) = true from by simp; omega]
    exact sound_l0 hv P.length 0 (by omega)
theorem only_l1 {P : List S48} {Q : List S50} (hq : Q.length ≤ 5) (u : Int) {v : Nat} (hv : v < 2 ^ Q.length) (R : List S48) : ∀ (d j : Nat), j + d = Q.length →
    Evt (fun k => skewbaldlaw01_only.l1 k (v : Int) (j : Int) P Q R (((List.range j).filter (bitB v)).map fun i => Q.getD i z50)) (R, ((List.range Q.length).filter (bitB v)).map fun i => Q.getD i z50)
  | 0, j, hj => by
    obtain rfl : j = Q.length := by omega
    refine Evt.succ ?_
    simp only [skewbaldlaw01_only.l1]
    exact Evt.neg (by omega) (Evt.pure _)
  | d + 1, j, hj => by
    have h32 := lt32 hq hv
    refine Evt.succ ?_
    simp only [skewbaldlaw01_only.l1]
    have ih := only_l1 (P := P) hq u hv R d (j + 1) (by omega)
    rw [range_filter_next, List.map_append] at ih
    rw [Of_f v j (by omega) (by omega), w64 j (by omega)]
    simp only [Option.bind_some]
    have hl : (((List.range j).filter (bitB v)).map fun i => Q.getD i z50).length < 3518437208883 := by
      rw [List.length_map]
      have := List.length_filter_le (bitB v) (List.range j)
      rw [List.length_range] at this
      omega
    refine Evt.pos (by omega) (Evt.ite (fun h => Evt.pos (by omega) (Evt.pos hl ?_)) (fun h => ?_))
    · rw [h] at ih
      exact ih
    · rw [show bitB v j = false from by simpa using h] at ih
      simpa using ih
theorem only_l0 {P : List S48} {Q : List S50} (hp : P.length ≤ 3) (hq : Q.length ≤ 5) {u v : Nat} (hu : u < 2 ^ P.length) (hv : v < 2 ^ Q.length) : ∀ (d j : Nat), j + d = P.length →
    Evt (fun k => skewbaldlaw01_only.l0 k (u : Int) (v : Int) (j : Int) P Q (((List.range j).filter (bitB u)).map fun i => P.getD i z48)) (((List.range P.length).filter (bitB u)).map fun i => P.getD i z48, ((List.range Q.length).filter (bitB v)).map fun i => Q.getD i z50)
  | 0, j, hj => by
    obtain rfl : j = P.length := by omega
    refine Evt.succ ?_
    simp only [skewbaldlaw01_only.l0]
    exact Evt.neg (by omega) (only_l1 hq u hv _ Q.length 0 (by omega))
  | d + 1, j, hj => by
    have h32 := lt32 (by omega : P.length ≤ 5) hu
    refine Evt.succ ?_
    simp only [skewbaldlaw01_only.l0]
    have ih := only_l0 hp hq hu hv d (j + 1) (by omega)
    rw [range_filter_next, List.map_append] at ih
    rw [Of_f u j (by omega) (by omega), w64 j (by omega)]
    simp only [Option.bind_some]
    have hl : (((List.range j).filter (bitB u)).map fun i => P.getD i z48).length < 4398046511104 := by
      rw [List.length_map]
      have := List.length_filter_le (bitB u) (List.range j)
      rw [List.length_range] at this
      omega
    refine Evt.pos (by omega) (Evt.ite (fun h => Evt.pos (by omega) (Evt.pos hl ?_)) (fun h => ?_))
    · rw [h] at ih
      exact ih
    · rw [show bitB u j = false from by simpa using h] at ih
      simpa using ih
theorem only_f {P : List S48} {Q : List S50} (hp : P.length ≤ 3) (hq : Q.length ≤ 5) {u v : Nat} (hu : u < 2 ^ P.length) (hv : v < 2 ^ Q.length) : Evt (fun k => skewbaldlaw01_only.f k P Q (u : Int) (v : Int)) (pick z48 P u, pick z50 Q v) := by
  unfold skewbaldlaw01_only.f pick
  have := only_l0 hp hq hu hv P.length 0 (by omega)
  rw [show (List.range P.length).filter (bitB u) = setL u from sizes_setL P.length (by omega) u hu, show (List.range Q.length).filter (bitB v) = setL v from sizes_setL Q.length hq v hv] at this
  exact this
theorem valid_pick {P : List S48} {Q : List S50} (hv : validB P Q = true) {u v : Nat} (hu : u < 2 ^ P.length) (hw : v < 2 ^ Q.length) (u0 : u ≠ 0) (v0 : v ≠ 0) : validB (pick z48 P u) (pick z50 Q v) = true := by
  obtain ⟨h1, h3, h4, h5, hp, hq⟩ := valid_told hv
  have a := setL_le P.length (by omega) u hu
  have b := setL_le Q.length h5 v hw
  have c : setL u ≠ [] := fun e => u0 ((set_empty (lt32 (by omega) hu)).1 e)
  have d : setL v ≠ [] := fun e => v0 ((set_empty (lt32 h5 hw)).1 e)
  have c' := List.length_pos_iff.2 c; have d' := List.length_pos_iff.2 d
  unfold validB
  simp only [Bool.and_eq_true, decide_eq_true_eq, List.all_eq_true, pick_length]
  exact ⟨⟨⟨by omega, by omega⟩, by omega, by omega⟩, fun y hy => hp y (pick_mem (fun i hi => setL_lt hu hi) hy), fun x hx => hq x (pick_mem (fun i hi => setL_lt hw hi) hx)⟩
theorem fewest_told {P : List S48} {Q : List S50} (hv : validB P Q = true) : (fewestP P Q).2 = if cutB P Q (setL (2 ^ P.length - 1)) (2 ^ Q.length - 1) then 0 else 4 := by
  have hok := valid_ok hv; have h3 := hok.p3; have hpp := pow_pos P.length; have hpq := pow_pos Q.length
  unfold fewestP
  rw [hv]
  rcases fewest_spec P Q with ⟨e, h⟩ | ⟨l, e, ⟨s, hs, rfl, hc⟩, _⟩
  · rw [e, h (2 ^ P.length - 1) (by omega)]; rfl
  · have hc' : cutB P Q (setL s) (2 ^ Q.length - 1) = true := hc
    rw [e, cut_more hok (fun i hi => (mem_full (by omega : P.length ≤ 5) i).2 (setL_lt hs hi)) (by omega) hc']
    rfl
theorem enough_f {P : List S48} {Q : List S50} (hv : validB P Q = true) {u v : Nat} (hu : u < 2 ^ P.length) (hw : v < 2 ^ Q.length) : Evt (fun k => skewbaldlaw01_enough.f k P Q (u : Int) (v : Int)) (cutB P Q (setL u) v, true) := by
  have hok := valid_ok hv
  unfold skewbaldlaw01_enough.f
  refine Evt.ite (fun h => Evt.succ ?_) (fun h => Evt.succ ?_)
  · simp only [skewbaldlaw01_enough.j0]
    obtain rfl : v = 0 := by omega
    rw [cut_zero]
    exact Evt.pos (by trivial) (Evt.pure _)
  · simp only [skewbaldlaw01_enough.j0]
    refine Evt.ite (fun h0 => ?_) (fun h0 => ?_)
    · obtain rfl : u = 0 := by have := beq_iff_eq.1 h0; omega
      rw [show setL 0 = [] from by decide, show cutB P Q [] v = (v == 0) from rfl, show ((v : Int) == 0) = (v == 0) from by rw [Bool.eq_iff_iff]; simp]
      exact Evt.pure _
    · have u0 : u ≠ 0 := fun e => h0 (by rw [e]; rfl)
      refine Evt.bind (only_f hok.p3 hok.q5 hu hw) ?_
      simp only [plank_Fewest.f, Option.bind_some]
      rw [fewest_told (valid_pick hv hu hw u0 (by omega)), cut_pick hok hu hw]
      cases cutB P Q (setL u) v with
      | true => exact Evt.pos (by simp) (Evt.pure _)
      | false => exact Evt.neg (by simp) (Evt.pure _)
theorem okL_set : ∀ n, n ≤ 5 → ∀ s, s < 2 ^ n → okL n true (ints (setL s)) = true := by decide +kernel
theorem lay_told {P : List S48} {Q : List S50} (hv : validB P Q = true) {p s : Nat} (hp : p < P.length) (hs : s < 2 ^ Q.length) : layP P Q (p : Int) (ints (setL s)) = layR (laidB (P.getD p z48) Q (setL s)) := by
  have hok := valid_ok hv
  unfold layP
  rw [hv, show inB (p : Int) P.length = true from by unfold inB; simp; omega, okL_set Q.length hok.q5 s hs, Int.toNat_natCast]
  rw [show (ints (setL s)).map (·.toNat) = setL s from by unfold ints; rw [List.map_map]; exact (List.map_congr_left (fun _ _ => rfl)).trans (List.map_id _)]
  rfl
theorem shared_f {P : List S48} {Q : List S50} (hv : validB P Q = true) : ∀ (l : List Nat) (hl : ∀ p ∈ l, p < P.length) (hn : l.length ≤ 5) (s : Nat) (hs : s < 2 ^ Q.length), Evt (fun k => skewbaldlaw01_shared.f k P Q (ints l) (s : Int)) (cutB P Q l s)
  | [], hl, hn, s, hs => by
    refine Evt.succ ?_
    simp only [skewbaldlaw01_shared.f]
    refine Evt.pos rfl ?_
    rw [show ((s : Int) == 0) = (s == 0) from by rw [Bool.eq_iff_iff]; simp]
    exact Evt.pure _
  | p :: l, hl, hn, s, hs => by
    have hok := valid_ok hv; have h5 := hok.q5
    have ih := fun s' (h : s' < 2 ^ Q.length) => shared_f hv l (fun q hq => hl q (by simp [hq])) (by simp at hn; omega) s' h
    have hp := hl p (by simp)
    have h32 := lt32 hok.q5 hs
    refine Evt.succ ?_
    simp only [skewbaldlaw01_shared.f]
    refine Evt.neg (by rw [ints_length]; simp; omega) ?_
    rw [cutB_cons]
    have hrd : rd (ints (p :: l)) 0 = (p : Int) := rfl
    have hlen : (ints (p :: l)).length = l.length + 1 := by rw [ints_length]; rfl
    have key : ∀ (u : Nat), u ≤ s → Evt (fun k => skewbaldlaw01_shared.l0 k (ints (p :: l)) (s : Int) (u : Int) P Q) ((List.range (u + 1)).any fun t => (t &&& s == t) && ((laidB (P.getD p z48) Q (setL t)).isSome && cutB P Q l (s - t))) := by
      intro u
      have step : ∀ (r : Bool) (x : Nat) (hx : x ≤ s) (hnext : Evt (fun k => skewbaldlaw01_shared.l0 k (ints (p :: l)) (s : Int) ((x : Int) - 1) P Q) r), Evt (fun k => skewbaldlaw01_shared.l0 k (ints (p :: l)) (s : Int) (x : Int) P Q) (r || ((x &&& s == x) && ((laidB (P.getD p z48) Q (setL x)).isSome && cutB P Q l (s - x)))) := by
        intro r x hx hnext
        have hx32 : x < 32 := by omega
        have hxq : x < 2 ^ Q.length := by omega
        refine Evt.succ ?_
        simp only [skewbaldlaw01_shared.l0]
        rw [and_nat x hx32 s h32, hrd, hlen, show wrap64 ((x : Int) - 1) = (x : Int) - 1 by unfold wrap64; omega]
        refine Evt.pos (by omega) (Evt.ite (fun h => Evt.pos (by omega) (Evt.bind (ListN_f h5 hxq) ?_)) (fun h => ?_))
        · have hus : (x &&& s == x) = true := by rw [beq_iff_eq]; omega
          simp only [plank_Lay.f, Option.bind_some]
          rw [lay_told hv hp hxq, hus, Bool.true_and]
          cases hla : laidB (P.getD p z48) Q (setL x) with
          | none =>
            refine Evt.neg (by simp [layR]) ?_
            simpa using hnext
          | some o =>
            refine Evt.pos (by simp [layR]) (Evt.pos (by omega) ?_)
            rw [show (ints (p :: l)).drop 1 = ints l from rfl, show wrap64 ((s : Int) - (x : Int)) = ((s - x : Nat) : Int) by unfold wrap64; omega]
            refine Evt.bind (ih (s - x) (by omega)) ?_
            cases hc : cutB P Q l (s - x) with
            | true => exact Evt.pos rfl (by simpa using Evt.pure true)
            | false => exact Evt.neg (by simp) (by simpa using hnext)
        · have hus : (x &&& s == x) = false := by rw [beq_eq_false_iff_ne]; omega
          rw [hus, Bool.false_and, Bool.or_false]
          exact hnext
      induction u with
      | zero =>
        intro hu
        have := step false 0 (by omega) (by
          refine Evt.succ ?_
          simp only [skewbaldlaw01_shared.l0]
          exact Evt.neg (by omega) (Evt.pure _))
        simpa using this
      | succ u ihu =>
        intro hu
        rw [List.range_succ, List.any_append]
        have h1 := step _ (u + 1) hu (by
          rw [show ((u + 1 : Nat) : Int) - 1 = (u : Int) by omega]
          exact ihu (by omega))
        simpa using h1
    exact key s (Nat.le_refl _)
theorem grows_set : ∀ n : Nat, n ≤ 5 → ∀ s, s < 2 ^ n → growsB (n : Int) (-1) (ints (setL s)) = true := by decide +kernel
theorem plankFewest_f {P : List S48} {Q : List S50} (n : Int) : Evt (fun k => skewbaldlaw01_PlankFewest.f k P Q n) true := by
  unfold skewbaldlaw01_PlankFewest.f plank_Fewest.f
  simp only [Option.bind_some]
  refine Evt.bind sound_f (Evt.ite (fun hv => ?_) (fun hv => ?_))
  · have hok := valid_ok hv
    obtain ⟨hp1, _, hq1, _, _, _⟩ := valid_told hv; have h3 := hok.p3; have h5 := hok.q5; have hpp := pow_pos P.length; have hpq := pow_pos Q.length
    have hq2 : 2 ≤ 2 ^ Q.length := by
      obtain ⟨m, hm⟩ : ∃ m, Q.length = m + 1 := ⟨Q.length - 1, by omega⟩
      rw [hm, Nat.pow_succ]
      have := pow_pos m
      omega
    rw [full_num h5, shl_pow P.length (by omega)]
    obtain ⟨t, ht, e⟩ := Round_nat n (2 ^ P.length) hpp (by have : 2 ^ P.length ≤ 32 := Nat.pow_le_pow_right (by omega : 0 < 2) (by omega : P.length ≤ 5); omega)
    rw [e]
    simp only [Option.bind_some]
    refine Evt.bind (enough_f hv ht (by omega)) ?_
    have hf : fewestP P Q = if (fewestZ P Q).1 then (ints (fewestZ P Q).2, 0) else ([], 4) := by unfold fewestP; rw [hv]; rfl
    rcases fewest_spec P Q with ⟨ez, hno⟩ | ⟨l, ez, ⟨s, hs, rfl, hc⟩, hb⟩
    · rw [hf, ez, hno t ht]
      exact Evt.neg (by simp) (Evt.pos (by simp) (Evt.pos (by simp) (Evt.pos (by trivial) (Evt.neg (by simp) (Evt.bind sawn_f (Evt.pure _))))))
    · have hc' : cutB P Q (setL s) (2 ^ Q.length - 1) = true := hc
      have hs0 : setL s ≠ [] := fun e => by
        rw [e, show cutB P Q [] (2 ^ Q.length - 1) = (2 ^ Q.length - 1 == 0) from rfl, beq_iff_eq] at hc'
        omega
      have hl0 := List.length_pos_iff.2 hs0; have hls := setL5 s
      have last : Evt (fun k => skewbaldlaw01_PlankFewest.j0 k (ints (setL s)) ((2 ^ Q.length - 1 : Nat) : Int) false P Q) true := by
        refine Evt.succ ?_
        simp only [skewbaldlaw01_PlankFewest.j0]
        refine Evt.neg (by simp) (Evt.bind (shared_f hv _ (fun q hq => setL_lt hs hq) (setL5 s) _ (by omega)) ?_)
        rw [hc']
        exact Evt.pos (by trivial) (Evt.bind sawn_f (Evt.pure _))
      rw [hf, ez]
      refine Evt.pos (by simp) (Evt.pos (by trivial) (Evt.bind (Grows_f _ (by show (ints (setL s)).length < _; rw [ints_length]; omega) _) ?_))
      refine Evt.pos (grows_set P.length (by omega) s hs) (Evt.neg (by show ¬ ((ints (setL s)).length : Int) = 0; rw [ints_length]; omega) (Evt.ite (fun hi => ?_) (fun hi => last)))
      refine Evt.bind (ListN_f (by omega) ht) (Evt.bind (Shorter_f _ _ (by rw [ints_length]; have := setL5 t; omega) (by show (ints (setL s)).length < _; rw [ints_length]; omega)) ?_)
      rw [shorter_better]
      have : betterL (ints (setL t)) (ints (setL s)) = false := by
        rw [Bool.eq_false_iff]
        intro hbt
        rcases hb t ht hi with h | h
        · rw [h, strict_few.irr] at hbt; exact absurd hbt (by simp)
        · have := strict_few.trans _ _ _ h hbt
          rw [strict_few.irr] at this
          exact absurd this (by simp)
      show Evt (fun k => skewbaldlaw01_PlankFewest.j0 k (ints (setL s)) _ (betterL (ints (setL t)) (ints (setL s))) P Q) true
      rw [this]
      exact last
  · have e : fewestP P Q = ([], 10) := by unfold fewestP; rw [show validB P Q = false from by simpa using hv]; rfl
    rw [e]
    exact Evt.pos (by trivial) (Evt.pos (by trivial) (Evt.bind sawn_f (Evt.pure _)))
end Go.Proofs.YtekjlpldooihhaaDoor.PR
namespace Go.Proofs.YtekjlpldooihhaaDoor.PlankFewestRow.Pure
open Go.RowKit Go.Proofs.YtekjlpldooihhaaDoorW.PrintWords Go.Proofs.YtekjlpldooihhaaDoorEv Go.Proofs.YtekjlpldooihhaaDoorP Go.Proofs.YtekjlpldooihhaaDoor.PT Go.Proofs.YtekjlpldooihhaaDoor.PR
open Go.Proofs.YtekjlpldooihhaaDoor.PA (S48 S50 k48 k50)
set_option linter.unusedVariables false
theorem plankFewest (W : World) (P : List S48) (Q : List S50) (n : Int) {A : Option Addr} (hP : Kd.C k48 W A P.length P) (w0 : ∀ y ∈ P, wfWood y) {B : Option Addr} (hQ : Kd.C k50 W B Q.length Q) (w1 : ∀ x ∈ Q, wfShape x) (w2 : (Lit.int .i64 n).wf = true) :
    ∃ k, skewbaldlaw01_PlankFewest.f k P Q n = some true :=
  (plankFewest_f n).get
end Go.Proofs.YtekjlpldooihhaaDoor.PlankFewestRow.Pure
namespace Go.Proofs.YtekjlpldooihhaaDoor.PR
open Go.RowKit Go.Proofs.YtekjlpldooihhaaDoorW.PrintWords Go.Proofs.YtekjlpldooihhaaDoorW.PrintMore Go.Proofs.YtekjlpldooihhaaDoorEv Go.Proofs.YtekjlpldooihhaaDoorP Go.Proofs.YtekjlpldooihhaaDoor.PT Go.Proofs.YtekjlpldooihhaaDoorH Go.Proofs.YtekjlpldooihhaaDoorK
open Go.Proofs.YtekjlpldooihhaaDoor.PA (S48 S50 S60 k48 k50 k60 z48 z50 z60 rd_T48 rd_T50 rd_T60 rd_L4)
set_option linter.unusedVariables false
set_option linter.unusedSimpArgs false
def clearB (x : S50) (a : Nat) (t : Bool) (kn : List Int) : Bool := (jL x a t).all fun v => !decide (v ∈ kn)
theorem clear_l0 {x : S50} (hx : PartOk x) {a : Nat} (ha : a ≤ 16) (t : Bool) {kn : List Int} (hl : kn.length < 9223372036854775807) : ∀ (d j : Nat), j + d = x.f1.length →
    Evt (fun k => skewbaldlaw01_clear.l0 k (a : Int) t kn (j : Int) x.f0 x.f1 x.f2) (((jL x a t).drop j).all fun v => !decide (v ∈ kn))
  | 0, j, hj => by
    refine Evt.succ ?_
    simp only [skewbaldlaw01_clear.l0]
    rw [List.drop_eq_nil_of_le (by rw [jL_len]; omega)]
    exact Evt.neg (by omega) (Evt.pure _)
  | d + 1, j, hj => by
    have h1 := hx.one; have h12 := hx.big; have h3 := hx.few
    have hlt : j < x.f1.length := by omega
    obtain ⟨n0, n1⟩ := hx.joint x.f1[j] (List.getElem_mem _)
    have ih := clear_l0 hx ha t hl d (j + 1) (by omega)
    have hg : rd x.f1 (j : Int) = x.f1[j] := by simp [rd, hlt]
    have hd : (jL x a t).drop j = ((a : Int) + (if t then x.f0 - 1 - x.f1[j] else x.f1[j])) :: (jL x a t).drop (j + 1) := by
      rw [List.drop_eq_getElem_cons (by rw [jL_len]; exact hlt)]
      congr 1
      simp [jL]
    refine Evt.succ ?_
    simp only [skewbaldlaw01_clear.l0]
    rw [hg, hd, List.all_cons, w64 j (by omega)]
    refine Evt.pos (by omega) (Evt.pos (by omega) ?_)
    have fin : ∀ (v : Int), Evt (fun k => (skewbaldref00_Find.f k kn v).bind fun r => if r ≥ 0 then some false else skewbaldlaw01_clear.l0 k (a : Int) t kn ((j + 1 : Nat) : Int) x.f0 x.f1 x.f2) (!decide (v ∈ kn) && ((jL x a t).drop (j + 1)).all fun v => !decide (v ∈ kn)) := fun v => by
      refine Evt.bind (Find_f kn hl v) (Evt.ite (fun h => ?_) (fun h => ?_))
      · rw [decide_eq_true ((findD_nonneg kn v).1 h)]; simpa using Evt.pure false
      · rw [decide_eq_false (fun h2 => h ((findD_nonneg kn v).2 h2))]; simpa using ih
    cases t with
    | true =>
      refine Evt.pos rfl ?_
      rw [show wrap64 (wrap64 (wrap64 ((a : Int) + x.f0) - 1) - x.f1[j]) = (a : Int) + (x.f0 - 1 - x.f1[j]) by unfold wrap64; omega]
      simpa using fin ((a : Int) + (x.f0 - 1 - x.f1[j]))
    | false =>
      refine Evt.neg (by simp) ?_
      rw [show wrap64 ((a : Int) + x.f1[j]) = (a : Int) + x.f1[j] by unfold wrap64; omega]
      simpa using fin ((a : Int) + x.f1[j])
theorem clear_f {x : S50} (hx : PartOk x) {a : Nat} (ha : a ≤ 16) (t : Bool) {kn : List Int} (hl : kn.length < 9223372036854775807) : Evt (fun k => skewbaldlaw01_clear.f k x.f0 x.f1 x.f2 (a : Int) t kn) (clearB x a t kn) := by
  unfold skewbaldlaw01_clear.f
  exact clear_l0 hx ha t hl x.f1.length 0 (by omega)
theorem clear_nil (x : S50) (a : Nat) (t : Bool) : clearB x a t [] = true := by unfold clearB; simp
def setAll : List Bool → Nat → Nat → List Bool
  | tk, _, 0 => tk
  | tk, a, d + 1 => setAll (tk.set a true) (a + 1) d
theorem setAll_length : ∀ (d : Nat) (tk : List Bool) (a : Nat), (setAll tk a d).length = tk.length
  | 0, tk, a => rfl
  | d + 1, tk, a => by unfold setAll; rw [setAll_length d, List.length_set]
theorem getD_setB {tk : List Bool} {i : Nat} (hi : i < tk.length) (j : Nat) : (tk.set i true).getD j false = (tk.getD j false || decide (j = i)) := by
  by_cases e : j = i
  · subst e; simp [hi]
  · simp [List.getElem?_set_ne (fun h => e h.symm), e]
theorem setAll_mark : ∀ (d : Nat) (tk : List Bool) (a : Nat), a + d ≤ tk.length → ∀ j, (setAll tk a d).getD j false = markB (fun j => tk.getD j false) a d j
  | 0, tk, a, h, j => by unfold setAll markB; simp; omega
  | d + 1, tk, a, h, j => by
    unfold setAll
    rw [setAll_mark d (tk.set a true) (a + 1) (by rw [List.length_set]; omega) j]
    unfold markB
    show ((tk.set a true).getD j false || _) = (tk.getD j false || _)
    rw [getD_setB (by omega)]
    rw [Bool.eq_iff_iff]
    simp only [Bool.or_eq_true, Bool.and_eq_true, decide_eq_true_eq]
    constructor
    · rintro ((h | h) | h)
      · exact Or.inl h
      · exact Or.inr (by omega)
      · exact Or.inr (by omega)
    · rintro (h | h)
      · exact Or.inl (Or.inl h)
      · by_cases e : j = a
        · exact Or.inl (Or.inr e)
        · exact Or.inr (by omega)
theorem free_set {tk : List Bool} {a d : Nat} (ha : a < tk.length) : freeB (fun j => (tk.set a true).getD j false) (a + 1) d = freeB (fun j => tk.getD j false) (a + 1) d := by
  rw [Bool.eq_iff_iff, free_iff, free_iff]
  constructor
  · intro h j h1 h2
    have := h j h1 h2
    rw [getD_setB ha] at this
    simpa [show ¬ j = a by omega] using this
  · intro h j h1 h2
    rw [getD_setB ha, h j h1 h2]
    simp; omega
theorem free_next (f : Nat → Bool) (a d : Nat) : freeB f a (d + 1) = (!f a && freeB f (a + 1) d) := by
  unfold freeB
  rw [List.range'_succ, List.any_cons]
  cases f a <;> simp
theorem laid_l1 {P : List S48} {Q : List S50} {ps as' : List Int} {kn : List Int} {x : S50} {L a q : Nat} (hL : x.f0 = L) (hL12 : L ≤ 12) (hq : q < as'.length) (hq5 : q < 9223372036854775807) (ha : rd as' (q : Int) = a) (ha16 : a ≤ 16) (r : Bool) :
    ∀ (d m : Nat) (tk : List Bool), m + d = L → a + L ≤ tk.length → tk.length ≤ 16 → Evt (fun k => skewbaldlaw01_laid.l0 k ps as' kn (setAll tk (a + m) d) ((q + 1 : Nat) : Int) P Q) r →
      Evt (fun k => skewbaldlaw01_laid.l1 k ps as' kn tk (q : Int) (m : Int) P Q x.f0 x.f1 x.f2) (freeB (fun j => tk.getD j false) (a + m) d && r)
  | 0, m, tk, hm, hw, h16, hc => by
    refine Evt.succ ?_
    simp only [skewbaldlaw01_laid.l1]
    rw [w64 q hq5]
    refine Evt.neg (by omega) ?_
    rw [show freeB (fun j => tk.getD j false) (a + m) 0 = true from rfl]
    simpa [setAll] using hc
  | d + 1, m, tk, hm, hw, h16, hc => by
    refine Evt.succ ?_
    simp only [skewbaldlaw01_laid.l1]
    rw [ha, show wrap64 ((a : Int) + (m : Int)) = ((a + m : Nat) : Int) by unfold wrap64; omega, w64 m (by omega), free_next, Int.toNat_natCast]
    have hrd : rdOf false tk ((a + m : Nat) : Int) = tk.getD (a + m) false := rfl
    rw [hrd]
    refine Evt.pos (by omega) (Evt.pos (by omega) (Evt.pos (by omega) (Evt.pos (by omega) (Evt.pos (by omega) (Evt.ite (fun h => ?_) (fun h => ?_))))))
    · rw [h]; simpa using Evt.pure false
    · have ih := laid_l1 (P := P) (Q := Q) (ps := ps) (kn := kn) hL hL12 hq hq5 ha ha16 r d (m + 1) (tk.set (a + m) true) (by omega) (by rw [List.length_set]; omega) (by rw [List.length_set]; omega) hc
      rw [show a + (m + 1) = a + m + 1 by omega, free_set (by omega)] at ih
      rw [show tk.getD (a + m) false = false from by simpa using h]
      simpa using ih
def goodF (Q : List S50) : (Nat → Bool) → List Nat → List Nat → Bool
  | f, p :: ps, a :: bs => freeB f a (lenQ Q p) && goodF Q (markB f a (lenQ Q p)) ps bs
  | _, _, _ => true
theorem goodF_congr {Q : List S50} : ∀ (ps bs : List Nat) (f g : Nat → Bool), (∀ j, f j = g j) → goodF Q f ps bs = goodF Q g ps bs := fun ps bs f g h => by rw [show f = g from funext h]
theorem laid_l0 {P : List S48} {Q : List S50} (hok : Ok P Q) {ps bs : List Nat} (hlen : bs.length = ps.length) {kn : List Int} (hkn : kn.length < 9223372036854775807) (hps : ∀ p ∈ ps, p < Q.length) (hp5 : ps.length ≤ 5) {W : Nat} (hW : W ≤ 16)
    (hsp : ∀ q, q < ps.length → bs.getD q 0 + lenQ Q (ps.getD q 0) ≤ W ∧ (clearB (Q.getD (ps.getD q 0) z50) (bs.getD q 0) false kn || ((Q.getD (ps.getD q 0) z50).f2 && clearB (Q.getD (ps.getD q 0) z50) (bs.getD q 0) true kn)) = true) : ∀ (d q : Nat) (tk : List Bool), q + d = ps.length → tk.length = W →
    Evt (fun k => skewbaldlaw01_laid.l0 k (ints ps) (ints bs) kn tk (q : Int) P Q) (goodF Q (fun j => tk.getD j false) (ps.drop q) (bs.drop q))
  | 0, q, tk, hq, hw => by
    refine Evt.succ ?_
    simp only [skewbaldlaw01_laid.l0]
    rw [List.drop_eq_nil_of_le (show ps.length ≤ q by omega)]
    exact Evt.neg (by rw [ints_length]; omega) (by unfold goodF; exact Evt.pure _)
  | d + 1, q, tk, hq, hw => by
    have hlt : q < ps.length := by omega
    have hltb : q < bs.length := by omega
    obtain ⟨hs1, hs2⟩ := hsp q hlt
    have hpm : ps.getD q 0 ∈ ps := by rw [getD_el hlt]; exact List.getElem_mem hlt
    have hpq := hps _ hpm
    have hx := Ok.partOk hok hpq
    have hrp : rd (ints ps) (q : Int) = ((ps.getD q 0 : Nat) : Int) := by rw [rd_at]; simp [ints, hlt]
    have hrb : rd (ints bs) (q : Int) = ((bs.getD q 0 : Nat) : Int) := by rw [rd_at]; simp [ints, hltb]
    have hdp : ps.drop q = ps.getD q 0 :: ps.drop (q + 1) := by rw [List.drop_eq_getElem_cons hlt, getD_el hlt]
    have hdb : bs.drop q = bs.getD q 0 :: bs.drop (q + 1) := by rw [List.drop_eq_getElem_cons hltb, getD_el hltb]
    rw [hdp, hdb]
    have hl5 : lenQ Q (ps.getD q 0) = (Q.getD (ps.getD q 0) z50).f0.toNat := rfl
    have ihg := laid_l0 hok hlen hkn hps hp5 hW hsp d (q + 1) (setAll tk (bs.getD q 0) (lenQ Q (ps.getD q 0))) (by omega) (by rw [setAll_length]; exact hw)
    rw [goodF_congr _ _ _ _ (setAll_mark (lenQ Q (ps.getD q 0)) tk (bs.getD q 0) (by omega))] at ihg
    generalize ps.getD q 0 = p at *
    generalize bs.getD q 0 = a at *
    have h1 := hx.one; have h12 := hx.big
    refine Evt.succ ?_
    simp only [skewbaldlaw01_laid.l0]
    rw [hrp, hrb, rd50, In_f, hw, show wrap64 ((W : Int) - (Q.getD p z50).f0) = (W : Int) - (Q.getD p z50).f0 by unfold wrap64; omega]
    simp only [Option.bind_some]
    rw [show (decide (0 ≤ (a : Int)) && decide ((a : Int) ≤ (W : Int) - (Q.getD p z50).f0)) = true from by rw [Bool.and_eq_true]; exact ⟨decide_eq_true (by omega), decide_eq_true (by omega)⟩]
    have fin : Evt (fun k => skewbaldlaw01_laid.j1 k (ints ps) (ints bs) kn tk (q : Int) false P Q (Q.getD p z50).f0 (Q.getD p z50).f1 (Q.getD p z50).f2) (goodF Q (fun j => tk.getD j false) (p :: ps.drop (q + 1)) (a :: bs.drop (q + 1))) := by
      refine Evt.succ ?_
      simp only [skewbaldlaw01_laid.j1]
      refine Evt.neg (by simp) ?_
      have := laid_l1 (P := P) (Q := Q) (ps := ints ps) (as' := ints bs) (kn := kn) (x := Q.getD p z50) (L := lenQ Q p) (a := a) (q := q) (by omega) (by omega) (by rw [ints_length]; omega) (by omega) hrb (by omega) _ (lenQ Q p) 0 tk (by omega) (by omega) (by omega) ihg
      exact this
    refine Evt.pos (by rw [ints_length]; omega) (Evt.pos (by omega) (Evt.pos (by omega) (Evt.pos (by omega) (Evt.pos (by rw [ints_length]; omega) (Evt.pos (by trivial) (Evt.bind (clear_f hx (by omega) false hkn) (Evt.ite (fun h => fin) (fun h => ?_))))))))
    have h2 : (Q.getD p z50).f2 = true ∧ clearB (Q.getD p z50) a true kn = true := by
      rw [show clearB (Q.getD p z50) a false kn = false from by simpa using h, Bool.false_or, Bool.and_eq_true] at hs2
      exact hs2
    refine Evt.pos h2.1 (Evt.bind (clear_f hx (by omega) true hkn) ?_)
    rw [h2.2]
    exact fin
theorem laid_f {P : List S48} {Q : List S50} (hok : Ok P Q) {i : Nat} (hi : i < P.length) {ps bs : List Nat} (hlen : bs.length = ps.length) {kn : List Int} (hkn : kn.length < 9223372036854775807) (hps : ∀ p ∈ ps, p < Q.length) (hp5 : ps.length ≤ 5)
    (hsp : ∀ q, q < ps.length → spotB (P.getD i z48) (Q.getD (ps.getD q 0) z50) (bs.getD q 0) = true ∧ (clearB (Q.getD (ps.getD q 0) z50) (bs.getD q 0) false kn || ((Q.getD (ps.getD q 0) z50).f2 && clearB (Q.getD (ps.getD q 0) z50) (bs.getD q 0) true kn)) = true) :
    Evt (fun k => skewbaldlaw01_laid.f k P Q (i : Int) (ints ps) (ints bs) kn) (goodF Q (fun _ => false) ps bs) := by
  have hy := Ok.plankOk hok hi
  have h1 := hy.one; have h16 := hy.big
  unfold skewbaldlaw01_laid.f
  rw [rd48]
  refine Evt.pos (by rw [ints_length, ints_length, hlen]) (Evt.pos (by omega) (Evt.pos (by omega) (Evt.pos (by omega) (Evt.pos (by omega) ?_))))
  have := laid_l0 hok hlen hkn hps hp5 (W := (P.getD i z48).f0.toNat) (by omega) (fun q hq => ⟨by
    have h := (spot_lt (hsp q hq).1).1
    have hpm : ps.getD q 0 ∈ ps := by rw [getD_el hq]; exact List.getElem_mem hq
    have := (Ok.partOk hok (hps _ hpm)).one
    unfold lenQ
    omega, (hsp q hq).2⟩) ps.length 0 (List.replicate (P.getD i z48).f0.toNat false) (by omega) (by simp)
  rw [List.drop_zero, List.drop_zero, goodF_congr _ _ _ (fun _ => false) (fun j => by rw [List.getD_eq_getElem?_getD, List.getElem?_replicate]; split <;> rfl)] at this
  exact this
theorem good_goodF {y : S48} {Q : List S50} : ∀ (ps bs : List Nat) (f : Nat → Bool), bs.length = ps.length → (∀ q, q < ps.length → spotB y (Q.getD (ps.getD q 0) z50) (bs.getD q 0) = true) → (Go.Proofs.YtekjlpldooihhaaDoorP.Good y Q ps f bs ↔ goodF Q f ps bs = true)
  | [], [], f, _, _ => by simp [Go.Proofs.YtekjlpldooihhaaDoorP.Good, goodF]
  | [], _ :: _, f, h, _ => by simp at h
  | _ :: _, [], f, h, _ => by simp at h
  | p :: ps, a :: bs, f, h, hs => by
    have ih := good_goodF (y := y) (Q := Q) ps bs (markB f a (lenQ Q p)) (by simpa using h) (fun q hq => by
      have := hs (q + 1) (by simp; omega)
      simpa using this)
    have h0 := hs 0 (by simp)
    unfold Go.Proofs.YtekjlpldooihhaaDoorP.Good goodF
    rw [ih, Bool.and_eq_true]
    exact ⟨fun h => h.2, fun h => ⟨by simpa using h0, h⟩⟩
theorem lex_less : ∀ (o bs : List Nat), o.length = bs.length → lexLe o bs → lessB (ints bs) (ints o) = false
  | [], [], _, _ => rfl
  | [], _ :: _, h, _ => by simp at h
  | _ :: _, [], h, _ => by simp at h
  | a :: o, b :: bs, h, hl => by
    show lessB ((b : Int) :: ints bs) ((a : Int) :: ints o) = false
    rw [lessB_cons]
    rcases hl with hl | ⟨rfl, hl⟩
    · rw [if_neg (by omega)]; simp; omega
    · rw [if_pos rfl]; exact lex_less o bs (by simpa using h) hl
theorem cut_ten : ∀ t, t < 32 → ∀ q, q < (setL t).length → skewbaldref00_Cut.f 10 (ints (setL t)) (q : Int) = some (ints (setL (t - 2 ^ (setL t).getD q 0))) := by decide +kernel
theorem Cut_f {t q : Nat} (ht : t < 32) (hq : q < (setL t).length) : Evt (fun k => skewbaldref00_Cut.f k (ints (setL t)) (q : Int)) (ints (setL (t - 2 ^ (setL t).getD q 0))) := Evt.of_mono (fun k => skewbaldref00_Cut.mono _ _ k) (cut_ten t ht q hq)
theorem take_mem {s : List Nat} (hs : s ≠ []) (hl : s.length < 9223372036854775808) (t : Int) : ∃ a ∈ s, takeD (ints s) t = ((a : Nat) : Int) := by
  have h0 : 0 < s.length := List.length_pos_iff.2 hs
  have h1 := Int.emod_nonneg t (show (s.length : Int) ≠ 0 by omega)
  have h2 := Int.emod_lt_of_pos t (show (0 : Int) < (s.length : Int) by omega)
  unfold takeD
  rw [if_neg (by intro h; have := congrArg List.length h; rw [ints_length] at this; simp at this; exact hs this), ints_length]
  refine ⟨s[(t % (s.length : Int)).toNat]'(by omega), List.getElem_mem _, ?_⟩
  have e : rd (ints s) (t % (s.length : Int)) = (ints s).getD (t % (s.length : Int)).toNat 0 := rfl
  rw [e]
  simp [ints, show (t % (s.length : Int)).toNat < s.length by omega]
theorem spots_told {P : List S48} {Q : List S50} (hv : validB P Q = true) {i p : Nat} (hi : i < P.length) (hp : p < Q.length) : spotsP P Q (i : Int) (p : Int) = (ints (spotsL (P.getD i z48) (Q.getD p z50)), 0) := by
  unfold spotsP
  rw [hv, show inB (i : Int) P.length = true from by unfold inB; simp; omega, show inB (p : Int) Q.length = true from by unfold inB; simp; omega, Int.toNat_natCast, Int.toNat_natCast]
  rfl
theorem plankLay_j1 {P : List S48} {Q : List S50} (hv : validB P Q = true) {i t : Nat} (hi : i < P.length) (ht : t < 2 ^ Q.length) {o : List Nat} (ho : laidB (P.getD i z48) Q (setL t) = some o) (a b c : Int) :
    Evt (fun k => skewbaldlaw01_PlankLay.j1 k (i : Int) (ints (setL t)) (ints o) false P Q a b c) true := by
  have hok := valid_ok hv
  have h5 := hok.q5
  have h32 := lt32 h5 ht
  have hL : ∀ p ∈ setL t, 1 ≤ (Q.getD p z50).f0 := fun p hp => (Ok.partOk hok (setL_lt ht hp)).one
  obtain ⟨hol, hlies, _⟩ := laid_some (setL_nodup t) hL ho
  refine Evt.succ ?_
  simp only [skewbaldlaw01_PlankLay.j1]
  refine Evt.neg (by simp) (Evt.ite (fun h => ?_) (fun h => ?_))
  · rw [ints_length] at h
    exact Evt.pos (by rw [ints_length, hol]; exact h) (Evt.bind sawn_f (Evt.pure _))
  · rw [ints_length] at h ⊢
    have hl5 := setL5 t
    obtain ⟨q, hq, e⟩ := Round_nat c (setL t).length (by omega) (by omega)
    rw [e]
    simp only [Option.bind_some]
    have hm : (setL t).getD q 0 ∈ setL t := by rw [getD_el hq]; exact List.getElem_mem hq
    have hlt : t - 2 ^ (setL t).getD q 0 < 2 ^ Q.length := Nat.lt_of_le_of_lt (Nat.sub_le _ _) ht
    refine Evt.bind (Cut_f h32 hq) ?_
    simp only [plank_Lay.f, Option.bind_some]
    rw [lay_told hv hi hlt]
    have hmem := mem_less h32 hm
    have hs : (laidB (P.getD i z48) Q (setL (t - 2 ^ (setL t).getD q 0))).isSome = true := (laid_iff (setL_nodup _) (fun p hp => hL p ((hmem p).1 hp).1)).2 ⟨posOf (setL t) o, fun p hp => hlies.1 p ((hmem p).1 hp).1, fun p r hp hr hne => hlies.2 p r ((hmem p).1 hp).1 ((hmem r).1 hr).1 hne⟩
    obtain ⟨o', ho'⟩ := Option.isSome_iff_exists.1 hs
    rw [ho']
    exact Evt.pos rfl (Evt.bind sawn_f (Evt.pure _))
theorem plankLay_l0 {P : List S48} {Q : List S50} (hv : validB P Q = true) {i t : Nat} (hi : i < P.length) (ht : t < 2 ^ Q.length) (a b c : Int) {bits : List Int} (hbits : bits.length < 9223372036854775808) : ∀ (d j : Nat) (bs : List Nat), j + d = (setL t).length → bs.length = j → (∀ q, q < j → spotB (P.getD i z48) (Q.getD ((setL t).getD q 0) z50) (bs.getD q 0) = true) →
    Evt (fun k => skewbaldlaw01_PlankLay.l0 k bits (i : Int) (ints (setL t)) (layR (laidB (P.getD i z48) Q (setL t))).1 (layR (laidB (P.getD i z48) Q (setL t))).2 (ints bs) (j : Int) P Q a b c) true
  | 0, j, bs, hj, hb, hs => by
    have hok := valid_ok hv
    have h5 := hok.q5
    have hl5 := setL5 t
    have hlen : bs.length = (setL t).length := by omega
    have hL : ∀ p ∈ setL t, 1 ≤ (Q.getD p z50).f0 := fun p hp => (Ok.partOk hok (setL_lt ht hp)).one
    have hsp : ∀ q, q < (setL t).length → spotB (P.getD i z48) (Q.getD ((setL t).getD q 0) z50) (bs.getD q 0) = true := fun q hq => hs q (by omega)
    have hgood := good_goodF (setL t) bs (fun _ => false) hlen hsp
    refine Evt.succ ?_
    simp only [skewbaldlaw01_PlankLay.l0]
    refine Evt.neg (by rw [ints_length]; omega) (Evt.bind (laid_f hok hi hlen (kn := []) (by simp) (fun p hp => setL_lt ht hp) hl5 (fun q hq => ⟨hsp q hq, by rw [clear_nil]; rfl⟩)) ?_)
    cases hla : laidB (P.getD i z48) Q (setL t) with
    | none =>
      have hno : goodF Q (fun _ => false) (setL t) bs = false := by
        rw [Bool.eq_false_iff]
        intro h
        exact laidFrom_none (setL t) hL _ _ hla bs (hgood.2 h)
      rw [hno]
      exact Evt.neg (by simp [layR]) (Evt.pos rfl (Evt.pos rfl (Evt.neg (by simp) (Evt.bind sawn_f (Evt.pure _)))))
    | some o =>
      obtain ⟨us, e, hg, hm⟩ := laidFrom_some (setL t) hL _ _ _ hla
      rw [List.nil_append] at e
      subst e
      have hol := good_length _ _ _ hg
      refine Evt.pos rfl (Evt.ite (fun h => ?_) (fun h => plankLay_j1 hv hi ht hla a b c))
      refine Evt.bind (Less_f _ _ (by rw [ints_length]; omega) (by show (ints o).length < _; rw [ints_length]; omega)) ?_
      show Evt (fun k => skewbaldlaw01_PlankLay.j1 k (i : Int) (ints (setL t)) (ints o) (lessB (ints bs) (ints o)) P Q a b c) true
      rw [lex_less o bs (by omega) (hm bs (hgood.2 h))]
      exact plankLay_j1 hv hi ht hla a b c
  | d + 1, j, bs, hj, hb, hs => by
    have hok := valid_ok hv
    have hl5 := setL5 t
    have hlt : j < (setL t).length := by omega
    have hpm : (setL t).getD j 0 ∈ setL t := by rw [getD_el hlt]; exact List.getElem_mem hlt
    have hpq := setL_lt ht hpm
    have hrp : rd (ints (setL t)) (j : Int) = (((setL t).getD j 0 : Nat) : Int) := by rw [rd_at]; simp [ints, hlt]
    have hL : ∀ p ∈ setL t, 1 ≤ (Q.getD p z50).f0 := fun p hp => (Ok.partOk hok (setL_lt ht hp)).one
    have h16 := spots_len (Ok.plankOk hok hi) (Q.getD ((setL t).getD j 0) z50)
    refine Evt.succ ?_
    simp only [skewbaldlaw01_PlankLay.l0, plank_Spots.f, Option.bind_some]
    rw [hrp, spots_told hv hi hpq, Take_f bits _ hbits, w64 j (by omega)]
    simp only [Option.bind_some]
    rw [Take_f _ _ (by rw [ints_length]; omega)]
    simp only [Option.bind_some]
    refine Evt.pos (by rw [ints_length]; omega) (Evt.pos (by omega) (Evt.pos (by trivial) (Evt.pos (by rw [ints_length]; omega) (Evt.ite (fun h => ?_) (fun h => ?_)))))
    · rw [ints_length] at h
      have hno : laidB (P.getD i z48) Q (setL t) = none := by
        cases hla : laidB (P.getD i z48) Q (setL t) with
        | none => rfl
        | some o =>
          have hx := (laid_some (setL_nodup t) hL hla).2.1.1 _ hpm
          have := (mem_spots (hL _ hpm)).2 hx
          rw [List.length_eq_zero_iff.1 (by omega : (spotsL (P.getD i z48) (Q.getD ((setL t).getD j 0) z50)).length = 0)] at this
          simp at this
      rw [hno]
      exact Evt.pos rfl (Evt.pos rfl (Evt.bind sawn_f (Evt.pure _)))
    · rw [ints_length] at h
      obtain ⟨v, hv1, hv2⟩ := take_mem (s := spotsL (P.getD i z48) (Q.getD ((setL t).getD j 0) z50)) (fun e => h (by rw [e]; rfl)) (by omega) (takeD bits (j : Int))
      rw [hv2, show ints bs ++ [((v : Nat) : Int)] = ints (bs ++ [v]) from by rw [ints_append]; rfl]
      refine plankLay_l0 hv hi ht a b c hbits d (j + 1) (bs ++ [v]) (by omega) (by simp [hb]) (fun q hq => ?_)
      by_cases e : q = j
      · subst e
        rw [show (bs ++ [v]).getD q 0 = v from by simp [← hb]]
        exact (mem_spots (hL _ hpm)).1 hv1
      · rw [show (bs ++ [v]).getD q 0 = bs.getD q 0 from by simp [List.getElem?_append_left (show q < bs.length by omega)]]
        exact hs q (by omega)
theorem plankLay_f {P : List S48} {Q : List S50} (a b c : Int) {bits : List Int} (hbits : bits.length < 9223372036854775808) : Evt (fun k => skewbaldlaw01_PlankLay.f k P Q a b c bits) true := by
  unfold skewbaldlaw01_PlankLay.f plank_Lay.f
  refine Evt.bind sound_f (Evt.ite (fun hv => ?_) (fun hv => Evt.bind sawn_f (Evt.pure _)))
  have hok := valid_ok hv
  obtain ⟨h1, h3, _, h5, _, _⟩ := valid_told hv
  have hpq := pow_pos Q.length
  have h32 : 2 ^ Q.length ≤ 32 := Nat.pow_le_pow_right (by omega : 0 < 2) h5
  obtain ⟨i, hi, e1⟩ := Round_nat a P.length h1 (by omega)
  obtain ⟨t, ht, e2⟩ := Round_nat b (2 ^ Q.length) hpq (by omega)
  rw [e1, shl_pow Q.length (by omega), e2]
  simp only [Option.bind_some]
  refine Evt.bind (ListN_f h5 ht) ?_
  rw [lay_told hv hi ht]
  exact plankLay_l0 hv hi ht a b c hbits (setL t).length 0 [] (by omega) rfl (fun q hq => by omega)
end Go.Proofs.YtekjlpldooihhaaDoor.PR
namespace Go.Proofs.YtekjlpldooihhaaDoor.PlankLayRow.Pure
open Go.RowKit Go.Proofs.YtekjlpldooihhaaDoorW.PrintWords Go.Proofs.YtekjlpldooihhaaDoorEv Go.Proofs.YtekjlpldooihhaaDoorP Go.Proofs.YtekjlpldooihhaaDoor.PT Go.Proofs.YtekjlpldooihhaaDoor.PR
open Go.Proofs.YtekjlpldooihhaaDoor.PA (S48 S50 k48 k50)
set_option linter.unusedVariables false
theorem plankLay (W : World) (P : List S48) (Q : List S50) (a b c : Int) (l : List Int) {A : Option Addr} (hP : Kd.C k48 W A P.length P) (w0 : ∀ y ∈ P, wfWood y) {B : Option Addr} (hQ : Kd.C k50 W B Q.length Q) (w1 : ∀ x ∈ Q, wfShape x) (w2 : (Lit.int .i64 a).wf = true) (w3 : (Lit.int .i64 b).wf = true) (w4 : (Lit.int .i64 c).wf = true) {D : Option Addr} (hl : Kd.C (Kd.int .i64) W D l.length l) (w5 : ∀ x ∈ l, (Lit.int .i64 x).wf = true) :
    ∃ k, skewbaldlaw01_PlankLay.f k P Q a b c l = some true :=
  (plankLay_f a b c (by have := hl.2.1; omega)).get
end Go.Proofs.YtekjlpldooihhaaDoor.PlankLayRow.Pure
