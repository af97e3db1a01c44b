/- Package plank, plain laws: the reference's table of ends. -/
import Derived.Test.YtekjlpldooihhaaDoorWNEv
import Derived.Test.YtekjlpldooihhaaDoorPv
import Derived.Test.YtekjlpldooihhaaDoorPTx17
import Derived.Test.YtekjlpldooihhaaDoorPh
import Derived.Test.YtekjlpldooihhaaDoorPq
import Derived.Test.YtekjlpldooihhaaDoorHa
namespace Go.Proofs.YtekjlpldooihhaaDoor.PT
open Go.Proofs.YtekjlpldooihhaaDoorSh
open Go.Proofs.YtekjlpldooihhaaDoor.PA (S48 S50 S60 at_L2 at_L4 at_T48 at_T50 at_T60 errW errW_none errW_some k48 k48_mk k48_mkM k48_open k48_openM k50 k50_mk k50_mkM k50_open k50_openM k60 k60_mk k60_mkM k60_open k60_openM rd_L2 rd_L4 rd_T48 rd_T50 rd_T60 z48 z50 z60)
open Go.Proofs.YtekjlpldooihhaaDoorP Go.Proofs.YtekjlpldooihhaaDoorA Go.Proofs.YtekjlpldooihhaaDoorK
open Go.RowKit Go.Proofs.YtekjlpldooihhaaDoorW.PrintWords Go.Proofs.YtekjlpldooihhaaDoorW.PrintLast Go.Proofs.YtekjlpldooihhaaDoorW.PrintMore
attribute [local go_sem] max2_int min2_int max_two min_two max_three min_three max_four min_four
set_option linter.unusedVariables false
set_option linter.unusedSimpArgs false
mutual
def skewbaldref01_may.l0 : Nat → List Int → Int → Int → List (S60) → Option (Bool)
 | 0, _, _, _, _ => none
 | k + 1, x1, x5, x146000, x146001 => if x5 < (x146001.length : Int) then (if 0 ≤ x5 then (skewbaldref01_may.l1 k x1 x5 false ((rd_T60 x146001 x5).f0) x146000 x146001) else (none)) else (some true)
def skewbaldref01_may.l1 : Nat → List Int → Int → Bool → Int → Int → List (S60) → Option (Bool)
 | 0, _, _, _, _, _, _ => none
 | k + 1, x1, x5, x6, x7, x146000, x146001 => if 0 ≤ x5 then (if x5 < (x146001.length : Int) then (if x7 ≤ ((rd_T60 x146001 x5).f1) then (if x6 = true then (skewbaldref01_may.l1 k x1 x5 true (wrap64 (x7 + 1)) x146000 x146001) else ((skewbaldref00_Find.f k x1 x7).bind fun t148 => (skewbaldref01_may.l1 k x1 x5 (decide (t148 < 0)) (wrap64 (x7 + 1)) x146000 x146001))) else (if x6 = true then (skewbaldref01_may.l0 k x1 (wrap64 (x5 + 1)) x146000 x146001) else (some false))) else (none)) else (none)
end
def skewbaldref01_may.f (k : Nat) (a0_0 : Int) (l0_1 : List (S60)) (l1 : List Int) : Option (Bool) := skewbaldref01_may.l0 k l1 0 a0_0 l0_1
def skewbaldref01_can.j0 : Nat → List Int → List Int → Bool → Int → List (S60) → Int → List Int → Bool → Option (Int)
 | 0, _, _, _, _, _, _, _, _ => none
 | k + 1, x11, x12, x40, x153000, x153001, x154000, x154001, x154002 => if x40 = true then (some 2) else ((skewbaldref01_may.f k x153000 x153001 x11).bind fun t162 => (if t162 = true then (some 1) else (if x154002 = true then ((skewbaldref01_may.f k x153000 x153001 x12).bind fun t163 => (if t163 = true then (some 1) else (some 0))) else (some 0))))
def skewbaldref01_can.f (k : Nat) (l0_0 : List (S48)) (l0_1 : List (S50)) (a1 : Int) (a2 : Int) (a3 : Int) : Option (Int) := if 0 ≤ a1 then (if a1 < (l0_0.length : Int) then (if 0 ≤ a2 then (if a2 < (l0_1.length : Int) then ((skewbaldref01_joints.f k ((rd_T50 l0_1 a2).f0) ((rd_T50 l0_1 a2).f1) ((rd_T50 l0_1 a2).f2) a3 false).bind fun t154 => ((skewbaldref01_joints.f k ((rd_T50 l0_1 a2).f0) ((rd_T50 l0_1 a2).f1) ((rd_T50 l0_1 a2).f2) a3 true).bind fun t157 => ((skewbaldref01_sure.f k ((rd_T48 l0_0 a1).f0) ((rd_T48 l0_0 a1).f1) t154).bind fun t160 => (if t160 = true then (skewbaldref01_can.j0 k t154 t157 true ((rd_T48 l0_0 a1).f0) ((rd_T48 l0_0 a1).f1) ((rd_T50 l0_1 a2).f0) ((rd_T50 l0_1 a2).f1) ((rd_T50 l0_1 a2).f2)) else (if (rd_T50 l0_1 a2).f2 = true then ((skewbaldref01_sure.f k ((rd_T48 l0_0 a1).f0) ((rd_T48 l0_0 a1).f1) t157).bind fun t161 => (skewbaldref01_can.j0 k t154 t157 t161 ((rd_T48 l0_0 a1).f0) ((rd_T48 l0_0 a1).f1) ((rd_T50 l0_1 a2).f0) ((rd_T50 l0_1 a2).f1) ((rd_T50 l0_1 a2).f2))) else (skewbaldref01_can.j0 k t154 t157 false ((rd_T48 l0_0 a1).f0) ((rd_T48 l0_0 a1).f1) ((rd_T50 l0_1 a2).f0) ((rd_T50 l0_1 a2).f1) ((rd_T50 l0_1 a2).f2))))))) else (none)) else (none)) else (none)) else (none)
def skewbaldref01_spots.l0 : Nat → Int → Int → List Int → Int → List (S48) → List (S50) → Option (List Int)
 | 0, _, _, _, _, _, _ => none
 | k + 1, x1, x2, x7, x8, x175000, x175001 => (skewbaldref01_lies.f x175000 x175001 x1 x2 x8).bind fun t178 => (if t178 = true then ((skewbaldref01_can.f k x175000 x175001 x1 x2 x8).bind fun t179 => (if t179 = 2 then (if x7.length < 17592186044416 then (skewbaldref01_spots.l0 k x1 x2 (x7 ++ [x8]) (wrap64 (x8 + 1)) x175000 x175001) else (none)) else (skewbaldref01_spots.l0 k x1 x2 x7 (wrap64 (x8 + 1)) x175000 x175001))) else (some x7))
def skewbaldref01_spots.f (k : Nat) (l0_0 : List (S48)) (l0_1 : List (S50)) (a1 : Int) (a2 : Int) : Option (List Int) := skewbaldref01_spots.l0 k a1 a2 (([] : List Int)) 0 l0_0 l0_1
def skewbaldref00_Of.f (a0 : Int) (a1 : Int) : Option (Bool) := if 0 ≤ a1 then (some ((Go.bits .and .i64 (shr .i64 a0 a1) 1) == 1)) else (none)
def skewbaldref00_List.l0 : Nat → Int → Int → List Int → Int → Option (List Int)
 | 0, _, _, _, _ => none
 | k + 1, x0, x1, x5, x6 => if x6 < x1 then ((skewbaldref00_Of.f x0 x6).bind fun t217 => (if t217 = true then (if x5.length < 17592186044416 then (skewbaldref00_List.l0 k x0 x1 (x5 ++ [x6]) (wrap64 (x6 + 1))) else (none)) else (skewbaldref00_List.l0 k x0 x1 x5 (wrap64 (x6 + 1))))) else (some x5)
def skewbaldref00_List.f (k : Nat) (a0 : Int) (a1 : Int) : Option (List Int) := skewbaldref00_List.l0 k a0 a1 (([] : List Int)) 0
mutual
def skewbaldref00_Less.l0 : Nat → List Int → List Int → Int → Option (Bool)
 | 0, _, _, _ => none
 | k + 1, x0, x1, x5 => if x5 < (x0.length : Int) then (skewbaldref00_Less.j1 k x0 x1 x5 (decide (x5 < (x1.length : Int)))) else (skewbaldref00_Less.j1 k x0 x1 x5 false)
def skewbaldref00_Less.j1 : Nat → List Int → List Int → Int → Bool → Option (Bool)
 | 0, _, _, _, _ => none
 | k + 1, x0, x1, x5, x15 => if x15 = true then (if 0 ≤ x5 then (if x5 < (x0.length : Int) then (if x5 < (x1.length : Int) then (if (rd x0 x5) = (rd x1 x5) then (skewbaldref00_Less.l0 k x0 x1 (wrap64 (x5 + 1))) else (some (decide ((rd x0 x5) < (rd x1 x5))))) else (none)) else (none)) else (none)) else (some (decide ((x0.length : Int) < (x1.length : Int))))
end
def skewbaldref00_Less.f (k : Nat) (l0 : List Int) (l1 : List Int) : Option (Bool) := skewbaldref00_Less.l0 k l0 l1 0
def skewbaldref00_Shorter.f (k : Nat) (l0 : List Int) (l1 : List Int) : Option (Bool) := if (l0.length : Int) = (l1.length : Int) then ((skewbaldref00_Less.f k l0 l1).bind fun t225 => (some t225)) else (some (decide ((l0.length : Int) < (l1.length : Int))))
mutual
def skewbaldref01_ends.l0 : Nat → Int → List Int → Int → List (S48) → List (S50) → Option (List Int)
 | 0, _, _, _, _, _ => none
 | k + 1, x1, x5, x6, x227000, x227001 => if x6 < (x5.length : Int) then (if 0 ≤ x6 then (skewbaldref01_ends.l1 k x1 (x5.set (x6 : Int).toNat 99) x6 0 x227000 x227001) else (none)) else (some x5)
def skewbaldref01_ends.l1 : Nat → Int → List Int → Int → Int → List (S48) → List (S50) → Option (List Int)
 | 0, _, _, _, _, _, _ => none
 | k + 1, x1, x5, x6, x7, x227000, x227001 => if x7 < (x227001.length : Int) then ((skewbaldref00_Of.f x6 x7).bind fun t231 => (if t231 = true then (if 0 ≤ x7 then (if 0 ≤ (wrap64 (x6 - (shl .i64 1 x7))) then (if (wrap64 (x6 - (shl .i64 1 x7))) < (x5.length : Int) then ((skewbaldref01_spots.f k x227000 x227001 x1 x7).bind fun t233 => (skewbaldref01_ends.l2 k x1 x5 x6 x7 (rd x5 (wrap64 (x6 - (shl .i64 1 x7)))) t233 0 x227000 x227001)) else (none)) else (none)) else (none)) else (skewbaldref01_ends.l1 k x1 x5 x6 (wrap64 (x7 + 1)) x227000 x227001))) else (skewbaldref01_ends.l0 k x1 x5 (wrap64 (x6 + 1)) x227000 x227001)
def skewbaldref01_ends.l2 : Nat → Int → List Int → Int → Int → Int → List Int → Int → List (S48) → List (S50) → Option (List Int)
 | 0, _, _, _, _, _, _, _, _, _ => none
 | k + 1, x1, x5, x6, x7, x8, x9, x10, x227000, x227001 => if x10 < (x9.length : Int) then (if 0 ≤ x10 then (if (rd x9 x10) ≥ x8 then (if 0 ≤ x6 then (if x6 < (x5.length : Int) then (if 0 ≤ x7 then (if x7 < (x227001.length : Int) then (skewbaldref01_ends.l2 k x1 (x5.set (x6 : Int).toNat (mn (rd x5 x6) (wrap64 ((rd x9 x10) + ((rd_T50 x227001 x7).f0))))) x6 x7 x8 x9 (wrap64 (x10 + 1)) x227000 x227001) else (none)) else (none)) else (none)) else (none)) else (skewbaldref01_ends.l2 k x1 x5 x6 x7 x8 x9 (wrap64 (x10 + 1)) x227000 x227001)) else (none)) else (skewbaldref01_ends.l1 k x1 x5 x6 (wrap64 (x7 + 1)) x227000 x227001)
end
def skewbaldref01_ends.f (k : Nat) (l0_0 : List (S48)) (l0_1 : List (S50)) (a1 : Int) : Option (List Int) := if 0 ≤ (shl .i64 1 (l0_1.length : Int)) then (if (shl .i64 1 (l0_1.length : Int) : Int).toNat ≤ 35184372088832 then (skewbaldref01_ends.l0 k a1 (List.replicate (shl .i64 1 (l0_1.length : Int) : Int).toNat 0) 1 l0_0 l0_1) else (none)) else (none)
def skewbaldref01_ends.T10 : Bool × List (List Nat × List Nat) := (true, [([], []), ([], []), ([], []), ([2], [2]), ([1, 3], [1, 3]), ([0, 4], [0, 4]), ([5], [5]), ([], []), ([], []), ([], []), ([7, 8, 9], [7, 8, 9]), ([6, 10, 0, 1, 2, 3, 4, 5, 6], [6]), ([10, 11, 0, 1, 2, 3, 4, 5, 6, 7, 8, 9, 10, 11], [10])])
def skewbaldref01_ends.B10 : List Nat := [0, 0, 0, 4, 14, 31, 63, 0, 0, 0, 896, 2047, 4095]
theorem skewbaldref01_ends.tab10 : rtab .any (opsOf Tryd.f77 10) = skewbaldref01_ends.T10 := by kernel_rfl
theorem skewbaldref01_ends.bits10 : waitsOk skewbaldref01_ends.T10.2 skewbaldref01_ends.B10 = true := by kernel_rfl
def skewbaldref01_tables.l0 : Nat → List (List Int) → Int → List (S48) → List (S50) → Option ((List (List Int)))
 | 0, _, _, _, _ => none
 | k + 1, x3, x4, x242000, x242001 => if x4 < (x242000.length : Int) then ((skewbaldref01_ends.f k x242000 x242001 x4).bind fun t245 => (if x3.length < 5864062014805 then (skewbaldref01_tables.l0 k (x3 ++ [t245]) (wrap64 (x4 + 1)) x242000 x242001) else (none))) else (some x3)
def skewbaldref01_tables.f (k : Nat) (l0_0 : List (S48)) (l0_1 : List (S50)) : Option ((List (List Int))) := skewbaldref01_tables.l0 k (([] : List (List Int))) 0 l0_0 l0_1
def skewbaldref01_every.f (k : Nat) (l0_0 : List (S48)) (l0_1 : List (S50)) : Option (List Int) := (skewbaldref00_List.f k (wrap64 ((shl .i64 1 (l0_0.length : Int)) - 1)) (l0_0.length : Int)).bind fun t252 => (some t252)
mutual
def skewbaldref01_given.l0 : Nat → List (List Int) → List Int → Int → Int → Option (Bool)
 | 0, _, _, _, _ => none
 | k + 1, x0, x1, x2, x7 => if x7 ≤ x2 then (if (Go.bits .and .i64 x7 x2) = x7 then (if 0 < (x1.length : Int) then (if 0 ≤ (rd x1 0) then (if (rd x1 0) < (x0.length : Int) then (if 0 ≤ x7 then (if x7 < ((rd_L4 x0 (rd x1 0)).length : Int) then (if (rd (rd_L4 x0 (rd x1 0)) x7) < 99 then (if 1 ≤ (x1.length : Int) then ((skewbaldref01_given.f k x0 (x1.drop 1) (wrap64 (x2 - x7))).bind fun t259 => (if t259 = true then (some true) else (skewbaldref01_given.l0 k x0 x1 x2 (wrap64 (x7 + 1))))) else (none)) else (skewbaldref01_given.l0 k x0 x1 x2 (wrap64 (x7 + 1)))) else (none)) else (none)) else (none)) else (none)) else (none)) else (skewbaldref01_given.l0 k x0 x1 x2 (wrap64 (x7 + 1)))) else (some false)
def skewbaldref01_given.f : Nat → List (List Int) → List Int → Int → Option (Bool)
 | 0, _, _, _ => none
 | k + 1, l0, l1, a2 => if (l1.length : Int) = 0 then (some (a2 == 0)) else (skewbaldref01_given.l0 k l0 l1 a2 0)
end
def skewbaldref01_Lacks.l0 : Nat → List (List Int) → Int → List (S48) → List (S50) → Option (Int × Int)
 | 0, _, _, _, _ => none
 | k + 1, x5, x6, x275000, x275001 => if x6 < (x275001.length : Int) then ((skewbaldref01_every.f k x275000 x275001).bind fun t279 => (if 0 ≤ (wrap64 (x6 + 1)) then ((skewbaldref01_given.f k x5 t279 (wrap64 ((shl .i64 1 (wrap64 (x6 + 1))) - 1))).bind fun t282 => (if t282 = true then (skewbaldref01_Lacks.l0 k x5 (wrap64 (x6 + 1)) x275000 x275001) else (some (x6, 0)))) else (none))) else (some (0, 4))
def skewbaldref01_Lacks.f (k : Nat) (l0_0 : List (S48)) (l0_1 : List (S50)) : Option (Int × Int) := (skewbaldref01_Check.f k l0_0 l0_1).bind fun t275 => (if t275 = 0 then ((skewbaldref01_tables.f k l0_0 l0_1).bind fun t276 => (skewbaldref01_Lacks.l0 k t276 0 l0_0 l0_1)) else (some (0, t275)))
def skewbaldref01_most.l0 : Nat → List (List Int) → List Int → Int → List (S48) → List (S50) → Option (List Int)
 | 0, _, _, _, _, _ => none
 | k + 1, x3, x4, x5, x284000, x284001 => if x5 < (shl .i64 1 (x284001.length : Int)) then ((skewbaldref00_List.f k x5 (x284001.length : Int)).bind fun t290 => (if (t290.length : Int) > (x4.length : Int) then ((skewbaldref01_every.f k x284000 x284001).bind fun t293 => ((skewbaldref01_given.f k x3 t293 x5).bind fun t296 => (if t296 = true then (skewbaldref01_most.l0 k x3 t290 (wrap64 (x5 + 1)) x284000 x284001) else (skewbaldref01_most.l0 k x3 x4 (wrap64 (x5 + 1)) x284000 x284001)))) else (if (t290.length : Int) = (x4.length : Int) then ((skewbaldref00_Less.f k t290 x4).bind fun t297 => (if t297 = true then ((skewbaldref01_every.f k x284000 x284001).bind fun t298 => ((skewbaldref01_given.f k x3 t298 x5).bind fun t301 => (if t301 = true then (skewbaldref01_most.l0 k x3 t290 (wrap64 (x5 + 1)) x284000 x284001) else (skewbaldref01_most.l0 k x3 x4 (wrap64 (x5 + 1)) x284000 x284001)))) else (skewbaldref01_most.l0 k x3 x4 (wrap64 (x5 + 1)) x284000 x284001))) else (skewbaldref01_most.l0 k x3 x4 (wrap64 (x5 + 1)) x284000 x284001)))) else (some x4)
def skewbaldref01_most.f (k : Nat) (l0_0 : List (S48)) (l0_1 : List (S50)) : Option (List Int) := (skewbaldref01_tables.f k l0_0 l0_1).bind fun t284 => (skewbaldref01_most.l0 k t284 (([] : List Int)) 0 l0_0 l0_1)
def skewbaldref00_Set.l0 : Nat → List Int → Int → Int → Option (Int)
 | 0, _, _, _ => none
 | k + 1, x0, x3, x4 => if x4 < (x0.length : Int) then (if 0 ≤ x4 then (if 0 ≤ (rd x0 x4) then (skewbaldref00_Set.l0 k x0 (Go.bits .or .i64 x3 (shl .i64 1 (rd x0 x4))) (wrap64 (x4 + 1))) else (none)) else (none)) else (some x3)
def skewbaldref00_Set.f (k : Nat) (l0 : List Int) : Option (Int) := skewbaldref00_Set.l0 k l0 0 0
theorem skewbaldref00_Set.mono_l : ∀ k, (∀ y0 y1 y2, LeO (skewbaldref00_Set.l0 k y0 y1 y2) (skewbaldref00_Set.l0 (k + 1) y0 y1 y2))
 | 0 => fun _ _ _ r h => by simp [skewbaldref00_Set.l0] at h
 | k + 1 => by
  have ih0 := skewbaldref00_Set.mono_l k
  ·intro y0 y1 y2
   unfold skewbaldref00_Set.l0
   repeat' first
   | (with_reducible exact ih0 _ _ _)
   | (with_reducible exact LeO.refl _)
   | (with_reducible exact LeO.none _)
   | (with_reducible refine LeO.ite ?_ ?_)
   | (with_reducible refine LeO.bind ?_ (fun _ => ?_))
   | exact ih0 _ _ _
   | exact LeO.none _
   | refine LeO.ite ?_ ?_
   | refine LeO.bind ?_ (fun _ => ?_)
theorem skewbaldref00_Set.mono : ∀ a0 k, LeO (skewbaldref00_Set.f k a0) (skewbaldref00_Set.f (k + 1) a0) := by
 intro a0 k
 have ih0 := skewbaldref00_Set.mono_l k
 unfold skewbaldref00_Set.f
 repeat' first
   | (with_reducible exact ih0 _ _ _)
   | (with_reducible exact LeO.refl _)
   | (with_reducible exact LeO.none _)
   | (with_reducible refine LeO.ite ?_ ?_)
   | (with_reducible refine LeO.bind ?_ (fun _ => ?_))
   | exact ih0 _ _ _
   | exact LeO.none _
   | refine LeO.ite ?_ ?_
   | refine LeO.bind ?_ (fun _ => ?_)
mutual
def skewbaldref01_laid.l0 : Nat → Int → List Int → List Int → Int → List Int → Int → List (S48) → List (S50) → Option (List Int × Bool)
 | 0, _, _, _, _, _, _, _, _ => none
 | k + 1, x1, x2, x3, x10, x11, x12, x790000, x790001 => if x12 < (x11.length : Int) then (skewbaldref01_laid.l1 k x1 x2 x3 x10 x11 x12 true 0 x790000 x790001) else (some (([] : List Int), false))
def skewbaldref01_laid.l1 : Nat → Int → List Int → List Int → Int → List Int → Int → Bool → Int → List (S48) → List (S50) → Option (List Int × Bool)
 | 0, _, _, _, _, _, _, _, _, _, _ => none
 | k + 1, x1, x2, x3, x10, x11, x12, x13, x14, x790000, x790001 => if x14 < x10 then (if x13 = true then (if 0 ≤ x12 then (if x12 < (x11.length : Int) then (if 0 ≤ x10 then (if x10 < (x2.length : Int) then (if 0 ≤ (rd x2 x10) then (if (rd x2 x10) < (x790001.length : Int) then (if 0 ≤ x14 then (if x14 < (x3.length : Int) then (if (wrap64 ((rd x11 x12) + ((rd_T50 x790001 (rd x2 x10)).f0))) ≤ (rd x3 x14) then (skewbaldref01_laid.l1 k x1 x2 x3 x10 x11 x12 true (wrap64 (x14 + 1)) x790000 x790001) else (if x14 < (x2.length : Int) then (if 0 ≤ (rd x2 x14) then (if (rd x2 x14) < (x790001.length : Int) then (skewbaldref01_laid.l1 k x1 x2 x3 x10 x11 x12 (decide ((wrap64 ((rd x3 x14) + ((rd_T50 x790001 (rd x2 x14)).f0))) ≤ (rd x11 x12))) (wrap64 (x14 + 1)) x790000 x790001) else (none)) else (none)) else (none))) else (none)) else (none)) else (none)) else (none)) else (none)) else (none)) else (none)) else (none)) else (skewbaldref01_laid.l1 k x1 x2 x3 x10 x11 x12 false (wrap64 (x14 + 1)) x790000 x790001)) else (if x13 = true then (if 0 ≤ x12 then (if x12 < (x11.length : Int) then ((skewbaldref00_Add.f x3 (rd x11 x12)).bind fun t803 => ((skewbaldref01_laid.f k x790000 x790001 x1 x2 t803).bind fun bt806 => (if bt806.2 = true then (some (bt806.1, true)) else (skewbaldref01_laid.l0 k x1 x2 x3 x10 x11 (wrap64 (x12 + 1)) x790000 x790001)))) else (none)) else (none)) else (skewbaldref01_laid.l0 k x1 x2 x3 x10 x11 (wrap64 (x12 + 1)) x790000 x790001))
def skewbaldref01_laid.f : Nat → List (S48) → List (S50) → Int → List Int → List Int → Option (List Int × Bool)
 | 0, _, _, _, _, _ => none
 | k + 1, l0_0, l0_1, a1, l2, l3 => if (l3.length : Int) = (l2.length : Int) then (some (l3, true)) else (if 0 ≤ (l3.length : Int) then (if (l3.length : Int) < (l2.length : Int) then ((skewbaldref01_spots.f k l0_0 l0_1 a1 (rd l2 (l3.length : Int))).bind fun t791 => (skewbaldref01_laid.l0 k a1 l2 l3 (l3.length : Int) t791 0 l0_0 l0_1)) else (none)) else (none))
end
def skewbaldref01_Lay.j0 : Nat → Int → List Int → Int → List (S48) → List (S50) → Option (List Int × Int)
 | 0, _, _, _, _, _ => none
 | k + 1, x1, x2, x8, x811000, x811001 => if x8 = 0 then ((skewbaldref01_ends.f k x811000 x811001 x1).bind fun t815 => ((skewbaldref00_Set.f k x2).bind fun t818 => (if 0 ≤ t818 then (if t818 < (t815.length : Int) then (if (rd t815 t818) = 99 then (some (([] : List Int), 4)) else ((skewbaldref01_laid.f k x811000 x811001 x1 x2 (([] : List Int))).bind fun bt823 => (some (bt823.1, 0)))) else (none)) else (none)))) else (some (([] : List Int), x8))
def skewbaldref01_Lay.f (k : Nat) (l0_0 : List (S48)) (l0_1 : List (S50)) (a1 : Int) (l2 : List Int) : Option (List Int × Int) := (skewbaldref01_isPlank.f l0_0 l0_1 a1).bind fun t811 => (if t811 = true then ((skewbaldref00_Grows.f k l2 (l0_1.length : Int)).bind fun t812 => ((skewbaldref01_asked.f k l0_0 l0_1 t812).bind fun t813 => (skewbaldref01_Lay.j0 k a1 l2 t813 l0_0 l0_1))) else ((skewbaldref01_asked.f k l0_0 l0_1 false).bind fun t814 => (skewbaldref01_Lay.j0 k a1 l2 t814 l0_0 l0_1)))
def skewbaldref01_Most.f (k : Nat) (l0_0 : List (S48)) (l0_1 : List (S50)) : Option (List Int × Int) := (skewbaldref01_Check.f k l0_0 l0_1).bind fun t828 => (if t828 = 0 then ((skewbaldref01_most.f k l0_0 l0_1).bind fun t829 => (some (t829, 0))) else (some (([] : List Int), t828)))
def skewbaldlaw01_PlankLays.j0 : Nat → Bool → List (S48) → List (S50) → Option (Bool)
 | 0, _, _, _ => none
 | k + 1, x33, x833000, x833001 => if x33 = true then (some false) else ((plank_Most.f x833000 x833001).bind fun bt842 => ((skewbaldref01_Most.f k x833000 x833001).bind fun bt846 => ((skewbaldref00_Equal.f k bt842.1 bt846.1).bind fun t850 => (if t850 = true then (if bt842.2 = bt846.2 then ((skewbaldlaw01_sawn.f).bind fun t851 => (some t851)) else (some false)) else (some false)))))
def skewbaldlaw01_PlankLays.f (k : Nat) (l0_0 : List (S48)) (l0_1 : List (S50)) (a1 : Int) (l2 : List Int) : Option (Bool) := (plank_Lay.f l0_0 l0_1 a1 l2).bind fun bt833 => ((skewbaldref01_Lay.f k l0_0 l0_1 a1 l2).bind fun bt837 => ((skewbaldref00_Equal.f k bt833.1 bt837.1).bind fun t841 => (if t841 = true then (skewbaldlaw01_PlankLays.j0 k (bt833.2 != bt837.2) l0_0 l0_1) else (skewbaldlaw01_PlankLays.j0 k true l0_0 l0_1))))
mutual
def skewbaldlaw01_only.l0 : Nat → Int → Int → Int → List (S48) → List (S50) → List (S48) → Option ((List (S48)) × (List (S50)))
 | 0, _, _, _, _, _, _ => none
 | k + 1, x1, x2, x8, x517000, x517001, x519000 => if x8 < (x517000.length : Int) then ((skewbaldref00_Of.f x1 x8).bind fun t519 => (if t519 = true then (if 0 ≤ x8 then (if x519000.length < 4398046511104 then (skewbaldlaw01_only.l0 k x1 x2 (wrap64 (x8 + 1)) x517000 x517001 (x519000 ++ [(⟨(rd_T48 x517000 x8).f0, (rd_T48 x517000 x8).f1⟩ : S48)])) else (none)) else (none)) else (skewbaldlaw01_only.l0 k x1 x2 (wrap64 (x8 + 1)) x517000 x517001 x519000))) else (skewbaldlaw01_only.l1 k x2 0 x517000 x517001 x519000 ([] : List (S50)))
def skewbaldlaw01_only.l1 : Nat → Int → Int → List (S48) → List (S50) → List (S48) → List (S50) → Option ((List (S48)) × (List (S50)))
 | 0, _, _, _, _, _, _ => none
 | k + 1, x2, x9, x517000, x517001, x519000, x519001 => if x9 < (x517001.length : Int) then ((skewbaldref00_Of.f x2 x9).bind fun t524 => (if t524 = true then (if 0 ≤ x9 then (if x519001.length < 3518437208883 then (skewbaldlaw01_only.l1 k x2 (wrap64 (x9 + 1)) x517000 x517001 x519000 (x519001 ++ [(⟨(rd_T50 x517001 x9).f0, (rd_T50 x517001 x9).f1, (rd_T50 x517001 x9).f2⟩ : S50)])) else (none)) else (none)) else (skewbaldlaw01_only.l1 k x2 (wrap64 (x9 + 1)) x517000 x517001 x519000 x519001))) else (some (x519000, x519001))
end
def skewbaldlaw01_only.f (k : Nat) (l0_0 : List (S48)) (l0_1 : List (S50)) (a1 : Int) (a2 : Int) : Option ((List (S48)) × (List (S50))) := skewbaldlaw01_only.l0 k a1 a2 0 l0_0 l0_1 ([] : List (S48))
def skewbaldlaw01_only.T11 : Bool × List (List Nat × List Nat) := (true, [([], []), ([0], [0]), ([], []), ([2], [2]), ([], []), ([3, 4], [3, 4]), ([5], [5]), ([6], [6]), ([1, 7], [1, 7]), ([0, 1, 2, 3, 4, 5, 6, 7, 8], []), ([9, 8, 8, 0, 1, 2, 3, 4, 5, 6, 7, 8], [8, 9])])
def skewbaldlaw01_only.B11 : List Nat := [0, 1, 0, 4, 0, 28, 60, 124, 255, 511, 1023]
theorem skewbaldlaw01_only.tab11 : rtab .any (opsOf Tryd.f96 11) = skewbaldlaw01_only.T11 := by kernel_rfl
theorem skewbaldlaw01_only.bits11 : waitsOk skewbaldlaw01_only.T11.2 skewbaldlaw01_only.B11 = true := by kernel_rfl
def skewbaldlaw01_enough.j0 : Nat → Int → Int → Bool → List (S48) → List (S50) → Option (Bool × Bool)
 | 0, _, _, _, _, _ => none
 | k + 1, x1, x2, x15, x530000, x530001 => if x15 = true then (some ((x2 == 0), true)) else ((skewbaldlaw01_only.f k x530000 x530001 x1 x2).bind fun bt530 => ((plank_Fewest.f bt530.1 bt530.2).bind fun bt536 => (if bt536.2 = 0 then (some ((bt536.2 == 0), true)) else (some ((bt536.2 == 0), (bt536.2 == 4))))))
def skewbaldlaw01_enough.f (k : Nat) (l0_0 : List (S48)) (l0_1 : List (S50)) (a1 : Int) (a2 : Int) : Option (Bool × Bool) := if a2 = 0 then (skewbaldlaw01_enough.j0 k a1 a2 true l0_0 l0_1) else (skewbaldlaw01_enough.j0 k a1 a2 (a1 == 0) l0_0 l0_1)
def skewbaldlaw01_PlankMost.j0 : Nat → List Int → List Int → Bool → Bool → Option (Bool)
 | 0, _, _, _, _ => none
 | k + 1, x5, x10, x11, x101 => if x101 = true then (some false) else (if x11 = true then (if (x10.length : Int) < (x5.length : Int) then ((skewbaldlaw01_sawn.f).bind fun t592 => (some t592)) else (if (x10.length : Int) = (x5.length : Int) then ((skewbaldref00_Less.f k x10 x5).bind fun t593 => (if t593 = true then (some false) else ((skewbaldlaw01_sawn.f).bind fun t594 => (some t594)))) else (some false))) else ((skewbaldlaw01_sawn.f).bind fun t595 => (some t595)))
def skewbaldlaw01_PlankMost.f (k : Nat) (l0_0 : List (S48)) (l0_1 : List (S50)) (a1 : Int) : Option (Bool) := (plank_Most.f l0_0 l0_1).bind fun bt571 => ((skewbaldlaw01_sound.f k l0_0 l0_1).bind fun t575 => (if t575 = true then ((skewbaldref00_Set.f k bt571.1).bind fun t577 => ((skewbaldlaw01_enough.f k l0_0 l0_1 (wrap64 ((shl .i64 1 (l0_0.length : Int)) - 1)) t577).bind fun bt578 => ((skewbaldref00_Round.f a1 (shl .i64 1 (l0_1.length : Int))).bind fun t580 => ((skewbaldref00_List.f k t580 (l0_1.length : Int)).bind fun t581 => ((skewbaldref00_Set.f k t581).bind fun t584 => ((skewbaldlaw01_enough.f k l0_0 l0_1 (wrap64 ((shl .i64 1 (l0_0.length : Int)) - 1)) t584).bind fun bt585 => ((plank_Fewest.f l0_0 l0_1).bind fun bt587 => (if bt571.2 = 0 then (if bt578.2 = true then (if bt585.2 = true then (if bt578.1 = true then ((skewbaldref00_Grows.f k bt571.1 (l0_1.length : Int)).bind fun t591 => (if t591 = true then (skewbaldlaw01_PlankMost.j0 k bt571.1 t581 bt585.1 (((bt571.1.length : Int) == (l0_1.length : Int)) != (bt587.2 == 0))) else (skewbaldlaw01_PlankMost.j0 k bt571.1 t581 bt585.1 true))) else (skewbaldlaw01_PlankMost.j0 k bt571.1 t581 bt585.1 true)) else (skewbaldlaw01_PlankMost.j0 k bt571.1 t581 bt585.1 true)) else (skewbaldlaw01_PlankMost.j0 k bt571.1 t581 bt585.1 true)) else (skewbaldlaw01_PlankMost.j0 k bt571.1 t581 bt585.1 true))))))))) else (if bt571.2 = 10 then (if (bt571.1.length : Int) = 0 then ((skewbaldlaw01_sawn.f).bind fun t576 => (some t576)) else (some false)) else (some false))))
mutual
def skewbaldlaw01_shared.l0 : Nat → List Int → Int → Int → List (S48) → List (S50) → Option (Bool)
 | 0, _, _, _, _, _ => none
 | k + 1, x1, x2, x7, x541000, x541001 => if x7 ≥ 0 then (if (Go.bits .and .i64 x7 x2) = x7 then (if 0 < (x1.length : Int) then ((skewbaldref00_List.f k x7 (x541001.length : Int)).bind fun t542 => ((plank_Lay.f x541000 x541001 (rd x1 0) t542).bind fun bt545 => (if bt545.2 = 0 then (if 1 ≤ (x1.length : Int) then ((skewbaldlaw01_shared.f k x541000 x541001 (x1.drop 1) (wrap64 (x2 - x7))).bind fun t550 => (if t550 = true then (some true) else (skewbaldlaw01_shared.l0 k x1 x2 (wrap64 (x7 - 1)) x541000 x541001))) else (none)) else (skewbaldlaw01_shared.l0 k x1 x2 (wrap64 (x7 - 1)) x541000 x541001)))) else (none)) else (skewbaldlaw01_shared.l0 k x1 x2 (wrap64 (x7 - 1)) x541000 x541001)) else (some false)
def skewbaldlaw01_shared.f : Nat → List (S48) → List (S50) → List Int → Int → Option (Bool)
 | 0, _, _, _, _ => none
 | k + 1, l0_0, l0_1, l1, a2 => if (l1.length : Int) = 0 then (some (a2 == 0)) else (skewbaldlaw01_shared.l0 k l1 a2 a2 l0_0 l0_1)
end
def skewbaldlaw01_PlankFewest.j0 : Nat → List Int → Int → Bool → List (S48) → List (S50) → Option (Bool)
 | 0, _, _, _, _, _ => none
 | k + 1, x5, x7, x92, x552000, x552001 => if x92 = true then (some false) else ((skewbaldlaw01_shared.f k x552000 x552001 x5 x7).bind fun t567 => (if t567 = true then ((skewbaldlaw01_sawn.f).bind fun t568 => (some t568)) else (some false)))
def skewbaldlaw01_PlankFewest.f (k : Nat) (l0_0 : List (S48)) (l0_1 : List (S50)) (a1 : Int) : Option (Bool) := (plank_Fewest.f l0_0 l0_1).bind fun bt552 => ((skewbaldlaw01_sound.f k l0_0 l0_1).bind fun t556 => (if t556 = true then ((skewbaldref00_Round.f a1 (shl .i64 1 (l0_0.length : Int))).bind fun t558 => ((skewbaldlaw01_enough.f k l0_0 l0_1 t558 (wrap64 ((shl .i64 1 (l0_1.length : Int)) - 1))).bind fun bt559 => (if bt552.2 = 0 then (if bt559.2 = true then ((skewbaldref00_Grows.f k bt552.1 (l0_0.length : Int)).bind fun t562 => (if t562 = true then (if (bt552.1.length : Int) = 0 then (skewbaldlaw01_PlankFewest.j0 k bt552.1 (wrap64 ((shl .i64 1 (l0_1.length : Int)) - 1)) true l0_0 l0_1) else (if bt559.1 = true then ((skewbaldref00_List.f k t558 (l0_0.length : Int)).bind fun t563 => ((skewbaldref00_Shorter.f k t563 bt552.1).bind fun t566 => (skewbaldlaw01_PlankFewest.j0 k bt552.1 (wrap64 ((shl .i64 1 (l0_1.length : Int)) - 1)) t566 l0_0 l0_1))) else (skewbaldlaw01_PlankFewest.j0 k bt552.1 (wrap64 ((shl .i64 1 (l0_1.length : Int)) - 1)) false l0_0 l0_1))) else (skewbaldlaw01_PlankFewest.j0 k bt552.1 (wrap64 ((shl .i64 1 (l0_1.length : Int)) - 1)) true l0_0 l0_1))) else (skewbaldlaw01_PlankFewest.j0 k bt552.1 (wrap64 ((shl .i64 1 (l0_1.length : Int)) - 1)) true l0_0 l0_1)) else (if bt552.2 = 4 then (if (bt552.1.length : Int) = 0 then (if bt559.2 = true then (if bt559.1 = true then (some false) else ((skewbaldlaw01_sawn.f).bind fun t561 => (some t561))) else (some false)) else (some false)) else (some false))))) else (if bt552.2 = 10 then (if (bt552.1.length : Int) = 0 then ((skewbaldlaw01_sawn.f).bind fun t557 => (some t557)) else (some false)) else (some false))))
def skewbaldref01_Fewest.l0 : Nat → List (List Int) → Int → List Int → Int → List (S48) → List (S50) → Option (List Int × Int)
 | 0, _, _, _, _, _, _ => none
 | k + 1, x5, x6, x7, x8, x261000, x261001 => if x8 < (shl .i64 1 (x261000.length : Int)) then ((skewbaldref00_List.f k x8 (x261000.length : Int)).bind fun t269 => ((skewbaldref00_Shorter.f k t269 x7).bind fun t272 => (if t272 = true then ((skewbaldref01_given.f k x5 t269 x6).bind fun t273 => (if t273 = true then (skewbaldref01_Fewest.l0 k x5 x6 t269 (wrap64 (x8 + 1)) x261000 x261001) else (skewbaldref01_Fewest.l0 k x5 x6 x7 (wrap64 (x8 + 1)) x261000 x261001))) else (skewbaldref01_Fewest.l0 k x5 x6 x7 (wrap64 (x8 + 1)) x261000 x261001)))) else (some (x7, 0))
def skewbaldref01_Fewest.f (k : Nat) (l0_0 : List (S48)) (l0_1 : List (S50)) : Option (List Int × Int) := (skewbaldref01_Check.f k l0_0 l0_1).bind fun t261 => (if t261 = 0 then ((skewbaldref01_tables.f k l0_0 l0_1).bind fun t262 => ((skewbaldref01_every.f k l0_0 l0_1).bind fun t265 => ((skewbaldref01_given.f k t262 t265 (wrap64 ((shl .i64 1 (l0_1.length : Int)) - 1))).bind fun t268 => (if t268 = true then (skewbaldref01_Fewest.l0 k t262 (wrap64 ((shl .i64 1 (l0_1.length : Int)) - 1)) t265 0 l0_0 l0_1) else (some (([] : List Int), 4)))))) else (some (([] : List Int), t261)))
end Go.Proofs.YtekjlpldooihhaaDoor.PT
namespace Go.Proofs.YtekjlpldooihhaaDoorP
open Go.Proofs.YtekjlpldooihhaaDoorSh
open Go.RowKit Go.Proofs.YtekjlpldooihhaaDoorW.PrintWords Go.Proofs.YtekjlpldooihhaaDoorH Go.Proofs.YtekjlpldooihhaaDoorEv Go.Proofs.YtekjlpldooihhaaDoor.PA
set_option linter.unusedVariables false
set_option linter.unusedSimpArgs false
def lenQ (Q : List S50) (p : Nat) : Nat := (Q.getD p z50).f0.toNat
def Apart (Q : List S50) (pos : Nat → Nat) (p q : Nat) : Prop := pos p + lenQ Q p ≤ pos q ∨ pos q + lenQ Q q ≤ pos p
theorem Apart.symm {Q : List S50} {pos : Nat → Nat} {p q : Nat} (h : Apart Q pos p q) : Apart Q pos q p := Or.symm h
def Good (y : S48) (Q : List S50) : List Nat → (Nat → Bool) → List Nat → Prop
  | [], _, [] => True
  | p :: ps, taken, a :: us => spotB y (Q.getD p z50) a = true ∧ freeB taken a (lenQ Q p) = true ∧ Good y Q ps (markB taken a (lenQ Q p)) us
  | _, _, _ => False
def lexLe : List Nat → List Nat → Prop
  | [], _ => True
  | _ :: _, [] => False
  | a :: us, b :: bs => a < b ∨ (a = b ∧ lexLe us bs)
theorem spot_lt {y : S48} {x : S50} {a : Nat} (h : spotB y x a = true) : (a : Int) + x.f0 ≤ y.f0 ∧ canN y x a = 2 := by
  unfold spotB liesB at h
  simp only [Bool.and_eq_true, decide_eq_true_eq, beq_iff_eq] at h
  exact ⟨by omega, h.2⟩
theorem mem_spots {y : S48} {x : S50} (h1 : 1 ≤ x.f0) {a : Nat} : a ∈ spotsL y x ↔ spotB y x a = true := by
  unfold spotsL
  rw [List.mem_filter, List.mem_range]
  constructor
  · exact fun h => h.2
  · intro h
    have := (spot_lt h).1
    exact ⟨by omega, h⟩
theorem spots_sorted (y : S48) (x : S50) : (spotsL y x).Pairwise (· < ·) := List.pairwise_lt_range.filter _
theorem laidFrom_none {y : S48} {Q : List S50} : ∀ (ps : List Nat) (hL : ∀ p ∈ ps, 1 ≤ (Q.getD p z50).f0) (taken : Nat → Bool) (out : List Nat), laidFrom y Q ps taken out = none → ∀ bs, ¬ Good y Q ps taken bs
  | [], _, _, _, h, _, _ => by simp [laidFrom] at h
  | p :: ps, hL, taken, out, h, [], hg => hg
  | p :: ps, hL, taken, out, h, b :: bs, hg => by
    obtain ⟨g1, g2, g3⟩ := hg
    unfold laidFrom at h
    rw [List.findSome?_eq_none_iff] at h
    have h' := h b ((mem_spots (hL p (by simp))).2 g1)
    unfold lenQ at g2 g3
    rw [if_pos g2] at h'
    exact laidFrom_none ps (fun q hq => hL q (by simp [hq])) _ _ h' bs g3
theorem laidFrom_some {y : S48} {Q : List S50} : ∀ (ps : List Nat) (hL : ∀ p ∈ ps, 1 ≤ (Q.getD p z50).f0) (taken : Nat → Bool) (out o : List Nat), laidFrom y Q ps taken out = some o → ∃ us, o = out ++ us ∧ Good y Q ps taken us ∧ ∀ bs, Good y Q ps taken bs → lexLe us bs
  | [], _, taken, out, o, h => by
    simp only [laidFrom, Option.some.injEq] at h
    exact ⟨[], by simp [h], trivial, fun _ _ => trivial⟩
  | p :: ps, hL, taken, out, o, h => by
    have hL' : ∀ q ∈ ps, 1 ≤ (Q.getD q z50).f0 := fun q hq => hL q (by simp [hq])
    unfold laidFrom at h
    obtain ⟨l1, a, l2, e, hf, hn⟩ := List.findSome?_eq_some_iff.1 h
    have hs := (mem_spots (y := y) (hL p (by simp))).1 (by rw [e]; simp : a ∈ _)
    by_cases hfr : freeB taken a (Q.getD p z50).f0.toNat = true
    · rw [if_pos hfr] at hf
      obtain ⟨us, e1, e2, e3⟩ := laidFrom_some ps hL' _ _ _ hf
      refine ⟨a :: us, by rw [e1]; simp, ⟨hs, hfr, e2⟩, fun bs hb => ?_⟩
      match bs, hb with
      | b :: bs, hb =>
        obtain ⟨g1, g2, g3⟩ := hb
        have hm := (mem_spots (hL p (by simp))).2 g1
        rw [e] at hm
        simp only [List.mem_append, List.mem_cons] at hm
        rcases hm with hm | rfl | hm
        · have h' := hn b hm
          unfold lenQ at g2 g3
          rw [if_pos g2] at h'
          exact absurd g3 (laidFrom_none ps hL' _ _ h' bs)
        · exact .inr ⟨rfl, e3 bs g3⟩
        · have hp := spots_sorted y (Q.getD p z50)
          rw [e, List.pairwise_append] at hp
          exact .inl ((List.pairwise_cons.1 hp.2.1).1 b hm)
    · rw [if_neg hfr] at hf
      simp at hf
theorem free_iff {taken : Nat → Bool} {a L : Nat} : freeB taken a L = true ↔ ∀ j, a ≤ j → j < a + L → taken j = false := by
  unfold freeB
  rw [Bool.not_eq_true', List.any_eq_false]
  simp only [List.mem_range'_1, Bool.not_eq_true]
  exact ⟨fun h j h1 h2 => h j ⟨h1, h2⟩, fun h j hj => h j hj.1 hj.2⟩
theorem free_none (a L : Nat) : freeB (fun _ => false) a L = true := free_iff.2 fun _ _ _ => rfl
theorem free_mark {taken : Nat → Bool} {a L b M : Nat} (hL : 1 ≤ L) (hM : 1 ≤ M) : freeB (markB taken a L) b M = true ↔ freeB taken b M = true ∧ (a + L ≤ b ∨ b + M ≤ a) := by
  rw [free_iff, free_iff]
  unfold markB
  simp only [Bool.or_eq_false_iff, Bool.and_eq_false_iff, decide_eq_false_iff_not]
  constructor
  · intro h
    refine ⟨fun j h1 h2 => (h j h1 h2).1, ?_⟩
    by_cases hab : a ≤ b
    · have := (h b (Nat.le_refl _) (by omega)).2; omega
    · by_cases hba : a < b + M
      · have := (h a (by omega) hba).2; omega
      · omega
  · rintro ⟨h1, h2⟩ j h3 h4
    exact ⟨h1 j h3 h4, by omega⟩
theorem good_pos {y : S48} {Q : List S50} (pos : Nat → Nat) : ∀ (ps : List Nat) (hL : ∀ p ∈ ps, 1 ≤ lenQ Q p) (taken : Nat → Bool),
    Good y Q ps taken (ps.map pos) ↔ (∀ p ∈ ps, spotB y (Q.getD p z50) (pos p) = true ∧ freeB taken (pos p) (lenQ Q p) = true) ∧ ps.Pairwise (Apart Q pos)
  | [], _, taken => by simp [Good]
  | p :: ps, hL, taken => by
    have h1 := hL p (by simp)
    have ih := good_pos (y := y) pos ps (fun q hq => hL q (by simp [hq])) (markB taken (pos p) (lenQ Q p))
    show (_ ∧ _ ∧ Good y Q ps _ (ps.map pos)) ↔ _
    rw [ih, List.pairwise_cons]
    constructor
    · rintro ⟨a, b, c, d⟩
      refine ⟨fun q hq => ?_, fun q hq => ?_, d⟩
      · rcases List.mem_cons.1 hq with rfl | hq
        · exact ⟨a, b⟩
        · exact ⟨(c q hq).1, ((free_mark h1 (hL q (by simp [hq]))).1 (c q hq).2).1⟩
      · exact ((free_mark h1 (hL q (by simp [hq]))).1 (c q hq).2).2
    · rintro ⟨a, b, c⟩
      exact ⟨(a p (by simp)).1, (a p (by simp)).2, fun q hq => ⟨(a q (by simp [hq])).1, (free_mark h1 (hL q (by simp [hq]))).2 ⟨(a q (by simp [hq])).2, b q hq⟩⟩, c⟩
theorem good_length {y : S48} {Q : List S50} : ∀ (ps : List Nat) (taken : Nat → Bool) (us : List Nat), Good y Q ps taken us → us.length = ps.length
  | [], _, [], _ => rfl
  | [], _, _ :: _, h => h.elim
  | _ :: _, _, [], h => h.elim
  | p :: ps, taken, a :: us, h => by simp [good_length ps _ us h.2.2]
def posOf (ps us : List Nat) (p : Nat) : Nat := us.getD (ps.idxOf p) 0
theorem map_posOf {ps us : List Nat} (hn : ps.Nodup) (hl : us.length = ps.length) : ps.map (posOf ps us) = us := by
  apply List.ext_getElem
  · simp [hl]
  · intro i h1 h2
    rw [List.getElem_map]
    have hi : i < ps.length := by simpa using h1
    unfold posOf
    rw [List.Nodup.idxOf_getElem hn i hi]
    simp [h2]
def LiesOn (y : S48) (Q : List S50) (S : Nat → Prop) (pos : Nat → Nat) : Prop := (∀ p, S p → spotB y (Q.getD p z50) (pos p) = true) ∧ ∀ p q, S p → S q → p ≠ q → Apart Q pos p q
theorem pairwise_apart {Q : List S50} {pos : Nat → Nat} {ps : List Nat} (hn : ps.Nodup) : ps.Pairwise (Apart Q pos) ↔ ∀ p q, p ∈ ps → q ∈ ps → p ≠ q → Apart Q pos p q := by
  constructor
  · intro h p q hp hq hne
    exact List.Pairwise.forall_of_forall_of_flip (R := fun a b => a ≠ b → Apart Q pos a b) (fun a _ e => absurd rfl e) (h.imp (S := fun a b => a ≠ b → Apart Q pos a b) fun h _ => h) (h.imp (S := flip fun a b => a ≠ b → Apart Q pos a b) fun h _ => h.symm) hp hq hne
  · intro h
    exact List.Pairwise.imp_of_mem (fun ha hb hne => h _ _ ha hb hne) hn
theorem good_lies {y : S48} {Q : List S50} {ps : List Nat} (hn : ps.Nodup) (hL : ∀ p ∈ ps, 1 ≤ lenQ Q p) {pos : Nat → Nat} : Good y Q ps (fun _ => false) (ps.map pos) ↔ LiesOn y Q (· ∈ ps) pos := by
  rw [good_pos pos ps hL, pairwise_apart hn]
  unfold LiesOn
  constructor
  · exact fun h => ⟨fun p hp => (h.1 p hp).1, h.2⟩
  · exact fun h => ⟨fun p hp => ⟨h.1 p hp, free_none _ _⟩, h.2⟩
theorem laid_some {y : S48} {Q : List S50} {ps : List Nat} (hn : ps.Nodup) (hL : ∀ p ∈ ps, 1 ≤ (Q.getD p z50).f0) {o : List Nat} (h : laidB y Q ps = some o) :
    o.length = ps.length ∧ LiesOn y Q (· ∈ ps) (posOf ps o) ∧ ∀ pos, LiesOn y Q (· ∈ ps) pos → lexLe o (ps.map pos) := by
  have hL' : ∀ p ∈ ps, 1 ≤ lenQ Q p := fun p hp => by have := hL p hp; unfold lenQ; omega
  obtain ⟨us, e, hg, hm⟩ := laidFrom_some ps hL _ _ _ h; rw [List.nil_append] at e; subst e; have hl := good_length _ _ _ hg
  refine ⟨hl, ?_, fun pos hp => hm _ ((good_lies hn hL').2 hp)⟩
  rw [← good_lies hn hL', map_posOf hn hl]
  exact hg
theorem laid_iff {y : S48} {Q : List S50} {ps : List Nat} (hn : ps.Nodup) (hL : ∀ p ∈ ps, 1 ≤ (Q.getD p z50).f0) : (laidB y Q ps).isSome = true ↔ ∃ pos, LiesOn y Q (· ∈ ps) pos := by
  have hL' : ∀ p ∈ ps, 1 ≤ lenQ Q p := fun p hp => by have := hL p hp; unfold lenQ; omega
  constructor
  · intro h
    obtain ⟨o, ho⟩ := Option.isSome_iff_exists.1 h
    exact ⟨_, (laid_some hn hL ho).2.1⟩
  · rintro ⟨pos, hp⟩
    cases h : laidB y Q ps with
    | some o => rfl
    | none => exact absurd ((good_lies hn hL').2 hp) (laidFrom_none ps hL _ _ h _)
theorem ints_inj {a b : List Nat} (h : ints a = ints b) : a = b := by
  unfold ints at h
  exact (List.map_inj_right (fun x y e => Int.ofNat.inj e)).1 h
theorem setL_nodup (s : Nat) : (setL s).Nodup := List.nodup_range.filter _
theorem mem_setL {s p : Nat} : p ∈ setL s ↔ p < 5 ∧ bitB s p = true := by unfold setL; rw [List.mem_filter, List.mem_range]
def numB (f : Nat → Bool) : Nat := (f 0).toNat + 2 * (f 1).toNat + 4 * (f 2).toNat + 8 * (f 3).toNat + 16 * (f 4).toNat
theorem numB_lt (f : Nat → Bool) : numB f < 32 := by
  unfold numB
  have := Bool.toNat_le (f 0); have := Bool.toNat_le (f 1); have := Bool.toNat_le (f 2); have := Bool.toNat_le (f 3); have := Bool.toNat_le (f 4)
  omega
theorem bit_numB (f : Nat → Bool) {q : Nat} (hq : q < 5) : bitB (numB f) q = f q := by
  unfold numB
  obtain rfl | rfl | rfl | rfl | rfl : q = 0 ∨ q = 1 ∨ q = 2 ∨ q = 3 ∨ q = 4 := by omega
  all_goals (cases f 0 <;> cases f 1 <;> cases f 2 <;> cases f 3 <;> cases f 4 <;> rfl)
theorem num_bits : ∀ s, s < 32 → numB (bitB s) = s := by decide
theorem eq_of_bits {s t : Nat} (hs : s < 32) (ht : t < 32) (h : ∀ q, q < 5 → bitB s q = bitB t q) : s = t := by
  rw [← num_bits s hs, ← num_bits t ht]
  unfold numB
  rw [h 0 (by omega), h 1 (by omega), h 2 (by omega), h 3 (by omega), h 4 (by omega)]
theorem bits_sub : ∀ s, s < 32 → ∀ t, t < 32 → (t &&& s == t) = true → ∀ q, q < 5 → bitB (s - t) q = (bitB s q && !bitB t q) ∧ (bitB t q = true → bitB s q = true) := by decide
theorem sub_of_bits : ∀ s, s < 32 → ∀ t, t < 32 → (∀ q, q < 5 → bitB t q = true → bitB s q = true) → (t &&& s == t) = true ∧ t ≤ s := by decide
theorem set_empty {s : Nat} (hs : s < 32) : setL s = [] ↔ s = 0 := by
  constructor
  · intro h
    refine eq_of_bits hs (by omega) (fun q hq => ?_)
    have : ¬ (q ∈ setL s) := by rw [h]; simp
    rw [mem_setL] at this
    have e : bitB s q = false := by simpa [hq] using this
    rw [e]
    unfold bitB; simp
  · rintro rfl; decide
def Cuts (P : List S48) (Q : List S50) (l : List Nat) (S : Nat → Prop) (a pos : Nat → Nat) : Prop :=
  (∀ p, S p → a p ∈ l ∧ spotB (P.getD (a p) z48) (Q.getD p z50) (pos p) = true) ∧ ∀ p q, S p → S q → p ≠ q → a p = a q → Apart Q pos p q
theorem cut_iff {P : List S48} {Q : List S50} (hq : ∀ p, p < Q.length → 1 ≤ (Q.getD p z50).f0) : ∀ (l : List Nat) (hl : l.Nodup) (s : Nat) (hs : s < 32) (hb : ∀ p ∈ setL s, p < Q.length),
    cutB P Q l s = true ↔ ∃ a pos, Cuts P Q l (· ∈ setL s) a pos
  | [], _, s, hs, hb => by
    unfold cutB
    rw [beq_iff_eq, ← set_empty hs]
    constructor
    · intro h
      exact ⟨fun _ => 0, fun _ => 0, fun p hp => by rw [h] at hp; simp at hp, fun p q hp => by rw [h] at hp; simp at hp⟩
    · rintro ⟨a, pos, h1, _⟩
      cases e : setL s with
      | nil => rfl
      | cons p t => exact absurd (h1 p (by rw [e]; simp)).1 (by simp)
  | i :: l, hl, s, hs, hb => by
    have hl' := (List.nodup_cons.1 hl)
    unfold cutB
    rw [Bool.or_eq_true, beq_iff_eq, List.any_eq_true]
    constructor
    · rintro (rfl | ⟨t, ht, h⟩)
      · have e := (set_empty (by omega : 0 < 32)).2 rfl
        exact ⟨fun _ => 0, fun _ => 0, fun p hp => by rw [e] at hp; simp at hp, fun p q hp => by rw [e] at hp; simp at hp⟩
      · rw [List.mem_range] at ht
        rw [Bool.and_eq_true, Bool.and_eq_true] at h; obtain ⟨h1, h2, h3⟩ := h
        have hbits := bits_sub s hs t (by omega) h1
        have hbt : ∀ p ∈ setL t, p ∈ setL s := fun p hp => by
          rw [mem_setL] at hp ⊢
          exact ⟨hp.1, (hbits p hp.1).2 hp.2⟩
        have hbd : ∀ p, p ∈ setL (s - t) ↔ p ∈ setL s ∧ ¬ p ∈ setL t := fun p => by
          rw [mem_setL, mem_setL, mem_setL]
          constructor
          · rintro ⟨a, b⟩
            rw [(hbits p a).1, Bool.and_eq_true, Bool.not_eq_true'] at b
            exact ⟨⟨a, b.1⟩, fun h => by rw [b.2] at h; exact absurd h.2 (by simp)⟩
          · rintro ⟨⟨a, b⟩, c⟩
            refine ⟨a, ?_⟩
            rw [(hbits p a).1, b]
            cases e : bitB t p with
            | false => rfl
            | true => exact absurd ⟨a, e⟩ c
        obtain ⟨pos1, g1, g2⟩ := (laid_iff (setL_nodup t) (fun p hp => hq p (hb p (hbt p hp)))).1 h2
        obtain ⟨a2, pos2, g3, g4⟩ := (cut_iff hq l hl'.2 (s - t) (by omega) (fun p hp => hb p ((hbd p).1 hp).1)).1 h3
        classical
        refine ⟨fun p => if p ∈ setL t then i else a2 p, fun p => if p ∈ setL t then pos1 p else pos2 p, fun p hp => ?_, fun p q hp hq hne he => ?_⟩
        · by_cases hpt : p ∈ setL t
          · simp only [if_pos hpt]
            exact ⟨by simp, g1 p hpt⟩
          · simp only [if_neg hpt]
            have := g3 p ((hbd p).2 ⟨hp, hpt⟩)
            exact ⟨by simp [this.1], this.2⟩
        · unfold Apart
          by_cases hpt : p ∈ setL t <;> by_cases hqt : q ∈ setL t
          · simp only [hpt, hqt, if_true]
            exact g2 p q hpt hqt hne
          · simp only [hpt, hqt, if_true, if_false] at he
            exact absurd (he ▸ (g3 q ((hbd q).2 ⟨hq, hqt⟩)).1) hl'.1
          · simp only [hpt, hqt, if_true, if_false] at he
            exact absurd (he ▸ (g3 p ((hbd p).2 ⟨hp, hpt⟩)).1) hl'.1
          · simp only [hpt, hqt, if_false] at he ⊢
            exact g4 p q ((hbd p).2 ⟨hp, hpt⟩) ((hbd q).2 ⟨hq, hqt⟩) hne he
    · rintro ⟨a, pos, h1, h2⟩
      right
      let t := numB fun p => bitB s p && decide (a p = i)
      have ht : t < 32 := numB_lt _
      have hbit : ∀ q, q < 5 → bitB t q = (bitB s q && decide (a q = i)) := fun q hq => bit_numB (fun p => bitB s p && decide (a p = i)) hq
      obtain ⟨e1, e2⟩ := sub_of_bits s hs t ht (fun q hq h => by rw [hbit q hq, Bool.and_eq_true] at h; exact h.1)
      have hbits := bits_sub s hs t ht e1
      have hmt : ∀ p, p ∈ setL t ↔ p ∈ setL s ∧ a p = i := fun p => by
        rw [mem_setL, mem_setL]
        constructor
        · rintro ⟨c, d⟩; rw [hbit p c, Bool.and_eq_true, decide_eq_true_eq] at d; exact ⟨⟨c, d.1⟩, d.2⟩
        · rintro ⟨⟨c, d⟩, e⟩; exact ⟨c, by rw [hbit p c, d, e]; simp⟩
      have hbd : ∀ p, p ∈ setL (s - t) → p ∈ setL s ∧ ¬ a p = i := fun p hp => by
        rw [mem_setL] at hp; obtain ⟨c, d⟩ := hp; rw [(hbits p c).1, hbit p c, Bool.and_eq_true] at d
        refine ⟨mem_setL.2 ⟨c, d.1⟩, fun e => ?_⟩
        rw [d.1] at d
        simp [e] at d
      refine ⟨t, by rw [List.mem_range]; omega, ?_⟩
      rw [Bool.and_eq_true, Bool.and_eq_true]
      refine ⟨e1, ?_, ?_⟩
      · refine (laid_iff (setL_nodup t) (fun p hp => hq p (hb p ((hmt p).1 hp).1))).2 ⟨pos, fun p hp => ?_, fun p q hp hq hne => ?_⟩
        · obtain ⟨c, d⟩ := (hmt p).1 hp
          have := (h1 p c).2
          rwa [d] at this
        · exact h2 p q ((hmt p).1 hp).1 ((hmt q).1 hq).1 hne (((hmt p).1 hp).2.trans ((hmt q).1 hq).2.symm)
      · refine (cut_iff hq l hl'.2 (s - t) (by omega) (fun p hp => hb p (hbd p hp).1)).2 ⟨a, pos, fun p hp => ?_, fun p q hp hq hne he => h2 p q (hbd p hp).1 (hbd q hq).1 hne he⟩
        obtain ⟨c, d⟩ := hbd p hp
        have := h1 p c
        exact ⟨by simpa [d] using this.1, this.2⟩
theorem cmp_self : ∀ l : List Int, cmpL l l = 0
  | [] => rfl
  | a :: l => by simp [cmpL, cmp_self l]
theorem cmp_zero : ∀ l m : List Int, cmpL l m = 0 → l = m
  | [], [], _ => rfl
  | [], _ :: _, h => by simp [cmpL] at h
  | _ :: _, [], h => by simp [cmpL] at h
  | a :: l, b :: m, h => by
    unfold cmpL at h
    split at h
    · simp at h
    · split at h
      · simp at h
      · obtain rfl : a = b := by omega
        rw [cmp_zero l m h]
theorem cmp_neg : ∀ l m : List Int, cmpL m l = - cmpL l m
  | [], [] => rfl
  | [], _ :: _ => rfl
  | _ :: _, [] => rfl
  | a :: l, b :: m => by
    unfold cmpL
    rw [cmp_neg l m]
    split <;> split <;> (try omega) <;> simp_all <;> omega
theorem cmp_trans : ∀ l m n : List Int, cmpL l m < 0 → cmpL m n < 0 → cmpL l n < 0
  | [], [], n, h, _ => by simp [cmpL] at h
  | [], _ :: _, [], _, h => by simp [cmpL] at h
  | [], _ :: _, _ :: _, _, _ => by simp [cmpL]
  | _ :: _, [], n, h, _ => by simp [cmpL] at h
  | _ :: _, _ :: _, [], _, h => by simp [cmpL] at h
  | a :: l, b :: m, c :: n, h1, h2 => by
    unfold cmpL at h1 h2 ⊢
    rcases Int.lt_trichotomy a b with x | rfl | x
    · rcases Int.lt_trichotomy b c with y | rfl | y
      · rw [if_pos (by omega)]; omega
      · rw [if_pos (by omega)]; omega
      · rw [if_neg (by omega), if_pos y] at h2; omega
    · rcases Int.lt_trichotomy a c with y | rfl | y
      · rw [if_pos y]; omega
      · rw [if_neg (by omega), if_neg (by omega)] at h1 h2 ⊢
        exact cmp_trans l m n h1 h2
      · rw [if_neg (by omega), if_pos y] at h2; omega
    · rw [if_neg (by omega), if_pos x] at h1; omega
structure Strict (bt : List Int → List Int → Bool) : Prop where
  irr : ∀ l, bt l l = false
  trans : ∀ a b c, bt a b = true → bt b c = true → bt a c = true
  tot : ∀ a b, a = b ∨ bt a b = true ∨ bt b a = true
theorem strict_few : Strict betterL := by
  refine ⟨fun l => ?_, fun a b c h1 h2 => ?_, fun a b => ?_⟩
  · unfold betterL; rw [cmp_self]; simp
  · unfold betterL at *
    simp only [Bool.or_eq_true, Bool.and_eq_true, decide_eq_true_eq, beq_iff_eq] at *
    rcases h1 with h1 | ⟨h1, h3⟩ <;> rcases h2 with h2 | ⟨h2, h4⟩
    · left; omega
    · left; omega
    · left; omega
    · right; exact ⟨by omega, cmp_trans a b c h3 h4⟩
  · unfold betterL
    simp only [Bool.or_eq_true, Bool.and_eq_true, decide_eq_true_eq, beq_iff_eq]
    have h1 := cmp_zero a b; have h2 := cmp_neg a b
    by_cases h : cmpL a b = 0
    · exact .inl (h1 h)
    · rcases Nat.lt_trichotomy a.length b.length with h3 | h3 | h3
      · exact .inr (.inl (.inl h3))
      · by_cases h4 : cmpL a b < 0
        · exact .inr (.inl (.inr ⟨h3, h4⟩))
        · exact .inr (.inr (.inr ⟨h3.symm, by omega⟩))
      · exact .inr (.inr (.inl h3))
theorem strict_more : Strict moreL := by
  refine ⟨fun l => ?_, fun a b c h1 h2 => ?_, fun a b => ?_⟩
  · unfold moreL; rw [cmp_self]; simp
  · unfold moreL at *
    simp only [Bool.or_eq_true, Bool.and_eq_true, decide_eq_true_eq, beq_iff_eq] at *
    rcases h1 with h1 | ⟨h1, h3⟩ <;> rcases h2 with h2 | ⟨h2, h4⟩
    · left; omega
    · left; omega
    · left; omega
    · right; exact ⟨by omega, cmp_trans a b c h3 h4⟩
  · unfold moreL
    simp only [Bool.or_eq_true, Bool.and_eq_true, decide_eq_true_eq, beq_iff_eq]
    have h1 := cmp_zero a b; have h2 := cmp_neg a b
    by_cases h : cmpL a b = 0
    · exact .inl (h1 h)
    · rcases Nat.lt_trichotomy a.length b.length with h3 | h3 | h3
      · exact .inr (.inr (.inl h3))
      · by_cases h4 : cmpL a b < 0
        · exact .inr (.inl (.inr ⟨h3, h4⟩))
        · exact .inr (.inr (.inr ⟨h3.symm, by omega⟩))
      · exact .inr (.inl (.inl h3))
def BestOf (bt : List Int → List Int → Bool) (is : Nat → Bool) (n : Nat) (l : List Nat) : Prop :=
  (∃ s, s < n ∧ l = setL s ∧ is s = true) ∧ ∀ s, s < n → is s = true → setL s = l ∨ bt (ints l) (ints (setL s)) = true
theorem BestOf.unique {bt : List Int → List Int → Bool} (hS : Strict bt) {is : Nat → Bool} {n : Nat} {l m : List Nat} (h1 : BestOf bt is n l) (h2 : BestOf bt is n m) : l = m := by
  obtain ⟨⟨s, a, rfl, b⟩, c⟩ := h1; obtain ⟨⟨t, d, rfl, e⟩, f⟩ := h2
  rcases c t d e with h | h
  · exact h.symm
  · rcases f s a b with h' | h'
    · exact h'
    · have := hS.trans _ _ _ h h'
      rw [hS.irr] at this
      exact absurd this (by simp)
theorem bestTo_spec {bt : List Int → List Int → Bool} (hS : Strict bt) (is : Nat → Bool) : ∀ n, (bestTo bt is n = (false, []) ∧ ∀ s, s < n → is s = false) ∨ ∃ l, bestTo bt is n = (true, l) ∧ BestOf bt is n l
  | 0 => .inl ⟨rfl, fun s h => absurd h (by omega)⟩
  | n + 1 => by
    show (bestStep bt is n (bestTo bt is n) = _ ∧ _) ∨ ∃ l, bestStep bt is n (bestTo bt is n) = _ ∧ _
    rcases bestTo_spec hS is n with ⟨e, h⟩ | ⟨l, e, ⟨s0, h1, rfl, h2⟩, h3⟩
    · rw [e]
      unfold bestStep
      cases hn : is n with
      | false =>
        left
        refine ⟨by simp, fun s hs => ?_⟩
        rcases Nat.lt_or_ge s n with h' | h'
        · exact h s h'
        · obtain rfl : s = n := by omega
          exact hn
      | true =>
        right
        refine ⟨setL n, by simp, ⟨n, by omega, rfl, hn⟩, fun s hs his => ?_⟩
        rcases Nat.lt_or_ge s n with h' | h'
        · rw [h s h'] at his; exact absurd his (by simp)
        · obtain rfl : s = n := by omega
          exact .inl rfl
    · rw [e]
      right
      unfold bestStep
      cases hn : is n with
      | false =>
        refine ⟨setL s0, by simp, ⟨s0, by omega, rfl, h2⟩, fun s hs his => ?_⟩
        rcases Nat.lt_or_ge s n with h' | h'
        · exact h3 s h' his
        · obtain rfl : s = n := by omega
          rw [hn] at his; exact absurd his (by simp)
      | true =>
        cases hb : bt (ints (setL n)) (ints (setL s0)) with
        | true =>
          refine ⟨setL n, by simp, ⟨n, by omega, rfl, hn⟩, fun s hs his => ?_⟩
          rcases Nat.lt_or_ge s n with h' | h'
          · rcases h3 s h' his with h4 | h4
            · rw [h4]; exact .inr hb
            · exact .inr (hS.trans _ _ _ hb h4)
          · obtain rfl : s = n := by omega
            exact .inl rfl
        | false =>
          refine ⟨setL s0, by simp, ⟨s0, by omega, rfl, h2⟩, fun s hs his => ?_⟩
          rcases Nat.lt_or_ge s n with h' | h'
          · exact h3 s h' his
          · obtain rfl : s = n := by omega
            rcases hS.tot (ints (setL s0)) (ints (setL s)) with h4 | h4 | h4
            · exact .inl (ints_inj h4).symm
            · exact .inr h4
            · rw [hb] at h4; exact absurd h4 (by simp)
theorem cut_zero (P : List S48) (Q : List S50) (l : List Nat) : cutB P Q l 0 = true := by cases l <;> simp [cutB]
theorem most_spec (P : List S48) (Q : List S50) : BestOf moreL (fun s => cutB P Q (setL (2 ^ P.length - 1)) s) (2 ^ Q.length) (mostN P Q) := by
  unfold mostN
  rcases bestTo_spec strict_more (fun s => cutB P Q (setL (2 ^ P.length - 1)) s) (2 ^ Q.length) with ⟨_, h⟩ | ⟨l, e, h⟩
  · have := h 0 (Nat.pos_of_ne_zero (by simp))
    simp only [cut_zero] at this
    exact absurd this (by simp)
  · rw [e]; exact h
theorem fewest_spec (P : List S48) (Q : List S50) : (fewestZ P Q = (false, []) ∧ ∀ s, s < 2 ^ P.length → cutB P Q (setL s) (2 ^ Q.length - 1) = false) ∨ ∃ l, fewestZ P Q = (true, l) ∧ BestOf betterL (fun s => cutB P Q (setL s) (2 ^ Q.length - 1)) (2 ^ P.length) l :=
  bestTo_spec strict_few _ _
theorem greatest_of {f : Nat → Nat} : ∀ (l : List Nat), l ≠ [] → ∃ p ∈ l, ∀ q ∈ l, f q ≤ f p
  | [], h => absurd rfl h
  | [a], _ => ⟨a, by simp, by simp⟩
  | a :: b :: l, _ => by
    obtain ⟨p, hp, h⟩ := greatest_of (f := f) (b :: l) (by simp)
    by_cases hab : f p ≤ f a
    · exact ⟨a, by simp, fun q hq => by
        rcases List.mem_cons.1 hq with rfl | hq
        · exact Nat.le_refl _
        · exact Nat.le_trans (h q hq) hab⟩
    · exact ⟨p, by simp [hp], fun q hq => by
        rcases List.mem_cons.1 hq with rfl | hq
        · omega
        · exact h q hq⟩
theorem bits_one : ∀ s, s < 32 → ∀ p, p < 5 → bitB s p = true → 2 ^ p ≤ s ∧ (2 ^ p &&& s == 2 ^ p) = true ∧ ∀ q, q < 5 → bitB (s - 2 ^ p) q = (bitB s q && !decide (q = p)) := by decide
theorem mem_less {s p : Nat} (hs : s < 32) (hp : p ∈ setL s) (q : Nat) : q ∈ setL (s - 2 ^ p) ↔ q ∈ setL s ∧ q ≠ p := by
  obtain ⟨h5, hb⟩ := mem_setL.1 hp; have h := (bits_one s hs p h5 hb).2.2
  rw [mem_setL, mem_setL]
  constructor
  · rintro ⟨a, b⟩
    rw [h q a, Bool.and_eq_true, Bool.not_eq_true', decide_eq_false_iff_not] at b
    exact ⟨⟨a, b.1⟩, b.2⟩
  · rintro ⟨⟨a, b⟩, c⟩
    exact ⟨a, by rw [h q a, b]; simp [c]⟩
def EndAt (y : S48) (Q : List S50) (s : Nat) (e : Int) : Prop :=
  (e = 99 ∧ ∀ pos, ¬ LiesOn y Q (· ∈ setL s) pos) ∨
  (e < 99 ∧ 0 ≤ e ∧ (∃ pos, LiesOn y Q (· ∈ setL s) pos ∧ ∀ p, p ∈ setL s → (pos p + lenQ Q p : Nat) ≤ e) ∧ ∀ pos, LiesOn y Q (· ∈ setL s) pos → ∀ M : Int, 0 ≤ M → (∀ p, p ∈ setL s → (pos p + lenQ Q p : Nat) ≤ M) → e ≤ M)
theorem EndAt.zero (y : S48) (Q : List S50) : EndAt y Q 0 0 := by
  have e := (set_empty (by omega : 0 < 32)).2 rfl
  refine .inr ⟨by omega, by omega, ⟨fun _ => 0, ⟨fun p hp => ?_, fun p q hp => ?_⟩, fun p hp => ?_⟩, fun _ _ M h _ => h⟩
  all_goals (rw [e] at hp; simp at hp)
theorem EndAt.step {y : S48} {Q : List S50} {s : Nat} (hs : s < 32) (h0 : s ≠ 0) (hy : y.f0 ≤ 16) (hL : ∀ p ∈ setL s, 1 ≤ (Q.getD p z50).f0) {E : Nat → Int} (hE : ∀ p ∈ setL s, EndAt y Q (s - 2 ^ p) (E p)) {e : Int} (h3 : e ≤ 99)
    (h1 : e = 99 ∨ ∃ p ∈ setL s, ∃ a ∈ spotsL y (Q.getD p z50), E p ≤ (a : Int) ∧ e = (a : Int) + (Q.getD p z50).f0)
    (h2 : ∀ p ∈ setL s, ∀ a ∈ spotsL y (Q.getD p z50), E p ≤ (a : Int) → e ≤ (a : Int) + (Q.getD p z50).f0) : EndAt y Q s e := by
  have hlen : ∀ p ∈ setL s, ((lenQ Q p : Nat) : Int) = (Q.getD p z50).f0 := fun p hp => by have := hL p hp; unfold lenQ; omega
  have key : ∀ pos, LiesOn y Q (· ∈ setL s) pos → ∃ p ∈ setL s, e ≤ (pos p + lenQ Q p : Nat) ∧ (pos p + lenQ Q p : Nat) ≤ (16 : Int) := by
    intro pos hl
    obtain ⟨p, hp, hm⟩ := greatest_of (f := pos) (setL s) (fun h => h0 ((set_empty hs).1 h))
    have hsp := hl.1 p hp; have hsl := (spot_lt hsp).1; have hlp := hlen p hp
    have hrest : ∀ q, q ∈ setL (s - 2 ^ p) → pos q + lenQ Q q ≤ pos p := fun q hq => by
      obtain ⟨hqs, hne⟩ := (mem_less hs hp q).1 hq
      rcases hl.2 q p hqs hp hne with h | h
      · exact h
      · have := hm q hqs
        have := hlen p hp
        have := hL p hp
        omega
    have hlr : LiesOn y Q (· ∈ setL (s - 2 ^ p)) pos := ⟨fun q hq => hl.1 q ((mem_less hs hp q).1 hq).1, fun q r hq hr hne => hl.2 q r ((mem_less hs hp q).1 hq).1 ((mem_less hs hp r).1 hr).1 hne⟩
    have hep : E p ≤ (pos p : Int) := by
      rcases hE p hp with ⟨_, hno⟩ | ⟨_, _, _, hmin⟩
      · exact absurd hlr (hno pos)
      · exact hmin pos hlr (pos p) (by omega) (fun q hq => by have := hrest q hq; omega)
    have := h2 p hp (pos p) ((mem_spots (hL p hp)).2 hsp) hep
    exact ⟨p, hp, by omega, by omega⟩
  rcases h1 with rfl | ⟨p, hp, a, ha, hle, rfl⟩
  · refine .inl ⟨rfl, fun pos hl => ?_⟩
    obtain ⟨p, _, h, h'⟩ := key pos hl
    omega
  · have hsp := (mem_spots (hL p hp)).1 ha
    have hsl := (spot_lt hsp).1; have hlp := hlen p hp; have hl1 := hL p hp
    refine .inr ⟨by omega, by omega, ?_, fun pos hl M _ hM => ?_⟩
    · rcases hE p hp with ⟨e99, _⟩ | ⟨_, _, ⟨pos, hl, hends⟩, _⟩
      · omega
      · refine ⟨fun q => if q = p then a else pos q, ⟨fun q hq => ?_, fun q r hq hr hne => ?_⟩, fun q hq => ?_⟩
        · by_cases h : q = p
          · subst h; simpa using hsp
          · simp only [h, if_false]; exact hl.1 q ((mem_less hs hp q).2 ⟨hq, h⟩)
        · unfold Apart
          by_cases h : q = p
          · subst h
            have hr' := (mem_less hs hp r).2 ⟨hr, fun e => hne e.symm⟩
            simp only [if_true, if_neg (fun e => hne e.symm : ¬ r = q)]
            have := hends r hr'
            right; omega
          · by_cases h' : r = p
            · subst h'
              have hq' := (mem_less hs hp q).2 ⟨hq, h⟩
              simp only [if_true, if_neg h]
              have := hends q hq'
              left; omega
            · simp only [h, h', if_false]
              exact hl.2 q r ((mem_less hs hp q).2 ⟨hq, h⟩) ((mem_less hs hp r).2 ⟨hr, h'⟩) hne
        · by_cases h : q = p
          · subst h; simp only [if_true]; omega
          · simp only [h, if_false]
            have := hends q ((mem_less hs hp q).2 ⟨hq, h⟩)
            omega
    · obtain ⟨q, hq, h, _⟩ := key pos hl
      have := hM q hq
      omega
theorem EndAt.laid {y : S48} {Q : List S50} {s : Nat} {e : Int} (hL : ∀ p ∈ setL s, 1 ≤ (Q.getD p z50).f0) (h : EndAt y Q s e) : decide (e < 99) = (laidB y Q (setL s)).isSome ∧ (e = 99 ↔ laidB y Q (setL s) = none) := by
  have hi := laid_iff (y := y) (setL_nodup s) hL
  rcases h with ⟨rfl, h⟩ | ⟨h1, _, ⟨pos, h2, _⟩, _⟩
  · have hn : laidB y Q (setL s) = none := by
      cases hc : laidB y Q (setL s) with
      | none => rfl
      | some o => rw [hc] at hi; obtain ⟨pos, hp⟩ := hi.1 rfl; exact absurd hp (h pos)
    rw [hn]; simp
  · have hs := hi.2 ⟨pos, h2⟩
    rw [hs]
    refine ⟨by simpa using h1, ⟨fun e => by omega, fun e => by rw [e] at hs; simp at hs⟩⟩
theorem cuts_weaker {P P' : List S48} {Q Q' : List S50} {l l' : List Nat} {S S' : Nat → Prop} {a pos : Nat → Nat} (h : Cuts P Q l S a pos) (hl : ∀ i, i ∈ l → i ∈ l') (hS : ∀ p, S' p → S p)
    (hsp : ∀ i p n, i ∈ l → S' p → spotB (P.getD i z48) (Q.getD p z50) n = true → spotB (P'.getD i z48) (Q'.getD p z50) n = true) (hlen : ∀ p, S' p → lenQ Q' p = lenQ Q p) : Cuts P' Q' l' S' a pos :=
  ⟨fun p hp => ⟨hl _ (h.1 p (hS p hp)).1, hsp _ _ _ (h.1 p (hS p hp)).1 hp (h.1 p (hS p hp)).2⟩, fun p q hp hq hne he => by
    have := h.2 p q (hS p hp) (hS q hq) hne he
    unfold Apart at *
    rw [hlen p hp, hlen q hq]
    exact this⟩
theorem full_bits : ∀ n, n ≤ 5 → ∀ q, q < 5 → bitB (2 ^ n - 1) q = decide (q < n) := by decide
theorem mem_full {n : Nat} (hn : n ≤ 5) (q : Nat) : q ∈ setL (2 ^ n - 1) ↔ q < n := by
  rw [mem_setL]
  constructor
  · rintro ⟨a, b⟩; rw [full_bits n hn q a] at b; simpa using b
  · intro h; exact ⟨by omega, by rw [full_bits n hn q (by omega)]; simpa using h⟩
theorem Ok.part1 {P : List S48} {Q : List S50} (h : Ok P Q) (p : Nat) (hp : p < Q.length) : 1 ≤ (Q.getD p z50).f0 := (h.shape _ (by rw [show Q.getD p z50 = Q[p] from by simp [hp]]; exact List.getElem_mem hp)).1
theorem lt32 {n s : Nat} (hn : n ≤ 5) (hs : s < 2 ^ n) : s < 32 := Nat.lt_of_lt_of_le hs (Nat.pow_le_pow_right (by omega : 0 < 2) hn)
theorem Ok.cut {P : List S48} {Q : List S50} (h : Ok P Q) (t : Nat) (s : Nat) (hs : s < 2 ^ Q.length) : cutB P Q (setL t) s = true ↔ ∃ a pos, Cuts P Q (setL t) (· ∈ setL s) a pos :=
  cut_iff h.part1 (setL t) (setL_nodup t) s (lt32 h.q5 hs) (fun p hp => setL_lt hs hp)
theorem setL_le : ∀ n, n ≤ 5 → ∀ s, s < 2 ^ n → (setL s).length ≤ n := by decide
def pick {α : Type} (z : α) (L : List α) (u : Nat) : List α := (setL u).map fun i => L.getD i z
theorem pick_length {α : Type} (z : α) (L : List α) (u : Nat) : (pick z L u).length = (setL u).length := by simp [pick]
theorem pick_getD {α : Type} (z : α) (L : List α) (u : Nat) {i : Nat} (hi : i < (setL u).length) : (pick z L u).getD i z = L.getD ((setL u).getD i 0) z := by simp [pick, hi]
theorem pick_mem {α : Type} {z : α} {L : List α} {u : Nat} (hu : ∀ i ∈ setL u, i < L.length) {x : α} (hx : x ∈ pick z L u) : x ∈ L := by
  unfold pick at hx
  obtain ⟨i, hi, rfl⟩ := List.mem_map.1 hx
  have := hu i hi
  rw [show L.getD i z = L[i] from by simp [this]]
  exact List.getElem_mem _
theorem Ok.pick {P : List S48} {Q : List S50} (h : Ok P Q) {u v : Nat} (hu : u < 2 ^ P.length) (hv : v < 2 ^ Q.length) : Ok (pick z48 P u) (pick z50 Q v) := by
  have h3 := h.p3; have h5 := h.q5
  refine ⟨?_, ?_, fun y hy => h.wood y (pick_mem (fun i hi => setL_lt hu hi) hy), fun x hx => h.shape x (pick_mem (fun i hi => setL_lt hv hi) hx)⟩
  · rw [pick_length]; have := setL_le P.length (by omega) u hu; omega
  · rw [pick_length]; have := setL_le Q.length h5 v hv; omega
theorem getD_mem0 {l : List Nat} {i : Nat} (hi : i < l.length) : l.getD i 0 ∈ l := by rw [show l.getD i 0 = l[i] from by simp [hi]]; exact List.getElem_mem _
theorem idx_lt {l : List Nat} {p : Nat} (hp : p ∈ l) : l.idxOf p < l.length := List.idxOf_lt_length_iff.2 hp
theorem getD_idx {l : List Nat} {p : Nat} (hp : p ∈ l) : l.getD (l.idxOf p) 0 = p := by
  have h := idx_lt hp
  rw [show l.getD (l.idxOf p) 0 = l[l.idxOf p] from by simp [h]]
  exact List.getElem_idxOf h
theorem idx_getD {l : List Nat} (hn : l.Nodup) {i : Nat} (hi : i < l.length) : l.idxOf (l.getD i 0) = i := by
  rw [show l.getD i 0 = l[i] from by simp [hi]]
  exact List.Nodup.idxOf_getElem hn i hi
theorem cut_pick {P : List S48} {Q : List S50} (h : Ok P Q) {u v : Nat} (hu : u < 2 ^ P.length) (hv : v < 2 ^ Q.length) :
    cutB (pick z48 P u) (pick z50 Q v) (setL (2 ^ (pick z48 P u).length - 1)) (2 ^ (pick z50 Q v).length - 1) = cutB P Q (setL u) v := by
  have hok := h.pick hu hv
  have h3 : (setL u).length ≤ 5 := by have := hok.p3; rw [pick_length] at this; omega
  have h5 : (setL v).length ≤ 5 := by have := hok.q5; rwa [pick_length] at this
  have hpow : 0 < 2 ^ (pick z50 Q v).length := Nat.pos_of_ne_zero (by simp)
  rw [Bool.eq_iff_iff, hok.cut _ _ (by omega), h.cut _ _ hv, pick_length, pick_length]
  have hlen : ∀ i, i < (setL v).length → lenQ (pick z50 Q v) i = lenQ Q ((setL v).getD i 0) := fun i hi => by unfold lenQ; rw [pick_getD _ _ _ hi]
  have hun := setL_nodup u; have hvn := setL_nodup v
  constructor
  · rintro ⟨a, pos, h1, h2⟩
    refine ⟨fun p => (setL u).getD (a ((setL v).idxOf p)) 0, fun p => pos ((setL v).idxOf p), fun p hp => ?_, fun p q hp hq hne he => ?_⟩
    · have hi := idx_lt hp
      obtain ⟨h3', h4⟩ := h1 _ ((mem_full h5 _).2 hi); have hj := (mem_full h3 _).1 h3'; rw [pick_getD _ _ _ hj, pick_getD _ _ _ hi, getD_idx hp] at h4
      exact ⟨getD_mem0 hj, h4⟩
    · have hi := idx_lt hp
      have hi' := idx_lt hq; have hj := (mem_full h3 _).1 (h1 _ ((mem_full h5 _).2 hi)).1; have hj' := (mem_full h3 _).1 (h1 _ ((mem_full h5 _).2 hi')).1
      have e : a ((setL v).idxOf p) = a ((setL v).idxOf q) := by
        have := congrArg (setL u).idxOf he
        simp only at this
        rwa [idx_getD hun hj, idx_getD hun hj'] at this
      have hne' : (setL v).idxOf p ≠ (setL v).idxOf q := fun e' => hne (by rw [← getD_idx hp, ← getD_idx hq, e'])
      have := h2 _ _ ((mem_full h5 _).2 hi) ((mem_full h5 _).2 hi') hne' e
      unfold Apart at this ⊢
      rwa [hlen _ hi, hlen _ hi', getD_idx hp, getD_idx hq] at this
  · rintro ⟨a, pos, h1, h2⟩
    refine ⟨fun i => (setL u).idxOf (a ((setL v).getD i 0)), fun i => pos ((setL v).getD i 0), fun i hi => ?_, fun i j hi hj hne he => ?_⟩
    · have hi := (mem_full h5 _).1 hi
      obtain ⟨h3', h4⟩ := h1 _ (getD_mem0 hi); have hk := idx_lt h3'
      refine ⟨(mem_full h3 _).2 hk, ?_⟩
      rw [pick_getD _ _ _ hk, pick_getD _ _ _ hi, getD_idx h3']
      exact h4
    · have hi := (mem_full h5 _).1 hi
      have hj := (mem_full h5 _).1 hj; have hk := (h1 _ (getD_mem0 hi)).1; have hk' := (h1 _ (getD_mem0 hj)).1
      have hne' : (setL v).getD i 0 ≠ (setL v).getD j 0 := fun e => hne (by rw [← idx_getD hvn hi, ← idx_getD hvn hj, e])
      have e : a ((setL v).getD i 0) = a ((setL v).getD j 0) := by
        have := congrArg (fun k => (setL u).getD k 0) he
        simp only at this
        rwa [getD_idx hk, getD_idx hk'] at this
      have := h2 _ _ (getD_mem0 hi) (getD_mem0 hj) hne' e
      unfold Apart at this ⊢
      rwa [hlen _ hi, hlen _ hj]
end Go.Proofs.YtekjlpldooihhaaDoorP
namespace Go.Proofs.YtekjlpldooihhaaDoor.PR
open Go.RowKit Go.Proofs.YtekjlpldooihhaaDoorW.PrintWords Go.Proofs.YtekjlpldooihhaaDoorEv Go.Proofs.YtekjlpldooihhaaDoorP Go.Proofs.YtekjlpldooihhaaDoor.PT Go.Proofs.YtekjlpldooihhaaDoorH
set_option linter.unusedVariables false
set_option linter.unusedSimpArgs false
theorem rd_at (l : List Int) (j : Nat) : rd l (j : Int) = l.getD j 0 := rfl
theorem filter_next_yes {p : Nat → Bool} {k : Nat} (h : p k = true) : (List.range (k + 1)).filter p = (List.range k).filter p ++ [k] := by
  rw [List.range_succ, List.filter_append]; simp [h]
theorem filter_next_no {p : Nat → Bool} {k : Nat} (h : p k = false) : (List.range (k + 1)).filter p = (List.range k).filter p := by
  rw [List.range_succ, List.filter_append]; simp [h]
theorem In_f (a b c : Int) : skewbaldref00_In.f a b c = some (decide (b ≤ a) && decide (a ≤ c)) := by
  unfold skewbaldref00_In.f
  by_cases h : b ≤ a <;> simp [h]
theorem Equal_l0 (x y : List Int) (hxy : x.length = y.length) (hs : x.length < 9223372036854775808) : ∀ (d j : Nat) (b : Bool), j + d = x.length →
    Evt (fun k => skewbaldref00_Equal.l0 k x y b (j : Int)) (b && decide (x.drop j = y.drop j))
  | d, j, false, hj => by
    refine Evt.succ ?_
    simp only [skewbaldref00_Equal.l0]
    exact Evt.neg (by simp) (by simpa using Evt.pure false)
  | 0, j, true, hj => by
    refine Evt.succ ?_
    simp only [skewbaldref00_Equal.l0]
    rw [List.drop_eq_nil_of_le (by omega), List.drop_eq_nil_of_le (by omega)]
    exact Evt.pos (by first | rfl | trivial) (Evt.neg (by omega) (by simpa using Evt.pure true))
  | d + 1, j, true, hj => by
    refine Evt.succ ?_
    simp only [skewbaldref00_Equal.l0]
    have h1 : x.drop j = x[j] :: x.drop (j + 1) := List.drop_eq_getElem_cons (by omega)
    have h2 : y.drop j = y[j] :: y.drop (j + 1) := List.drop_eq_getElem_cons (by omega)
    have g1 : rd x (j : Int) = x[j] := by rw [rd_at]; simp [show j < x.length by omega]
    have g2 : rd y (j : Int) = y[j] := by rw [rd_at]; simp [show j < y.length by omega]
    refine Evt.pos (by first | rfl | trivial) (Evt.pos (by omega) (Evt.pos (by omega) (Evt.pos (by omega) ?_)))
    rw [g1, g2, h1, h2, w64 j (by omega)]
    refine (Equal_l0 x y hxy hs d (j + 1) _ (by omega)).of_eq ?_
    rw [Bool.eq_iff_iff]
    simp only [Bool.and_eq_true, beq_iff_eq, decide_eq_true_eq, List.cons.injEq, Bool.true_and]
theorem Equal_f (x y : List Int) (hs : x.length < 9223372036854775808) : Evt (fun k => skewbaldref00_Equal.f k x y) (decide (x = y)) := by
  unfold skewbaldref00_Equal.f
  by_cases h : x.length = y.length
  · have hb : ((x.length : Int) == (y.length : Int)) = true := by simp [h]
    rw [hb]
    refine (Equal_l0 x y h hs x.length 0 true (by omega)).of_eq ?_
    simp
  · have hb : ((x.length : Int) == (y.length : Int)) = false := by simp; omega
    rw [hb]
    refine Evt.succ ?_
    simp only [skewbaldref00_Equal.l0]
    refine Evt.neg (by simp) ?_
    have : decide (x = y) = false := decide_eq_false (fun e => h (by rw [e]))
    rw [this]
    exact Evt.pure _
theorem Of_f (s i : Nat) (hs : s < 256) (hi : i < 64) : skewbaldref00_Of.f (s : Int) (i : Int) = some (bitB s i) := by
  unfold skewbaldref00_Of.f
  rw [if_pos (by omega)]
  congr 1
  have : shr .i64 (s : Int) (i : Int) = (s : Int) / 2 ^ i := by
    unfold shr
    rw [show min (i : Int).toNat (IntKind.i64).bits = i by simp [IntKind.bits]; omega]
  rw [this]
  exact Go.Proofs.YtekjlpldooihhaaDoorH.bit_at s i hs
def sizesL (s n : Nat) : List Nat := (List.range n).filter (bitB s)
theorem List_l0 (s n : Nat) (hs : s < 256) (hn : n < 64) : ∀ (d j : Nat), j + d = n →
    Evt (fun k => skewbaldref00_List.l0 k (s : Int) (n : Int) (ints ((List.range j).filter (bitB s))) (j : Int)) (ints ((List.range n).filter (bitB s)))
  | 0, j, hj => by
    refine Evt.succ ?_
    simp only [skewbaldref00_List.l0]
    refine Evt.neg (by omega) ?_
    obtain rfl : j = n := by omega
    exact Evt.pure _
  | d + 1, j, hj => by
    refine Evt.succ ?_
    simp only [skewbaldref00_List.l0]
    refine Evt.pos (by omega) ?_
    rw [Of_f s j hs (by omega), w64 j (by omega)]
    simp only [Option.bind_some]
    have ih := List_l0 s n hs hn d (j + 1) (by omega)
    cases hc : bitB s j with
    | true =>
      rw [filter_next_yes hc, ints_append] at ih
      have hl : (ints ((List.range j).filter (bitB s))).length ≤ j := by
        rw [ints_length]
        have := List.length_filter_le (bitB s) (List.range j)
        rwa [List.length_range] at this
      exact Evt.pos rfl (Evt.pos (by omega) ih)
    | false =>
      rw [filter_next_no hc] at ih
      exact Evt.neg (by simp) ih
theorem List_f (s n : Nat) (hs : s < 256) (hn : n < 64) : Evt (fun k => skewbaldref00_List.f k (s : Int) (n : Int)) (ints (sizesL s n)) := by
  unfold skewbaldref00_List.f
  exact List_l0 s n hs hn n 0 (by omega)
theorem tmod_cases (n m : Int) (hm : 0 < m) : (0 ≤ Int.tmod n m ∧ Int.tmod n m = n % m) ∨ (Int.tmod n m < 0 ∧ -m < Int.tmod n m ∧ Int.tmod n m + m = n % m) := by
  have h := Int.mul_tdiv_add_tmod n m
  have h1 : Int.tmod n m < m := Int.tmod_lt_of_pos n hm
  have h2 : -m < Int.tmod n m := Int.lt_tmod_of_pos n hm
  generalize Int.tmod n m = r at *
  generalize Int.tdiv n m = q at *
  subst h
  rw [Int.add_comm, Int.add_mul_emod_self_left]
  by_cases h0 : 0 ≤ r
  · exact .inl ⟨h0, (Int.emod_eq_of_lt h0 h1).symm⟩
  · refine .inr ⟨by omega, h2, ?_⟩
    rw [← Int.add_emod_right, Int.emod_eq_of_lt (by omega) (by omega)]
theorem Round_f (n : Int) (m : Nat) (h1 : 1 ≤ m) (h2 : m < 9223372036854775808) : skewbaldref00_Round.f n (m : Int) = some (n % (m : Int)) := by
  unfold skewbaldref00_Round.f
  rw [if_neg (by omega), if_neg (by omega)]
  rcases tmod_cases n m (by omega) with ⟨a, b⟩ | ⟨a, b, c⟩
  · rw [if_neg (by omega), b]
  · rw [if_pos a, ← c]
    congr 1
    unfold wrap64
    omega
theorem Round_nat (n : Int) (m : Nat) (h1 : 1 ≤ m) (h2 : m < 9223372036854775808) : ∃ t : Nat, t < m ∧ skewbaldref00_Round.f n (m : Int) = some (t : Int) := by
  have h0 := Int.emod_nonneg n (show (m : Int) ≠ 0 by omega)
  have h3 := Int.emod_lt_of_pos n (show (0 : Int) < m by omega)
  refine ⟨(n % (m : Int)).toNat, by omega, ?_⟩
  rw [Round_f n m h1 h2]
  congr 1
  omega
def takeD (l : List Int) (n : Int) : Int := if l = [] then 0 else rd l (n % (l.length : Int))
theorem Take_f (l : List Int) (n : Int) (hl : l.length < 9223372036854775808) : skewbaldref00_Take.f l n = some (takeD l n) := by
  unfold skewbaldref00_Take.f takeD
  cases l with
  | nil => rfl
  | cons a l =>
    rw [if_neg (by simp only [List.length_cons]; omega), if_neg (List.cons_ne_nil a l), Round_f n (a :: l).length (by simp) hl]
    have h0 := Int.emod_nonneg n (show (((a :: l).length : Nat) : Int) ≠ 0 by simp only [List.length_cons]; omega)
    have h3 := Int.emod_lt_of_pos n (show (0 : Int) < (((a :: l).length : Nat) : Int) by simp only [List.length_cons]; omega)
    simp only [Option.bind_some]
    rw [if_pos h0, if_pos h3]
def growsB (b : Int) : Int → List Int → Bool
  | _, [] => true
  | last, x :: xs => (decide (last < x) && decide (x < b)) && growsB b x xs
theorem Grows_l0 (l : List Int) (hl : l.length < 9223372036854775808) (b : Int) : ∀ (d j : Nat) (last : Int), j + d = l.length →
    Evt (fun k => skewbaldref00_Grows.l0 k l b last (j : Int)) (growsB b last (l.drop j))
  | 0, j, last, hj => by
    refine Evt.succ ?_
    simp only [skewbaldref00_Grows.l0]
    rw [List.drop_eq_nil_of_le (by omega)]
    exact Evt.neg (by omega) (Evt.pure _)
  | d + 1, j, last, hj => by
    refine Evt.succ ?_
    simp only [skewbaldref00_Grows.l0]
    have h1 : l.drop j = l[j] :: l.drop (j + 1) := List.drop_eq_getElem_cons (by omega)
    have g1 : rd l (j : Int) = l[j] := by rw [rd_at]; simp [show j < l.length by omega]
    rw [h1, g1, w64 j (by omega)]
    refine Evt.pos (by omega) (Evt.pos (by omega) ?_)
    unfold growsB
    refine Evt.ite (fun h => ?_) (fun h => Evt.ite (fun h2 => ?_) (fun h2 => ?_))
    · rw [show decide (last < l[j]) = false by simp; omega]; exact Evt.pure false
    · rw [show decide (l[j] < b) = false by simp; omega, Bool.and_false]; exact Evt.pure false
    · rw [show decide (last < l[j]) = true by simp; omega, show decide (l[j] < b) = true by simp; omega]
      exact Grows_l0 l hl b d (j + 1) _ (by omega)
theorem Grows_f (l : List Int) (hl : l.length < 9223372036854775808) (b : Int) : Evt (fun k => skewbaldref00_Grows.f k l b) (growsB b (-1) l) := by
  unfold skewbaldref00_Grows.f
  exact Grows_l0 l hl b l.length 0 (-1) (by omega)
def findD (l : List Int) (x : Int) : Int := if x ∈ l then (l.idxOf x : Int) else -1
theorem findD_nonneg (l : List Int) (x : Int) : findD l x ≥ 0 ↔ x ∈ l := by
  unfold findD
  by_cases h : x ∈ l <;> simp [h]
theorem Find_l0 (l : List Int) (hl : l.length < 9223372036854775807) (x : Int) : ∀ (d j : Nat), j + d = l.length →
    Evt (fun k => skewbaldref00_Find.l0 k l x (j : Int)) (if x ∈ l.drop j then ((j + (l.drop j).idxOf x : Nat) : Int) else -1)
  | 0, j, hj => by
    refine Evt.succ ?_
    simp only [skewbaldref00_Find.l0]
    rw [List.drop_eq_nil_of_le (by omega)]
    exact Evt.neg (by omega) (by simpa using Evt.pure (-1 : Int))
  | d + 1, j, hj => by
    refine Evt.succ ?_
    simp only [skewbaldref00_Find.l0]
    have h1 : l.drop j = l[j] :: l.drop (j + 1) := List.drop_eq_getElem_cons (by omega)
    have g1 : rd l (j : Int) = l[j] := by rw [rd_at]; simp [show j < l.length by omega]
    rw [h1, g1, w64 j (by omega)]
    refine Evt.pos (by omega) (Evt.pos (by omega) (Evt.ite (fun h => ?_) (fun h => ?_)))
    · subst h
      rw [if_pos (List.mem_cons_self ..), List.idxOf_cons_self]
      exact Evt.pure _
    · refine (Find_l0 l hl x d (j + 1) (by omega)).of_eq ?_
      rw [show (l[j] :: l.drop (j + 1)).idxOf x = (l.drop (j + 1)).idxOf x + 1 from by rw [List.idxOf_cons, show (l[j] == x) = false from beq_eq_false_iff_ne.2 h]; rfl]
      have : x ∈ l[j] :: l.drop (j + 1) ↔ x ∈ l.drop (j + 1) := by
        rw [List.mem_cons]
        constructor
        · rintro (rfl | h2)
          · exact absurd rfl h
          · exact h2
        · exact .inr
      by_cases hm : x ∈ l.drop (j + 1)
      · rw [if_pos hm, if_pos (this.2 hm)]
        congr 1
        omega
      · rw [if_neg hm, if_neg (fun h3 => hm (this.1 h3))]
theorem Find_f (l : List Int) (hl : l.length < 9223372036854775807) (x : Int) : Evt (fun k => skewbaldref00_Find.f k l x) (findD l x) := by
  unfold skewbaldref00_Find.f
  exact (Find_l0 l hl x l.length 0 (by omega)).of_eq (by unfold findD; simp)
def lessB : List Int → List Int → Bool
  | [], [] => false
  | [], _ :: _ => true
  | _ :: _, [] => false
  | a :: l, b :: m => if a = b then lessB l m else decide (a < b)
theorem lessB_cons (a b : Int) (l m : List Int) : lessB (a :: l) (b :: m) = if a = b then lessB l m else decide (a < b) := rfl
theorem Less_l0 (x y : List Int) (hx : x.length < 9223372036854775807) (hy : y.length < 9223372036854775807) : ∀ (d j : Nat), j + d = x.length → j ≤ y.length →
    Evt (fun k => skewbaldref00_Less.l0 k x y (j : Int)) (lessB (x.drop j) (y.drop j))
  | 0, j, hj, hj2 => by
    refine Evt.succ ?_
    simp only [skewbaldref00_Less.l0]
    refine Evt.neg (by omega) (Evt.succ ?_)
    simp only [skewbaldref00_Less.j1]
    refine Evt.neg (by simp) ?_
    rw [List.drop_eq_nil_of_le (show x.length ≤ j by omega)]
    by_cases e : y.length = j
    · rw [List.drop_eq_nil_of_le (show y.length ≤ j by omega), decide_eq_false (show ¬ (x.length : Int) < (y.length : Int) by omega)]
      exact Evt.pure _
    · rw [List.drop_eq_getElem_cons (show j < y.length by omega), decide_eq_true (show (x.length : Int) < (y.length : Int) by omega)]
      exact Evt.pure _
  | d + 1, j, hj, hj2 => by
    refine Evt.succ ?_
    simp only [skewbaldref00_Less.l0]
    refine Evt.pos (by omega) (Evt.succ ?_)
    simp only [skewbaldref00_Less.j1]
    have h1 : x.drop j = x[j] :: x.drop (j + 1) := List.drop_eq_getElem_cons (by omega)
    by_cases e : y.length = j
    · refine Evt.neg (by rw [decide_eq_false (show ¬ (j : Int) < (y.length : Int) by omega)]; simp) ?_
      rw [h1, List.drop_eq_nil_of_le (show y.length ≤ j by omega), decide_eq_false (show ¬ (x.length : Int) < (y.length : Int) by omega)]
      exact Evt.pure _
    · have h2 : y.drop j = y[j] :: y.drop (j + 1) := List.drop_eq_getElem_cons (by omega)
      have g1 : rd x (j : Int) = x[j] := by rw [rd_at]; simp [show j < x.length by omega]
      have g2 : rd y (j : Int) = y[j] := by rw [rd_at]; simp [show j < y.length by omega]
      refine Evt.pos (by rw [decide_eq_true (show (j : Int) < (y.length : Int) by omega)]) (Evt.pos (by omega) (Evt.pos (by omega) (Evt.pos (by omega) ?_)))
      rw [g1, g2, h1, h2, w64 j (by omega), lessB_cons]
      by_cases h : x[j] = y[j]
      · rw [if_pos h]; exact Evt.pos h (Less_l0 x y hx hy d (j + 1) (by omega) (by omega))
      · rw [if_neg h]; exact Evt.neg h (Evt.pure _)
theorem Less_f (x y : List Int) (hx : x.length < 9223372036854775807) (hy : y.length < 9223372036854775807) : Evt (fun k => skewbaldref00_Less.f k x y) (lessB x y) := by
  unfold skewbaldref00_Less.f
  exact Less_l0 x y hx hy x.length 0 (by omega) (by omega)
def shorterB (l m : List Int) : Bool := if (l.length : Int) = (m.length : Int) then lessB l m else decide ((l.length : Int) < (m.length : Int))
theorem Shorter_f (x y : List Int) (hx : x.length < 9223372036854775807) (hy : y.length < 9223372036854775807) : Evt (fun k => skewbaldref00_Shorter.f k x y) (shorterB x y) := by
  unfold skewbaldref00_Shorter.f shorterB
  by_cases h : (x.length : Int) = (y.length : Int)
  · rw [if_pos h]; exact Evt.pos h (Evt.bind (Less_f x y hx hy) (Evt.pure _))
  · rw [if_neg h]; exact Evt.neg h (Evt.pure _)
end Go.Proofs.YtekjlpldooihhaaDoor.PR
namespace Go.Proofs.YtekjlpldooihhaaDoor.PR
open Go.RowKit Go.Proofs.YtekjlpldooihhaaDoorW.PrintWords Go.Proofs.YtekjlpldooihhaaDoorEv Go.Proofs.YtekjlpldooihhaaDoorP Go.Proofs.YtekjlpldooihhaaDoor.PT Go.Proofs.YtekjlpldooihhaaDoorH
open Go.Proofs.YtekjlpldooihhaaDoor.PA (S48 S50 S60 k48 k50 k60 z48 z50 z60 rd_T48 rd_T50 rd_T60)
set_option linter.unusedVariables false
set_option linter.unusedSimpArgs false
theorem Ordered_f (a b c d : Int) : skewbaldref00_Ordered.f a b c d = some (decide (c ≤ a) && (decide (a ≤ b) && decide (b ≤ d))) := by
  unfold skewbaldref00_Ordered.f
  by_cases h : c ≤ a <;> by_cases h2 : a ≤ b <;> simp [h, h2]
def chk (b : Bool) : Int := if b then 0 else 10
theorem grows_asc (L : Int) : ∀ (last : Int) (l : List Int), growsB L last l = ascB L last l
  | _, [] => rfl
  | last, n :: l => by
    unfold growsB ascB
    rw [grows_asc L n l]
    rw [show decide (last < n) = decide (last + 1 ≤ n) from by rw [decide_eq_decide]; omega, show decide (n < L) = decide (n ≤ L - 1) from by rw [decide_eq_decide]; omega]
theorem rd48 (P : List S48) (i : Nat) : rd_T48 P (i : Int) = P.getD i z48 := rfl
theorem rd50 (Q : List S50) (i : Nat) : rd_T50 Q (i : Int) = Q.getD i z50 := rfl
theorem rd60 (l : List S60) (i : Nat) : rd_T60 l (i : Int) = l.getD i z60 := rfl
theorem getD_el {α : Type} {l : List α} {z : α} {i : Nat} (h : i < l.length) : l.getD i z = l[i] := by simp [h]
theorem Check_l1 {P : List S48} {Q : List S50} {L : Int} {kn : List S60} (hkn : kn.length < 9223372036854775808) {i : Nat} (hi : i < 9223372036854775807) (r : Bool) (hc : ∀ b, Evt (fun k => skewbaldref01_Check.l0 k b ((i + 1 : Nat) : Int) P Q) (chk (b && r))) :
    ∀ (d j : Nat) (ok : Bool), j + d = kn.length → (ok = true → 1 ≤ L ∧ L ≤ 16) → Evt (fun k => skewbaldref01_Check.l1 k ok (i : Int) (j : Int) P Q L kn) (chk ((ok && (kn.drop j).all (knotB L)) && r))
  | d, j, false, hj, _ => by
    refine Evt.succ ?_
    simp only [skewbaldref01_Check.l1]
    refine Evt.neg (by simp) ?_
    rw [w64 i hi]
    simpa using hc false
  | 0, j, true, hj, _ => by
    refine Evt.succ ?_
    simp only [skewbaldref01_Check.l1]
    refine Evt.pos (by trivial) (Evt.neg (by omega) ?_)
    rw [w64 i hi, List.drop_eq_nil_of_le (by omega)]
    simpa using hc true
  | d + 1, j, true, hj, hL => by
    obtain ⟨h1, h16⟩ := hL rfl
    refine Evt.succ ?_
    simp only [skewbaldref01_Check.l1]
    refine Evt.pos (by trivial) (Evt.pos (by omega) (Evt.pos (by omega) ?_))
    have hd : kn.drop j = kn[j] :: kn.drop (j + 1) := List.drop_eq_getElem_cons (by omega)
    rw [rd60, getD_el (by omega : j < kn.length), w64 j (by omega), hd, List.all_cons]
    generalize kn[j] = s
    rw [Ordered_f, show wrap64 (L - 1) = L - 1 by unfold wrap64; omega]
    simp only [Option.bind_some]
    have ih := fun b => Check_l1 (L := L) hkn hi r hc d (j + 1) b (by omega)
    refine Evt.ite (fun h => ?_) (fun h => ?_)
    · simp only [Bool.and_eq_true, decide_eq_true_eq] at h
      have e : knotB L s = decide (wrap64 (s.f1 - s.f0) ≤ 6) := by
        unfold knotB
        rw [show wrap64 (s.f1 - s.f0) = s.f1 - s.f0 by unfold wrap64; omega, decide_eq_true (show 0 ≤ s.f0 from h.1), decide_eq_true (show s.f0 ≤ s.f1 from h.2.1), decide_eq_true (show s.f1 < L by omega)]
        simp
      rw [e]
      simpa using ih (decide (wrap64 (s.f1 - s.f0) ≤ 6)) (fun _ => ⟨h1, h16⟩)
    · have e : knotB L s = false := by
        simp only [Bool.and_eq_true, decide_eq_true_eq, not_and] at h
        unfold knotB
        rw [Bool.eq_false_iff]
        intro h2
        simp only [Bool.and_eq_true, decide_eq_true_eq] at h2
        exact h h2.1 h2.2.1 (by omega)
      rw [e]
      simpa using ih false (fun h => by cases h)
theorem Check_l2 {P : List S48} {Q : List S50} (hQ : Q.length < 9223372036854775808) (hq : ∀ x ∈ Q, x.f1.length < 9223372036854775808) : ∀ (d j : Nat) (ok : Bool), j + d = Q.length →
    Evt (fun k => skewbaldref01_Check.l2 k ok (j : Int) P Q) (chk (ok && (Q.drop j).all shapeB))
  | d, j, false, hj => by
    refine Evt.succ ?_
    simp only [skewbaldref01_Check.l2]
    refine Evt.neg (by simp) (Evt.succ ?_)
    simp only [skewbaldref01_Check.j6]
    exact Evt.neg (by simp) (Evt.neg (by simp) (by simpa [chk] using Evt.pure (10 : Int)))
  | 0, j, true, hj => by
    refine Evt.succ ?_
    simp only [skewbaldref01_Check.l2]
    refine Evt.pos (by trivial) (Evt.succ ?_)
    simp only [skewbaldref01_Check.j6]
    rw [List.drop_eq_nil_of_le (by omega), decide_eq_false (show ¬ (j : Int) < (Q.length : Int) by omega)]
    exact Evt.neg (by simp) (Evt.pos (by trivial) (by simpa [chk] using Evt.pure (0 : Int)))
  | d + 1, j, true, hj => by
    refine Evt.succ ?_
    simp only [skewbaldref01_Check.l2]
    refine Evt.pos (by trivial) (Evt.succ ?_)
    simp only [skewbaldref01_Check.j6]
    rw [decide_eq_true (show (j : Int) < (Q.length : Int) by omega)]
    refine Evt.pos (by trivial) (Evt.pos (by omega) (Evt.pos (by omega) ?_))
    have hd : Q.drop j = Q[j] :: Q.drop (j + 1) := List.drop_eq_getElem_cons (by omega)
    have hx := hq Q[j] (List.getElem_mem _)
    rw [rd50, getD_el (by omega : j < Q.length), w64 j (by omega), hd, List.all_cons]
    generalize Q[j] = x at hx
    rw [In_f]
    simp only [Option.bind_some]
    have ih := fun b => Check_l2 (P := P) hQ hq d (j + 1) b (by omega)
    refine Evt.ite (fun h => Evt.ite (fun h3 => ?_) (fun h3 => ?_)) (fun h => ?_)
    · refine Evt.bind (Grows_f x.f1 (by omega) x.f0) ?_
      have e : shapeB x = growsB x.f0 (-1) x.f1 := by
        unfold shapeB
        rw [h, grows_asc, decide_eq_true (show x.f1.length ≤ 3 by omega)]
        simp
      rw [e]
      simpa using ih (growsB x.f0 (-1) x.f1)
    · have e : shapeB x = false := by
        unfold shapeB
        rw [decide_eq_false (show ¬ x.f1.length ≤ 3 by omega)]
        simp
      rw [e]
      simpa using ih false
    · have e : shapeB x = false := by
        unfold shapeB
        rw [show (decide (1 ≤ x.f0) && decide (x.f0 ≤ 12)) = false by simpa using h]
        simp
      rw [e]
      simpa using ih false
theorem Check_l0 {P : List S48} {Q : List S50} (hP : P.length < 9223372036854775808) (hp : ∀ y ∈ P, y.f1.length < 9223372036854775808) (hQ : Q.length < 9223372036854775808) (hq : ∀ x ∈ Q, x.f1.length < 9223372036854775808) : ∀ (d i : Nat) (ok : Bool), i + d = P.length →
    Evt (fun k => skewbaldref01_Check.l0 k ok (i : Int) P Q) (chk (ok && ((P.drop i).all woodB && Q.all shapeB)))
  | d, i, false, hj => by
    refine Evt.succ ?_
    simp only [skewbaldref01_Check.l0]
    refine Evt.neg (by simp) (Evt.succ ?_)
    simp only [skewbaldref01_Check.j2]
    refine Evt.neg (by simp) ?_
    simpa using Check_l2 (P := P) hQ hq Q.length 0 false (by omega)
  | 0, i, true, hj => by
    refine Evt.succ ?_
    simp only [skewbaldref01_Check.l0]
    refine Evt.pos (by trivial) (Evt.succ ?_)
    simp only [skewbaldref01_Check.j2]
    rw [List.drop_eq_nil_of_le (by omega), decide_eq_false (show ¬ (i : Int) < (P.length : Int) by omega)]
    refine Evt.neg (by simp) ?_
    simpa using Check_l2 (P := P) hQ hq Q.length 0 true (by omega)
  | d + 1, i, true, hj => by
    refine Evt.succ ?_
    simp only [skewbaldref01_Check.l0]
    refine Evt.pos (by trivial) (Evt.succ ?_)
    simp only [skewbaldref01_Check.j2]
    rw [decide_eq_true (show (i : Int) < (P.length : Int) by omega)]
    refine Evt.pos (by trivial) (Evt.pos (by omega) (Evt.pos (by omega) ?_))
    have hd : P.drop i = P[i] :: P.drop (i + 1) := List.drop_eq_getElem_cons (by omega)
    have hx := hp P[i] (List.getElem_mem _)
    rw [rd48, getD_el (by omega : i < P.length), hd, List.all_cons]
    generalize P[i] = y at hx
    rw [In_f]
    simp only [Option.bind_some]
    have hc := fun b => Check_l0 hP hp hQ hq d (i + 1) b (by omega)
    have key := fun ok hL => Check_l1 (L := y.f0) hx (show i < 9223372036854775807 by omega) _ hc y.f1.length 0 ok (by omega) hL
    refine Evt.ite (fun h => Evt.succ ?_) (fun h => Evt.succ ?_)
    · simp only [skewbaldref01_Check.j3]
      have h' := h
      simp only [Bool.and_eq_true, decide_eq_true_eq] at h'
      refine (key _ (fun _ => h')).of_eq ?_
      unfold woodB
      rw [h, show decide ((y.f1.length : Int) ≤ 3) = decide (y.f1.length ≤ 3) from by rw [decide_eq_decide]; omega]
      simp [Bool.and_assoc]
    · simp only [skewbaldref01_Check.j3]
      refine (key false (fun h => by cases h)).of_eq ?_
      unfold woodB
      rw [show (decide (1 ≤ y.f0) && decide (y.f0 ≤ 16)) = false by simpa using h]
      simp
theorem Check_f {P : List S48} {Q : List S50} (hP : P.length < 9223372036854775808) (hp : ∀ y ∈ P, y.f1.length < 9223372036854775808) (hQ : Q.length < 9223372036854775808) (hq : ∀ x ∈ Q, x.f1.length < 9223372036854775808) :
    Evt (fun k => skewbaldref01_Check.f k P Q) (checkP P Q) := by
  have e : checkP P Q = chk (validB P Q) := rfl
  rw [e]
  unfold skewbaldref01_Check.f validB
  have key := fun ok => Check_l0 hP hp hQ hq P.length 0 ok (by omega)
  have e1 : (decide ((1 : Int) ≤ (P.length : Int)) && decide ((P.length : Int) ≤ 3)) = (decide (1 ≤ P.length) && decide (P.length ≤ 3)) := by congr 1 <;> (rw [decide_eq_decide]; omega)
  have e2 : (decide ((1 : Int) ≤ (Q.length : Int)) && decide ((Q.length : Int) ≤ 5)) = (decide (1 ≤ Q.length) && decide (Q.length ≤ 5)) := by congr 1 <;> (rw [decide_eq_decide]; omega)
  rw [In_f, In_f, e1, e2]
  simp only [Option.bind_some]
  refine Evt.ite (fun h => Evt.succ ?_) (fun h => Evt.succ ?_)
  · simp only [skewbaldref01_Check.j0]
    refine (key _).of_eq ?_
    rw [h]
    simp
  · simp only [skewbaldref01_Check.j0]
    refine (key false).of_eq ?_
    rw [show (decide (1 ≤ P.length) && decide (P.length ≤ 3)) = false by simpa using h]
    simp
def jL (x : S50) (a : Nat) (t : Bool) : List Int := x.f1.map fun n => (a : Int) + (if t then x.f0 - 1 - n else n)
structure PartOk (x : S50) : Prop where
  one : 1 ≤ x.f0
  big : x.f0 ≤ 12
  few : x.f1.length ≤ 3
  joint : ∀ n ∈ x.f1, 0 ≤ n ∧ n < x.f0
theorem Ok.partOk {P : List S48} {Q : List S50} (h : Ok P Q) {p : Nat} (hp : p < Q.length) : PartOk (Q.getD p z50) := by
  obtain ⟨a, b, c, d⟩ := h.shape (Q.getD p z50) (by rw [show Q.getD p z50 = Q[p] from by simp [hp]]; exact List.getElem_mem hp)
  exact ⟨a, b, c, d⟩
structure PlankOk (y : S48) : Prop where
  one : 1 ≤ y.f0
  big : y.f0 ≤ 16
  few : y.f1.length ≤ 3
  knot : ∀ s ∈ y.f1, 0 ≤ s.f0 ∧ s.f0 ≤ s.f1 ∧ s.f1 < 16
theorem Ok.plankOk {P : List S48} {Q : List S50} (h : Ok P Q) {p : Nat} (hp : p < P.length) : PlankOk (P.getD p z48) := by
  obtain ⟨a, b, c⟩ := h.wood (P.getD p z48) (by rw [show P.getD p z48 = P[p] from by simp [hp]]; exact List.getElem_mem hp)
  exact ⟨a, b, c.few, c.knot⟩
theorem take_map_next {α β : Type} (f : α → β) (l : List α) (j : Nat) (h : j < l.length) : (l.map f).take j ++ [f l[j]] = (l.map f).take (j + 1) := by
  rw [List.take_add_one, List.getElem?_map, List.getElem?_eq_getElem h]; rfl
theorem joints_l0 {x : S50} (hx : PartOk x) {a : Nat} (ha : a ≤ 16) (t : Bool) : ∀ (d j : Nat), j + d = x.f1.length →
    Evt (fun k => skewbaldref01_joints.l0 k (a : Int) t ((jL x a t).take j) (j : Int) x.f0 x.f1 x.f2) (jL x a t)
  | 0, j, hj => by
    refine Evt.succ ?_
    simp only [skewbaldref01_joints.l0]
    refine Evt.neg (by omega) ?_
    rw [List.take_of_length_le (by unfold jL; rw [List.length_map]; omega)]
    exact Evt.pure _
  | d + 1, j, hj => by
    refine Evt.succ ?_
    simp only [skewbaldref01_joints.l0]
    have hlt : j < x.f1.length := by omega
    have ih := joints_l0 hx ha t d (j + 1) (by omega)
    have h3 := hx.few
    have h1 := hx.one
    have h12 := hx.big
    obtain ⟨n0, n1⟩ := hx.joint x.f1[j] (List.getElem_mem _)
    have hg : rd x.f1 (j : Int) = x.f1[j] := by simp [rd, hlt]
    have hl : ((jL x a t).take j).length < 17592186044416 := by unfold jL; rw [List.length_take, List.length_map]; omega
    rw [show (jL x a t).take (j + 1) = (jL x a t).take j ++ [(a : Int) + (if t then x.f0 - 1 - x.f1[j] else x.f1[j])] from (take_map_next _ _ _ hlt).symm] at ih
    refine Evt.pos (by omega) (Evt.pos (by omega) ?_)
    rw [hg, w64 j (by omega)]
    cases t with
    | true =>
      refine Evt.pos rfl (Evt.pos hl ?_)
      rw [show wrap64 ((a : Int) + wrap64 (wrap64 (x.f0 - 1) - x.f1[j])) = (a : Int) + (x.f0 - 1 - x.f1[j]) by unfold wrap64; omega]
      simpa using ih
    | false =>
      refine Evt.neg (by simp) (Evt.pos hl ?_)
      rw [show wrap64 ((a : Int) + x.f1[j]) = (a : Int) + x.f1[j] by unfold wrap64; omega]
      simpa using ih
theorem joints_f {x : S50} (hx : PartOk x) {a : Nat} (ha : a ≤ 16) (t : Bool) : Evt (fun k => skewbaldref01_joints.f k x.f0 x.f1 x.f2 (a : Int) t) (jL x a t) := by
  unfold skewbaldref01_joints.f
  exact joints_l0 hx ha t x.f1.length 0 (by omega)
theorem jL_len (x : S50) (a : Nat) (t : Bool) : (jL x a t).length = x.f1.length := by simp [jL]
def hitL (l : List Int) (n : Nat) : Bool := decide ((n : Int) ∈ l)
theorem sure_l1 {l : List Int} (hl : l.length < 9223372036854775807) {w0 : Int} {kn : List S60} {i : Nat} (hi : i < kn.length) (hk : kn.length < 9223372036854775807) {hi16 : Nat} (h16 : hi16 < 16) (he : (kn.getD i z60).f1 = hi16) (r : Bool) (hc : Evt (fun k => skewbaldref01_sure.l0 k l ((i + 1 : Nat) : Int) w0 kn) r) :
    ∀ (d m : Nat), m + d = hi16 + 1 → Evt (fun k => skewbaldref01_sure.l1 k l (i : Int) (m : Int) w0 kn) (((List.range' m d).all fun n => !hitL l n) && r)
  | 0, m, hm => by
    refine Evt.succ ?_
    simp only [skewbaldref01_sure.l1]
    rw [rd60, he, w64 i (by omega)]
    refine Evt.pos (by omega) (Evt.pos (by omega) (Evt.neg (by omega) ?_))
    simpa using hc
  | d + 1, m, hm => by
    refine Evt.succ ?_
    simp only [skewbaldref01_sure.l1]
    rw [rd60, he, w64 i (by omega), w64 m (by omega)]
    have ih := sure_l1 hl hi hk h16 he r hc d (m + 1) (by omega)
    refine Evt.pos (by omega) (Evt.pos (by omega) (Evt.pos (by omega) ?_))
    refine Evt.bind (Find_f l hl _) (Evt.ite (fun h => ?_) (fun h => ?_))
    · have := (findD_nonneg l (m : Int)).1 h
      rw [List.range'_succ, List.all_cons, show hitL l m = true from decide_eq_true this]
      simpa using Evt.pure false
    · have : ¬ (m : Int) ∈ l := fun h2 => h ((findD_nonneg l (m : Int)).2 h2)
      rw [List.range'_succ, List.all_cons, show hitL l m = false from decide_eq_false this]
      simpa using ih
def kfree (l : List Int) (s : S60) : Bool := (kin s.f0.toNat s.f1.toNat).all fun n => !hitL l n
def kmay (l : List Int) (s : S60) : Bool := (kin s.f0.toNat s.f1.toNat).any fun n => !hitL l n
theorem sure_l0 {l : List Int} (hl : l.length < 9223372036854775807) {y : S48} (hy : PlankOk y) : ∀ (d i : Nat), i + d = y.f1.length → Evt (fun k => skewbaldref01_sure.l0 k l (i : Int) y.f0 y.f1) ((y.f1.drop i).all (kfree l))
  | 0, i, hi => by
    refine Evt.succ ?_
    simp only [skewbaldref01_sure.l0]
    rw [List.drop_eq_nil_of_le (by omega)]
    exact Evt.neg (by omega) (Evt.pure _)
  | d + 1, i, hi => by
    refine Evt.succ ?_
    simp only [skewbaldref01_sure.l0]
    have h3 := hy.few
    have hlt : i < y.f1.length := by omega
    have hd : y.f1.drop i = y.f1[i] :: y.f1.drop (i + 1) := List.drop_eq_getElem_cons hlt
    obtain ⟨a, b, c⟩ := hy.knot y.f1[i] (List.getElem_mem _)
    refine Evt.pos (by omega) (Evt.pos (by omega) ?_)
    rw [rd60, getD_el hlt, hd, List.all_cons]
    have key := sure_l1 hl hlt (by omega) (hi16 := y.f1[i].f1.toNat) (by omega) (by rw [getD_el hlt]; omega) _ (sure_l0 hl hy d (i + 1) (by omega)) (y.f1[i].f1.toNat + 1 - y.f1[i].f0.toNat) y.f1[i].f0.toNat (by omega)
    rw [show ((y.f1[i].f0.toNat : Nat) : Int) = y.f1[i].f0 by omega] at key
    exact key
theorem sure_f {l : List Int} (hl : l.length < 9223372036854775807) {y : S48} (hy : PlankOk y) : Evt (fun k => skewbaldref01_sure.f k y.f0 y.f1 l) (y.f1.all (kfree l)) := by
  unfold skewbaldref01_sure.f
  exact sure_l0 hl hy y.f1.length 0 (by omega)
theorem may_l1 {l : List Int} (hl : l.length < 9223372036854775807) {w0 : Int} {kn : List S60} {i : Nat} (hi : i < kn.length) (hk : kn.length < 9223372036854775807) {hi16 : Nat} (h16 : hi16 < 16) (he : (kn.getD i z60).f1 = hi16) (r : Bool) (hc : Evt (fun k => skewbaldref01_may.l0 k l ((i + 1 : Nat) : Int) w0 kn) r) :
    ∀ (d m : Nat) (b : Bool), m + d = hi16 + 1 → Evt (fun k => skewbaldref01_may.l1 k l (i : Int) b (m : Int) w0 kn) ((b || (List.range' m d).any fun n => !hitL l n) && r)
  | 0, m, b, hm => by
    refine Evt.succ ?_
    simp only [skewbaldref01_may.l1]
    rw [rd60, he, w64 i (by omega)]
    refine Evt.pos (by omega) (Evt.pos (by omega) (Evt.neg (by omega) ?_))
    cases b with
    | true => exact Evt.pos rfl (by simpa using hc)
    | false => exact Evt.neg (by simp) (by simpa using Evt.pure false)
  | d + 1, m, b, hm => by
    refine Evt.succ ?_
    simp only [skewbaldref01_may.l1]
    rw [rd60, he, w64 i (by omega), w64 m (by omega)]
    have ih := fun b => may_l1 hl hi hk h16 he r hc d (m + 1) b (by omega)
    refine Evt.pos (by omega) (Evt.pos (by omega) (Evt.pos (by omega) ?_))
    rw [List.range'_succ, List.any_cons]
    cases b with
    | true => exact Evt.pos rfl (by simpa using ih true)
    | false =>
      refine Evt.neg (by simp) (Evt.bind (Find_f l hl _) ?_)
      have e : decide (findD l (m : Int) < 0) = !hitL l m := by
        unfold hitL
        rw [← decide_not, decide_eq_decide, ← findD_nonneg]; omega
      rw [e]
      simpa using ih (!hitL l m)
theorem may_l0 {l : List Int} (hl : l.length < 9223372036854775807) {y : S48} (hy : PlankOk y) : ∀ (d i : Nat), i + d = y.f1.length → Evt (fun k => skewbaldref01_may.l0 k l (i : Int) y.f0 y.f1) ((y.f1.drop i).all (kmay l))
  | 0, i, hi => by
    refine Evt.succ ?_
    simp only [skewbaldref01_may.l0]
    rw [List.drop_eq_nil_of_le (by omega)]
    exact Evt.neg (by omega) (Evt.pure _)
  | d + 1, i, hi => by
    refine Evt.succ ?_
    simp only [skewbaldref01_may.l0]
    have h3 := hy.few
    have hlt : i < y.f1.length := by omega
    have hd : y.f1.drop i = y.f1[i] :: y.f1.drop (i + 1) := List.drop_eq_getElem_cons hlt
    obtain ⟨a, b, c⟩ := hy.knot y.f1[i] (List.getElem_mem _)
    refine Evt.pos (by omega) (Evt.pos (by omega) ?_)
    rw [rd60, getD_el hlt, hd, List.all_cons]
    have key := may_l1 hl hlt (by omega) (hi16 := y.f1[i].f1.toNat) (by omega) (by rw [getD_el hlt]; omega) _ (may_l0 hl hy d (i + 1) (by omega)) (y.f1[i].f1.toNat + 1 - y.f1[i].f0.toNat) y.f1[i].f0.toNat false (by omega)
    rw [show ((y.f1[i].f0.toNat : Nat) : Int) = y.f1[i].f0 by omega, Bool.false_or] at key
    exact key
theorem may_f {l : List Int} (hl : l.length < 9223372036854775807) {y : S48} (hy : PlankOk y) : Evt (fun k => skewbaldref01_may.f k y.f0 y.f1 l) (y.f1.all (kmay l)) := by
  unfold skewbaldref01_may.f
  exact may_l0 hl hy y.f1.length 0 (by omega)
theorem hit_jset {x : S50} (hx : PartOk x) (a : Nat) (t : Bool) (i : Nat) : hitL (jL x a t) i = jset x a t i := by
  unfold hitL jL jset jsetK
  rw [Bool.eq_iff_iff, decide_eq_true_eq, List.mem_map, List.any_eq_true]
  constructor
  · rintro ⟨n, hn, e⟩
    refine ⟨n, hn, ?_⟩
    rw [decide_eq_true_eq]
    unfold jAt
    omega
  · rintro ⟨n, hn, e⟩
    rw [decide_eq_true_eq] at e
    obtain ⟨h0, h1⟩ := hx.joint n hn
    refine ⟨n, hn, ?_⟩
    unfold jAt at e
    cases t <;> simp at e ⊢ <;> omega
theorem mem_kin {lo hi n : Nat} : n ∈ kin lo hi ↔ lo ≤ n ∧ n ≤ hi := by
  unfold kin; rw [List.mem_range'_1]; omega
theorem sound_sure {y : S48} (hy : PlankOk y) {x : S50} (hx : PartOk x) (a : Nat) (t : Bool) : soundB y x a t kcanB = y.f1.all (kfree (jL x a t)) := by
  unfold soundB
  rw [Bool.eq_iff_iff, Bool.or_eq_true, List.all_eq_true, List.all_eq_true, List.all_eq_true]
  constructor
  · rintro (h | h) s hs
    · unfold kfree
      rw [List.all_eq_true]
      intro n hn
      rw [mem_kin] at hn
      have := hy.knot s hs
      have := h n (by rw [List.mem_range]; omega)
      rw [hit_jset hx, beq_iff_eq.1 this]; rfl
    · have := h s hs
      unfold kcanB at this
      rw [Bool.not_eq_true', List.any_eq_false] at this
      unfold kfree
      rw [List.all_eq_true]
      intro n hn
      rw [hit_jset hx, Bool.not_eq_true']
      simpa using this n hn
  · intro h
    right
    intro s hs
    have := h s hs
    unfold kfree at this
    rw [List.all_eq_true] at this
    unfold kcanB
    rw [Bool.not_eq_true', List.any_eq_false]
    intro n hn
    have := this n hn
    rw [hit_jset hx, Bool.not_eq_true'] at this
    simp [this]
theorem sound_may {y : S48} (hy : PlankOk y) {x : S50} (hx : PartOk x) (a : Nat) (t : Bool) : soundB y x a t kmustB = y.f1.all (kmay (jL x a t)) := by
  unfold soundB
  rw [Bool.eq_iff_iff, Bool.or_eq_true, List.all_eq_true, List.all_eq_true, List.all_eq_true]
  constructor
  · rintro (h | h) s hs
    · unfold kmay
      rw [List.any_eq_true]
      have := hy.knot s hs
      refine ⟨s.f0.toNat, mem_kin.2 ⟨Nat.le_refl _, by omega⟩, ?_⟩
      have := h s.f0.toNat (by rw [List.mem_range]; omega)
      rw [hit_jset hx, beq_iff_eq.1 this]; rfl
    · have := h s hs
      unfold kmustB at this
      rw [Bool.not_eq_true', List.all_eq_false] at this
      obtain ⟨n, hn, h2⟩ := this
      unfold kmay
      rw [List.any_eq_true]
      exact ⟨n, hn, by rw [hit_jset hx]; simpa using h2⟩
  · intro h
    right
    intro s hs
    have := h s hs
    unfold kmay at this
    rw [List.any_eq_true] at this
    obtain ⟨n, hn, h2⟩ := this
    unfold kmustB
    rw [Bool.not_eq_true', List.all_eq_false]
    exact ⟨n, hn, by rw [hit_jset hx] at h2; simpa using h2⟩
theorem can_j0 {y : S48} (hy : PlankOk y) {x : S50} (hx : PartOk x) (a : Nat) (b : Bool) :
    Evt (fun k => skewbaldref01_can.j0 k (jL x a false) (jL x a true) b y.f0 y.f1 x.f0 x.f1 x.f2) (if b then 2 else if okB y x a 1 then 1 else 0) := by
  have h3 := hx.few
  refine Evt.succ ?_
  simp only [skewbaldref01_can.j0]
  cases b with
  | true => exact Evt.pos rfl (Evt.pure _)
  | false =>
    refine Evt.neg (by simp) (Evt.bind (may_f (by rw [jL_len]; omega) hy) ?_)
    rw [← sound_may hy hx]
    have e : okB y x a 1 = (soundB y x a false kmustB || (x.f2 && soundB y x a true kmustB)) := rfl
    rw [e]
    cases h1 : soundB y x a false kmustB with
    | true => exact Evt.pos rfl (Evt.pure _)
    | false =>
      refine Evt.neg (by simp) ?_
      cases h2 : x.f2 with
      | false => exact Evt.neg (by simp) (Evt.pure _)
      | true =>
        refine Evt.pos rfl (Evt.bind (may_f (by rw [jL_len]; omega) hy) ?_)
        rw [← sound_may hy hx]
        cases h4 : soundB y x a true kmustB with
        | true => exact Evt.pos rfl (Evt.pure _)
        | false => exact Evt.neg (by simp) (Evt.pure _)
theorem can_f {P : List S48} {Q : List S50} (hok : Ok P Q) {i p a : Nat} (hi : i < P.length) (hp : p < Q.length) (ha : a ≤ 16) :
    Evt (fun k => skewbaldref01_can.f k P Q (i : Int) (p : Int) (a : Int)) ((canN (P.getD i z48) (Q.getD p z50) a : Nat) : Int) := by
  have hy := Ok.plankOk hok hi
  have hx := Ok.partOk hok hp
  unfold skewbaldref01_can.f
  rw [rd48, rd50]
  generalize P.getD i z48 = y at hy ⊢
  generalize Q.getD p z50 = x at hx ⊢
  have h3 := hx.few
  refine Evt.pos (by omega) (Evt.pos (by omega) (Evt.pos (by omega) (Evt.pos (by omega) ?_)))
  refine Evt.bind (joints_f hx ha false) (Evt.bind (joints_f hx ha true) (Evt.bind (sure_f (by rw [jL_len]; omega) hy) ?_))
  rw [← sound_sure hy hx]
  have e : okB y x a 0 = (soundB y x a false kcanB || (x.f2 && soundB y x a true kcanB)) := rfl
  have hc : ((canN y x a : Nat) : Int) = if okB y x a 0 then 2 else if okB y x a 1 then 1 else 0 := by
    unfold canN; split <;> (try split) <;> rfl
  rw [hc, e]
  cases h1 : soundB y x a false kcanB with
  | true => exact Evt.pos rfl (by simpa using can_j0 hy hx a true)
  | false =>
    refine Evt.neg (by simp) ?_
    cases h2 : x.f2 with
    | false => rw [← h2]; exact Evt.neg (by rw [h2]; simp) (by simpa [h2] using can_j0 hy hx a false)
    | true =>
      refine Evt.pos rfl (Evt.bind (sure_f (by rw [jL_len]; omega) hy) ?_)
      rw [← sound_sure hy hx, ← h2]
      simpa [h2] using can_j0 hy hx a (soundB y x a true kcanB)
end Go.Proofs.YtekjlpldooihhaaDoor.PR
namespace Go.Proofs.YtekjlpldooihhaaDoor.PR
open Go.RowKit Go.Proofs.YtekjlpldooihhaaDoorW.PrintWords Go.Proofs.YtekjlpldooihhaaDoorEv Go.Proofs.YtekjlpldooihhaaDoorP Go.Proofs.YtekjlpldooihhaaDoor.PT Go.Proofs.YtekjlpldooihhaaDoorH Go.Proofs.YtekjlpldooihhaaDoorK
open Go.Proofs.YtekjlpldooihhaaDoor.PA (S48 S50 S60 k48 k50 k60 z48 z50 z60 rd_T48 rd_T50 rd_T60)
set_option linter.unusedVariables false
set_option linter.unusedSimpArgs false
structure Short (P : List S48) (Q : List S50) : Prop where
  p : P.length < 9223372036854775808
  q : Q.length < 9223372036854775808
  kn : ∀ y ∈ P, y.f1.length < 9223372036854775808
  jo : ∀ x ∈ Q, x.f1.length < 9223372036854775808
theorem Short.check {P : List S48} {Q : List S50} (h : Short P Q) : Evt (fun k => skewbaldref01_Check.f k P Q) (checkP P Q) := Check_f h.p h.kn h.q h.jo
theorem isPlank_f {P : List S48} {Q : List S50} (h : Short P Q) (i : Int) : skewbaldref01_isPlank.f P Q i = some (inB i P.length) := by
  have := h.p
  unfold skewbaldref01_isPlank.f
  rw [In_f, show wrap64 ((P.length : Int) - 1) = (P.length : Int) - 1 by unfold wrap64; omega]
  rfl
theorem lies_f {P : List S48} {Q : List S50} (hok : Ok P Q) {i p : Nat} (hi : i < P.length) (hp : p < Q.length) (a : Int) : skewbaldref01_lies.f P Q (i : Int) (p : Int) a = some (liesB (P.getD i z48) (Q.getD p z50) a) := by
  have hy := Ok.plankOk hok hi
  have hx := Ok.partOk hok hp
  have := hy.one; have := hy.big; have := hx.one; have := hx.big
  unfold skewbaldref01_lies.f
  rw [if_pos (by omega), if_pos (by omega), if_pos (by omega), if_pos (by omega), In_f, rd48, rd50, show wrap64 ((P.getD i z48).f0 - (Q.getD p z50).f0) = (P.getD i z48).f0 - (Q.getD p z50).f0 by unfold wrap64; omega]
  rfl
theorem asked_f {P : List S48} {Q : List S50} (h : Short P Q) (b : Bool) : Evt (fun k => skewbaldref01_asked.f k P Q b) (if validB P Q then (if b then 0 else 11) else 10) := by
  unfold skewbaldref01_asked.f
  refine Evt.bind h.check ?_
  unfold checkP
  cases validB P Q with
  | false => exact Evt.neg (by simp) (Evt.pure _)
  | true =>
    refine Evt.pos rfl ?_
    cases b with
    | true => exact Evt.pos rfl (Evt.pure _)
    | false => exact Evt.neg (by simp) (Evt.pure _)
theorem range_filter_next (f : Nat → Bool) (j : Nat) : (List.range (j + 1)).filter f = (List.range j).filter f ++ (if f j then [j] else []) := by
  cases h : f j with
  | true => rw [filter_next_yes h]; simp
  | false => rw [filter_next_no h]; simp
theorem spots_l0 {P : List S48} {Q : List S50} (hok : Ok P Q) {i p : Nat} (hi : i < P.length) (hp : p < Q.length) {m : Nat} (hm : ∀ a : Nat, liesB (P.getD i z48) (Q.getD p z50) (a : Int) = true ↔ a < m) (hm17 : m ≤ 16) : ∀ (d j : Nat), j + d = m →
    Evt (fun k => skewbaldref01_spots.l0 k (i : Int) (p : Int) (ints ((List.range j).filter (spotB (P.getD i z48) (Q.getD p z50)))) (j : Int) P Q) (ints ((List.range m).filter (spotB (P.getD i z48) (Q.getD p z50))))
  | 0, j, hj => by
    obtain rfl : j = m := by omega
    refine Evt.succ ?_
    simp only [skewbaldref01_spots.l0]
    rw [lies_f hok hi hp]
    have : liesB (P.getD i z48) (Q.getD p z50) (j : Int) = false := by rw [Bool.eq_false_iff]; intro h; have := (hm j).1 h; omega
    simp only [Option.bind_some]
    exact Evt.neg (by rw [this]; simp) (Evt.pure _)
  | d + 1, j, hj => by
    refine Evt.succ ?_
    simp only [skewbaldref01_spots.l0]
    have hl := (hm j).2 (by omega)
    have ih := spots_l0 hok hi hp hm hm17 d (j + 1) (by omega)
    rw [range_filter_next, ints_append] at ih
    rw [lies_f hok hi hp]
    simp only [Option.bind_some]
    refine Evt.pos hl (Evt.bind (can_f hok hi hp (by omega)) ?_)
    rw [w64 j (by omega)]
    have hs : spotB (P.getD i z48) (Q.getD p z50) j = (canN (P.getD i z48) (Q.getD p z50) j == 2) := by unfold spotB; rw [hl]; rfl
    have hlen : (ints ((List.range j).filter (spotB (P.getD i z48) (Q.getD p z50)))).length < 17592186044416 := by
      rw [ints_length]
      have := List.length_filter_le (spotB (P.getD i z48) (Q.getD p z50)) (List.range j)
      rw [List.length_range] at this
      omega
    refine Evt.ite (fun h => Evt.pos hlen ?_) (fun h => ?_)
    · have : spotB (P.getD i z48) (Q.getD p z50) j = true := by rw [hs, beq_iff_eq]; omega
      rw [this] at ih
      exact ih
    · have : spotB (P.getD i z48) (Q.getD p z50) j = false := by rw [hs, beq_eq_false_iff_ne]; omega
      rw [this] at ih
      simpa [ints] using ih
theorem spots_f {P : List S48} {Q : List S50} (hok : Ok P Q) {i p : Nat} (hi : i < P.length) (hp : p < Q.length) :
    Evt (fun k => skewbaldref01_spots.f k P Q (i : Int) (p : Int)) (ints (spotsL (P.getD i z48) (Q.getD p z50))) := by
  have hy := Ok.plankOk hok hi
  have hx := Ok.partOk hok hp
  have h1 := hy.one; have h16 := hy.big; have h2 := hx.one
  unfold skewbaldref01_spots.f
  have hm : ∀ a : Nat, liesB (P.getD i z48) (Q.getD p z50) (a : Int) = true ↔ a < ((P.getD i z48).f0 - (Q.getD p z50).f0 + 1).toNat := fun a => by
    unfold liesB; simp only [Bool.and_eq_true, decide_eq_true_eq]; omega
  refine (spots_l0 hok hi hp hm (by omega) _ 0 (Nat.zero_add _)).of_eq ?_
  unfold spotsL
  congr 1
  obtain ⟨e, he⟩ : ∃ e, (P.getD i z48).f0.toNat = ((P.getD i z48).f0 - (Q.getD p z50).f0 + 1).toNat + e := ⟨(P.getD i z48).f0.toNat - ((P.getD i z48).f0 - (Q.getD p z50).f0 + 1).toNat, by omega⟩
  rw [he]
  generalize ((P.getD i z48).f0 - (Q.getD p z50).f0 + 1).toNat = m at hm
  clear he
  induction e with
  | zero => rfl
  | succ e ih =>
    rw [show m + (e + 1) = (m + e) + 1 by omega, range_filter_next, ← ih]
    have : spotB (P.getD i z48) (Q.getD p z50) (m + e) = false := by
      unfold spotB
      have : liesB (P.getD i z48) (Q.getD p z50) ((m + e : Nat) : Int) = false := by rw [Bool.eq_false_iff]; intro h; have := (hm (m + e)).1 h; omega
      rw [this]; rfl
    rw [this]; simp
theorem sawn_f : Evt (fun _ => skewbaldlaw01_sawn.f) true := Evt.pure true
theorem short_of {W : World} {A B : Option Addr} {P : List S48} {Q : List S50} (hP : Kd.C k48 W A P.length P) (hQ : Kd.C k50 W B Q.length Q) : Short P Q := by
  have hp := hP.2.1; have hq := hQ.2.1
  refine ⟨by omega, by omega, fun y hy => ?_, fun x hx => ?_⟩
  · obtain ⟨i, hi, rfl⟩ := List.getElem_of_mem hy
    obtain ⟨_, A, c, _, _, _, _, h⟩ := at_wood hP i hi
    have := h.2.1
    rw [getD_el hi] at this
    omega
  · obtain ⟨i, hi, rfl⟩ := List.getElem_of_mem hx
    obtain ⟨_, A, c, _, _, _, _, _, h⟩ := at_shape hQ i hi
    have := h.2.1
    rw [getD_el hi] at this
    omega
end Go.Proofs.YtekjlpldooihhaaDoor.PR
namespace Go.Proofs.YtekjlpldooihhaaDoor.PR
open Go.RowKit Go.Proofs.YtekjlpldooihhaaDoorW.PrintWords Go.Proofs.YtekjlpldooihhaaDoorW.PrintMore Go.Proofs.YtekjlpldooihhaaDoorEv Go.Proofs.YtekjlpldooihhaaDoorP Go.Proofs.YtekjlpldooihhaaDoor.PT Go.Proofs.YtekjlpldooihhaaDoorH Go.Proofs.YtekjlpldooihhaaDoorK
open Go.Proofs.YtekjlpldooihhaaDoor.PA (S48 S50 S60 k48 k50 k60 z48 z50 z60 rd_T48 rd_T50 rd_T60)
set_option linter.unusedVariables false
set_option linter.unusedSimpArgs false
theorem shl_pow : ∀ n, n ≤ 6 → shl .i64 1 ((n : Nat) : Int) = ((2 ^ n : Nat) : Int) := by
  intro n hn
  obtain rfl | rfl | rfl | rfl | rfl | rfl | rfl : n = 0 ∨ n = 1 ∨ n = 2 ∨ n = 3 ∨ n = 4 ∨ n = 5 ∨ n = 6 := by omega
  all_goals rfl
theorem mn_eq (a b : Int) : mn a b = min a b := by unfold mn; split <;> omega
theorem rd_set_self {l : List Int} {s : Nat} (h : s < l.length) (v : Int) : rd (l.set s v) (s : Int) = v := by rw [rd_at]; simp [h]
theorem getD_set_ne {l : List Int} {s t : Nat} (h : s ≠ t) (v : Int) : (l.set s v).getD t 0 = l.getD t 0 := by simp [List.getElem?_set_ne h]
def Least (S : Int → Prop) (v : Int) : Prop := v ≤ 99 ∧ (v = 99 ∨ S v) ∧ ∀ x, S x → v ≤ x
theorem Least.step {S : Int → Prop} {v : Int} (h : Least S v) (x : Int) : Least (fun y => S y ∨ y = x) (mn v x) := by
  obtain ⟨h1, h2, h3⟩ := h
  unfold mn
  split
  · exact ⟨by omega, .inr (.inr rfl), fun y hy => by rcases hy with hy | rfl; (· have := h3 y hy; omega); (· exact Int.le_refl _)⟩
  · exact ⟨h1, h2.imp_right .inl, fun y hy => by rcases hy with hy | rfl; (· exact h3 y hy); (· omega)⟩
theorem Least.congr {S S' : Int → Prop} {v : Int} (h : Least S v) (e : ∀ x, S x ↔ S' x) : Least S' v := ⟨h.1, h.2.1.imp_right (e v).1, fun x hx => h.2.2 x ((e x).2 hx)⟩
def spotF (E L : Int) (v a : Int) : Int := if a ≥ E then mn v (a + L) else v
theorem least_spots {E L : Int} : ∀ (sp : List Int) {S : Int → Prop} {v : Int}, Least S v → Least (fun x => S x ∨ ∃ a ∈ sp, a ≥ E ∧ x = a + L) (sp.foldl (spotF E L) v)
  | [], S, v, h => h.congr (fun x => by simp)
  | a :: sp, S, v, h => by
    rw [List.foldl_cons]
    unfold spotF
    split
    · rename_i ha
      refine (least_spots sp (h.step (a + L))).congr (fun x => ?_)
      constructor
      · rintro ((h | rfl) | ⟨b, hb, h1, rfl⟩)
        · exact .inl h
        · exact .inr ⟨a, by simp, ha, rfl⟩
        · exact .inr ⟨b, by simp [hb], h1, rfl⟩
      · rintro (h | ⟨b, hb, h1, rfl⟩)
        · exact .inl (.inl h)
        · rcases List.mem_cons.1 hb with rfl | hb
          · exact .inl (.inr rfl)
          · exact .inr ⟨b, hb, h1, rfl⟩
    · rename_i ha
      refine (least_spots sp h).congr (fun x => ?_)
      constructor
      · rintro (h | ⟨b, hb, h1, rfl⟩)
        · exact .inl h
        · exact .inr ⟨b, by simp [hb], h1, rfl⟩
      · rintro (h | ⟨b, hb, h1, rfl⟩)
        · exact .inl h
        · rcases List.mem_cons.1 hb with rfl | hb
          · exact absurd h1 ha
          · exact .inr ⟨b, hb, h1, rfl⟩
def partF (y : S48) (Q : List S50) (base : List Int) (s : Nat) (v : Int) (p : Nat) : Int :=
  if bitB s p then (ints (spotsL y (Q.getD p z50))).foldl (spotF (base.getD (s - 2 ^ p) 0) (Q.getD p z50).f0) v else v
theorem least_parts {y : S48} {Q : List S50} {base : List Int} {s : Nat} : ∀ (ps : List Nat) {S : Int → Prop} {v : Int}, Least S v →
    Least (fun x => S x ∨ ∃ p ∈ ps, bitB s p = true ∧ ∃ a ∈ spotsL y (Q.getD p z50), base.getD (s - 2 ^ p) 0 ≤ (a : Int) ∧ x = (a : Int) + (Q.getD p z50).f0) (ps.foldl (partF y Q base s) v)
  | [], S, v, h => h.congr (fun x => by simp)
  | p :: ps, S, v, h => by
    rw [List.foldl_cons]
    unfold partF
    split
    · rename_i hb
      refine (least_parts ps (least_spots _ h)).congr (fun x => ?_)
      constructor
      · rintro ((h | ⟨a, ha, h1, rfl⟩) | ⟨q, hq, h1, h2⟩)
        · exact .inl h
        · obtain ⟨b, hb', rfl⟩ := List.mem_map.1 ha
          exact .inr ⟨p, by simp, hb, b, hb', h1, rfl⟩
        · exact .inr ⟨q, by simp [hq], h1, h2⟩
      · rintro (h | ⟨q, hq, h1, h2⟩)
        · exact .inl (.inl h)
        · rcases List.mem_cons.1 hq with rfl | hq
          · obtain ⟨a, ha, h3, h4⟩ := h2
            exact .inl (.inr ⟨(a : Int), List.mem_map.2 ⟨a, ha, rfl⟩, h3, h4⟩)
          · exact .inr ⟨q, hq, h1, h2⟩
    · rename_i hb
      refine (least_parts ps h).congr (fun x => ?_)
      constructor
      · rintro (h | ⟨q, hq, h1, h2⟩)
        · exact .inl h
        · exact .inr ⟨q, by simp [hq], h1, h2⟩
      · rintro (h | ⟨q, hq, h1, h2⟩)
        · exact .inl h
        · rcases List.mem_cons.1 hq with rfl | hq
          · exact absurd h1 hb
          · exact .inr ⟨q, hq, h1, h2⟩
theorem spots_small {y : S48} (hy : PlankOk y) (x : S50) : ∀ a ∈ spotsL y x, a < 16 := fun a ha => by
  unfold spotsL at ha
  rw [List.mem_filter, List.mem_range] at ha
  have := hy.big
  omega
theorem spots_len {y : S48} (hy : PlankOk y) (x : S50) : (spotsL y x).length ≤ 16 := by
  have h2 := List.length_filter_le (spotB y x) (List.range y.f0.toNat)
  rw [List.length_range] at h2
  have := hy.big
  unfold spotsL
  omega
theorem ends_l2 {P : List S48} {Q : List S50} {i p s : Nat} {base : List Int} (hs : s < base.length) (hp : p < Q.length) (hx : PartOk (Q.getD p z50)) {E : Int} {sp : List Nat} (h16 : ∀ a ∈ sp, a < 16) (hl : sp.length ≤ 16) (hp5 : p < 64) (r : List Int) :
    ∀ (d j : Nat) (v : Int), j + d = sp.length → Evt (fun k => skewbaldref01_ends.l1 k (i : Int) (base.set s (((ints sp).drop j).foldl (spotF E (Q.getD p z50).f0) v)) (s : Int) ((p + 1 : Nat) : Int) P Q) r →
      Evt (fun k => skewbaldref01_ends.l2 k (i : Int) (base.set s v) (s : Int) (p : Int) E (ints sp) (j : Int) P Q) r
  | 0, j, v, hj, hc => by
    refine Evt.succ ?_
    simp only [skewbaldref01_ends.l2]
    rw [List.drop_eq_nil_of_le (by rw [ints_length]; omega)] at hc
    rw [w64 p (by omega)]
    exact Evt.neg (by rw [ints_length]; omega) hc
  | d + 1, j, v, hj, hc => by
    refine Evt.succ ?_
    simp only [skewbaldref01_ends.l2]
    have hlt : j < sp.length := by omega
    have ha := h16 sp[j] (List.getElem_mem _)
    have hg : rd (ints sp) (j : Int) = ((sp[j] : Nat) : Int) := by rw [rd_at]; simp [ints, hlt]
    have hd : (ints sp).drop j = ((sp[j] : Nat) : Int) :: (ints sp).drop (j + 1) := by
      rw [List.drop_eq_getElem_cons (by rw [ints_length]; exact hlt)]
      congr 1
      simp [ints]
    have h1 := hx.one; have h12 := hx.big
    rw [hd, List.foldl_cons] at hc
    rw [hg, w64 j (by omega), rd50, rd_set_self hs, show wrap64 (((sp[j] : Nat) : Int) + (Q.getD p z50).f0) = ((sp[j] : Nat) : Int) + (Q.getD p z50).f0 by unfold wrap64; omega]
    have hls : (base.set s v).length = base.length := by simp
    refine Evt.pos (by rw [ints_length]; omega) (Evt.pos (by omega) (Evt.ite (fun h => ?_) (fun h => ?_)))
    · rw [show spotF E (Q.getD p z50).f0 v ((sp[j] : Nat) : Int) = mn v (((sp[j] : Nat) : Int) + (Q.getD p z50).f0) from if_pos h] at hc
      refine Evt.pos (by omega) (Evt.pos (by rw [hls]; omega) (Evt.pos (by omega) (Evt.pos (by omega) ?_)))
      rw [Int.toNat_natCast, List.set_set]
      exact ends_l2 hs hp hx h16 hl hp5 r d (j + 1) _ (by omega) hc
    · rw [show spotF E (Q.getD p z50).f0 v ((sp[j] : Nat) : Int) = v from if_neg h] at hc
      exact ends_l2 hs hp hx h16 hl hp5 r d (j + 1) _ (by omega) hc
theorem ends_l1 {P : List S48} {Q : List S50} (hok : Ok P Q) {i s : Nat} (hi : i < P.length) {base : List Int} (hb : base.length = 2 ^ Q.length) (hs : s < base.length) (r : List Int) :
    ∀ (d p : Nat) (v : Int), p + d = Q.length → Evt (fun k => skewbaldref01_ends.l0 k (i : Int) (base.set s ((List.range' p d).foldl (partF (P.getD i z48) Q base s) v)) ((s + 1 : Nat) : Int) P Q) r →
      Evt (fun k => skewbaldref01_ends.l1 k (i : Int) (base.set s v) (s : Int) (p : Int) P Q) r
  | 0, p, v, hp, hc => by
    have h5 := hok.q5
    have h32 := lt32 h5 (by rw [← hb]; exact hs : s < 2 ^ Q.length)
    refine Evt.succ ?_
    simp only [skewbaldref01_ends.l1]
    rw [w64 s (by omega)]
    exact Evt.neg (by omega) hc
  | d + 1, p, v, hp, hc => by
    have h5 := hok.q5
    have h32 := lt32 h5 (by rw [← hb]; exact hs : s < 2 ^ Q.length)
    have hlt : p < Q.length := by omega
    refine Evt.succ ?_
    simp only [skewbaldref01_ends.l1]
    rw [Of_f s p (by omega) (by omega)]
    simp only [Option.bind_some]
    rw [List.range'_succ, List.foldl_cons] at hc
    have hls : (base.set s v).length = base.length := by simp
    refine Evt.pos (by omega) (Evt.ite (fun h => ?_) (fun h => ?_))
    · obtain ⟨h1, h2, h3⟩ := bits_one s h32 p (by omega) h
      rw [shl_pow p (by omega)]
      generalize hz : 2 ^ p = z at h1 h2 h3 ⊢
      have hz0 : 0 < z := by rw [← hz]; exact Nat.pos_of_ne_zero (by simp)
      rw [show wrap64 ((s : Int) - (z : Int)) = ((s - z : Nat) : Int) by unfold wrap64; omega]
      refine Evt.pos (by omega) (Evt.pos (by omega) (Evt.pos (by rw [hls]; omega) (Evt.bind (spots_f hok hi hlt) ?_)))
      rw [rd_at, getD_set_ne (by omega : s ≠ s - z)]
      rw [show partF (P.getD i z48) Q base s v p = (ints (spotsL (P.getD i z48) (Q.getD p z50))).foldl (spotF (base.getD (s - z) 0) (Q.getD p z50).f0) v from by unfold partF; rw [if_pos h, hz]] at hc
      refine ends_l2 hs hlt (Ok.partOk hok hlt) (spots_small (Ok.plankOk hok hi) _) (spots_len (Ok.plankOk hok hi) _) (by omega) r _ 0 v (Nat.zero_add _) ?_
      exact ends_l1 hok hi hb hs r d (p + 1) _ (by omega) (by simpa using hc)
    · rw [show partF (P.getD i z48) Q base s v p = v from by unfold partF; rw [if_neg h]] at hc
      rw [w64 p (by omega)]
      exact ends_l1 hok hi hb hs r d (p + 1) _ (by omega) hc
def EndsTo (y : S48) (Q : List S50) (l : List Int) (s : Nat) : Prop := l.length = 2 ^ Q.length ∧ ∀ t, t < s → EndAt y Q t (l.getD t 0)
theorem ends_l0 {P : List S48} {Q : List S50} (hok : Ok P Q) {i : Nat} (hi : i < P.length) : ∀ (d s : Nat) (l : List Int), s + d = 2 ^ Q.length → 1 ≤ s → EndsTo (P.getD i z48) Q l s →
    ∃ r, EndsTo (P.getD i z48) Q r (2 ^ Q.length) ∧ Evt (fun k => skewbaldref01_ends.l0 k (i : Int) l (s : Int) P Q) r
  | 0, s, l, hs, h1, hl => by
    obtain rfl : s = 2 ^ Q.length := by omega
    refine ⟨l, hl, Evt.succ ?_⟩
    simp only [skewbaldref01_ends.l0]
    exact Evt.neg (by rw [hl.1]; omega) (Evt.pure _)
  | d + 1, s, l, hs, h1, hl => by
    have hlt : s < 2 ^ Q.length := by omega
    have h32 := lt32 hok.q5 hlt
    have hsl : s < l.length := by rw [hl.1]; exact hlt
    obtain ⟨V, hV⟩ : ∃ V, (List.range' 0 Q.length).foldl (partF (P.getD i z48) Q l s) 99 = V := ⟨_, rfl⟩
    have hL := least_parts (y := P.getD i z48) (Q := Q) (base := l) (s := s) (List.range' 0 Q.length) (S := fun _ => False) (v := 99) ⟨Int.le_refl _, .inl rfl, fun _ h => h.elim⟩
    rw [hV] at hL
    have hmem : ∀ p, p ∈ setL s → p < Q.length := fun p hp => setL_lt hlt hp
    have hE : EndAt (P.getD i z48) Q s V := by
      refine EndAt.step h32 (by omega) (Ok.plankOk hok hi).big (fun p hp => (Ok.partOk hok (hmem p hp)).one) (E := fun p => l.getD (s - 2 ^ p) 0) (fun p hp => hl.2 _ ?_) hL.1 ?_ (fun p hp a ha hle => hL.2.2 _ (.inr ⟨p, by rw [List.mem_range'_1]; have := hmem p hp; omega, (mem_setL.1 hp).2, a, ha, hle, rfl⟩))
      · have := (bits_one s h32 p (mem_setL.1 hp).1 (mem_setL.1 hp).2).1
        have : 0 < 2 ^ p := Nat.pos_of_ne_zero (by simp)
        omega
      · rcases hL.2.1 with h | h
        · exact .inl h
        · rcases h with h | ⟨p, hp, hb, a, ha, hle, e⟩
          · exact h.elim
          · rw [List.mem_range'_1] at hp
            have := hok.q5
            exact .inr ⟨p, mem_setL.2 ⟨by omega, hb⟩, a, ha, hle, e⟩
    obtain ⟨r, hr, hev⟩ := ends_l0 hok hi d (s + 1) (l.set s V) (by omega) (by omega) ⟨by rw [List.length_set]; exact hl.1, fun t ht => by
      by_cases e : t = s
      · subst e; rw [show (l.set t V).getD t 0 = V from by simp [hsl]]; exact hE
      · rw [getD_set_ne (fun h => e h.symm)]; exact hl.2 t (by omega)⟩
    refine ⟨r, hr, Evt.succ ?_⟩
    simp only [skewbaldref01_ends.l0]
    refine Evt.pos (by omega) (Evt.pos (by omega) ?_)
    rw [Int.toNat_natCast]
    refine ends_l1 hok hi hl.1 hsl r Q.length 0 99 (by omega) ?_
    rw [hV]
    exact hev
theorem ends_f {P : List S48} {Q : List S50} (hok : Ok P Q) {i : Nat} (hi : i < P.length) : ∃ r, EndsTo (P.getD i z48) Q r (2 ^ Q.length) ∧ Evt (fun k => skewbaldref01_ends.f k P Q (i : Int)) r := by
  have h5 := hok.q5
  have hpos : 0 < 2 ^ Q.length := Nat.pos_of_ne_zero (by simp)
  have h32 : 2 ^ Q.length ≤ 32 := Nat.pow_le_pow_right (by omega : 0 < 2) h5
  obtain ⟨r, hr, hev⟩ := ends_l0 hok hi (2 ^ Q.length - 1) 1 (List.replicate (2 ^ Q.length) 0) (by omega) (Nat.le_refl _) ⟨by simp, fun t ht => by
    obtain rfl : t = 0 := by omega
    rw [show (List.replicate (2 ^ Q.length) (0 : Int)).getD 0 0 = 0 from by rw [List.getD_eq_getElem?_getD, List.getElem?_replicate]; split <;> rfl]
    exact EndAt.zero _ _⟩
  refine ⟨r, hr, ?_⟩
  unfold skewbaldref01_ends.f
  rw [shl_pow Q.length (by omega), Int.toNat_natCast]
  exact Evt.pos (by omega) (Evt.pos (by omega) hev)
def TabOk (P : List S48) (Q : List S50) (t : List (List Int)) : Prop := t.length = P.length ∧ ∀ i, i < P.length → EndsTo (P.getD i z48) Q (t.getD i []) (2 ^ Q.length)
theorem tables_l0 {P : List S48} {Q : List S50} (hok : Ok P Q) : ∀ (d i : Nat) (t : List (List Int)), i + d = P.length → t.length = i → (∀ j, j < i → EndsTo (P.getD j z48) Q (t.getD j []) (2 ^ Q.length)) →
    ∃ r, TabOk P Q r ∧ Evt (fun k => skewbaldref01_tables.l0 k t (i : Int) P Q) r
  | 0, i, t, hi, hl, ht => by
    refine ⟨t, ⟨by omega, fun j hj => ht j (by omega)⟩, Evt.succ ?_⟩
    simp only [skewbaldref01_tables.l0]
    exact Evt.neg (by omega) (Evt.pure _)
  | d + 1, i, t, hi, hl, ht => by
    have h3 := hok.p3
    obtain ⟨e, he, hev⟩ := ends_f hok (show i < P.length by omega)
    obtain ⟨r, hr, hev2⟩ := tables_l0 hok d (i + 1) (t ++ [e]) (by omega) (by simp [hl]) (fun j hj => by
      by_cases h : j = i
      · subst h; rw [show (t ++ [e]).getD j [] = e from by simp [← hl]]; exact he
      · rw [show (t ++ [e]).getD j [] = t.getD j [] from by simp [List.getElem?_append_left (show j < t.length by omega)]]; exact ht j (by omega))
    refine ⟨r, hr, Evt.succ ?_⟩
    simp only [skewbaldref01_tables.l0]
    refine Evt.pos (by omega) (Evt.bind hev (Evt.pos (by omega) ?_))
    rw [w64 i (by omega)]
    exact hev2
theorem tables_f {P : List S48} {Q : List S50} (hok : Ok P Q) : ∃ r, TabOk P Q r ∧ Evt (fun k => skewbaldref01_tables.f k P Q) r := by
  unfold skewbaldref01_tables.f
  exact tables_l0 hok P.length 0 [] (by omega) rfl (fun j hj => by omega)
end Go.Proofs.YtekjlpldooihhaaDoor.PR
